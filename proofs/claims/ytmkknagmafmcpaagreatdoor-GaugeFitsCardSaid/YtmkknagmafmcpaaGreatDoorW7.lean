/- Part 7 of the library of this proof. -/
import Derived.Test.YtmkknagmafmcpaaGreatDoorW6
import Derived.Laws.IdiomRangeMap
import Derived.Sort.OwnSortedInts
import Derived.Shelf.Sort.Plain
import Derived.Shelf.Slices.In.SortNone
import Derived.DeepKeys5
set_option linter.all false
set_option maxHeartbeats 8000000
set_option maxRecDepth 100000
open Go.Proofs.Tryz
namespace Go.Vc
variable {P:Program} {n:Nat} {st:St} {Q:St->Prop} {k:List It}
def T.pure{P:Program}{i:aG}{x:St}{K:St->Prop}{v:V}(hw:bl x.s i.g=some true)(hk:bp i.op=0)(hp:eT x.s i.op)(hv:aH x.U x.s i.op=some v)(h:K ⟨aW x.s i.dst v,x.U⟩):T P i x K:=by
 unfold T;simp only[hw];unfold TO;simp only[hk];exact⟨hp,v,hv,h⟩
def T.store{P:Program}{d:Option Nat}{sz:Nat}{xa xv:VX}{x:St}{K:St->Prop}{Z':ag}(hv:bH x.U sz (xa.ev x.s) (xv.ev x.s)=some Z')(h:K ⟨aW x.s d (.PI []),Z'⟩):
 T P ⟨d,.store sz xa xv,none⟩ x K:=⟨Z',hv,h⟩
def CR(l:List aG)(d:Nat):Bool:=l.all λi=>i.dst != some d
def oQ(l:List aG)(v:Nat->V)(s:Nat->V)(k:Nat):Prop:=match(l[k]?).bind (·.dst)with
 |some d=>s d=v k
 |none=>True
def uW(l:List aG)(i:Nat):Bool:=match l[i]? with
 |some ins=>bp ins.op != 0
 |none=>false
def nst(l:List aG)(i:Nat):Nat:=((List.range i).filter (uW l)).length
def Mk(l:List aG)(deps:List (List Nat))(x0:St)(v:Nat->V)(σs:Nat->ag)(i:Nat)(ins:aG):Prop:=
 ∀s':Nat->V,(∀k∈deps.getD i [],oQ l v s' k)->(∀d,CR l d=true->s' d=x0.s d)->match ins with
  |⟨_,.store sz xa xv,none⟩=>bH (σs (nst l i)) sz (xa.ev s') (xv.ev s')=some (σs (nst l i+1))/\v i=.PI []
  |ins=>bp ins.op=0/\bl s' ins.g=some true/\eT s' ins.op/\∀p,aH (σs p) s' ins.op=some (v i)
def IX(l:List aG)(deps:List (List Nat))(x0:St)(v:Nat->V)(σs:Nat->ag):Nat->List aG->Prop
 |_,[]=>True
 |i,ins::r=>Mk l deps x0 v σs i ins/\IX l deps x0 v σs (i+1) r
def Lk(l:List aG)(deps:List (List Nat)):Bool:=
 ((List.range l.length).all λj=>(List.range j).all λi=>!(uW l i&&uW l j)||(deps.getD j []).contains i)&&
 ((List.range l.length).all λj=>(List.range j).all λi=>((l[i]?).bind (·.dst)).isNone||(l[i]?).bind (·.dst) != (l[j]?).bind (·.dst))&&l.length==deps.length&&
 (List.range deps.length).all λi=>(deps.getD i []).all λj=>decide (j<i)
def zr{l:List aG}{deps:List (List Nat)}{x0:St}{v:Nat->V}{σs:Nat->ag}:∀{r:List aG} {i j:Nat} {ins:aG},IX l deps x0 v σs i r->r[j]?=some ins->Mk l deps x0 v σs (i+j) ins
 |[],_,_,_,_,h=>by simp at h
 |a::r,i,0,ins,hd,h=>by simp at h;subst h;exact hd.1
 |a::r,i,j+1,ins,hd,h=>by
  simp only[Du]at h;have:=zr hd.2 h
  rwa [show i+1+j=i+(j+1) by omega]at this
structure Agr(l:List aG)(x0:St)(v:Nat->V)(σs:Nat->ag)(listed:List Nat)(x:St):Prop where
 slot:∀k∈listed,oQ l v x.s k
 free:∀d,CR l d=true->x.s d=x0.s d
 store:x.U=σs (listed.filter (uW l)).length
def lx{deps:List (List Nat)}{listed:List Nat}{i:Nat}(h:i∈cB deps listed):i<deps.length/\i∉listed/\∀k∈deps.getD i [],k∈listed:=by
 unfold cB at h;obtain⟨h1,h2⟩:=nI.1 h;simp only[Ba,Bool.not_eq_true',eQ]at h2;exact⟨by simpa using h1,by simpa using h2.1,λk hk=>by simpa using h2.2 k hk⟩
def CF{l:List aG}{rec:List Nat->St->Prop}{listed:List Nat}{x:St}:∀{is:List Nat},(∀i∈is,∃ins,l[i]?=some ins/\T P ins x (rec (i::listed)))->EF P l rec listed x is
 |[],_=>trivial
 |j::is,h=>by
  obtain⟨ins,h1,h2⟩:=h j (by simp);refine⟨by rw[h1];exact h2,CF λi hi=>h i (by simp[hi])⟩
def og:∀(n:Nat) (L:List Nat),L.Nodup->(∀k∈L,k<n)->L.length<=n/\(L.length=n->∀k,k<n->k∈L)
 |0,L,_,h=>by
  cases L with
  |nil=>simp
  |cons a L=>have:=h a (by simp);omega
 |n+1,L,hd,h=>by
  by_cases hn:n∈L
  .have h1:=og n (L.erase n) (hd.erase n) λk hk=>by
    have h2:=h k (List.mem_of_mem_erase hk);have h3:k≠n:=λe=>by subst e;exact(List.Nodup.not_mem_erase hd) hk
    omega
   have h4:=List.length_erase_of_mem hn;have h5:0<L.length:=List.length_pos_of_mem hn;refine⟨by omega,λhe k hk=>?_⟩;by_cases hkn:k=n
   .rw[hkn];exact hn
   .exact List.mem_of_mem_erase (h1.2 (by omega) k (by omega))
  .have h1:=og n L hd λk hk=>by
    have h2:=h k hk;have h3:k≠n:=λe=>hn (e▸hk);omega
   exact⟨by omega,λhe=>by omega⟩
def td{A B:List Nat}(ha:A.Nodup)(hb:B.Nodup)(h:∀x,x∈A↔x∈B):A.length=B.length:=((List.perm_ext_iff_of_nodup ha hb).2 h).length_eq
def mq(n:Nat):(List.range n).Nodup:=List.nodup_range
def Hb{l:List aG}{deps:List (List Nat)}{x0:St}{v:Nat->V}{σs:Nat->ag}(hB:Lk l deps=true)(hd:IX l deps x0 v σs 0 l){Q:St->Prop}
 (hQ:∀x,(∀k,oQ l v x.s k)->(∀d,CR l d=true->x.s d=x0.s d)->x.U=σs (nst l l.length)->Q x):
 ∀(f:Nat) (listed:List Nat) (x:St),f+listed.length=l.length->listed.Nodup->(∀k∈listed,k<l.length/\∀j∈deps.getD k [],j∈listed)->Agr l x0 v σs listed x->
  xL P l deps Q f listed x:=by
 simp only[Lk,Ba,beq_iff_eq,eQ,List.mem_range,SX,ki,Bool.not_eq_true']at hB;obtain⟨⟨⟨hS,hD⟩,hlen⟩,C'⟩:=hB;have fin:∀(listed:List Nat) (x:St),listed.length=l.length->listed.Nodup->(∀k∈listed,k<l.length)->Agr l x0 v σs listed x->Q x:=by
  intro listed x hl hn hk ha;have Qa:=(og l.length listed hn hk).2 hl;refine hQ x (λk=>?_) ha.free ?_
  .by_cases RG:k<l.length
   .exact ha.slot k (Qa k RG)
   .unfold oQ;rw[nF (by omega)];trivial
  .rw[ha.store];congr 1;refine td (hn.filter _) ((mq _).filter _) λa=>?_;simp only[nI,List.mem_range];exact⟨λ⟨h1,h2⟩=>⟨hk a h1,h2⟩,λ⟨h1,h2⟩=>⟨Qa a h1,h2⟩⟩
 intro f
 induction f with
 |zero=>
  intro listed x hl hn hk ha;have Qa:=(og l.length listed hn λk h=>(hk k h).1).2 (by omega);refine⟨?_,fin listed x (by omega) hn (λk h=>(hk k h).1) ha⟩;cases hr:cB deps listed with
  |nil=>rfl
  |cons i is=>
   have:=lx (deps:=deps) (listed:=listed) (i:=i) (by rw[hr];simp);exact absurd (Qa i (by omega)) this.2.1
 |succ f ih=>
  intro listed x hl hn hk ha;have step:∀i∈cB deps listed,∃ins,l[i]?=some ins/\T P ins x (xL P l deps Q f (i::listed)):=by
   intro i hi;obtain⟨h1,h2,h3⟩:=lx hi;have RR:i<l.length:=by omega
   refine⟨l[i],SQ RR,?_⟩;have XR:l[i]?=some l[i]:=SQ RR;have VE:=zr hd XR;rw[gY]at VE;have VC:=VE x.s (λk QU=>ha.slot k (h3 k QU)) ha.free;have next:∀(w:V) (Z':ag),w=v i->Z'=σs ((i::listed).filter (uW l)).length->Agr l x0 v σs (i::listed) ⟨aW x.s (l[i]).dst w,Z'⟩:=by
    rintro w Z' rfl rfl;refine⟨λk QU=>?_,λd hdd=>?_,rfl⟩
    .by_cases hki:k=i
     .subst hki;unfold oQ;rw[XR];simp only[Option.bind_some];cases VY:(l[k]).dst with
      |none=>trivial
      |some d=>simp[aW]
     .have RG:k∈listed:=by simpa[hki]using QU
      have hs:=ha.slot k RG;unfold oQ at hs|-;cases hdk:(l[k]?).bind (·.dst)with
      |none=>trivial
      |some d=>
       rw[hdk]at hs;simp only at hs|-;have PZ:(l[i]).dst≠some d:=λe=>by
        have hkl':=(hk k RG).1;rcases Nat.lt_or_gt_of_ne hki with g|g
        .have:=hD i RR k g;rw[hdk,XR]at this;simp[e]at this
        .have:=hD k hkl' i g;rw[hdk,XR]at this;simp[e]at this
       rw[<-hs];cases VY:(l[i]).dst with
       |none=>rfl
       |some d'=>simp only[aW];rw[aF (λe=>PZ (by rw[VY,e]))]
    .have PZ:(l[i]).dst≠some d:=λe=>by
      have:=eQ.1 hdd l[i] (QF RR);rw[e]at this;simp at this
     rw[<-ha.free d hdd];cases VY:(l[i]).dst with
     |none=>rfl
     |some d'=>simp only[aW];rw[aF (λe=>PZ (by rw[VY,e]))]
   have again:∀x',Agr l x0 v σs (i::listed) x'->xL P l deps Q f (i::listed) x':=λx' ha'=>
    ih (i::listed) x' (by simp;omega) (List.nodup_cons.2 ⟨h2,hn⟩) (λk QU=>by
     rcases cD.1 QU with rfl|QU
     .exact⟨RR,λj hj=>List.mem_cons_of_mem _ (h3 j hj)⟩
     .exact⟨(hk k QU).1,λj hj=>List.mem_cons_of_mem _ ((hk k QU).2 j hj)⟩) ha'
   generalize hI:l[i]=ins at*;obtain⟨dst,op,g⟩:=ins;split at VC
   .rename_i _ d' sz xa xv heq;simp only[aG.mk.injEq]at heq;obtain⟨rfl,rfl,rfl⟩:=heq;have P8:uW l i=true:=by unfold uW;rw[XR];rfl
    have hcnt:(listed.filter (uW l)).length=nst l i:=by
     unfold nst;refine td (hn.filter _) ((mq _).filter _) λa=>?_;simp only[nI,List.mem_range];refine⟨λ⟨g1,g2⟩=>⟨?_,g2⟩,λ⟨g1,g2⟩=>⟨?_,g2⟩⟩
     .have R8:=(hk a g1).1;rcases Nat.lt_trichotomy a i with g|g|g
      .exact g
      .subst g;exact absurd g1 h2
      .exfalso;have:=hS a R8 i g;rw[P8,g2]at this;simp at this;exact h2 ((hk a g1).2 i (by simpa using this))
     .have:=hS i RR a g1;rw[P8,g2]at this;simp at this;exact h3 a (by simpa using this)
    have hx:x.U=σs (nst l i):=by rw[ha.store,hcnt]
    refine T.store (x:=x) (Z':=σs (nst l i+1)) (by rw[hx];exact VC.1) (again _ (next _ _ VC.2.symm ?_));rw[List.filter_cons_of_pos P8,Rc,hcnt]
   .obtain⟨q1,q2,q3,q4⟩:=VC;have P8:uW l i=false:=by unfold uW;rw[XR];simp only;simp only at q1;rw[q1];rfl
    refine T.pure q2 q1 q3 (by rw[ha.store];exact q4 _) (again _ (next _ _ rfl ?_));rw[List.filter_cons_of_neg (by rw[P8];simp),ha.store]
  unfold xL;cases hr:cB deps listed with
  |nil=>
   exfalso;have hex:∃m,m<l.length/\m∉listed:=by
    refine Classical.byContradiction λQf=>?_;have Qa:∀m,m<l.length->m∈listed:=λm hm=>Classical.byContradiction λh=>Qf ⟨m,hm,h⟩;have:=td hn (mq l.length) λa=>⟨λh=>List.mem_range.2 (hk a h).1,λh=>Qa a (List.mem_range.1 h)⟩
    simp at this;omega
   obtain⟨m,hm,hmin⟩:∃m,(m<l.length/\m∉listed)/\∀j,j<m->¬(j<l.length/\j∉listed):=by
    obtain⟨m,hm⟩:=hex
    induction m using Nat.strongRecOn with
    |_ m ihm=>
     by_cases h:∃j,j<m/\(j<l.length/\j∉listed)
     .obtain⟨j,g1,g2⟩:=h;exact ihm j g1 g2
     .exact⟨m,hm,λj hj hc=>h ⟨j,hj,hc⟩⟩
   have UB:m∈cB deps listed:=by
    unfold cB;refine nI.2 ⟨List.mem_range.2 (by omega),?_⟩;simp only[Ba,Bool.not_eq_true',eQ];refine⟨by simpa using hm.2,λj hj=>?_⟩;have hjm:=C' m (by omega) j hj;have:=hmin j hjm;have:j∈listed:=Classical.byContradiction λh=>this ⟨by omega,h⟩;simpa using this
   rw[hr]at UB;cases UB
  |cons i is=>
   have Qa:=CF step;rw[hr]at Qa;exact Qa
def ad.M4(hm:P.follows .mixedOrders=true){l:List aG}{deps:List (List Nat)}(v:Nat->V)(σs:Nat->ag)(hB:Lk l deps=true)(h0:st.U=σs 0)(hd:IX l deps st v σs 0 l)
 (hQ:∀s',(∀k,oQ l v s' k)->(∀d,CR l d=true->s' d=st.s d)->ad P n k ⟨s',σs (nst l l.length)⟩ Q):ad P n (.code (.kI l deps)::k) st Q:=by
 refine ad.kI hm (Hb hB hd (Q:=λx=>ad P n k x Q) (λx h1 h2 h3=>?_) l.length [] st (by simp) List.nodup_nil (by simp) ⟨by simp,λ_ _=>rfl,by simpa using h0⟩);obtain⟨s',Z'⟩:=x;simp only at h1 h2 h3;rw[h3];exact hQ s' h1 h2
open Go.RowKit
variable {P:Program} {n:Nat} {st:St} {Q:St->Prop} {k:List It} {I:Mu} {w:World}
def Gj(c:IntKind)(m:Int):Value->Bool
 |.int c' m'=>decide (c'=c/\m'=m)
 |_=>false
def jq{c:IntKind}{m m':Int}:Gj c m (.int c m')=decide (m'=m):=by simp[Gj]
def fA(c:IntKind)(m:Int):List MapEntry->List V->Option V
 |e::es,v::vs=>if Gj c m e.key then some v else fA c m es vs
 |_,_=>none
structure lv(c:IntKind)(es:List MapEntry)(env:List V)(f:Int->Option V):Prop where
 len:es.length=env.length
 keys:∀e∈es,∃m,e.key=.int c m
 get:∀m,fA c m es env=f m
 apart:es.Pairwise λa b=>a.key≠b.key
def ku(es:List MapEntry)(clock:Nat):Prop:=(∀e∈es,e.born<clock)/\(es.map (·.born)).Nodup
def ku.nil(c:Nat):ku [] c:=⟨by simp,by simp⟩
def ku.push{es:List MapEntry}{clock:Nat}(h:ku es clock){e:MapEntry}(he:e.born=clock):ku (es++[e]) (clock+1):=by
 refine⟨λx hx=>?_,?_⟩
 .rcases dM.1 hx with hx|hx
  .have:=h.1 x hx;omega
  .rw[iM.1 hx];omega
 .rw[eo,List.nodup_append];refine⟨h.2,by simp,λa ha b hb=>?_⟩;obtain⟨x,hx,rfl⟩:=eI.1 ha;simp only[dO,List.map_nil,iM]at hb;have:=h.1 x hx;omega
def ku.set{es:List MapEntry}{clock:Nat}(h:ku es clock){j:Nat}{e e':MapEntry}(hj:es[j]?=some e)(he:e'.born=e.born):ku (es.set j e') clock:=by
 refine⟨λx hx=>?_,?_⟩
 .rcases List.mem_or_eq_of_mem_set hx with hx|rfl
  .exact h.1 x hx
  .rw[he];exact h.1 e (oe hj)
 .have:(es.set j e').map (·.born)=es.map (·.born):=by
   rw[List.map_set,he];refine List.ext_getElem? λi=>?_;rw[List.getElem?_set];split
   .rename_i e1;subst e1;rw[l3,hj];simp[(mL.1 hj).1]
   .rfl
  rw[this];exact h.2
def iL(c:IntKind)(U:ag)(id:Nat)(f:Int->Option V):Prop:=
 ∃(es:Array MapEntry) (clock:Nat) (env:List V),U id=some (gh (.map es clock) env)/\lv c es.toList env f/\ku es.toList clock
def iL.sub{c:IntKind}{U Z':ag}{id:Nat}{f:Int->Option V}(h:iL c U id f)(hs:aa U Z'):iL c Z' id f:=by
 obtain⟨es,clock,env,h1,h2⟩:=h;exact⟨es,clock,env,hs _ _ h1,h2⟩
def l6(c:IntKind)(kk:IntKind)(m:Int):∀(es:List MapEntry) (env:List V) (i:Nat),es.length=env.length->(∀e∈es,∃m,e.key=.int c m)->
 (fA c m es env=none/\Instr.findNow (.int kk) (.int c m) es i=some none/\∀e∈es,e.key≠.int c m)\/
 (∃j e v,es[j]?=some e/\env[j]?=some v/\e.key=.int c m/\fA c m es env=some v/\Instr.findNow (.int kk) (.int c m) es i=some (some (i+j,e.val)))
 |[],env,i,_,_=>.inl ⟨by simp[fA],by simp[Instr.findNow],by simp⟩
 |e::es,[],i,hl,_=>by simp at hl
 |e::es,v::vs,i,hl,hk=>by
  obtain⟨m',Xg⟩:=hk e (by simp);by_cases hm:m'=m
  .subst hm;refine .inr ⟨0,e,v,rfl,rfl,Xg,by simp[fA,Xg,jq],?_⟩;simp[Instr.findNow,Instr.sameNow,Xg]
  .have hmm:¬m=m':=λe=>hm e.symm;have hg:fA c m (e::es) (v::vs)=fA c m es vs:=by simp[fA,Xg,jq,hm]
   have hf:Instr.findNow (.int kk) (.int c m) (e::es) i=Instr.findNow (.int kk) (.int c m) es (i+1):=by
    have hb:(m==m')=false:=by simpa using hmm
    simp[Instr.findNow,Instr.sameNow,Xg,hb]
   rcases l6 c kk m es vs (i+1) (by simpa using hl) (λx hx=>hk x (by simp[hx]))with⟨h1,h2,h3⟩|⟨j,e',v',h1,h2,h3,h4,h5⟩
   .refine .inl ⟨by rw[hg,h1],by rw[hf,h2],λx hx=>?_⟩;rcases cD.1 hx with rfl|hx
    .rw[Xg];intro e;cases e;exact hm rfl
    .exact h3 x hx
   .refine .inr ⟨j+1,e',v',by simpa using h1,by simpa using h2,h3,by rw[hg,h4],?_⟩;rw[hf,h5,show i+1+j=i+(j+1) by omega]
def uH{c:IntKind}{m:Int}{v:V}{e':MapEntry}(XT:e'.key=.int c m)(m':Int):∀(es:List MapEntry) (env:List V) (j:Nat) (e:MapEntry),es.length=env.length->(∀e∈es,∃m,e.key=.int c m)->
 es.Pairwise (λa b=>a.key≠b.key)->es[j]?=some e->e.key=.int c m->fA c m' (es.set j e') (env.set j v)=if m'=m then some v else fA c m' es env
 |[],_,j,e,_,_,_,h,_=>by simp at h
 |x::es,[],j,e,hl,_,_,_,_=>by simp at hl
 |x::es,u::us,0,e,hl,hk,hp,h,he=>by
  simp at h;subst h;simp only[List.set_cons_zero,fA,XT,he,jq];by_cases hm:m'=m
  .subst hm;simp
  .have:¬m=m':=λe=>hm e.symm;simp[hm,this]
 |x::es,u::us,j+1,e,hl,hk,hp,h,he=>by
  obtain⟨mx,hmx⟩:=hk x (by simp);have hpx:=(List.pairwise_cons.1 hp)
  have PZ:mx≠m:=by
   rintro rfl;exact hpx.1 e (oe (by simpa using h)) (by rw[hmx,he])
  have ih:=uH XT m' (v:=v) es us j e (by simpa using hl) (λy hy=>hk y (by simp[hy])) hpx.2 (by simpa using h) he;simp only[List.set_cons_succ,fA,hmx,jq];by_cases hm:mx=m'
  .have:¬m'=m:=λe=>PZ (hm.trans e);simp[hm,this]
  .simp only[hm,decide_false,gj,if_false];exact ih
def rj{c:IntKind}{m:Int}{v:V}{e':MapEntry}(XT:e'.key=.int c m)(m':Int):∀(es:List MapEntry) (env:List V),es.length=env.length->(∀e∈es,∃m,e.key=.int c m)->
 (∀e∈es,e.key≠.int c m)->fA c m' (es++[e']) (env++[v])=if m'=m then some v else fA c m' es env
 |[],[],_,_,_=>by
  simp only[jU,fA,XT,jq];by_cases hm:m'=m
  .subst hm;simp
  .have:¬m=m':=λe=>hm e.symm;simp[hm,this]
 |[],_::_,hl,_,_=>by simp at hl
 |x::es,[],hl,_,_=>by simp at hl
 |x::es,u::us,hl,hk,hn=>by
  obtain⟨mx,hmx⟩:=hk x (by simp);have PZ:mx≠m:=by
   rintro rfl;exact hn x (by simp) hmx
  have ih:=rj XT m' (v:=v) es us (by simpa using hl) (λy hy=>hk y (by simp[hy])) (λy hy=>hn y (by simp[hy]));simp only[List.cons_append,fA,hmx,jq];by_cases hm:mx=m'
  .have:¬m'=m:=λe=>PZ (hm.trans e);simp[hm,this]
  .simp only[hm,decide_false,gj,if_false];exact ih
def lv.set{c:IntKind}{es:List MapEntry}{env:List V}{f:Int->Option V}(h:lv c es env f){m:Int}{v:V}{j:Nat}{e e':MapEntry}(hj:es[j]?=some e)(he:e.key=.int c m)(XT:e'.key=.int c m):
 lv c (es.set j e') (env.set j v) λm'=>if m'=m then some v else f m' where
 len:=by simp[h.len]
 keys:=λx hx=>by
  rcases List.mem_or_eq_of_mem_set hx with hx|rfl
  .exact h.keys x hx
  .exact⟨m,XT⟩
 get:=λm'=>by rw[uH XT m' es env j e h.len h.keys h.apart hj he,h.get m']
 apart:=by
  have Te:(es.set j e').map (·.key)=es.map (·.key):=by
   rw[List.map_set,XT,<-he];apply List.ext_getElem?;intro i;rw[List.getElem?_set];split
   .rename_i e1;subst e1;split
    .simp[hj]
    .rename_i UJ;rw[nF (by omega)]
   .rfl
  have h1:(es.map (·.key)).Pairwise (·≠·):=List.pairwise_map.2 h.apart;rw[<-Te]at h1;exact List.pairwise_map.1 h1
def lv.push{c:IntKind}{es:List MapEntry}{env:List V}{f:Int->Option V}(h:lv c es env f){m:Int}{v:V}{e':MapEntry}(hn:∀e∈es,e.key≠.int c m)(XT:e'.key=.int c m):
 lv c (es++[e']) (env++[v]) λm'=>if m'=m then some v else f m' where
 len:=by simp[h.len]
 keys:=λx hx=>by
  rcases dM.1 hx with hx|hx
  .exact h.keys x hx
  .simp at hx;subst hx;exact⟨m,XT⟩
 get:=λm'=>by rw[rj XT m' es env h.len h.keys hn,h.get m']
 apart:=by
  rw[List.pairwise_append];refine⟨h.apart,by simp,λa ha b hb=>?_⟩;simp at hb;subst hb;rw[XT];exact hn a ha
open Go.RowKit
variable {P:Program} {n:Nat} {st:St} {Q:St->Prop} {k:List It} {I:Mu} {w:World}
def pU{t e:TypeId}(h:vj P t=some e):∃kt kk,P.underlying t=some (.map kt e)/\P.underlying kt=some (.int kk):=by
 unfold vj at h;split at h
 .rename_i kt et ht;split at h
  .rename_i kk hk;simp only[bb]at h;subst h;exact⟨kt,kk,ht,hk⟩
  .cases h
 .cases h
def vL{o:Op}{xs:List VX}(h:PO P n o=.more .mkMap xs):∃t,o=.makeMap t none/\xs=[]:=by
 cases o
 case makeMap t r=>
  simp only[PO]at h;split at h
  .rename_i hc;simp only[Ba,Option.isNone_iff_eq_none]at hc;obtain⟨rfl,_⟩:=hc;simp only[Qc.more.injEq,true_and]at h;exact⟨t,rfl,h.symm⟩
  .cases h
 case call c=>
  obtain⟨callee,args,argTypes⟩:=c;cases callee
  case value=>simp[PO]at h
  case invoke r name=>simp[PO]at h
  case builtin b=>cases b<;>(simp only[PO,bE]at h;(repeat' split at h)<;>cases h)
 case unOp op t x=>cases op<;>simp only[PO,bE]at h<;>cases h
 case makeFunc f a b=>cases f<;>simp only[PO,bE]at h<;>(repeat' split at h)<;>cases h
 all_goals (simp only[PO,bE]at h;(repeat' split at h)<;>cases h)
def F3{o:Op}{xs:List VX}(h:PO P n o=.more .C7 xs):∃t m y x,(o=.insert t m y x\/o=.mapUpdate t m y x)/\(vj P t).isSome=true/\xs=[cx n m,cx n y,cx n x]:=by
 cases o
 case insert t m y x=>
  simp only[PO]at h;split at h
  .rename_i hc;simp only[Qc.more.injEq,true_and]at h;exact⟨t,m,y,x,.inl rfl,hc,h.symm⟩
  .split at h<;>cases h
 case mapUpdate t m y x=>
  simp only[PO]at h;split at h
  .rename_i hc;simp only[Qc.more.injEq,true_and]at h;exact⟨t,m,y,x,.inr rfl,hc,h.symm⟩
  .split at h<;>cases h
 case call c=>
  obtain⟨callee,args,argTypes⟩:=c;cases callee
  case value=>simp[PO]at h
  case invoke r name=>simp[PO]at h
  case builtin b=>cases b<;>(simp only[PO,bE]at h;(repeat' split at h)<;>cases h)
 case unOp op t x=>cases op<;>simp only[PO,bE]at h<;>cases h
 case makeFunc f a b=>cases f<;>simp only[PO,bE]at h<;>(repeat' split at h)<;>cases h
 all_goals (simp only[PO,bE]at h;(repeat' split at h)<;>cases h)
def D3{o:Op}{xs:List VX}{ok:Bool}{zv:V}(h:PO P n o=.more (.tF ok zv) xs):∃t x y e i z,o=.lookup t x y ok/\vj P t=some e/\zeroOf P e=some (i,z)/\zv=ofValue z/\xs=[cx n x,cx n y]:=by
 cases o
 case lookup t x y ok'=>
  simp only[PO]at h;split at h
  .rename_i e he;split at h
   .rename_i i z hz;simp only[Qc.more.injEq,MOp.tF.injEq]at h;obtain⟨⟨rfl,rfl⟩,rfl⟩:=h;exact⟨t,x,y,e,i,z,rfl,he,hz,rfl,rfl⟩
   .cases h
  ·(repeat' split at h)<;>cases h
 case call c=>
  obtain⟨callee,args,argTypes⟩:=c;cases callee
  case value=>simp[PO]at h
  case invoke r name=>simp[PO]at h
  case builtin b=>cases b<;>(simp only[PO,bE]at h;(repeat' split at h)<;>cases h)
 case unOp op t x=>cases op<;>simp only[PO,bE]at h<;>cases h
 case makeFunc f a b=>cases f<;>simp only[PO,bE]at h<;>(repeat' split at h)<;>cases h
 all_goals (simp only[PO,bE]at h;(repeat' split at h)<;>cases h)
def kO{b:Nat}{es:Array MapEntry}{c:Nat}(h:w.heap[b]?=some (.map es c)):(getObj b).run P w=.ok (.map es c) w:=by simp[getObj,Sem.run,h]
def A7{b:Nat}{es:Array MapEntry}{c:Nat}(o':Obj)(h:w.heap[b]?=some (.map es c)):(setObj b o').run P w=.ok () (w.putObj b o'):=by simp[setObj,Sem.run,h,World.putObj]
def lE{em:Bool}{t:TypeId}{kk c:IntKind}{m:Int}(h:P.underlying t=some (.int kk)):(Instr.checkKey em 10000 t (.int c m)).run P w=.ok () w:=by
 show(Instr.checkKey em (9999+1) t (.int c m)).run P w=.ok () w;rw[Instr.checkKey];simp[run_underlying h]
def nC{t:TypeId}{kk c:IntKind}{m:Int}(h:P.underlying t=some (.int kk)){es:List MapEntry}{r:Option (Nat×Value)}(hf:Instr.findNow (.int kk) (.int c m) es 0=some r):
 (Instr.findKey t (.int c m) es).run P w=.ok r w:=by
 simp[Instr.findKey,run_underlying h,hf]
def yc{c:IntKind}{m:Int}:(Instr.keyThatStays (.int c m) (.int c m)).run P w=.ok (.int c m) w:=by
 have:Instr.sameBits 10000 (.int c m) (.int c m)=true:=by
  show Instr.sameBits (9999+1) (.int c m) (.int c m)=true;simp[Instr.sameBits]
 simp[Instr.keyThatStays,this]
def aq.set{ow:Nat->Prop}:∀{vs:List V} {l:List Value} {v:V} {x:Value} (j:Nat),aq I ow w vs l->A' I ow w v x->aq I ow w (vs.set j v) (l.set j x)
 |[],l,v,x,j,h,hv=>by simp only[aq]at h;subst h;simp[aq]
 |u::us,l,v,x,0,h,hv=>by
  simp only[aq]at h;obtain⟨y,ys,rfl,h1,h2⟩:=h;simp only[List.set_cons_zero,aq];exact⟨x,ys,rfl,hv,h2⟩
 |u::us,l,v,x,j+1,h,hv=>by
  simp only[aq]at h;obtain⟨y,ys,rfl,h1,h2⟩:=h;simp only[List.set_cons_succ,aq];exact⟨y,_,rfl,h1,aq.set j h2 hv⟩
def ad.mkMap{i:aG}{l:List aG}{xs:List VX}(hw:bl st.s i.g=some true)(ho:i.op=.more .mkMap xs)
 (h:∀id,st.U id=none->ad P n (.ops l::k) ⟨aW st.s i.dst (.mp id),u' st.U id (gh (.map #[] 0) [])⟩ Q):ad P n (.ops (i::l)::k) st Q:=by
 refine ad.ins (by rw[ho];simp) hw λF hn I a w o all hi hs next Q' M'=>?_
 subst hn;obtain⟨PL,hd⟩:=cC hi;rw[ho]at PL;obtain⟨t,h1,_⟩:=vL PL;obtain⟨id,hid,Y',g1,g2,g3,g4⟩:=hs.sat.HO (.map #[] 0) [] (by simp[aq,tmpsOf]);have PY:(execOp a.eval o).run P w=.ok (.value (.map (some w.heap.size))) (w.alloc (.map #[] 0)):=by
  unfold execOp;rw[h1];simp[Instr.makeMap]
  all_goals rfl
 unfold Oper.wp;rw[PY];refine M' _ _ _ ⟨Y',?_⟩ (h id hid);rw[<-hd];exact hs.step g3 g2 g4 (by simp) (by simp[A',g1])
def FJ{i:aG}{xm xk:VX}{ok:Bool}{zv:V}(ho:i.op=.more (.tF ok zv) [xm,xk]){id:Nat}{c:IntKind}{f:Int->Option V}{m:Int}
 (hm:xm.ev st.s=.mp id)(Te:iL c st.U id f)(hk:xk.ev st.s=.int c m){K:St->Prop}
 (h:K ⟨aW st.s i.dst (if ok then .PI [(f m).getD zv,.bool (f m).isSome]else(f m).getD zv),st.U⟩):
 ∀(F:Fr),F.n=n->∀(I:Mu) (a:Act) (w:World) (o:Oper) (all:Array Oper),cq P n all o=i->cI F I st a w->
  ∀(next:Act->World->Prop) (Q':Exit->Act->World->Prop),(∀SB a' w',eH F SB a' w'->K SB->next a' w')->o.wp P a w next Q':=by
 intro F hn I a w o all hi hs next Q' M'
 subst hn;obtain⟨PL,hd⟩:=cC hi;rw[ho]at PL;obtain⟨t,x,y,e,ti,z,g1,g2,g3,rfl,g4⟩:=D3 PL;simp only[List.cons.injEq,and_true]at g4;obtain⟨rfl,rfl⟩:=g4;obtain⟨kt,kk,u1,u2⟩:=pU g2;obtain⟨es,clock,env,P3,Q4,_⟩:=Te;have hr:=bK hs x;have WW:=bK hs y;rw[hm]at hr;rw[hk]at WW;simp only[A']at hr WW;split at hr
 .rename_i b cap hid;obtain⟨QK,RV⟩:=hs.sat.tO P3 hid;simp only[tmpsOf]at RV;rcases l6 c kk m es.toList env 0 Q4.len Q4.keys with⟨q1,q2,q3⟩|⟨j,en,v,q1,q2,q3,q4,q5⟩
  .rw[Q4.get m]at q1;rw[q1]at h;have PY:(Instr.lookup t (a.eval x) (a.eval y) ok).run P w=.ok (if ok then .tuple #[z,.bool false]else z) w:=by
    simp[Instr.lookup,run_underlying u1,hr,WW,kO QK,lE u2,nC u2 q2,dn g3]
   have hx:(execOp a.eval o).run P w=.ok (.value (if ok then .tuple #[z,.bool false]else z)) w:=by
    unfold execOp;rw[g1];simp[PY]
   unfold Oper.wp;rw[hx];refine M' _ _ _ ⟨I,?_⟩ h;rw[<-hd];have hz:A' I (aB I st.U) w (ofValue z) z:=j9 z;refine hs.pure ?_;cases ok
   .simpa using hz
   .simp only[if_true,Option.getD_none,Option.isSome_none,A'];exact⟨_,rfl,by simp only[aq,A'];exact⟨_,_,rfl,hz,_,_,rfl,rfl,rfl⟩⟩
  .rw[Q4.get m]at q4;rw[q4]at h;rw[gY]at q5;have hv:A' I (aB I st.U) w v en.val:=by
    obtain⟨x',P7,XH⟩:=RV.get q2;rw[l3,q1]at P7;simp at P7;subst P7;exact XH
   have PY:(Instr.lookup t (a.eval x) (a.eval y) ok).run P w=.ok (if ok then .tuple #[en.val,.bool true]else en.val) w:=by
    simp[Instr.lookup,run_underlying u1,hr,WW,kO QK,lE u2,nC u2 q5]
   have hx:(execOp a.eval o).run P w=.ok (.value (if ok then .tuple #[en.val,.bool true]else en.val)) w:=by
    unfold execOp;rw[g1];simp[PY]
   unfold Oper.wp;rw[hx];refine M' _ _ _ ⟨I,?_⟩ h;rw[<-hd];refine hs.pure ?_;cases ok
   .simpa using hv
   .simp only[if_true,Option.getD_some,Option.isSome_some,A'];exact⟨_,rfl,by simp only[aq,A'];exact⟨_,_,rfl,hv,_,_,rfl,rfl,rfl⟩⟩
 .exact hr.elim
def ad.tF{i:aG}{l:List aG}{xm xk:VX}{ok:Bool}{zv:V}(hw:bl st.s i.g=some true)(ho:i.op=.more (.tF ok zv) [xm,xk]){id:Nat}{c:IntKind}{f:Int->Option V}{m:Int}
 (hm:xm.ev st.s=.mp id)(Te:iL c st.U id f)(hk:xk.ev st.s=.int c m)
 (h:ad P n (.ops l::k) ⟨aW st.s i.dst (if ok then .PI [(f m).getD zv,.bool (f m).isSome]else(f m).getD zv),st.U⟩ Q):ad P n (.ops (i::l)::k) st Q:=
 ad.ins (by rw[ho];simp) hw (FJ ho hm Te hk h)
open Go.RowKit
variable {P:Program} {n:Nat} {st:St} {Q:St->Prop} {k:List It} {I:Mu} {w:World}
def oH{α:Type}{f:α->α}:∀(l:List α) (j:Nat) (x:α),l[j]?=some x->l.modify j f=l.set j (f x)
 |[],j,x,h=>by simp at h
 |y::l,0,x,h=>by simp at h;subst h;rfl
 |y::l,j+1,x,h=>by
  have:=oH (f:=f) l j x (by simpa using h);rw[List.modify_succ_cons,List.set_cons_succ,this]
def HR{i:aG}{xm xk xv:VX}(ho:i.op=.more .C7 [xm,xk,xv]){id:Nat}{c:IntKind}{f:Int->Option V}{m:Int}{v:V}
 (hm:xm.ev st.s=.mp id)(Te:iL c st.U id f)(hk:xk.ev st.s=.int c m)(hv:xv.ev st.s=v){K:St->Prop}
 (h:∀ob:Ob,ob.sz=0->iL c (u' st.U id ob) id (λm'=>if m'=m then some v else f m')->K ⟨aW st.s i.dst (.PI []),u' st.U id ob⟩):
 ∀(F:Fr),F.n=n->∀(I:Mu) (a:Act) (w:World) (o:Oper) (all:Array Oper),cq P n all o=i->cI F I st a w->
  ∀(next:Act->World->Prop) (Q':Exit->Act->World->Prop),(∀SB a' w',eH F SB a' w'->K SB->next a' w')->o.wp P a w next Q':=by
 intro F hn I a w o all hi hs next Q' M'
 subst hn;obtain⟨PL,hd⟩:=cC hi;rw[ho]at PL;obtain⟨t,x,y,z,g1,g2,g4⟩:=F3 PL;simp only[List.cons.injEq,and_true]at g4;obtain⟨rfl,rfl,rfl⟩:=g4;obtain⟨e,he⟩:=Option.isSome_iff_exists.1 g2;obtain⟨kt,kk,u1,u2⟩:=pU he;obtain⟨es,clock,env,P3,Q4,Wt⟩:=Te;have hr:=bK hs x;have WW:=bK hs y;have hrv:=bK hs z;rw[hm]at hr;rw[hk]at WW;rw[hv]at hrv;simp only[A']at hr WW;split at hr
 .rename_i b cap hid;obtain⟨QK,RV⟩:=hs.sat.tO P3 hid;simp only[tmpsOf]at RV;have Q3:∀(o':Obj) (WQ:List V),(∀ZW Si,o'=.map ZW Si->lv c ZW.toList WQ (λm'=>if m'=m then some v else f m')/\ku ZW.toList Si)->(∃ZW Si,o'=.map ZW Si)->aq I (aB I st.U) w WQ (tmpsOf o')->
   (Instr.mapUpdate t (a.eval x) (a.eval y) (a.eval z)).run P w=.ok () (w.putObj b o')->o.wp P a w next Q':=by
   intro o' WQ hmr hmap' QR PY;have hx:(execOp a.eval o).run P w=.ok .skip (w.putObj b o'):=by
    unfold execOp;rcases g1 with g1|g1<;>(rw[g1];simp[PY])
   have Q9:=hs.sat.KK P3 hid o' WQ QR;obtain⟨ZW,Si,rfl⟩:=hmap';unfold Oper.wp;rw[hx];refine M' _ _ _ ⟨I,?_⟩ (h (gh (.map ZW Si) WQ) rfl ⟨ZW,Si,WQ,af,hmr _ _ rfl⟩);rw[<-hd];exact hs.step Q9.1 (cm.refl _) Q9.2 (by simp) (by simp only[A'];exact⟨[],rfl,by simp[aq]⟩)
  rcases l6 c kk m es.toList env 0 Q4.len Q4.keys with⟨q1,q2,q3⟩|⟨j,en,v0,q1,q2,q3,q4,q5⟩
  .refine Q3 (.map (es.push { key:=.int c m,val:=a.eval z,born:=clock }) (clock+1)) (env++[v]) (λZW Si e=>?_) ⟨_,_,rfl⟩ ?_ ?_
   .cases e;rw[Array.toList_push];exact⟨Q4.push q3 rfl,Wt.push rfl⟩
   .simp only[tmpsOf,Array.toList_push,eo,dO,List.map_nil];exact RV.append (by simp only[aq];exact⟨_,_,rfl,hrv,rfl⟩)
   .simp[Instr.mapUpdate,run_underlying u1,hr,WW,kO QK,lE u2,nC u2 q2,A7 _ QK]
  .rw[gY]at q5;refine Q3 (.map (es.modify j λe=>{ e with key:=.int c m,val:=a.eval z }) clock) (env.set j v) (λZW Si e=>?_) ⟨_,_,rfl⟩ ?_ ?_
   .cases e;have hl:(es.modify j λe=>{ e with key:=.int c m,val:=a.eval z }).toList=es.toList.set j { en with key:=.int c m,val:=a.eval z }:=by
     rw[Array.toList_modify,oH _ _ _ q1]
    rw[hl];exact⟨Q4.set q1 q3 rfl,Wt.set q1 rfl⟩
   .have hl:(es.modify j λe=>{ e with key:=.int c m,val:=a.eval z }).toList=es.toList.set j { en with key:=.int c m,val:=a.eval z }:=by
     rw[Array.toList_modify,oH _ _ _ q1]
    simp only[tmpsOf,hl,List.map_set];exact aq.set j RV hrv
   .have hkey:((es[j]?).map (·.key)).getD (.int c m)=.int c m:=by
     rw[<-Array.getElem?_toList,q1];simp[q3]
    simp[Instr.mapUpdate,run_underlying u1,hr,WW,kO QK,lE u2,nC u2 q5,A7 _ QK,hkey,yc]
 .exact hr.elim
def ad.C7{i:aG}{l:List aG}{xm xk xv:VX}(hw:bl st.s i.g=some true)(ho:i.op=.more .C7 [xm,xk,xv]){id:Nat}{c:IntKind}{f:Int->Option V}{m:Int}{v:V}
 (hm:xm.ev st.s=.mp id)(Te:iL c st.U id f)(hk:xk.ev st.s=.int c m)(hv:xv.ev st.s=v)
 (h:∀ob:Ob,ob.sz=0->iL c (u' st.U id ob) id (λm'=>if m'=m then some v else f m')->ad P n (.ops l::k) ⟨aW st.s i.dst (.PI []),u' st.U id ob⟩ Q):ad P n (.ops (i::l)::k) st Q:=
 ad.ins (by rw[ho];simp) hw (HR ho hm Te hk hv h)
open Go.RowKit
variable {P:Program} {n:Nat} {st:St} {Q:St->Prop} {k:List It} {I:Mu} {w:World}
def cI.drew{F:Fr}{a:Act}(hs:cI F I st a w):cI F I st a w.drew:=by
 have hk:cG (aB I st.U) (aB I st.U) w w.drew:=λ_ _ h=>⟨h,rfl⟩
 refine⟨⟨hs.sat.size,hs.sat.os,hs.sat.tape,hs.sat.output,hs.sat.same,hs.sat.fin,hs.sat.inj,λid o ho=>?_,hs.sat.fresh,hs.sat.Se⟩,hs.le,hs.size,hs.book.pV hk,λi hi=>?_⟩
 .exact(hs.sat.obj id o ho).mono (cm.refl I) hk (Qh _) (λ_ _ _ _=>rfl)
 .exact A'.mono (cm.refl I) hk (Qh _) _ _ (hs.slot i hi)
def FY{o:Op}{xs:List VX}(h:PO P n o=.more .E0 xs):∃t x e,o=.range t x/\vj P t=some e/\xs=[cx n x]:=by
 cases o
 case range t x=>
  simp only[PO]at h;split at h
  .cases h
  .split at h
   .rename_i hc;obtain⟨e,he⟩:=Option.isSome_iff_exists.1 hc;simp only[Qc.more.injEq,true_and]at h;exact⟨t,x,e,rfl,he,h.symm⟩
   .cases h
 case call c=>
  obtain⟨callee,args,argTypes⟩:=c;cases callee
  case builtin b=>cases b<;>simp only[PO,bE]at h<;>(repeat' split at h)<;>cases h
  all_goals (simp only[PO,bE]at h;cases h)
 case unOp op t x=>cases op<;>simp only[PO,bE]at h<;>cases h
 case makeFunc f a b=>cases f<;>simp only[PO,bE]at h<;>(repeat' split at h)<;>cases h
 all_goals (simp only[PO,bE]at h;(repeat' split at h)<;>cases h)
def E3{o:Op}{xs:List VX}(h:PO P n o=.more .GR xs):∃x,o=.next x false/\xs=[cx n x]:=by
 cases o
 case next x b=>
  simp only[PO]at h;split at h
  .cases h
  .rename_i hb;simp only[Qc.more.injEq,true_and]at h;have Sf:b=false:=by simpa using hb
   subst Sf;exact⟨x,rfl,h.symm⟩
 case call c=>
  obtain⟨callee,args,argTypes⟩:=c;cases callee
  case builtin b=>cases b<;>simp only[PO,bE]at h<;>(repeat' split at h)<;>cases h
  all_goals (simp only[PO,bE]at h;cases h)
 case unOp op t x=>cases op<;>simp only[PO,bE]at h<;>cases h
 case makeFunc f a b=>cases f<;>simp only[PO,bE]at h<;>(repeat' split at h)<;>cases h
 all_goals (simp only[PO,bE]at h;(repeat' split at h)<;>cases h)
def Dh:Value->Int
 |.int _ m=>m
 |_=>0
def key_inj:∀{l:List MapEntry},(l.Pairwise λa b=>a.key≠b.key)->∀{x y:MapEntry},x∈l->y∈l->x.key=y.key->x=y
 |[],_,x,y,hx,_,_=>by cases hx
 |e::l,hp,x,y,hx,hy,he=>by
  obtain⟨h1,h2⟩:=List.pairwise_cons.1 hp;rcases cD.1 hx with P7|P7
  .rcases cD.1 hy with Xn|Xn
   .rw[P7,Xn]
   .exact absurd (P7▸he) (h1 y Xn)
  .rcases cD.1 hy with Xn|Xn
   .exact absurd (Xn▸he.symm) (h1 x P7)
   .exact key_inj h2 P7 Xn he
def DW(w:World)(ty:TypeId)(r bm since c0:Nat)(seen:Array Nat)(es:Array MapEntry)(clock:Nat)(hr:w.heap[r]?=some (.mapIter (some bm) since seen c0))(hb:w.heap[bm]?=some (.map es clock))
 (hold:∀x∈es.toList,x.born<since)(Sv:since<=c0):
 ((leftOf es seen).size=0/\(Instr.next (.pointer (some ⟨r,0,none⟩)) false ty).run P w=.ok (.tuple #[.bool false]) w)\/
 ∃e∈(leftOf es seen).toList,∃w1:World,(w1=w\/w1=w.drew)/\(Instr.next (.pointer (some ⟨r,0,none⟩)) false ty).run P w=.ok (.tuple #[.bool true,e.key,e.val]) (w1.putObj r (.mapIter (some bm) since (seen.push e.born) clock)):=by
 simp only[Instr.next,getObj,Sem.run_bind,Sem.run,hr,hb,Result.andThen,next_test_false seen es since c0 hold Sv,gj,if_false];unfold leftOf;have TE:∀x∈(Array.filter (λe=>!seen.contains e.born) es).toList,x.born<since:=λx hx=>hold x (by simp at hx|-;exact hx.1);generalize Array.filter (λe=>!seen.contains e.born) es=L at TE|-;have e1:L.filter (λx=>decide (x.born<since))=L:=Array.filter_eq_self.2 (λx hx=>by simpa using TE x (by simpa using hx));have e2:L.filter (λx=>decide (x.born>=since))=#[]:=by
  rw[Array.filter_eq_empty_iff];intro x hx;have:=TE x (by simpa using hx);simp;omega
 simp only[e1,e2,Array.append_empty];by_cases h0:L.size=0
 .left;have:L=#[]:=Array.eq_empty_of_size_eq_zero h0;subst this;refine⟨rfl,?_⟩;simp[choose,Sem.run,Question.forced]
 .right;have PZ:L.isEmpty=false:=by simp[Array.isEmpty,h0]
  simp only[PZ,gj,if_false,Array.empty_append,Array.size_map];have Ye:∃(j:Nat) (w1:World),j<L.size/\(w1=w\/w1=w.drew)/\(choose (Question.mapNext L.size)).run P w=.ok j w1:=by
   by_cases hf:L.size<=1
   .exact⟨0,w,by omega,.inl rfl,by simp[choose,Sem.run,Question.forced,hf]⟩
   .exact⟨_,w.drew,Nat.mod_lt _ (by omega),.inr rfl,by
     simp only[choose,Sem.run,Question.forced,SX,hf,if_false,Question.cut];rfl⟩
  obtain⟨j,w1,hj,R8,PY⟩:=Ye;refine⟨L[j],by simp,w1,R8,?_⟩;have YL:w1.heap[r]?=some (.mapIter (some bm) since seen c0):=by rcases R8 with rfl|rfl<;>exact hr
  have Q9:∀(o':Obj),(setObj r o').run P w1=.ok () (w1.putObj r o'):=λo'=>by
   simp[setObj,Sem.run,YL,World.putObj]
  simp only[PY,Array.getElem?_map,Array.getElem?_eq_getElem hj,Option.map_some,Sem.run_bind,Q9,Result.andThen];rfl
def jY(c:IntKind)(U:ag)(it id:Nat)(f:Int->Option V)(ks:List Int):Prop:=
 ∃(b since c0 clock:Nat) (seen:Array Nat) (es:Array MapEntry) (env:List V),U it=some (gh (.mapIter (some b) since seen c0) [.mp id])/\U id=some (gh (.map es clock) env)/\lv c es.toList env f/\
  (∀e∈es.toList,e.born<since)/\(es.toList.map (·.born)).Nodup/\since<=c0/\since<=clock/\ks=(leftOf es seen).toList.map λe=>Dh e.key
def jY.sub{c:IntKind}{U Z':ag}{it id:Nat}{f:Int->Option V}{ks:List Int}(h:jY c U it id f ks)(hs:aa U Z'):jY c Z' it id f ks:=by
 obtain⟨b,since,c0,clock,seen,es,env,h1,h2,h3⟩:=h;exact⟨b,since,c0,clock,seen,es,env,hs _ _ h1,hs _ _ h2,h3⟩
def jY.map{c:IntKind}{U:ag}{it id:Nat}{f:Int->Option V}{ks:List Int}(h:jY c U it id f ks):(∃o,U it=some o/\o.sz=0)/\∃o,U id=some o/\o.sz=0:=by
 obtain⟨b,since,c0,clock,seen,es,env,h1,h2,h3⟩:=h;exact⟨⟨_,h1,rfl⟩,_,h2,rfl⟩
def JD(c:IntKind)(U:ag)(it id:Nat)(m:Int)(v:V):Prop:=
 ∃(b since clock j:Nat) (seen:Array Nat) (es:Array MapEntry) (env:List V) (e:MapEntry),U it=some (gh (.mapIter (some b) since (seen.push e.born) clock) [.mp id])/\U id=some (gh (.map es clock) env)/\
  es.toList[j]?=some e/\env[j]?=some v/\e.key=.int c m/\(es.toList.map (·.born)).Nodup
def ph(es:Array MapEntry):leftOf es #[]=es:=by
 unfold leftOf;exact Array.filter_eq_self.2 λx _=>by simp
def ad.E0{i:aG}{l:List aG}{xm:VX}(hw:bl st.s i.g=some true)(ho:i.op=.more .E0 [xm]){id:Nat}{c:IntKind}{f:Int->Option V}(hm:xm.ev st.s=.mp id)(Te:iL c st.U id f)
 (h:∀it ob ks,st.U it=none->ob.sz=0->jY c (u' st.U it ob) it id f ks->ks.Nodup->(∀m,m∈ks↔(f m).isSome=true)->ad P n (.ops l::k) ⟨aW st.s i.dst (.gp it),u' st.U it ob⟩ Q):ad P n (.ops (i::l)::k) st Q:=by
 refine ad.ins (by rw[ho];simp) hw λF hn I a w o all hi hs next Q' M'=>?_
 subst hn;obtain⟨PL,hd⟩:=cC hi;rw[ho]at PL;obtain⟨t,x,e,g1,g2,g4⟩:=FY PL;simp only[List.cons.injEq,and_true]at g4;subst g4;obtain⟨kt,kk,u1,u2⟩:=pU g2;obtain⟨es,clock,env,P3,Q4,Wt⟩:=Te;have hr:=bK hs x;rw[hm]at hr;simp only[A']at hr;split at hr
 .rename_i b cap hid;obtain⟨QK,RV⟩:=hs.sat.tO P3 hid;have PY:(execOp a.eval o).run P w=.ok (.value (.pointer (some ⟨w.heap.size,0,none⟩))) (w.alloc (.mapIter (some b) clock #[] clock)):=by
   unfold execOp;rw[g1];simp only[hr,Sem.run_bind,run_range_map w t kt e b es clock u1 QK,Result.andThen_ok,Sem.run_pure]
  obtain⟨it,hit,Y',q1,q2,q3,q4⟩:=hs.sat.HO (.mapIter (some b) clock #[] clock) [.mp id] (by simp only[tmpsOf,aq,A',hid];exact⟨_,_,rfl,rfl,rfl⟩);unfold Oper.wp;rw[PY];have PZ:id≠it:=λe=>by rw[e,hit]at P3;cases P3
  refine M' _ _ _ ⟨Y',?_⟩ (h it _ _ hit rfl ⟨b,clock,clock,clock,#[],es,env,af,(ab PZ).trans P3,Q4,Wt.1,Wt.2,Qh _,Qh _,rfl⟩ ?_ λm=>?_)
  .rw[<-hd];exact hs.step q3 q2 q4 (by simp) (by simp[A',q1])
  .rw[ph,List.Nodup,List.pairwise_map];refine Q4.apart.imp_of_mem λ{x y} hx hy hxy e=>hxy ?_;obtain⟨mx,h1⟩:=Q4.keys _ hx;obtain⟨my,h2⟩:=Q4.keys _ hy;rw[h1,h2]at e|-;simp only[Dh]at e;rw[e]
  .rw[ph,eI];rcases l6 c kk m es.toList env 0 Q4.len Q4.keys with⟨q1,q2,q3⟩|⟨j,en,v,q1,q2,q3,q4,q5⟩
   .rw[Q4.get m]at q1;rw[q1];simp only[Option.isSome_none,gj,iff_false];rintro⟨e,he,h1⟩;obtain⟨mx,h2⟩:=Q4.keys _ he;rw[h2]at h1;simp only[Dh]at h1;exact q3 e he (by rw[h2,h1])
   .rw[Q4.get m]at q4;rw[q4];simp only[Option.isSome_some,iff_true];exact⟨en,oe q1,by rw[q3];rfl⟩
 .exact hr.elim
def FO{o:Op}{xs:List VX}(h:PO P n o=.more .EV xs):∃x,o=.entry x/\xs=[cx n x]:=by
 cases o
 case entry x=>
  simp only[PO,Qc.more.injEq,true_and]at h;exact⟨x,rfl,h.symm⟩
 case call c=>
  obtain⟨callee,args,argTypes⟩:=c;cases callee
  case builtin b=>cases b<;>simp only[PO,bE]at h<;>(repeat' split at h)<;>cases h
  all_goals (simp only[PO,bE]at h;cases h)
 case unOp op t x=>cases op<;>simp only[PO,bE]at h<;>cases h
 case makeFunc f a b=>cases f<;>simp only[PO,bE]at h<;>(repeat' split at h)<;>cases h
 all_goals (simp only[PO,bE]at h;(repeat' split at h)<;>cases h)
def ad.EV{i:aG}{l:List aG}{xv:VX}(hw:bl st.s i.g=some true)(ho:i.op=.more .EV [xv]){it id:Nat}{c:IntKind}{m:Int}{v:V}(hx:xv.ev st.s=.gp it)(P3:JD c st.U it id m v)
 (h:ad P n (.ops l::k) ⟨aW st.s i.dst (.PI [.int c m,v]),st.U⟩ Q):ad P n (.ops (i::l)::k) st Q:=by
 refine ad.ins (by rw[ho];simp) hw λF hn I a w o all hi hs next Q' M'=>?_
 subst hn;obtain⟨PL,hd⟩:=cC hi;rw[ho]at PL;obtain⟨x,g1,g4⟩:=FO PL;simp only[List.cons.injEq,and_true]at g4;subst g4;obtain⟨b,since,clock,j,seen,es,env,e,hZi,hZm,hj,hjv,YF,Q8⟩:=P3;have hr:=bK hs x;rw[hx]at hr;simp only[A']at hr;split at hr
 .rename_i r cap hid;obtain⟨QK,RV⟩:=hs.sat.tO hZi hid;simp only[tmpsOf,aq,A']at RV;obtain⟨y,ys,hy,QR,hys⟩:=RV;obtain⟨rfl,rfl⟩:=List.cons.inj hy;split at QR
  .rename_i b' QP SR;cases QR;obtain⟨hom,Xo⟩:=hs.sat.tO hZm SR;simp only[tmpsOf]at Xo;have hf:es.find? (·.born==e.born)=some e:=by rw[<-Array.find?_toList];exact find_born e es.toList Q8 (oe hj)
   have PY:(execOp a.eval o).run P w=.ok (.value (.tuple #[e.key,e.val])) w:=by
    unfold execOp;rw[g1];simp only[hr,Instr.entry,getObj,Sem.run_bind,Sem.run,QK,hom,Result.andThen,Array.back?_push,bne_self_eq_false,gj,if_false,hf];rfl
   unfold Oper.wp;rw[PY];refine M' _ _ _ ⟨I,?_⟩ h;rw[<-hd];obtain⟨x',P7,XH⟩:=Xo.get hjv;rw[l3,hj]at P7;simp at P7;subst P7;refine hs.pure ?_;simp only[A'];refine⟨_,rfl,?_⟩;simp only[aq,A'];exact⟨_,_,rfl,YF,_,_,rfl,XH,rfl⟩
  .exact QR.elim
 .exact hr.elim
def ad.GR{i:aG}{l:List aG}{xv:VX}(hw:bl st.s i.g=some true)(ho:i.op=.more .GR [xv]){it id:Nat}{c:IntKind}{f:Int->Option V}{ks:List Int}(hx:xv.ev st.s=.gp it)
 (P3:jY c st.U it id f ks)
 (h1:∀m v ob ks',m∈ks->f m=some v->ob.sz=0->jY c (u' st.U it ob) it id f ks'->(∀x,x∈ks'↔x∈ks/\x≠m)->ks'.length<ks.length->JD c (u' st.U it ob) it id m v->
   ad P n (.ops l::k) ⟨aW st.s i.dst (.PI [.bool true,.int c m,v]),u' st.U it ob⟩ Q)
 (h2:ks=[]->ad P n (.ops l::k) ⟨aW st.s i.dst (.PI [.bool false]),st.U⟩ Q):ad P n (.ops (i::l)::k) st Q:=by
 refine ad.ins (by rw[ho];simp) hw λF hn I a w o all hi hs next Q' M'=>?_
 subst hn;obtain⟨PL,hd⟩:=cC hi;rw[ho]at PL;obtain⟨x,g1,g4⟩:=E3 PL;simp only[List.cons.injEq,and_true]at g4;subst g4;obtain⟨b,since,c0,clock,seen,es,env,hZi,hZm,Q4,hold,Q8,Sv,hsk,rfl⟩:=P3;have hr:=bK hs x;rw[hx]at hr;simp only[A']at hr;split at hr
 .rename_i r cap hid;obtain⟨QK,RV⟩:=hs.sat.tO hZi hid;simp only[tmpsOf,aq,A']at RV;obtain⟨y,ys,hy,QR,hys⟩:=RV;obtain⟨rfl,rfl⟩:=List.cons.inj hy;split at QR
  .rename_i b' QP SR;cases QR;obtain⟨hom,Xo⟩:=hs.sat.tO hZm SR;simp only[tmpsOf]at Xo;unfold Oper.wp;rcases DW (P:=P) w o.type r b since c0 seen es clock QK hom hold Sv with⟨q1,q2⟩|⟨e,he,w1,hw1,q2⟩
   .have PY:(execOp a.eval o).run P w=.ok (.value (.tuple #[.bool false])) w:=by
     unfold execOp;rw[g1];simp only[hr,Sem.run_bind,q2,Result.andThen_ok,Sem.run_pure]
    rw[PY];refine M' _ _ _ ⟨I,?_⟩ (h2 ?_)
    .rw[<-hd];exact hs.pure (by simp only[A'];exact⟨_,rfl,by simp[aq,A']⟩)
    .rw[Array.eq_empty_of_size_eq_zero q1];rfl
   .have PY:(execOp a.eval o).run P w=.ok (.value (.tuple #[.bool true,e.key,e.val])) (w1.putObj r (.mapIter (some b) since (seen.push e.born) clock)):=by
     unfold execOp;rw[g1];simp only[hr,Sem.run_bind,q2,Result.andThen_ok,Sem.run_pure]
    rw[PY];have R6:cI F I st a w1:=by
     rcases hw1 with h|h
     .rw[h];exact hs
     .rw[h];exact hs.drew
    obtain⟨hem,hns⟩:=mem_left he;obtain⟨m,YF⟩:=Q4.keys _ hem;rcases l6 c .i64 m es.toList env 0 Q4.len Q4.keys with⟨z1,z2,z3⟩|⟨j,en,v,z1,z2,z3,z4,z5⟩
    .exact absurd YF (z3 e hem)
    have XU:en=e:=key_inj Q4.apart (oe z1) hem (by rw[z3,YF]);subst XU;rw[Q4.get m]at z4;obtain⟨hom1,YT⟩:=R6.sat.tO hZm SR;simp only[tmpsOf]at YT;have hv:A' I (aB I st.U) w1 v en.val:=by
     obtain⟨x',P7,XH⟩:=YT.get z2;rw[l3,z1]at P7;simp at P7;subst P7;exact XH
    have Q9:=R6.sat.KK hZi hid (.mapIter (some b) since (seen.push en.born) clock) [.mp id] (by simp only[tmpsOf,aq,A',SR];exact⟨_,_,rfl,rfl,rfl⟩);have PZ:id≠it:=λe=>by
     rw[e,hZi]at hZm;simp only[gh,bb,Ob.mk.injEq,List.cons.injEq,V.obj.injEq]at hZm;cases hZm.2.2.1
    have hkeys:∀z∈es.toList,∀y∈es.toList,Dh z.key=Dh y.key->z=y:=λz hz y hy e=>by
     obtain⟨mz,e1⟩:=Q4.keys _ hz;obtain⟨my,e2⟩:=Q4.keys _ hy;refine key_inj Q4.apart hz hy ?_;rw[e1,e2]at e|-;simp only[Dh]at e;rw[e]
    refine M' _ _ _ ⟨I,?_⟩ (h1 m v _ _ (eI.2 ⟨en,he,by rw[YF];rfl⟩) z4 rfl ⟨b,since,clock,clock,seen.push en.born,es,env,af,(ab PZ).trans hZm,Q4,hold,Q8,hsk,hsk,rfl⟩ (λz=>?_) ?_ ⟨b,since,clock,j,seen,es,env,en,af,(ab PZ).trans hZm,z1,z2,YF,Q8⟩)
    .rw[<-hd];refine R6.step Q9.1 (cm.refl _) Q9.2 (by simp) ?_;simp only[A'];refine⟨_,rfl,?_⟩;simp only[aq,A'];exact⟨_,_,rfl,rfl,_,_,rfl,YF,_,_,rfl,A'.mono (cm.refl I) Q9.2 (by simp) _ _ hv,rfl⟩
    .rw[eI,eI];constructor
     .rintro⟨y,hy,rfl⟩;obtain⟨hy1,hy2⟩:=mem_left hy;rw[contains_push,Bool.or_eq_false_iff]at hy2;refine⟨⟨y,?_,rfl⟩,λe=>?_⟩
      .unfold leftOf;rw[Array.mem_toList_iff,Array.mem_filter];exact⟨Array.mem_toList_iff.1 hy1,by rw[hy2.1];rfl⟩
      .have:y=en:=hkeys y hy1 en hem (by rw[e,YF];rfl);subst this;simp at hy2
     .rintro⟨⟨y,hy,rfl⟩,hn⟩;obtain⟨hy1,hy2⟩:=mem_left hy;refine⟨y,?_,rfl⟩;unfold leftOf;rw[Array.mem_toList_iff,Array.mem_filter];refine⟨Array.mem_toList_iff.1 hy1,?_⟩;rw[contains_push,hy2,Bool.false_or];have:y.born≠en.born:=λe=>hn (by rw[born_inj Q8 hy1 hem e,YF];rfl);simpa using this
    .rw[cL,cL,Array.length_toList,Array.length_toList];exact left_shrinks es seen en he
  .exact QR.elim
 .exact hr.elim
open Go.RowKit Go.Sort Go.Proofs
variable {P:Program} {I:Mu} {w:World}
def wD{U:ag}{id:Nat}{o:Ob}(h:U id=some o):u' U id o=U:=by
 funext i;unfold u';split
 .rename_i e;rw[e,h]
 .rfl
def aX.ints{ow:Nat->Prop}{b:Nat}{cur:Array Value}{e:TypeId}(hb:w.heap[b]?=some (.cells cur e (0,0))):∀(ns:List Int) (off:Nat),(∀j n,ns[j]?=some n->cur[off+j]?=some (.int .i64 n))->aX I ow w (ns.map vI) b off 1
 |[],_,_=>by simp[aX]
 |n::ns,off,h=>by
  simp only[dO,aX];refine⟨rfl,?_,?_⟩
  .simp only[bt];refine⟨.int .i64 n,?_,by simp[A'],rfl⟩;have:=h 0 n rfl;simp only[World.cell?,hb,Option.isSome_none,gj,if_false];simpa using this
  .exact aX.ints hb ns (off+1) λj m hj=>by
    have:=h (j+1) m (by simpa using hj)
    rwa [show off+1+j=off+(j+1) by omega]
def aX.MP{ow:Nat->Prop}{b:Nat}{cur:Array Value}{e:TypeId}(hb:w.heap[b]?=some (.cells cur e (0,0))):∀(ns:List Int) (off:Nat),aX I ow w (ns.map vI) b off 1->∀j n,ns[j]?=some n->cur[off+j]?=some (.int .i64 n)
 |[],_,_,j,n,h=>by simp at h
 |m::ns,off,h,j,n,hj=>by
  simp only[dO,aX]at h;obtain⟨-,h1,h2⟩:=h;cases j with
  |zero=>
   simp only[bt]at h1;obtain⟨x,g1,g2,g3⟩:=h1;simp only[A']at g2;simp only[World.cell?,hb,Option.isSome_none,gj,if_false]at g1;simp at hj;subst hj;rw[g2]at g1;simpa using g1
  |succ j=>
   have:=aX.MP hb ns (off+1) h2 j n (by simpa using hj)
   rwa [show off+1+j=off+(j+1) by omega]at this
def DO{ρ:Go.Shelf.Ren}(Ly:Go.Proofs.Lays.n189 P ρ)(QT:eJ P (ρ.f 189)=true){id:Nat}{e:TypeId}{ns:List Int}{U:ag}(P3:U id=some ⟨e,1,ns.map vI⟩)(hn:ns.length<=1000000000):
 aC P (ρ.f 189) [.own id 0 ns.length] U λr Z'=>r=.PI []/\∃ns':List Int,ns'.length=ns.length/\Z'=u' U id ⟨e,1,ns'.map vI⟩:=by
 refine⟨QT,λI w vals hs hr=>?_⟩;simp only[aq,A']at hr;obtain⟨x,xs,rfl,hx,rfl⟩:=hr;have QK:=hs.obj id _ P3;generalize hid:I id=pl at*;cases pl with
 |dv=>exact hx.elim
 |nil=>
  obtain⟨rfl,-,h0⟩:=hx;have hns:ns=[]:=rO h0;subst hns;refine(Any.slices_Sort_int_none Ly none 0 w).mono ?_;rintro e' w' ⟨rfl,rfl⟩;refine⟨_,U,I,_,rfl,⟨rfl,[],rfl,(wD P3).symm⟩,cm.refl _,hs,by simp[A',aq]⟩
 |Qz b sz cap=>
  obtain⟨o,c,rfl,h1,h2,h3,h4⟩:=hx;obtain⟨cur,g1,g2,g3,g4,g5,g6,g7⟩:=QK.plain h4;simp only at g2 g5 g7;subst g2;have QG:=aX.MP g1 ns 0 g7;by_cases hz:ns=[]
  .subst hz;refine(Any.slices_Sort_int_none Ly _ _ w).mono ?_;rintro e' w' ⟨rfl,rfl⟩;exact⟨_,U,I,_,rfl,⟨rfl,[],rfl,(wD P3).symm⟩,cm.refl _,hs,by simp[A',aq]⟩
  have hlen:0<ns.length:=rK.2 hz;have ho:o=0:=by rcases h3 with h3|h3<;>omega
  subst ho;rw[cL]at g5;have Qn:cur.toList.take ns.length=ns.map (Value.int .i64):=by
   refine List.ext_getElem? λj=>?_;by_cases hj:j<ns.length
   .rw[List.getElem?_take_of_lt hj,Array.getElem?_toList,l3,SQ hj];have:=QG j ns[j] (SQ hj);rw[gY]at this;rw[this];rfl
   .rw[List.getElem?_take_eq_none (by omega),nF (by simp;omega)]
  have hH:=holds_of_blockI g1 Qn;refine(Any.slices_Sort_int Ly b 0 c ns w hH (qk.1 g1).1 (by omega)).mono ?_;rintro e' w' ⟨rfl,nn,os,rfl⟩;generalize Um:ns.mergeSort (λx y=>decide (x<=y))=ts;have hl:ts.length=ns.length:=by rw[<-Um];simp
  have TW:=heap_sortedI (n:=nn) (os:=os) (fr:=(0,0)) ts.toArray g1;have WX:=hs.put (row:=some b) (grownBy_sortedI (n:=nn) (os:=os) ts.toArray) (λb' Sf=>by cases Sf;exact⟨id,_,1,cap,P3,hid⟩) (cm.refl _) hs.fin id ⟨e,1,ts.map vI⟩ (Z':=u' U id ⟨e,1,ts.map vI⟩)
   (λo' WK=>by simp[u']at WK;exact WK.symm) (λi o' hi WK=>by
     simp only[u',aF hi]at WK;refine⟨WK,λb' Sr QP h5 h6=>hi ?_⟩;cases h6;exact hs.inj i id o' _ _ _ _ _ _ WK P3 h5 hid) (λb' Sr QP Sf=>by rw[hid]at Sf;cases Sf;exact .inl rfl) (λhk=>by
     rw[hid];refine .inl ⟨_,TW,rfl,by omega,by simpa[putCells]using g4,by rw[cL];omega,g6,?_⟩;refine aX.ints TW ts 0 λj m hj=>?_;have hj':j<ts.length:=(mL.1 hj).1;have h5:=take_putCellsI cur ts (by rw[g4];omega);have h6:=congrArg (·[j]?) h5;rw[List.getElem?_take_of_lt hj',Array.getElem?_toList,l3,hj]at h6;rw[gY,h6];rfl)
  exact⟨_,_,I,_,rfl,⟨rfl,ts,hl,rfl⟩,cm.refl _,WX.1,by simp[A',aq]⟩
def EG{ρ:Go.Shelf.Ren}(Ly:Go.Proofs.Lays.n189 P ρ)(QT:eJ P (ρ.f 189)=true)(U:ag):aC P (ρ.f 189) [.aL] U λr Z'=>r=.PI []/\Z'=U:=by
 refine⟨QT,λI w vals hs hr=>?_⟩;simp only[aq,A']at hr;obtain⟨x,xs,rfl,rfl,rfl⟩:=hr;refine(Any.slices_Sort_int_none Ly none 0 w).mono ?_;rintro e' w' ⟨rfl,rfl⟩;exact⟨_,U,I,_,rfl,⟨rfl,rfl⟩,cm.refl _,hs,by simp[A',aq]⟩
open Go.Proofs
section
variable {P:Program} {n:Nat} {st:St} {Q:St->Prop} {k:List It}
def Go.cN{i:aG}{l:List aG}{fx:VX}{xs:List VX}{f:FuncId}{caps:List V}{v:V}(hw:bl st.s i.g=some true)(ho:i.op=.call fx xs)
 (hf:fx.ev st.s=.fn f caps)(hc:aP P f (xs.map (·.ev st.s)++caps) v)(h:Go P n (.d l k) ⟨aW st.s i.dst v,st.U⟩ Q):Go P n (.d (i::l) k) st Q:=by
 refine mc hw ?_;rw[ho];exact⟨f,caps,v,hf,λZ1 _=>hc Z1,h⟩
end
def nq{U:ag}{id:Nat}{o:Ob}(h:U id=some o):u' U id o=U:=by
 funext i;simp only[u'];split
 .rename_i e;rw[e,h]
 .rfl
def Bq(n:Int):Prop:=-1152921504606846976<=n/\n<=1152921504606846976
def mF(n:Int):aP prog 17 [vI n] (.bool (decide (1<=n/\n<=1099511627776))):=λU=>by
 refine e17.r (by simp[c17]) ?_;apply sR;simp only[go_sem,seval,c17];refine And.intro (λh=>?_) (λh=>?_)
 .exact au.same (by congr 1;exact decide_eq_decide.2 (by omega))
 .exact au.same (by congr 1;exact(Sz (by omega)).symm)
def bz(n:Int):Int:=max (-1099511627776) (min n 1099511627776)
def iO(n:Int):aP prog 61 [vI n] (vI (bz n)):=λU=>by
 refine e61.r (by simp[c61]) ?_;apply sR;simp only[go_sem,seval,c61];exact au.same (by congr 1;unfold bz;split<;>split<;>omega)
structure QL where
 (a b:Int)
deriving DecidableEq
def bc(s:QL):V:=.agg [vI s.a,vI s.b]
def rX(s:QL):aP prog 230 [bc s] (.bool (decide (s.b<=s.a))):=λU=>by
 refine OZ.r (by simp[K2]) ?_;apply sR;simp only[go_sem,seval,K2,bc];refine ae λi1 Z1 s1 a1 f1=>?_;simp only[go_sem,seval,a1];exact au.pure s1 rfl
def jC(s:QL):Int:=if s.b<=s.a then 0 else s.b-s.a
def Ry(n:Int):Prop:=-2305843009213693952<=n/\n<=2305843009213693952
def GL(s:QL)(ha:Ry s.a)(hb:Ry s.b):aP prog 180 [bc s] (vI (jC s)):=λU=>by
 obtain⟨h1,h2⟩:=ha;obtain⟨h3,h4⟩:=hb;refine Nv.r (by simp[KG]) ?_;apply sR;simp only[go_sem,seval,KG,bc];refine ae λi1 Z1 s1 a1 f1=>?_;simp only[go_sem,seval,a1];refine ad.ay rfl rfl rfl (rX ⟨_,_⟩ _) ?_;apply sR;simp only[go_sem,seval,a1];unfold jC;refine And.intro (λh=>?_) (λh=>?_)
 .rw[aE h];exact au.pure s1 rfl
 .rw[aF h];exact⟨ak,au.pure s1 rfl⟩
open Go.Proofs
def oN(a b:QL):QL:=if a.b<=a.a\/b.b<=b.a\/min a.b b.b<=max a.a b.a then⟨0,0⟩else⟨max a.a b.a,min a.b b.b⟩
def dd(a b:Int):(if b>a then b else a)=max a b:=by split<;>omega
def eW(a b:Int):(if b<a then b else a)=min a b:=by split<;>omega
def L5(x y:QL):aP prog 262 [bc x,bc y] (bc (oN x y)):=λU=>by
 refine PC.r (by simp[Kb]) ?_;have hs:=aa.refl U;refine ad.mix 6 ?_;apply sR;simp only[go_sem,seval,Kb,bc];refine ae λi2 Z2 s2 a2 f2=>?_;have z2:=hs.none f2;replace hs:=hs.trans s2;simp only[go_sem,seval,a2];refine ae λi3 Z3 s3 a3 f3=>?_;have n23:=ao a2 f3;replace a2:=s3 _ _ a2;have z3:=hs.none f3;replace hs:=hs.trans s3;simp only[go_sem,seval,a3,a2];refine ae λi4 Z4 s4 a4 f4=>?_;have n24:=ao a2 f4;replace a2:=s4 _ _ a2;have YN:=ao a3 f4;replace a3:=s4 _ _ a3;have z4:=hs.none f4;replace hs:=hs.trans s4;simp only[go_sem,seval,a4,a3,a2];refine ae λi5 Z5 s5 a5 f5=>?_;have VF:=ao a2 f5;replace a2:=s5 _ _ a2;have Xp:=ao a3 f5;replace a3:=s5 _ _ a3;have R0:=ao a4 f5;replace a4:=s5 _ _ a4;have z5:=hs.none f5;replace hs:=hs.trans s5;simp only[go_sem,seval,a5,a4,a3,a2,dd,eW,ab VF,ab Xp,ab R0];generalize TZ:u' _ i5 _=Y5;replace a5:=(congrFun TZ i5).symm.trans af;replace a2:=((congrFun TZ i2).symm.trans (ab VF)).trans a2;replace a3:=((congrFun TZ i3).symm.trans (ab Xp)).trans a3;replace a4:=((congrFun TZ i4).symm.trans (ab R0)).trans a4;replace hs:=Eq.subst (motive:=aa _) TZ (hs.az z5);clear TZ;refine ad.ay rfl rfl rfl (rX ⟨_,_⟩ _) ?_;unfold oN;by_cases h1:x.b<=x.a
 .rw[aE (.inl h1),SP h1];apply sR;simp only[go_sem,seval,a4,a5];exact au.pure (hs.az z4) rfl
 rw[Sz h1];apply sR;simp only[go_sem,seval,a3,a5,a4];refine ad.ay rfl rfl rfl (rX ⟨_,_⟩ _) ?_;by_cases h2:y.b<=y.a
 .rw[aE (.inr (.inl h2)),SP h2];apply sR;simp only[go_sem,seval,a4,a5];exact au.pure (hs.az z4) rfl
 rw[Sz h2];apply sR;simp only[go_sem,seval,a3,a5,a4];refine ad.ay rfl rfl rfl (rX ⟨_,_⟩ _) ?_;by_cases h3:min x.b y.b<=max x.a y.a
 .rw[aE (.inr (.inr h3)),SP h3];apply sR;simp only[go_sem,seval,a4,a5];exact au.pure (hs.az z4) rfl
 .rw[aF (by omega),Sz h3];apply sR;simp only[go_sem,seval,a4,a5];exact au.pure (hs.az z4) rfl
def H8(x y:QL):aP prog 256 [bc x,bc y] (.bool (decide (oN x y=⟨0,0⟩))):=λU=>by
 refine Nw.r (by simp[KW]) ?_;have hs:=aa.refl U;refine ad.mix 5 ?_;apply sR;simp only[go_sem,seval,KW,bc];refine ae λi2 Z2 s2 a2 f2=>?_;have z2:=hs.none f2;replace hs:=hs.trans s2;simp only[go_sem,seval,a2];refine ae λi3 Z3 s3 a3 f3=>?_;have n23:=ao a2 f3;replace a2:=s3 _ _ a2;have z3:=hs.none f3;replace hs:=hs.trans s3;simp only[go_sem,seval,a3,a2];refine ad.ay rfl rfl rfl (L5 ⟨_,_⟩ ⟨_,_⟩ _) ?_;have e:(⟨x.a,x.b⟩:QL)=x:=rfl;have e':(⟨y.a,y.b⟩:QL)=y:=rfl;rw[e,e'];generalize oN x y=m;obtain⟨u,v⟩:=m;apply sR;simp only[go_sem,seval,bc];refine au.pure hs ?_;by_cases h1:u=0<;>by_cases h2:v=0<;>simp[h1,h2]
structure Rct where
 (x y w h:Int)
deriving DecidableEq
def HT(r:Rct):V:=.agg [vI r.x,vI r.y,vI r.w,vI r.h]
def BI(r:Rct)(h1:Bq r.y)(h2:Bq r.h):aP prog 136 [HT r] (bc ⟨r.y,r.y+r.h⟩):=λU=>by
 obtain⟨g1,g2⟩:=h1;obtain⟨g3,g4⟩:=h2;refine N9.r (by simp[KC]) ?_;have hs:=aa.refl U;apply sR;simp only[go_sem,seval,KC,HT];refine ae λi1 Z1 s1 a1 f1=>?_;have z1:=hs.none f1;replace hs:=hs.trans s1;simp only[go_sem,seval,a1];refine ae λi2 Z2 s2 a2 f2=>?_;have ZX:=ao a1 f2;replace a1:=s2 _ _ a1;have z2:=hs.none f2;replace hs:=hs.trans s2;simp only[go_sem,seval,a2,a1];exact⟨ak,au.pure (hs.az z2) rfl⟩
def Ft(r:Rct)(h1:Bq r.x)(h2:Bq r.w):aP prog 232 [HT r] (bc ⟨r.x,r.x+r.w⟩):=λU=>by
 obtain⟨g1,g2⟩:=h1;obtain⟨g3,g4⟩:=h2;refine NM.r (by simp[c232]) ?_;have hs:=aa.refl U;apply sR;simp only[go_sem,seval,c232,HT];refine ae λi1 Z1 s1 a1 f1=>?_;have z1:=hs.none f1;replace hs:=hs.trans s1;simp only[go_sem,seval,a1];refine ae λi2 Z2 s2 a2 f2=>?_;have ZX:=ao a1 f2;replace a1:=s2 _ _ a1;have z2:=hs.none f2;replace hs:=hs.trans s2;simp only[go_sem,seval,a2,a1];exact⟨ak,au.pure (hs.az z2) rfl⟩
structure Pn where
 (y m:Int)
deriving DecidableEq
def gE(p:Pn):V:=.agg [vI p.y,vI p.m]
def Dx(p:Pn)(h1:Bq p.y)(h2:Bq p.m):aP prog 51 [gE p] (vI (p.y+p.m)):=λU=>by
 obtain⟨g1,g2⟩:=h1;obtain⟨g3,g4⟩:=h2;refine e51.r (by simp[c51]) ?_;have hs:=aa.refl U;apply sR;simp only[go_sem,seval,c51,gE];refine ae λi1 Z1 s1 a1 f1=>?_;have z1:=hs.none f1;replace hs:=hs.trans s1;simp only[go_sem,seval,a1];exact⟨ak,au.pure hs rfl⟩
def L4(p:Pn)(y h:Int)(h1:Bq y)(h2:Bq h):aP prog 130 [gE p,vI y,vI h] (gE ⟨y+h,0⟩):=λU=>by
 obtain⟨g1,g2⟩:=h1;obtain⟨g3,g4⟩:=h2;refine OE.r (by simp[c130]) ?_;have hs:=aa.refl U;apply sR;simp only[go_sem,seval,c130,gE];refine ae λi1 Z1 s1 a1 f1=>?_;have z1:=hs.none f1;replace hs:=hs.trans s1;simp only[go_sem,seval,a1];refine ae λi2 Z2 s2 a2 f2=>?_;have ZX:=ao a1 f2;replace a1:=s2 _ _ a1;have z2:=hs.none f2;replace hs:=hs.trans s2;simp only[go_sem,seval,a2,a1];exact⟨ak,au.pure (hs.az z2) rfl⟩
def jh(p:Pn)(low:Int):Pn:=if low>p.y+p.m then⟨low,0⟩else p
def FH(p:Pn)(low:Int)(h1:Bq p.y)(h2:Bq p.m):aP prog 78 [gE p,vI low] (gE (jh p low)):=λU=>by
 refine e78.r (by simp[c78]) ?_;have hs:=aa.refl U;refine ad.mix 5 ?_;apply sR;simp only[go_sem,seval,c78,gE];refine ae λi2 Z2 s2 a2 f2=>?_;have z2:=hs.none f2;replace hs:=hs.trans s2;simp only[go_sem,seval,a2];refine ae λi4 Z4 s4 a4 f4=>?_;have n24:=ao a2 f4;replace a2:=s4 _ _ a2;have z4:=hs.none f4;replace hs:=hs.trans s4;simp only[go_sem,seval,a4,a2];refine ad.ay rfl rfl rfl (Dx ⟨_,_⟩ h1 h2 _) ?_;unfold jh;by_cases h:low>p.y+p.m
 .have q:(low>p.y+p.m)=True:=PK h;rw[aE h];apply sR;simp only[go_sem,seval,a4,a2,q];exact au.pure (hs.az z4) rfl
 .have q:(low>p.y+p.m)=False:=PG h;rw[aF h];apply sR;simp only[go_sem,seval,a4,a2,q];exact au.pure (hs.az z4) rfl
def Cf(y m n:Int){U:ag}{id:Nat}(hid:U id=some ⟨236,2,[.agg [vI y,vI m]]⟩):aC prog 127 [.ptr id 0 0,vI n] U λr Z'=>r=.PI []/\Z'=u' U id ⟨236,2,[.agg [vI y,vI (max m n)]]⟩:=by
 refine OT.r (by simp[c127]) ?_;apply sR;simp only[go_sem,seval,c127,hid,dd];exact⟨_,_,aa.refl _,Wk.refl (aa.refl _) _,rfl,rfl⟩
def Jc(y m n:Int)(hy:Bq y)(hm:Bq m)(hn:Bq n){U:ag}{id:Nat}(hid:U id=some ⟨236,2,[.agg [vI y,vI m]]⟩):aC prog 128 [.ptr id 0 0,vI n] U λr Z'=>r=.PI []/\Z'=u' U id ⟨236,2,[.agg [vI (if n>0 then y+m+n else y),vI (if n>0 then 0 else m)]]⟩:=by
 obtain⟨g1,g2⟩:=hy;obtain⟨g3,g4⟩:=hm;obtain⟨g5,g6⟩:=hn;refine O0.r (by simp[Hy]) ?_;by_cases h:n>0
 .have q:(n>0)=True:=PK h;rw[aE h,aE h];apply sR;simp only[go_sem,seval,Hy,hid,q];exact⟨ak,ak,_,_,aa.refl _,Wk.refl (aa.refl _) _,rfl,rfl⟩
 .have q:(n>0)=False:=PG h;rw[aF h,aF h];apply sR;simp only[go_sem,seval,Hy,hid,q];exact⟨_,_,aa.refl _,Wk.refl (aa.refl _) _,rfl,(by funext i;simp only[u'];split<;>simp_all)⟩
open Go.Proofs
structure O' where
 (node side anchor x y w h:Int)
deriving DecidableEq
def aS(f:O'):V:=.agg [vI f.node,vI f.side,vI f.anchor,vI f.x,vI f.y,vI f.w,vI f.h]
def aJ(l:List O'):V:=.sl 7 (l.map aS)
def ic(f:O'):V:=.agg [vI f.node,vI f.side,vI f.anchor,vI f.x,vI f.y,vI f.w,vI f.h,vI f.x,vI f.y,vI f.w,vI f.h]
def O'.ok(f:O'):Prop:=Bq f.x/\Bq f.y/\Bq f.w/\Bq f.h
def jX{U:ag}{l:List O'}{i:Nat}(h:i<l.length):bL U 7 (aJ l) (.int .i64 i)=some (.rp (aS l[i])):=by simp[aJ,bL,h]
def gy(l:List O'):dY false (aJ l)=some (.int .i64 l.length):=by simp[aJ,dY]
def JJ(f:O'):aP prog 135 [aS f] (ic f):=λU=>by
 refine O2.r (by simp[Li]) ?_;have hs:=aa.refl U;apply sR;simp only[go_sem,seval,Li,aS];refine ae λi1 Z1 s1 a1 f1=>?_;have z1:=hs.none f1;replace hs:=hs.trans s1;simp only[go_sem,seval,a1];refine ae λi2 Z2 s2 a2 f2=>?_;have ZX:=ao a1 f2;replace a1:=s2 _ _ a1;have z2:=hs.none f2;replace hs:=hs.trans s2;simp only[go_sem,seval,a2,a1];exact au.pure (hs.az z2) rfl
def zI(f:O')(hf:f.ok):aP prog 88 [ic f] (vI (f.y+f.h)):=λU=>by
 refine e88.r (by simp[c88]) ?_;have hs:=aa.refl U;apply sR;simp only[go_sem,seval,c88,ic];refine ae λi1 Z1 s1 a1 f1=>?_;have z1:=hs.none f1;replace hs:=hs.trans s1;simp only[go_sem,seval,a1];refine ad.ay rfl rfl rfl (BI ⟨_,_,_,_⟩ hf.2.1 hf.2.2.2 _) ?_;apply sR;simp only[go_sem,seval,bc];exact au.pure hs rfl
def iz(y high:Int)(f:O'):Bool:=!decide (oN ⟨f.y,f.y+f.h⟩ ⟨y,y+max high 1⟩=⟨0,0⟩)
def IF(f:O')(y high:Int)(hf:f.ok)(hy:Ry y)(hh:Bq high):aP prog 231 [ic f,vI y,vI high] (.bool (iz y high f)):=λU=>by
 obtain⟨g1,g2⟩:=hy;obtain⟨g3,g4⟩:=hh;refine ON.r (by simp[KU]) ?_;have hs:=aa.refl U;refine ad.mix 7 ?_;apply sR;simp only[go_sem,seval,KU,ic];refine ae λi3 Z3 s3 a3 f3=>?_;have z3:=hs.none f3;replace hs:=hs.trans s3;simp only[go_sem,seval,a3];refine ad.ay rfl rfl rfl (BI ⟨_,_,_,_⟩ hf.2.1 hf.2.2.2 _) ?_;apply sR;simp only[go_sem,seval,dd];refine⟨ak,?_⟩;refine ad.ay rfl rfl rfl (H8 ⟨_,_⟩ ⟨_,_⟩ _) ?_;apply sR;simp only[go_sem,seval];rw[show max high 1=max 1 high by omega];exact au.pure hs (by simp[iz,Int.max_comm])
def jV(f:O')(s:QL):QL:=if f.side=1 then⟨max s.a (f.x+f.w),s.b⟩else⟨s.a,min s.b f.x⟩
def Jf(f:O')(s:QL)(hf:f.ok):aP prog 183 [ic f,bc s] (bc (jV f s)):=λU=>by
 refine OA.r (by simp[c183]) ?_;have hs:=aa.refl U;refine ad.mix 6 ?_;apply sR;simp only[go_sem,seval,c183,ic,bc];refine ae λi2 Z2 s2 a2 f2=>?_;have z2:=hs.none f2;replace hs:=hs.trans s2;simp only[go_sem,seval,a2];refine ae λi3 Z3 s3 a3 f3=>?_;have n23:=ao a2 f3;replace a2:=s3 _ _ a2;have z3:=hs.none f3;replace hs:=hs.trans s3;simp only[go_sem,seval,a3,a2];refine ae λi4 Z4 s4 a4 f4=>?_;have n24:=ao a2 f4;replace a2:=s4 _ _ a2;have YN:=ao a3 f4;replace a3:=s4 _ _ a3;have z4:=hs.none f4;replace hs:=hs.trans s4;simp only[go_sem,seval,a4,a3,a2];refine ad.ay rfl rfl rfl (Ft ⟨_,_,_,_⟩ hf.1 hf.2.2.1 _) ?_;apply sR;simp only[go_sem,seval,bc];refine ae λi5 Z5 s5 a5 f5=>?_;have VF:=ao a2 f5;replace a2:=s5 _ _ a2;have Xp:=ao a3 f5;replace a3:=s5 _ _ a3;have R0:=ao a4 f5;replace a4:=s5 _ _ a4;have z5:=hs.none f5;replace hs:=hs.trans s5;unfold jV;by_cases h:f.side=1
 .have q:(f.side=1)=True:=PK h;rw[aE h];simp only[go_sem,seval,a5,a4,a3,a2,q,dd,eW,ab VF,ab Xp,ab R0,ab YN.symm,ab Xp.symm,ab n24,ab YN,ab R0.symm];exact au.pure (((hs.az z5).az z3).az z4) rfl
 .have q:(f.side=1)=False:=PG h;rw[aF h];simp only[go_sem,seval,a5,a4,a3,a2,q,dd,eW,ab VF,ab Xp,ab R0,ab YN.symm,ab Xp.symm,ab n24,ab YN,ab R0.symm];exact au.pure (((hs.az z5).az z3).az z4) rfl
open Go.Proofs
def A3{α:Type}(p:α->Bool)(l:List α){i:Nat}(h:i<l.length):(l.take (i+1)).filter p=(l.take i).filter p++if p l[i]then[l[i]]else[]:=by
 rw[SO h,List.filter_append];cases hp:p l[i]<;>simp[hp]
def JA(l:List O')(y high:Int)(hl:l.length<=1000000)(P4:∀f∈l,f.ok)(hy:Ry y)(hh:Bq high)(g:FuncId)(caps:List V)(τ:List O'->ag->Prop)
 (hJ:∀pre U Z',τ pre U->aa U Z'->τ pre Z')
 (hg:∀pre f U,f∈l->τ pre U->aC prog g (ic f::caps) U λr Z'=>r=.PI []/\τ (pre++[f]) Z'){U:ag}(h0:τ [] U):
 aC prog 181 [aJ l,vI y,vI high,.fn g caps] U λr Z'=>r=.PI []/\τ (l.filter (iz y high)) Z':=by
 refine OG.r (by simp[Ko]) ?_;refine ad.mix 14 ?_;apply sR;simp only[go_sem,seval,Ko,gy];refine ad.loop (λm st=>∃i:Nat,i<=l.length/\m=l.length-i/\τ ((l.take i).filter (iz y high)) st.U/\st.s 1=vI y/\st.s 2=vI high/\st.s 3=.fn g caps/\st.s 11=aJ l/\st.s 12=vI l.length/\st.s 13=vI i) l.length ?_ ?_
 .exact⟨0,by omega,rfl,h0,rfl,rfl,rfl,rfl,rfl,rfl⟩
 .rintro m ⟨s,Z'⟩ ⟨i,hi,rfl,hj,k1,k2,k3,ZY,R9,SU⟩;simp only at hj k1 k2 k3 ZY R9 SU;refine ad.mix 14 ?_;by_cases C':i<l.length
  .have q:((i:Int)<l.length)=True:=PK;have Vr:=λU=>jX (U:=U) C';have TE:=QF C';have hfok:=P4 _ TE;have Qn:=A3 (iz y high) l C';generalize l[i]=f at*;have hs:=aa.refl Z';apply sR;simp only[go_sem,seval,k1,k2,k3,ZY,R9,SU,q,Vr,aS];refine ae λi9 Z9 s9 a9 f9=>?_;have z9:=hs.none f9;replace hs:=hs.trans s9;simp only[go_sem,seval,a9,k1,k2,k3,ZY,R9,SU];generalize QX:u' _ i9 _=Y9;replace a9:=(congrFun QX i9).symm.trans af;replace hs:=Eq.subst (motive:=aa _) QX (hs.az z9);clear QX;refine ad.ay rfl rfl rfl (JJ f _) ?_;apply sR;simp only[go_sem,seval,ic];refine ae λi10 V7 Sj Qq f10=>?_;have YU:=ao a9 f10;replace a9:=Sj _ _ a9;have UO:=hs.none f10;replace hs:=hs.trans Sj;simp only[go_sem,seval,Qq,k1,k2,k3,ZY,R9,SU];generalize SG:u' _ i10 _=Y10;replace Qq:=(congrFun SG i10).symm.trans af;replace a9:=((congrFun SG i9).symm.trans (ab YU)).trans a9;replace hs:=Eq.subst (motive:=aa _) SG (hs.az UO);clear SG;refine ad.ay rfl rfl rfl (IF f y high hfok hy hh _) ?_;cases hm:iz y high f
   .rw[hm]at Qn;apply sR;simp only[go_sem,seval,k1,k2,k3,ZY,R9,SU];refine⟨ak,_,by omega,i+1,by omega,rfl,?_,by simp[k1,k2,k3,ZY,R9]⟩;rw[Qn];simpa using hJ _ _ _ hj hs
   .rw[hm]at Qn;apply sR;simp only[go_sem,seval,Qq,k1,k2,k3,ZY,R9,SU];refine ad.call rfl rfl rfl (hg _ f _ TE (hJ _ _ _ hj hs)) ?_;rintro r Z2 ⟨rfl,hj2⟩;apply sR;simp only[go_sem,seval,k1,k2,k3,ZY,R9,SU];refine⟨ak,_,by omega,i+1,by omega,rfl,?_,by simp[k1,k2,k3,ZY,R9]⟩;rw[Qn];simpa using hj2
  .have q:((i:Int)<l.length)=False:=PG;apply sR;simp only[go_sem,seval,k1,k2,k3,ZY,R9,SU,q];obtain rfl:i=l.length:=by omega
   rw[hU]at hj;exact⟨_,_,aa.refl _,Wk.refl (aa.refl _) _,rfl,hj⟩
def dQ(l:List O')(y high:Int)(s:QL):QL:=(l.filter (iz y high)).foldl (λs f=>jV f s) s
def My{id:Nat}(f:O')(s:QL)(hf:f.ok){U:ag}(hid:U id=some ⟨180,2,[bc s]⟩):aC prog 233 [ic f,.ptr id 0 0] U λr Z'=>r=.PI []/\∃Z1,aa U Z1/\Z'=u' Z1 id ⟨180,2,[bc (jV f s)]⟩:=by
 refine Pd.r (by simp[c233]) ?_;have hs:=aa.refl U;have a1:=hid;rw[bc]at a1;apply sR;simp only[go_sem,seval,c233,ic];refine ae λi2 Z2 s2 a2 f2=>?_;have n2:=ao a1 f2;replace a1:=s2 _ _ a1;simp only[go_sem,seval,a2,a1];refine ad.ay rfl rfl rfl (Jf f s hf _) ?_;apply sR;simp only[go_sem,seval,a1,bc];exact⟨_,_,aa.refl _,Wk.refl (aa.refl _) _,rfl,Z2,s2,rfl⟩
def B9(l:List O')(y high:Int)(s:QL)(hl:l.length<=1000000)(P4:∀f∈l,f.ok)(hy:Ry y)(hh:Bq high):aP prog 184 [aJ l,vI y,vI high,bc s] (bc (dQ l y high s)):=λU=>by
 refine Ny.r (by simp[Lc]) ?_;have hs:=aa.refl U;refine ad.mix 10 ?_;apply sR;simp only[go_sem,seval,Lc,bc];refine ae λi7 Z7 s7 a7 f7=>?_;have z7:=hs.none f7;replace hs:=hs.trans s7;simp only[go_sem,seval,a7];refine ae λi8 Z8 s8 a8 f8=>?_;have V8:=ao a7 f8;replace a7:=s8 _ _ a7;have z8:=hs.none f8;replace hs:=hs.trans s8;simp only[go_sem,seval,a8,a7];refine ae λi9 Z9 s9 a9 f9=>?_;have n79:=ao a7 f9;replace a7:=s9 _ _ a7;have Wu:=ao a8 f9;replace a8:=s9 _ _ a8;have z9:=hs.none f9;replace hs:=hs.trans s9;simp only[go_sem,seval,a9,a8,a7,ab n79,ab Wu];generalize QX:u' _ i9 _=Y9;replace a9:=(congrFun QX i9).symm.trans af;replace a7:=((congrFun QX i7).symm.trans (ab n79)).trans a7;replace a8:=((congrFun QX i8).symm.trans (ab Wu)).trans a8;replace hs:=Eq.subst (motive:=aa _) QX (hs.az z9);clear QX;refine ad.call rfl rfl rfl (JA l y high hl P4 hy hh 233 [.ptr i9 0 0] (λpre J=>J i9=some ⟨180,2,[bc (pre.foldl (λs f=>jV f s) s)]⟩/\J i8=some ⟨180,2,[.agg [vI 0,vI 0]]⟩/\aa U J) ?_ ?_ ⟨a9,a8,hs⟩) ?_
 .rintro pre J X' ⟨h1,h2,h4⟩ h5;exact⟨h5 _ _ h1,h5 _ _ h2,h4.trans h5⟩
 .rintro pre f J hf ⟨h1,h2,h4⟩;refine(My f _ (P4 f hf) h1).mono ?_;rintro r X' ⟨rfl,Y1,h5,rfl⟩;refine⟨rfl,?_,by rw[ab Wu];exact h5 _ _ h2,(h4.trans h5).az z9⟩;rw[af,ov];rfl
 .rintro r J ⟨rfl,h1,h2,h4⟩;have ZI:bc (List.foldl (λs f=>jV f s) s (List.filter (iz y high) l))=.agg [vI (dQ l y high s).a,vI (dQ l y high s).b]:=rfl;rw[ZI]at h1;apply sR;simp only[go_sem,seval,h1,h2];exact au.pure (h4.az z8) rfl
open Go.Proofs
def jE(s:QL)(a:Int×Bool)(f:O'):Int×Bool:=if jV f s=s\/(a.2=true/\f.y+f.h>=a.1)then a else(f.y+f.h,true)
def gu(l:List O')(y high:Int)(s:QL):Int×Bool:=(l.filter (iz y high)).foldl (jE s) (0,false)
def Ih{i1 i2 i3:Nat}(f:O')(s:QL)(a:Int×Bool)(hf:f.ok)(h12:i1≠i2)(YS:i1≠i3)(h23:i2≠i3){U:ag}(q1:U i1=some ⟨180,2,[bc s]⟩)(q2:U i2=some ⟨4,1,[.bool a.2]⟩)(q3:U i3=some ⟨3,1,[vI a.1]⟩):
 aC prog 182 [ic f,.ptr i1 0 0,.ptr i2 0 0,.ptr i3 0 0] U λr Z'=>r=.PI []/\∃Z1,aa U Z1/\Z'=u' (u' Z1 i3 ⟨3,1,[vI (jE s a f).1]⟩) i2 ⟨4,1,[.bool (jE s a f).2]⟩:=by
 refine PF.r (by simp[c182]) ?_;refine ad.mix 5 ?_;obtain⟨u,v⟩:=a;simp only at q2 q3;apply sR;simp only[go_sem,seval,c182,ic];refine ae λi4 Z4 s4 a4 f4=>?_;have n1:=ao q1 f4;have n2:=ao q2 f4;have n3:=ao q3 f4;replace q1:=s4 _ _ q1;replace q2:=s4 _ _ q2;replace q3:=s4 _ _ q3;have YV:=Jf f s hf;have hbot:=zI f hf;obtain⟨s1,s2⟩:=s;rw[bc]at q1;simp only[go_sem,seval,a4,q1,q2,q3];refine Go.cN rfl rfl rfl YV ?_;unfold jE;generalize jV f ⟨s1,s2⟩=c;obtain⟨c1,c2⟩:=c;have same:∀Z':ag,Z'=Z4->u' (u' Z' i3 ⟨3,1,[vI u]⟩) i2 ⟨4,1,[.bool v]⟩=Z4:=λZ' e=>by
  subst e;rw[nq q3,nq q2]
 by_cases hc:c1=s1/\c2=s2
 .obtain⟨rfl,rfl⟩:=hc;apply sG;simp only[go_sem,seval,q1,bc];refine⟨_,_,aa.refl _,Wk.refl (aa.refl _) _,rfl,Z4,s4,?_⟩;rw[aE (by simp),same _ rfl]
 .have hd:(decide (c1=s1)&&decide (c2=s2))=false:=by
   by_cases h1:c1=s1<;>by_cases h2:c2=s2<;>simp_all
  have PZ:¬(⟨c1,c2⟩:QL)=⟨s1,s2⟩:=by simpa using hc
  cases v
  .rw[aF (by simp[PZ])];apply sG;simp only[go_sem,seval,q1,q2,a4,bc,hd];refine ad.ay rfl rfl rfl (hbot _) ?_;apply sR;simp only[go_sem,seval,q2,q3,ab h23,a4];exact⟨_,_,aa.refl _,Wk.refl (aa.refl _) _,rfl,Z4,s4,rfl⟩
  .apply sG;simp only[go_sem,seval,q1,q2,a4,bc,hd];refine Go.cN rfl rfl rfl hbot ?_;by_cases hb:f.y+f.h>=u
   .have q:(f.y+f.h>=u)=True:=PK hb;apply sG;simp only[go_sem,seval,q3,q];refine⟨_,_,aa.refl _,Wk.refl (aa.refl _) _,rfl,Z4,s4,?_⟩;rw[aE (.inr (by first|exact hb|exact⟨rfl,hb⟩|simp[hb])),same _ rfl]
   .have q:(f.y+f.h>=u)=False:=PG hb;rw[aF (by simp[PZ];omega)];apply sG;simp only[go_sem,seval,q3,a4,q];refine ad.ay rfl rfl rfl (hbot _) ?_;apply sR;simp only[go_sem,seval,q2,q3,ab h23,a4];exact⟨_,_,aa.refl _,Wk.refl (aa.refl _) _,rfl,Z4,s4,rfl⟩
def FE(l:List O')(y high:Int)(s:QL)(hl:l.length<=1000000)(P4:∀f∈l,f.ok)(hy:Ry y)(hh:Bq high):aP prog 132 [aJ l,vI y,vI high,bc s] (.PI [vI (gu l y high s).1,.bool (gu l y high s).2]):=λU=>by
 refine OC.r (by simp[Lg]) ?_;have hs:=aa.refl U;refine ad.mix 12 ?_;apply sR;simp only[go_sem,seval,Lg,bc];refine ae λi7 Z7 s7 a7 f7=>?_;have z7:=hs.none f7;replace hs:=hs.trans s7;simp only[go_sem,seval,a7];refine ae λi10 V7 Sj Qq f10=>?_;have XV:=ao a7 f10;replace a7:=Sj _ _ a7;have UO:=hs.none f10;replace hs:=hs.trans Sj;simp only[go_sem,seval,Qq,a7];refine ae λi11 Xq TK Qt f11=>?_;have n711:=ao a7 f11;replace a7:=TK _ _ a7;have Q5:=ao Qq f11;replace Qq:=TK _ _ Qq;have Wv:=hs.none f11;replace hs:=hs.trans TK;simp only[go_sem,seval,Qt,Qq,a7,ab n711,ab Q5,ab XV,ab Q5.symm];rw[wJ Q5,nq Qt,nq Qq];refine ad.call rfl rfl rfl (JA l y high hl P4 hy hh 182 [.ptr i7 0 0,.ptr i11 0 0,.ptr i10 0 0] (λpre J=>J i7=some ⟨180,2,[bc s]⟩/\J i11=some ⟨4,1,[.bool (pre.foldl (jE s) (0,false)).2]⟩/\
  J i10=some ⟨3,1,[vI (pre.foldl (jE s) (0,false)).1]⟩/\aa U J) ?_ ?_ ⟨a7,Qt,Qq,hs⟩) ?_
 .rintro pre J X' ⟨h1,h2,h3,h4⟩ h5;exact⟨h5 _ _ h1,h5 _ _ h2,h5 _ _ h3,h4.trans h5⟩
 .rintro pre f J hf ⟨h1,h2,h3,h4⟩;refine(Ih f s _ (P4 f hf) n711 XV Q5.symm h1 h2 h3).mono ?_;rintro r X' ⟨rfl,Y1,h5,rfl⟩;refine⟨rfl,?_,?_,?_,((h4.trans h5).az UO).az Wv⟩
  .rw[ab n711,ab XV];exact h5 _ _ h1
  .rw[af,ov];rfl
  .rw[ab Q5,af,ov];rfl
 .rintro r J ⟨rfl,h1,h2,h3,h4⟩;apply sR;simp only[go_sem,seval,h2,h3];exact au.pure h4 rfl
def uE(tell:O'->Int×Bool)(a:Int×Bool)(f:O'):Int×Bool:=if(tell f).2=true/\(a.2=false\/(tell f).1>a.1)then((tell f).1,true)else a
def dV(tell:O'->Int×Bool)(l:List O'):Int×Bool:=l.foldl (uE tell) (0,false)
def F7(l:List O')(hl:l.length<=1000000)(g:FuncId)(caps:List V)(tell:O'->Int×Bool)(μ:ag->Prop)(hI:∀U Z',μ U->aa U Z'->μ Z')
 (hg:∀f U,f∈l->μ U->aC prog g (ic f::caps) U λr Z'=>r=.PI [vI (tell f).1,.bool (tell f).2]/\Z'=U){U:ag}(h0:μ U):
 aC prog 86 [aJ l,.fn g caps] U λr Z'=>r=.PI [vI (dV tell l).1,.bool (dV tell l).2]/\Z'=U:=by
 refine e86.r (by simp[c86]) ?_;refine ad.mix 15 ?_;apply sR;simp only[go_sem,seval,c86,gy];refine ad.loop (λm st=>∃i:Nat,i<=l.length/\m=l.length-i/\aa U st.U/\st.s 1=.fn g caps/\st.s 6=vI (dV tell (l.take i)).1/\st.s 7=.bool (dV tell (l.take i)).2/\st.s 12=aJ l/\st.s 13=vI l.length/\st.s 14=vI i) l.length ?_ ?_
 .exact⟨0,by omega,rfl,aa.refl _,rfl,rfl,rfl,rfl,rfl,rfl⟩
 .rintro m ⟨s,Z'⟩ ⟨i,hi,rfl,hs,k1,k6,k7,R9,SU,V9⟩;simp only at hs k1 k6 k7 R9 SU V9;refine ad.mix 15 ?_;by_cases C':i<l.length
  .have q:((i:Int)<l.length)=True:=PK;have Vr:=λU=>jX (U:=U) C';have TE:=QF C';have Qn:dV tell (l.take (i+1))=uE tell (dV tell (l.take i)) l[i]:=by
    rw[SO C',dV,ov];rfl
   generalize l[i]=f at*;generalize dV tell (l.take i)=a at*;obtain⟨u,v⟩:=a;simp only at k6 k7;apply sR;simp only[go_sem,seval,k1,k6,k7,R9,SU,V9,q,Vr,aS];refine ae λi9 Z9 s9 a9 f9=>?_;have z9:=hs.none f9;replace hs:=hs.trans s9;simp only[go_sem,seval,a9,k1,k6,k7,R9,SU,V9];generalize QX:u' _ i9 _=Y9;replace a9:=(congrFun QX i9).symm.trans af;replace hs:=Eq.subst (motive:=aa _) QX (hs.az z9);clear QX;refine ad.ay rfl rfl rfl (JJ f _) ?_;apply sR;simp only[go_sem,seval,k1,k6,k7,R9,SU,V9];refine ad.ay rfl rfl rfl (hg f _ TE (hI _ _ h0 hs)) ?_;have r1:PM .i64 ((i:Int)+1):=ak;unfold uE at Qn;generalize tell f=t at*;obtain⟨x,is⟩:=t;simp only at Qn;cases is
   .rw[aF (by simp)]at Qn;apply sR;simp only[go_sem,seval,k1,k6,k7,R9,SU,V9,r1];exact⟨_,by omega,i+1,by omega,rfl,hs,by simp[k1,k6,k7,R9,SU,Qn]⟩
   .cases v
    .rw[aE (by simp)]at Qn;apply sR;simp only[go_sem,seval,k1,k6,k7,R9,SU,V9,r1];exact⟨_,by omega,i+1,by omega,rfl,hs,by simp[k1,R9,SU,Qn]⟩
    .by_cases hb:x>u
     .have q2:(x>u)=True:=PK hb;rw[aE ⟨rfl,.inr hb⟩]at Qn;apply sR;simp only[go_sem,seval,k1,k6,k7,R9,SU,V9,r1,q2];exact⟨_,by omega,i+1,by omega,rfl,hs,by simp[k1,R9,SU,Qn]⟩
     .have q2:(x>u)=False:=PG hb;rw[aF (by simp[hb])]at Qn;apply sR;simp only[go_sem,seval,k1,k6,k7,R9,SU,V9,r1,q2];exact⟨_,by omega,i+1,by omega,rfl,hs,by simp[k1,k6,k7,R9,SU,Qn]⟩
  .have q:((i:Int)<l.length)=False:=PG;obtain rfl:i=l.length:=by omega
   rw[hU]at k6 k7;apply sR;simp only[go_sem,seval,k1,k6,k7,R9,SU,V9,q];exact au.pure hs rfl
def N4(a b:Int):Int:=IntKind.i64.wrap (BitVec.ofInt IntKind.i64.bits a &&& BitVec.ofInt IntKind.i64.bits b).toNat
def lU(Sp:Int)(f:O'):Int×Bool:=(f.y+f.h,decide (N4 f.side Sp≠0))
def Lu{i:Nat}(f:O')(Sp:Int)(hf:f.ok){U:ag}(q:U i=some ⟨3,1,[vI Sp]⟩):aC prog 87 [ic f,.ptr i 0 0] U λr Z'=>r=.PI [vI (lU Sp f).1,.bool (lU Sp f).2]/\Z'=U:=by
 refine e87.r (by simp[c87]) ?_;refine ad.mix 5 ?_;have hs:=aa.refl U;apply sR;simp only[go_sem,seval,c87,ic];refine ae λi2 Z2 s2 a2 f2=>?_;have z2:=hs.none f2;replace hs:=hs.trans s2;replace q:=s2 _ _ q;simp only[go_sem,seval,a2,q];refine Go.cN rfl rfl rfl (zI f hf) ?_;apply sG;simp only[go_sem,seval,a2,q];exact au.pure hs rfl
def zF(l:List O')(Sp:Int)(hl:l.length<=1000000)(P4:∀f∈l,f.ok):aP prog 52 [aJ l,vI Sp] (.PI [vI (dV (lU Sp) l).1,.bool (dV (lU Sp) l).2]):=λU=>by
 refine e52.r (by simp[c52]) ?_;refine ad.mix 6 ?_;have hs:=aa.refl U;apply sR;simp only[go_sem,seval,c52];refine ae λi3 Z3 s3 a3 f3=>?_;have z3:=hs.none f3;replace hs:=hs.trans s3;simp only[go_sem,seval,a3];refine ad.ay rfl rfl rfl (F7 l hl 87 [.ptr i3 0 0] (lU Sp) (λJ=>J i3=some ⟨3,1,[vI Sp]⟩) (λ_ _ h h'=>h' _ _ h) (λf J hf h=>Lu f Sp (P4 f hf) h) a3) ?_;apply sR;simp only[go_sem,seval];exact au.pure hs rfl
def uT(f:O'):Int×Bool:=(f.y,true)
def Kx(f:O')(hf:f.ok):aP prog 234 [ic f] (.PI [vI (uT f).1,.bool (uT f).2]):=λU=>by
 refine OU.r (by simp[c234]) ?_;refine ad.mix 4 ?_;have hs:=aa.refl U;apply sR;simp only[go_sem,seval,c234,ic];refine ae λi1 Z1 s1 a1 f1=>?_;have z1:=hs.none f1;replace hs:=hs.trans s1;simp only[go_sem,seval,a1];refine ad.ay rfl rfl rfl (BI ⟨_,_,_,_⟩ hf.2.1 hf.2.2.2 _) ?_;apply sR;simp only[go_sem,seval,bc];exact au.pure hs rfl
def MB(l:List O')(hl:l.length<=1000000)(P4:∀f∈l,f.ok):aP prog 185 [aJ l] (.PI [vI (dV uT l).1,.bool (dV uT l).2]):=λU=>by
 refine Pa.r (by simp[KV]) ?_;refine ad.mix 4 ?_;apply sR;simp only[go_sem,seval,KV];refine ad.ay rfl rfl rfl (F7 l hl 234 [] uT (λ_=>True) (λ_ _ h _=>h) (λf J hf _=>Kx f (P4 f hf) J) trivial) ?_;apply sR;simp only[go_sem,seval];exact au.same rfl
open Go.RowKit
variable {P:Program} {n:Nat} {st:St} {Q:St->Prop} {k:List It} {I:Mu} {w:World}
def A9{t kt e:TypeId}(h:wU P t=some (kt,e)):P.underlying t=some (.map kt e):=by
 unfold wU at h;split at h
 .rename_i k' e' ht;split at h
  .simp only[bb,Prod.mk.injEq]at h;obtain⟨rfl,rfl⟩:=h;exact ht
  .cases h
 .cases h
def DC{o:Op}{kt:TypeId}{xs:List VX}{ok:Bool}{zv:V}(h:PO P n o=.more (.VO kt ok zv) xs):∃t x y e i z,o=.lookup t x y ok/\wU P t=some (kt,e)/\zeroOf P e=some (i,z)/\zv=ofValue z/\xs=[cx n x,cx n y]:=by
 cases o
 case lookup t x y ok'=>
  simp only[PO]at h;split at h
  .split at h<;>cases h
  .split at h
   .rename_i k' e he;split at h
    .rename_i i z hz;simp only[Qc.more.injEq,MOp.VO.injEq]at h;obtain⟨⟨rfl,rfl,rfl⟩,rfl⟩:=h;exact⟨t,x,y,e,i,z,rfl,he,hz,rfl,rfl⟩
    .cases h
   .cases h
 case call c=>
  obtain⟨callee,args,argTypes⟩:=c;cases callee
  case value=>simp[PO]at h
  case invoke r name=>simp[PO]at h
  case builtin b=>cases b<;>(simp only[PO,bE]at h;(repeat' split at h)<;>cases h)
 case unOp op t x=>cases op<;>simp only[PO,bE]at h<;>cases h
 case makeFunc f a b=>cases f<;>simp only[PO,bE]at h<;>(repeat' split at h)<;>cases h
 all_goals (simp only[PO,bE]at h;(repeat' split at h)<;>cases h)
def assoc{κ:Type}[DecidableEq κ](a:κ):List κ->List V->Option V
 |x::ks,v::vs=>if x=a then some v else assoc a ks vs
 |_,_=>none
def tV{κ:Type}[DecidableEq κ]{a:κ}:∀{ks:List κ} {vs:List V},a∉ks->assoc a ks vs=none
 |[],_,_=>by simp[assoc]
 |x::ks,[],_=>by simp[assoc]
 |x::ks,v::vs,h=>by
  rw[assoc,aF (λe=>h (by simp[e]))];exact tV λg=>h (by simp[g])
def qc{κ:Type}[DecidableEq κ]{a:κ}:∀{ks:List κ} {vs:List V} {j:Nat},ks.Nodup->ks[j]?=some a->ks.length=vs.length->assoc a ks vs=vs[j]?
 |[],_,j,_,h,_=>by simp at h
 |x::ks,[],j,_,_,hl=>by simp at hl
 |x::ks,v::vs,0,_,h,_=>by
  simp only[EE,bb]at h;rw[assoc,aE h];rfl
 |x::ks,v::vs,j+1,hn,h,hl=>by
  rw[Du]at h;have hm:=oe h;have hxa:x≠a:=λe=>(List.nodup_cons.1 hn).1 (by rw[e];exact hm);rw[assoc,aF hxa,Du];exact qc (List.nodup_cons.1 hn).2 h (by simpa using hl)
def Mw{κ:Type}[DecidableEq κ](kv:κ->Value)(U:ag)(id:Nat)(g:κ->Option V):Prop:=
 ∃(es:Array MapEntry) (clock:Nat) (ks:List κ) (env:List V),U id=some (gh (.map es clock) env)/\es.toList.map (·.key)=ks.map kv/\ks.length=env.length/\ks.Nodup/\∀a,assoc a ks env=g a
def Fc{κ:Type}[DecidableEq κ]{kv:κ->Value}(hinj:∀a b,kv a=kv b->a=b){kt:TypeId}(WV:WideMaps.KeyLaw P kt){es:List MapEntry}{ks:List κ}(he:es.map (·.key)=ks.map kv)
 (hko:∀a∈ks,∃l,keyOf P kt (kv a)=some l){a:κ}(ha:∃l,keyOf P kt (kv a)=some l)(w:World):
 ((Instr.findKey kt (kv a) es).run P w=.ok none w/\a∉ks)\/∃j e,(Instr.findKey kt (kv a) es).run P w=.ok (some (j,e.val)) w/\es[j]?=some e/\e.key=kv a/\ks[j]?=some a:=by
 obtain⟨l,hl⟩:=ha;have Qa:∀e∈es,∃l,keyOf P kt e.key=some l:=λe hm=>by
  have:e.key∈ks.map kv:=he▸List.mem_map_of_mem hm;obtain⟨b,hb,Xr⟩:=eI.1 this;rw[<-Xr];exact hko b hb
 rcases WV.find w hl es Qa with⟨h1,h2⟩|⟨j,e,h1,h2,h3⟩
 .refine .inl ⟨h1,λhm=>?_⟩;have:kv a∈es.map (·.key):=he▸List.mem_map_of_mem hm;obtain⟨e,hem,hee⟩:=eI.1 this;exact h2 e hem hee
 .refine .inr ⟨j,e,h1,h2,h3,?_⟩;have h4:(es.map (·.key))[j]?=some e.key:=by rw[l3,h2];rfl
  rw[he,l3]at h4;cases hk:ks[j]? with
  |none=>rw[hk]at h4;cases h4
  |some b=>
   rw[hk]at h4;simp only[Option.map_some,bb]at h4;rw[hinj b a (h4.trans h3)]
structure JL{κ:Type}(P:Program)(kt:TypeId)(kv:κ->Value)(kV:κ->V):Prop where
 inj:∀a b,kv a=kv b->a=b
 law:WideMaps.KeyLaw P kt
 key:∀b,∃l,keyOf P kt (kv b)=some l
 rep:∀(a:κ) (I:Mu) (ow:Nat->Prop) (w:World) (X:Value),A' I ow w (kV a) X->X=kv a
def EL{κ:Type}[DecidableEq κ]{kv:κ->Value}{kV:κ->V}{i:aG}{xm xk:VX}{kt:TypeId}{ok:Bool}{zv:V}(ho:i.op=.more (.VO kt ok zv) [xm,xk]){id:Nat}{g:κ->Option V}{a:κ}
 (hK:JL P kt kv kV)(hm:xm.ev st.s=.mp id)(Te:Mw kv st.U id g)(hk:xk.ev st.s=kV a){K:St->Prop}
 (h:K ⟨aW st.s i.dst (if ok then .PI [(g a).getD zv,.bool (g a).isSome]else(g a).getD zv),st.U⟩):
 ∀(F:Fr),F.n=n->∀(I:Mu) (a:Act) (w:World) (o:Oper) (all:Array Oper),cq P n all o=i->cI F I st a w->
  ∀(next:Act->World->Prop) (Q':Exit->Act->World->Prop),(∀SB a' w',eH F SB a' w'->K SB->next a' w')->o.wp P a w next Q':=by
 intro F hn I ac w o all hi hs next Q' M'
 obtain⟨hinj,WV,hko,QR⟩:=hK;replace QR:=QR a;replace hko:∀b,(b=a\/g b≠none)->∃l,keyOf P kt (kv b)=some l:=λb _=>hko b;subst hn;obtain⟨PL,hd⟩:=cC hi;rw[ho]at PL;obtain⟨t,x,y,e,ti,z,g1,g2,g3,rfl,g4⟩:=DC PL;simp only[List.cons.injEq,and_true]at g4;obtain⟨rfl,rfl⟩:=g4;have u1:=A9 g2;obtain⟨es,clock,ks,env,P3,he,hlen,Q8,QG⟩:=Te;have hr:=bK hs x;have WW:=bK hs y;rw[hm]at hr;rw[hk]at WW;have WW:=QR _ _ _ _ WW;simp only[A']at hr;have YI:∀b∈ks,∃l,keyOf P kt (kv b)=some l:=λb hb=>by
  obtain⟨j,hj⟩:=IY hb;refine hko b (.inr ?_);rw[<-QG b,qc Q8 hj hlen];have:j<env.length:=by rw[<-hlen];exact(mL.1 hj).1
  rw[SQ this];simp
 have hka:=hko a (.inl rfl);obtain⟨la,Tq⟩:=hka;split at hr
 .rename_i b cap hid;obtain⟨QK,RV⟩:=hs.sat.tO P3 hid;simp only[tmpsOf]at RV;rcases Fc hinj WV he YI ⟨la,Tq⟩ w with⟨q1,q2⟩|⟨j,en,q1,q2,q3,q4⟩
  .have hga:g a=none:=by rw[<-QG a,tV q2]
   rw[hga]at h;have PY:(Instr.lookup t (ac.eval x) (ac.eval y) ok).run P w=.ok (if ok then .tuple #[z,.bool false]else z) w:=by
    simp[Instr.lookup,run_underlying u1,hr,WW,kO QK,WV.check w _ Tq,q1,dn g3]
   have hx:(execOp ac.eval o).run P w=.ok (.value (if ok then .tuple #[z,.bool false]else z)) w:=by
    unfold execOp;rw[g1];simp[PY]
   unfold Oper.wp;rw[hx];refine M' _ _ _ ⟨I,?_⟩ h;rw[<-hd];have hz:A' I (aB I st.U) w (ofValue z) z:=j9 z;refine hs.pure ?_;cases ok
   .simpa using hz
   .simp only[if_true,Option.getD_none,Option.isSome_none,A'];exact⟨_,rfl,by simp only[aq,A'];exact⟨_,_,rfl,hz,_,_,rfl,rfl,rfl⟩⟩
  .have Tr:j<env.length:=by rw[<-hlen];exact(mL.1 q4).1
   have hga:g a=some env[j]:=by rw[<-QG a,qc Q8 q4 hlen,SQ Tr]
   rw[hga]at h;have hv:A' I (aB I st.U) w env[j] en.val:=by
    obtain⟨x',P7,XH⟩:=RV.get (i:=j) (by rw[SQ Tr]);rw[l3,q2]at P7;simp at P7;subst P7;exact XH
   have PY:(Instr.lookup t (ac.eval x) (ac.eval y) ok).run P w=.ok (if ok then .tuple #[en.val,.bool true]else en.val) w:=by
    simp[Instr.lookup,run_underlying u1,hr,WW,kO QK,WV.check w _ Tq,q1]
   have hx:(execOp ac.eval o).run P w=.ok (.value (if ok then .tuple #[en.val,.bool true]else en.val)) w:=by
    unfold execOp;rw[g1];simp[PY]
   unfold Oper.wp;rw[hx];refine M' _ _ _ ⟨I,?_⟩ h;rw[<-hd];refine hs.pure ?_;cases ok
   .simpa using hv
   .simp only[if_true,Option.getD_some,Option.isSome_some,A'];exact⟨_,rfl,by simp only[aq,A'];exact⟨_,_,rfl,hv,_,_,rfl,rfl,rfl⟩⟩
 .exact hr.elim
def Nl(P:Program)(kt:TypeId)(ok:Bool)(zv m k:V)(U:ag)(v:V):Prop:=∃(κ:Type) (_:DecidableEq κ) (kv:κ->Value) (kV:κ->V) (id:Nat) (g:κ->Option V) (a:κ),
 JL P kt kv kV/\m=.mp id/\Mw kv U id g/\k=kV a/\v=if ok then .PI [(g a).getD zv,.bool (g a).isSome]else(g a).getD zv
def FQ{i:aG}{xs:List VX}(ho:i.op=.more .mkMap xs){K:St->Prop}(h:∀id,st.U id=none->K ⟨aW st.s i.dst (.mp id),u' st.U id (gh (.map #[] 0) [])⟩):
 ∀(F:Fr),F.n=n->∀(I:Mu) (a:Act) (w:World) (o:Oper) (all:Array Oper),cq P n all o=i->cI F I st a w->
  ∀(next:Act->World->Prop) (Q':Exit->Act->World->Prop),(∀SB a' w',eH F SB a' w'->K SB->next a' w')->o.wp P a w next Q':=by
 intro F hn I a w o all hi hs next Q' M'
 subst hn;obtain⟨PL,hd⟩:=cC hi;rw[ho]at PL;obtain⟨t,h1,_⟩:=vL PL;obtain⟨id,hid,Y',g1,g2,g3,g4⟩:=hs.sat.HO (.map #[] 0) [] (by simp[aq,tmpsOf]);have PY:(execOp a.eval o).run P w=.ok (.value (.map (some w.heap.size))) (w.alloc (.map #[] 0)):=by
  unfold execOp;rw[h1];simp[Instr.makeMap]
  all_goals rfl
 unfold Oper.wp;rw[PY];refine M' _ _ _ ⟨Y',?_⟩ (h id hid);rw[<-hd];exact hs.step g3 g2 g4 (by simp) (by simp[A',g1])
variable {P:Program} {n:Nat} {st:St} {Q:St->Prop} {k:List It}
def TC(P:Program)(i:aG)(x:St)(K:St->Prop):Prop:=T P i x K\/(bl x.s i.g=some true/\match i.op with
 |.call fx xs=>∃f caps Post,fx.ev x.s=.fn f caps/\aC P f (xs.map (·.ev x.s)++caps) x.U Post/\∀r Z',Post r Z'->K ⟨aW x.s i.dst r,Z'⟩
 |.more (.VO kt ok zv) [xm,xk]=>∃v,Nl P kt ok zv (xm.ev x.s) (xk.ev x.s) x.U v/\K ⟨aW x.s i.dst v,x.U⟩
 |.more .mkMap []=>∀id,x.U id=none->K ⟨aW x.s i.dst (.mp id),u' x.U id (gh (.map #[] 0) [])⟩
 |_=>False)
def TC.mono{i:aG}{x:St}{K K':St->Prop}(hk:∀x,K x->K' x)(h:TC P i x K):TC P i x K':=by
 rcases h with h|⟨h1,h2⟩
 .exact .inl (h.mono hk)
 .refine .inr ⟨h1,?_⟩;split at h2
  .obtain⟨f,caps,Post,g1,g2,g3⟩:=h2;exact⟨f,caps,Post,g1,g2,λr Z' hp=>hk _ (g3 r Z' hp)⟩
  .obtain⟨v,g1,g2⟩:=h2;exact⟨v,g1,hk _ g2⟩
  .exact λid hid=>hk _ (h2 id hid)
  .exact h2.elim
def Gq{F:Fr}(hn:F.n=n){o:Oper}{all:Array Oper}{x:St}{K:St->Prop}{a:Act}{w:World}(h:TC P (cq P n all o) x K)(hs:eH F x a w)
 {next:Act->World->Prop}{Q':Exit->Act->World->Prop}(M':∀x' a' w',eH F x' a' w'->K x'->next a' w'):
 if Region.wanted o (yielded all a.tmps)then PO P n o.op≠.bad/\o.wp P a w next Q' else next (a.put o.dst undef) w:=by
 rcases h with h|⟨hw,h⟩
 .exact xD hn h hs M'
 subst hn;obtain⟨I,hs⟩:=hs;have Uz:=sC (P:=P) hs all o hw;rw[Uz];simp only[if_true];have VY:(cq P F.n all o).dst=o.dst.filter (·<F.n):=rfl;have WL:(cq P F.n all o).op=PO P F.n o.op:=rfl;rw[VY,WL]at h;split at h
 .rename_i fx xs PL;refine⟨λe=>?_,?_⟩
  .rw[PL]at e;cases e
  obtain⟨f,caps,Post,h1,h2,h3⟩:=h;obtain⟨f0,args,argTypes,g1,rfl,rfl⟩:=mu PL;refine oI hs g1 h1 h2 λr Z' hp a' w' PW=>?_;exact M' _ a' w' PW (h3 r Z' hp)
 .rename_i kt ok zv xm xk PL;refine⟨λe=>(by rw[PL]at e;cases e),?_⟩;obtain⟨v,⟨κ,_,kv,kV,id,g,b,hK,h1,h2,h3,rfl⟩,h4⟩:=h;exact EL (i:=cq P F.n all o) (K:=K) (WL.trans PL) hK h1 h2 h3 h4 F rfl I a w o all rfl hs next Q' M'
 .rename_i PL;refine⟨λe=>(by rw[PL]at e;cases e),?_⟩;exact FQ (i:=cq P F.n all o) (K:=K) (WL.trans PL) h F rfl I a w o all rfl hs next Q' M'
 .exact h.elim
def TnC(P:Program)(n:Nat)(ops:Array Oper)(i:Nat)(x:St)(K:St->Prop):Prop:=match ops[i]? with
 |some o=>TC P (cq P n ops o) x K
 |none=>K x
def xU(P:Program)(n:Nat)(ops:Array Oper)(Q:St->Prop):Nat->Array Bool->St->Prop
 |0,listed,x=>Region.ready .any ops listed=[]/\Q x
 |f+1,listed,x=>(Region.ready .any ops listed=[]->Q x)/\∀i∈Region.ready .any ops listed,TnC P n ops i x (xU P n ops Q f (listed.setIfInBounds i true))
def l7{F:Fr}(hn:F.n=n){ops:Array Oper}{Q:St->Prop}{Q':Exit->Act->World->Prop}(hQ:∀x a w,eH F x a w->Q x->Q' .normal a w):
 ∀(f:Nat) (listed:Array Bool) (x:St) (a:Act) (w:World),eH F x a w->xU P n ops Q f listed x->wpAnyIn F.eC 0 P .any ops Q' f listed a w
 |0,_,_,_,_,hs,h=>⟨h.1,hQ _ _ _ hs h.2⟩
 |f+1,listed,x,a,w,hs,h=>by
  refine⟨λh0=>hQ _ _ _ hs (h.1 h0),λi hi=>?_⟩;have h1:=h.2 i hi;unfold TnC at h1;unfold wpOpIn;cases ho:ops[i]? with
  |none=>
   simp only[ho]at h1;exact l7 hn hQ f _ x a w hs h1
  |some o=>
   simp only[ho]at h1;have h2:=Gq (Q':=Q') hn h1 hs λx' a' w' PW hk=>l7 hn hQ f _ x' a' w' PW hk;by_cases hw:Region.wanted o (yielded ops a.tmps)=true
   .rw[aE hw]at h2;simp only[hw,if_true];exact I0 (nj h2.1) h2.2
   .rw[aF hw]at h2;simp only[hw];exact⟨λ_ _=>trivial,h2⟩
def uF(P:Program)(l:List aG)(rec:List Nat->St->Prop)(listed:List Nat)(x:St):List Nat->Prop
 |[]=>True
 |i::is=>(match l[i]? with
   |some ins=>TC P ins x (rec (i::listed))
   |none=>False)/\uF P l rec listed x is
def ie(P:Program)(l:List aG)(deps:List (List Nat))(Q:St->Prop):Nat->List Nat->St->Prop
 |0,listed,x=>cB deps listed=[]/\Q x
 |f+1,listed,x=>match cB deps listed with
   |[]=>Q x
   |i::is=>uF P l (ie P l deps Q f) listed x (i::is)
def nt{l:List aG}{rec:List Nat->St->Prop}{listed:List Nat}{x:St}:∀{is:List Nat},uF P l rec listed x is->∀i∈is,∃ins,l[i]?=some ins/\TC P ins x (rec (i::listed))
 |[],_,_,hi=>by cases hi
 |j::is,h,i,hi=>by
  obtain⟨h1,h2⟩:=h;rcases cD.1 hi with rfl|hi
  .cases hl:l[i]? with
   |none=>rw[hl]at h1;exact h1.elim
   |some ins=>rw[hl]at h1;exact⟨ins,rfl,h1⟩
  .exact nt h2 i hi
def lL{ops:Array Oper}{Q:St->Prop}:∀(f:Nat) (arr:Array Bool) (listed:List Nat) (x:St),arr.size=ops.size->(∀i,i<ops.size->arr.getD i true=listed.contains i)->
 (∀i∈listed,i<ops.size)->ie P (ops.toList.map (cq P n ops)) (fH ops) Q f listed x->xU P n ops Q f arr x
 |0,arr,listed,x,hs,hl,ho,h=>⟨by rw[ny hs hl ho];exact h.1,h.2⟩
 |f+1,arr,listed,x,hs,hl,ho,h=>by
  have hr:=ny hs hl ho;unfold ie at h;refine⟨λh0=>?_,λi hi=>?_⟩
  .rw[hr]at h0;rw[h0]at h;exact h
  .rw[hr]at hi;have C':i<ops.size:=by
    have:=(nI.1 hi).1;simpa[fH]using this
   have Qa:uF P (ops.toList.map (cq P n ops)) (ie P (ops.toList.map (cq P n ops)) (fH ops) Q f) listed x (cB (fH ops) listed):=by
    cases hrr:cB (fH ops) listed with
    |nil=>exact trivial
    |cons j js=>rw[hrr]at h;exact h
   obtain⟨ins,h1,h2⟩:=nt Qa i hi;have h3:ops[i]?=some ops[i]:=Array.getElem?_eq_getElem C';have h4:ins=cq P n ops ops[i]:=by simpa[C']using h1.symm
   unfold TnC;simp only[h3];rw[<-h4];refine h2.mono λx' P7=>lL f _ (i::listed) x' (by simpa using hs) (λj hj=>?_) (λj hj=>?_) P7
   .by_cases e:j=i
    .subst e;rw[SW,Array.getElem?_setIfInBounds_self_of_lt (by omega)];simp
    .rw[SW,Array.getElem?_setIfInBounds_ne (λe'=>e e'.symm),<-SW,hl j hj];simp[e]
   .rcases cD.1 hj with rfl|hj
    .exact C'
    .exact ho j hj
def ad.Jl(hm:P.follows .mixedOrders=true){l:List aG}{deps:List (List Nat)}(h:ie P l deps (λx=>ad P n k x Q) l.length [] st):ad P n (.code (.kI l deps)::k) st Q:=by
 intro F hn kt hk a w hs;obtain⟨z,RO,rfl,hy,QU⟩:=dX hk;obtain⟨c0,rfl,Q1⟩:=fY hy;have TJ:∃id ops,c0=.region id ops true/\ops.toList.map (cq P n ops)=l/\fH ops=deps:=by
  cases c0<;>simp only[dh,reduceCtorEq]at Q1;rename_i id ops draw;cases draw
  .simp at Q1
  .simp only[Bool.true_and]at Q1;split at Q1
   .cases Q1
   split at Q1
   .simp only[bh.kI.injEq]at Q1;exact⟨id,ops,rfl,Q1.1,Q1.2⟩
   .simp at Q1
 obtain⟨id,ops,rfl,rfl,rfl⟩:=TJ;have PW:eH F st a { w with drawn:=w.drawn+1 }:=by
  obtain⟨I,hs⟩:=hs;have hk:cG (aB I st.U) (aB I st.U) w { w with drawn:=w.drawn+1 }:=λ_ _ h=>⟨h,rfl⟩
  refine⟨I,⟨⟨hs.sat.size,hs.sat.os,hs.sat.tape,hs.sat.output,hs.sat.same,hs.sat.fin,hs.sat.inj,λid o ho=>?_,hs.sat.fresh,hs.sat.Se⟩,hs.le,hs.size,hs.book.pV hk,λi hi=>?_⟩⟩
  .exact(hs.sat.obj id o ho).mono (cm.refl I) hk (Qh _) (λ_ _ _ _=>rfl)
  .exact A'.mono (cm.refl I) hk (Qh _) _ _ (hs.slot i hi)
 refine wpIn_region_any hm (l7 (Q:=λx=>ad P n k x Q) hn (λx a w hs h=>h F hn RO QU a w hs) _ _ _ _ _ PW ?_);have:=lL (P:=P) (n:=n) (Q:=λx=>ad P n k x Q) (ops:=ops) ops.size (Array.replicate ops.size false) [] st (by simp) (λi hi=>by
  rw[SW,Array.getElem?_replicate,aE hi];simp) (by simp) (by simpa using h)
 exact this
def pq{l:List aG}{rec:List Nat->St->Prop}{listed:List Nat}{x:St}:∀{is:List Nat},(∀i∈is,∃ins,l[i]?=some ins/\TC P ins x (rec (i::listed)))->uF P l rec listed x is
 |[],_=>trivial
 |j::is,h=>by
  obtain⟨ins,h1,h2⟩:=h j (by simp);refine⟨by rw[h1];exact h2,pq λi hi=>h i (by simp[hi])⟩
variable {P:Program} {n:Nat} {st:St} {Q:St->Prop} {k:List It}
def Ym(P:Program)(i:aG)(x:St):Prop:=match i.dst with
 |some d=>QY P i x.s x.U (x.s d)
 |none=>∃v,QY P i x.s x.U v
def RE(P:Program)(l:List aG)(K:St->Prop):List Nat->St->Prop
 |[],x=>K x
 |m::its,x=>match l[m/2]? with
  |none=>False
  |some ins=>if m%2=0 then TC P ins x (RE P l K its)else Ym P ins x/\RE P l K its x
def bu(l:List aG)(i:Nat):aG:=(l[i]?).getD ⟨none,.bad,none⟩
def eP(PV:List (List Nat))(i:Nat):List Nat:=PV.getD i []
def du(l:List aG)(PV:List (List Nat))(j:Nat):Bool:=bp (bu l j).op != 0||(match(bu l j).dst with
 |some d=>(List.range l.length).any λi=>(bu l i).kX.contains d&&!(eP PV i).contains j
 |none=>false)
def DD(l:List aG)(PV:List (List Nat))(done:List Nat)(e:Nat):List Nat:=
 if du l PV e then done.filterMap λk=>if !(du l PV k)&&(!(j5 (bu l k).op)&&!((eP PV e).contains k))then some (2*k+1)else none else[]
def ef(l:List aG)(PV:List (List Nat)):List Nat->List Nat->List Nat
 |_,[]=>[]
 |done,e::r=>2*e::(DD l PV done e++ef l PV (done++[e]) r)
def mA(p:Nat->Nat->Bool):List Nat->Bool
 |[]=>true
 |a::r=>r.all (p a)&&mA p r
def mI{p:Nat->Nat->Bool}:∀{a:List Nat} {b:List Nat} {x y:Nat},mA p (a++b)=true->x∈a->y∈b->p x y=true
 |[],_,_,_,_,h,_=>by cases h
 |c::a,b,x,y,hp,hx,hy=>by
  simp only[List.cons_append,mA,Ba]at hp;rcases cD.1 hx with rfl|hx
  .exact eQ.1 hp.1 y (List.mem_append_right _ hy)
  .exact mI hp.2 hx hy
def tI(f:Nat->List Nat):List Nat->List Nat->Bool
 |_,[]=>true
 |done,e::r=>(f e).all done.contains&&tI f (done++[e]) r
def rG{f:Nat->List Nat}:∀{r done:List Nat} {a:List Nat} {e:Nat} {b:List Nat},tI f done r=true->r=a++e::b->∀x∈f e,x∈done++a
 |[],_,a,e,b,_,h,_,_=>by simp at h
 |c::r,done,[],e,b,hB,h,x,hx=>by
  simp only[jU,List.cons.injEq]at h;obtain⟨rfl,rfl⟩:=h;simp only[tI,Ba]at hB;simpa using eQ.1 hB.1 x hx
 |c::r,done,d::a,e,b,hB,h,x,hx=>by
  simp only[List.cons_append,List.cons.injEq]at h;obtain⟨rfl,rfl⟩:=h;simp only[tI,Ba]at hB;have:=rG hB.2 rfl x hx;simpa using this
def IL(l:List aG)(deps PV:List (List Nat))(ord:List Nat):Bool:=
 (decide (ord.length=l.length)&&(decide (deps.length=l.length)&&ord.all λi=>decide (i<l.length)))&&
 (mA (λa b=>decide (a≠b)) ord&&
 (tI (λi=>deps.getD i []) [] ord&&
 ((List.range l.length).all (λj=>(eP PV j).all λi=>(deps.getD j []).any λd=>d==i||(eP PV d).contains i)&&
 ((List.range l.length).all (λi=>(List.range l.length).all λj=>i==j||((bu l i).dst.isNone||(bu l i).dst != (bu l j).dst))&&
 (List.range l.length).all (λi=>(List.range l.length).all λj=>i==j||(match(bu l j).dst with
   |some d=>!((bu l i).kX.contains d)||((eP PV i).contains j||(du l PV j&&(eP PV j).contains i))
   |none=>true))))))
def eOk(l:List aG)(deps PV:List (List Nat))(ord:List Nat):Bool:=IL l deps PV ord&&mA (λa b=>!(du l PV a)||(eP PV b).contains a) ord
def qR:∀{l:List Nat},mA (λa b=>decide (a≠b)) l=true->l.Nodup
 |[],_=>List.nodup_nil
 |a::r,h=>by
  simp only[mA,Ba]at h;refine List.nodup_cons.2 ⟨λhm=>?_,qR h.2⟩;have:=eQ.1 h.1 a hm;simp at this
structure EOkW(l:List aG)(deps PV:List (List Nat))(ord:List Nat):Prop where
 len:ord.length=l.length
 XW:deps.length=l.length
 lt:∀i∈ord,i<l.length
 nodup:ord.Nodup
 ahead:∀a e b,ord=a++e::b->∀x∈deps.getD e [],x∈a
 anc:∀j,j<l.length->∀i∈eP PV j,∃d∈deps.getD j [],d=i\/i∈eP PV d
 dsts:∀i j,i<l.length->j<l.length->i≠j->∀d,(bu l i).dst=some d->(bu l j).dst≠some d
 XX:∀i j,i<l.length->j<l.length->i≠j->∀d,(bu l j).dst=some d->d∈(bu l i).kX->j∈eP PV i\/(du l PV j=true/\i∈eP PV j)
def wN{l:List aG}{deps PV:List (List Nat)}{ord:List Nat}(h:IL l deps PV ord=true):EOkW l deps PV ord:=by
 simp only[IL,Ba,SX]at h;obtain⟨⟨h1,h2,h3⟩,h4,h5,h6,h7,h8⟩:=h;refine⟨h1,h2,λi hi=>by simpa using eQ.1 h3 i hi,qR h4,λa e b he x hx=>by simpa using rG h5 he x hx,?_,?_,?_⟩
 .intro j hj i hi;have:=eQ.1 (eQ.1 h6 j (by simpa using hj)) i hi;simp only[Lm,ki,beq_iff_eq,List.contains_iff_mem]at this;exact this
 .intro i j hi hj PZ d hd he;have:=eQ.1 (eQ.1 h7 i (by simpa using hi)) j (by simpa using hj);simp only[ki,beq_iff_eq,hd,he,Option.isNone_some,bne_self_eq_false,gj,or_false]at this;exact PZ this
 .intro i j hi hj PZ d hd hu;have:=eQ.1 (eQ.1 h8 i (by simpa using hi)) j (by simpa using hj);simp only[ki,beq_iff_eq,hd,Ba,Bool.not_eq_true',List.contains_iff_mem]at this;rcases this with h|h|h
  .exact absurd h PZ
  .have hc:(bu l i).kX.contains d=true:=List.contains_iff_mem.2 hu;rw[hc]at h;cases h
  .exact h
structure EOk(l:List aG)(deps PV:List (List Nat))(ord:List Nat):Prop extends EOkW l deps PV ord where
 RN:∀a b x y,ord=a++b->x∈a->y∈b->du l PV x=true->x∈eP PV y
def AP{l:List aG}{deps PV:List (List Nat)}{ord:List Nat}(h:eOk l deps PV ord=true):EOk l deps PV ord:=by
 simp only[eOk,Ba]at h;refine⟨wN h.1,λa b x y he hx hy Yk=>?_⟩;have h9:=h.2;rw[he]at h9;have:=mI h9 hx hy;simp only[Yk,Bool.not_true,Bool.false_or,List.contains_iff_mem]at this;exact this
def EOkW.closed{l:List aG}{deps PV:List (List Nat)}{ord:List Nat}(h:EOkW l deps PV ord){L:List Nat}(hc:∀m∈L,∀d∈deps.getD m [],d∈L)(TE:∀i,i<l.length->i∈ord):
 ∀(m:Nat) (a:List Nat) (j:Nat) (b:List Nat),a.length<m->ord=a++j::b->(∀d∈deps.getD j [],d∈L)->∀i∈eP PV j,i∈L:=by
 intro m
 induction m with
 |zero=>intro a j b ha;omega
 |succ m ih=>
  intro a j b ha he hd i hi;have hj:j<l.length:=h.lt j (by rw[he];simp);obtain⟨d,h1,h2⟩:=h.anc j hj i hi;rcases h2 with rfl|h2
  .exact hd d h1
  .have QV:=h.ahead a j b he d h1;obtain⟨a1,a2,rfl⟩:=List.append_of_mem QV;exact ih a1 d (a2++j::b) (by simp at ha;omega) (by rw[he];simp) (λd' h'=>hc d (hd d h1) d' h') i h2
def lZ{i:aG}{s s':Nat->V}(h:∀u∈i.kX,s u=s' u):bl s i.g=bl s' i.g:=by
 cases hg:i.g with
 |none=>rfl
 |some g=>
  obtain⟨x,b⟩:=g;have:x.ev s=x.ev s':=by
   cases x with
   |t t=>exact h t (List.mem_filterMap.2 ⟨.t t,List.mem_append_right _ (by simp[hg]),rfl⟩)
   |c v=>rfl
  simp only[bl,this]
def yC{i:aG}{s s':Nat->V}(h:∀u∈i.kX,s u=s' u):∀x∈i.op.xs,x.ev s=x.ev s':=λx hx=>by
 cases x with
 |t t=>exact h t (Ca hx rfl)
 |c v=>rfl
def Ap{i:aG}{s s':Nat->V}{U:ag}{v:V}(h:∀u∈i.kX,s u=s' u)(hq:QY P i s U v):QY P i s' U v:=by
 unfold QY at*;rw[<-lZ h];exact hq.imp (λ⟨h1,h2⟩=>⟨h1,uP (yC h) h2⟩) id
def yW{i:aG}{x y:St}{K K':St->Prop}(h:∀u∈i.kX,x.s u=y.s u)(P3:x.U=y.U)(hk:∀r Z',K ⟨aW x.s i.dst r,Z'⟩->K' ⟨aW y.s i.dst r,Z'⟩)(ht:TC P i x K):TC P i y K':=by
 have hx:=yC h;rcases ht with ht|⟨hw,ht⟩
 .refine .inl ?_;unfold T at*;rw[<-lZ h];split<;>rename_i ho<;>simp only[ho]at ht
  .unfold TO at*;split<;>rename_i TP<;>simp only[TP]at ht
   .obtain⟨g1,v,g2,g3⟩:=ht;obtain⟨e1,e2⟩:=rz (U:=y.U) hx;exact⟨e2.1 g1,v,by rw[<-e1,<-P3];exact g2,by rw[<-P3];exact hk _ _ g3⟩
   .split at ht
    .rename_i fx xs PL;obtain⟨f,caps,v,g1,g2,g3⟩:=ht;refine⟨f,caps,v,?_,?_,by rw[<-P3];exact hk _ _ g3⟩
     .rw[<-hx fx (by rw[PL];simp[Qc.xs])];exact g1
     .rw[<-qu (s:=x.s) (s':=y.s) λz hz=>hx z (by rw[PL];simp[Qc.xs,hz]),<-P3];exact g2
    .exact ht.elim
   .split at ht
    .rename_i sz xa xv PL;obtain⟨Z',g1,g2⟩:=ht;refine⟨Z',?_,hk _ _ g2⟩;rw[<-hx xa (by rw[PL];simp[Qc.xs]),<-hx xv (by rw[PL];simp[Qc.xs]),<-P3];exact g1
    .exact ht.elim
   .obtain⟨g,g1,g2⟩:=ht;refine⟨g,by rw[<-fi hx,<-P3];exact g1,λid hid=>hk _ _ (g2 id (by rw[P3];exact hid))⟩
  .rw[<-P3];exact hk _ _ ht
 .refine .inr ⟨by rw[<-lZ h];exact hw,?_⟩;split at ht
  .rename_i fx xs PL;obtain⟨f,caps,Post,g1,g2,g3⟩:=ht;refine⟨f,caps,Post,?_,?_,λr Z' hp=>hk _ _ (g3 r Z' hp)⟩
   .rw[<-hx fx (by rw[PL];simp[Qc.xs])];exact g1
   .rw[<-qu (s:=x.s) (s':=y.s) λz hz=>hx z (by rw[PL];simp[Qc.xs,hz]),<-P3];exact g2
  .rename_i kt ok zv xm xk PL;obtain⟨v,g1,g2⟩:=ht;refine⟨v,?_,by rw[<-P3];exact hk _ _ g2⟩;rw[<-hx xm (by rw[PL];simp[Qc.xs]),<-hx xk (by rw[PL];simp[Qc.xs]),<-P3];exact g1
  .exact λid hid=>by rw[<-P3];exact hk _ _ (ht id (by rw[P3];exact hid))
  .exact ht.elim
structure jP(P:Program)(l:List aG)(deps PV:List (List Nat))(ord:List Nat)(K:St->Prop)(L:List Nat)(y:St)(done rest:List Nat)(x:St):Prop where
 split:ord=done++rest
 sub:∀i∈L,i∈done
 nodup:L.Nodup
 closed:∀m∈L,∀d∈deps.getD m [],d∈L
 RN:∀i∈done,du l PV i=true->i∈L
 store:y.U=x.U
 slot:∀d,(∀i∈done,i∉L->(bu l i).dst≠some d)->y.s d=x.s d
 YW:∀i∈done,i∉L->Ym P (bu l i) x
 go:RE P l K (ef l PV done rest) x
def gH{l:List aG}{PV:List (List Nat)}{e:Nat}(h:du l PV e=false)(he:e<l.length)(PZ:e∉eP PV e):bp (bu l e).op=0/\∀d,(bu l e).dst=some d->d∉(bu l e).kX:=by
 simp only[du,Bool.or_eq_false_iff,bne_eq_false_iff_eq]at h;refine⟨h.1,λd hd hu=>?_⟩;have h2:=h.2;rw[hd]at h2;simp only[List.any_eq_false,List.mem_range,Ba,Bool.not_eq_true',not_and,Bool.not_eq_false]at h2;have:=h2 e he (List.contains_iff_mem.2 hu);exact PZ (List.contains_iff_mem.1 this)
def Ct{l:List aG}{K:St->Prop}{e:Nat}{its:List Nat}{x:St}(he:e<l.length):RE P l K (2*e::its) x↔TC P (bu l e) x (RE P l K its):=by
 have h1:2*e/2=e:=by omega
 have h2:2*e%2=0:=by omega
 rw[RE,h1,SQ he];simp only[aE h2,bu,SQ he,Option.getD_some]
def JQ{l:List aG}{K:St->Prop}{e:Nat}{its:List Nat}{x:St}(he:e<l.length):RE P l K ((2*e+1)::its) x↔Ym P (bu l e) x/\RE P l K its x:=by
 have h1:(2*e+1)/2=e:=by omega
 have h2:¬(2*e+1)%2=0:=by omega
 rw[RE,h1,SQ he];simp only[aF h2,bu,SQ he,Option.getD_some]
def rY{l:List aG}{K:St->Prop}{its:List Nat}{x:St}(p:Nat->Bool):∀{done:List Nat},(∀i∈done,i<l.length)->RE P l K ((done.filterMap λk=>if p k then some (2*k+1)else none)++its) x->
 (∀k∈done,p k=true->Ym P (bu l k) x)/\RE P l K its x
 |[],_,h=>⟨by simp,h⟩
 |a::r,hl,h=>by
  rw[List.filterMap_cons]at h;cases hp:p a with
  |false=>
   simp only[hp,gj,if_false]at h;obtain⟨h1,h2⟩:=rY p (λi hi=>hl i (by simp[hi])) h;refine⟨λk hk hpk=>?_,h2⟩;rcases cD.1 hk with rfl|hk
   .rw[hp]at hpk;cases hpk
   .exact h1 k hk hpk
  |true=>
   simp only[hp,if_true,List.cons_append]at h;rw[JQ (hl a (by simp))]at h;obtain⟨h1,h2⟩:=rY p (λi hi=>hl i (by simp[hi])) h.2;refine⟨λk hk hpk=>?_,h2⟩;rcases cD.1 hk with rfl|hk
   .exact h.1
   .exact h1 k hk hpk
section
variable {l:List aG} {deps PV:List (List Nat)} {ord:List Nat} {K:St->Prop} (hE:EOkW l deps PV ord)
include hE
def EOkW.mem(i:Nat)(hi:i<l.length):i∈ord:=(og l.length ord hE.nodup hE.lt).2 hE.len i hi
def EOkW.l8{a:List Nat}{j:Nat}{b:List Nat}(he:ord=a++j::b):∀i∈eP PV j,i∈a:=by
 have hc:∀m∈a,∀d∈deps.getD m [],d∈a:=λm hm d hd=>by
  obtain⟨a1,a2,rfl⟩:=List.append_of_mem hm;have:=hE.ahead a1 m (a2++j::b) (by rw[he];simp) d hd;simp[this]
 exact hE.closed hc hE.mem (a.length+1) a j b (by omega) he (λd hd=>hE.ahead a j b he d hd)
def EOkW.nv{j:Nat}(hj:j<l.length):j∉eP PV j:=λh=>by
 obtain⟨a,b,he⟩:=List.append_of_mem (hE.mem j hj);have h1:=hE.l8 he j h;have:=hE.nodup;rw[he]at this;have:=(List.nodup_append.1 this).2.2 j h1 j (by simp);exact this rfl
def rV{i:Nat}{x:St}{e:Nat}{v:V}{Z':ag}(hi:i<l.length)(he:e<l.length)(PZ:i≠e)(hu:∀d,(bu l e).dst=some d->d∉(bu l i).kX)
 (hq:∀v,QY P (bu l i) x.s x.U v->QY P (bu l i) x.s Z' v)(h:Ym P (bu l i) x):Ym P (bu l i) ⟨aW x.s (bu l e).dst v,Z'⟩:=by
 unfold Ym at*;have hq':∀v',QY P (bu l i) x.s x.U v'->QY P (bu l i) (aW x.s (bu l e).dst v) Z' v':=λv' hv=>(fL hu).2 (hq v' hv);cases hd:(bu l i).dst with
 |none=>rw[hd]at h;obtain⟨v',h⟩:=h;exact⟨v',hq' v' h⟩
 |some d=>
  rw[hd]at h;simp only at h|-;have:aW x.s (bu l e).dst v d=x.s d:=by
   have:=hE.dsts i e hi he PZ d hd;cases WY:(bu l e).dst with
   |none=>rfl
   |some d'=>
    rw[WY]at this;simp only[aW];rw[aF (λe'=>this (by rw[e']))]
  rw[this];exact hq' _ h
def jP.adv{L:List Nat}{y:St}:∀{rest done:List Nat} {x:St},jP P l deps PV ord K L y done rest x->
 ∃YX V' x',jP P l deps PV ord K L y YX V' x'/\∀h r,V'=h::r->du l PV h=true
 |[],done,x,h=>⟨done,[],x,h,by simp⟩
 |e::rest,done,x,h=>by
  cases SI:du l PV e with
  |true=>exact⟨done,e::rest,x,h,λa r he=>by cases he;exact SI⟩
  |false=>
   have TY:e<l.length:=hE.lt e (by rw[h.split];simp);obtain⟨hk,YY⟩:=gH SI TY (hE.nv TY);have Q8:=hE.nodup;rw[h.split]at Q8;have hed:e∉done:=λhm=>(List.nodup_append.1 Q8).2.2 e hm e (by simp) rfl;have WZ:e∉L:=λhm=>hed (h.sub e hm);have RJ:=h.go;rw[ef,Ct TY,DD,aF (by simp[SI]),jU]at RJ;have hT:T P (bu l e) x (RE P l K (ef l PV (done++[e]) rest)):=by
    rcases RJ with RJ|⟨_,RJ⟩
    .exact RJ
    .exfalso;revert RJ hk;generalize (bu l e).op=op;intro hk RJ;split at RJ
     .simp[bp]at hk
     .simp[bp]at hk
     .simp[bp]at hk
     .exact RJ
   obtain⟨v,hv,W1⟩:=(cz (by simp[fk,hk])).1 hT;refine jP.adv (rest:=rest) (done:=done++[e]) (x:=⟨aW x.s (bu l e).dst v,x.U⟩) ⟨by rw[h.split];simp,λi hi=>by simp[h.sub i hi],h.nodup,h.closed,λi hi Sh=>?_,h.store,λd hd=>?_,λi hi TR=>?_,W1⟩
   .rcases dM.1 hi with hi|hi
    .exact h.RN i hi Sh
    .simp only[iM]at hi;rw[hi,SI]at Sh;cases Sh
   .have h1:=h.slot d λi hi TR=>hd i (by simp[hi]) TR;have h2:=hd e (by simp) WZ;rw[h1];simp only;cases WY:(bu l e).dst with
    |none=>rfl
    |some d'=>
     rw[WY]at h2;simp only[aW];rw[aF (λe'=>h2 (by rw[e']))]
   .by_cases Sh:i=e
    .subst Sh;unfold Ym;cases hd:(bu l i).dst with
     |none=>exact⟨v,hv⟩
     |some d=>
      simp only;have e1:aW x.s (some d) v d=v:=by simp[aW]
      rw[e1];exact(fL (λt ht=>by cases ht;exact YY d hd)).2 hv
    .have hid:i∈done:=by
      rcases dM.1 hi with hi|hi
      .exact hi
      .simp only[iM]at hi;exact absurd hi Sh
     have RR:i<l.length:=hE.lt i (by rw[h.split];simp[hid]);refine rV hE RR TY Sh (λd hd hu=>?_) (λv hv=>hv) (h.YW i hid TR);rcases hE.XX i e RR TY Sh d hd hu with h1|⟨h1,_⟩
     .obtain⟨a,b,UY⟩:=List.append_of_mem hid;have h2:=hE.l8 (a:=a) (j:=i) (b:=b++e::rest) (by rw[h.split,UY];simp) e h1;exact hed (by rw[UY];simp[h2])
     .rw[SI]at h1;cases h1
end
section
variable {l:List aG} {deps PV:List (List Nat)} {ord:List Nat} {K:St->Prop} (hE:EOk l deps PV ord)
include hE
def pj:∀(f:Nat) (L:List Nat) (y:St) (done rest:List Nat) (x:St),f+L.length=l.length->jP P l deps PV ord K L y done rest x->ie P l deps K f L y:=by
 intro f
 induction f with
 |zero=>
  intro L y done rest x hf h;have Qa:∀i,i<l.length->i∈L:=(og l.length L h.nodup λi hi=>hE.lt i (by rw[h.split];simp[h.sub i hi])).2 (by omega);have Q8:=hE.nodup;rw[h.split]at Q8;have Tw:rest=[]:=by
   cases rest with
   |nil=>rfl
   |cons e r=>
    exfalso;have TY:e<l.length:=hE.lt e (by rw[h.split];simp);exact(List.nodup_append.1 Q8).2.2 e (h.sub e (Qa e TY)) e (by simp) rfl
  subst Tw;have hyx:y=x:=by
   obtain⟨s,U⟩:=y;obtain⟨s',Z'⟩:=x;have h1:U=Z':=h.store;have h2:s=s':=funext λd=>h.slot d λi hi TR=>absurd (Qa i (hE.lt i (by rw[h.split];simp[hi]))) TR;rw[h1,h2]
  refine⟨?_,by rw[hyx];exact h.go⟩;unfold cB;rw[List.filter_eq_nil_iff];intro i hi;simp only[List.mem_range,hE.XW]at hi;simp[Qa i hi]
 |succ f ih=>
  intro L y done rest x hf h;obtain⟨done,rest,x,h,Xs⟩:=jP.adv hE.toEOkW h;have Q8:=hE.nodup;rw[h.split]at Q8;have hmemL:∀i∈L,i<l.length:=λi hi=>hE.lt i (by rw[h.split];simp[h.sub i hi]);have key:uF P l (ie P l deps K f) L y (cB deps L):=by
   refine pq λi hi=>?_;obtain⟨RR,TR,Wa⟩:=lx hi;rw[hE.XW]at RR;refine⟨bu l i,by simp[bu,SQ RR],?_⟩;obtain⟨pa,pb,hpe⟩:=List.append_of_mem (hE.mem i RR);have SZ:∀j∈eP PV i,j∈L:=hE.closed h.closed hE.mem (pa.length+1) pa i pb (by omega) hpe Wa;have Wb:∀u∈(bu l i).kX,x.s u=y.s u:=λu hu=>(h.slot u λj hj Uj hd=>by
    have Tr:j<l.length:=hE.lt j (by rw[h.split];simp[hj]);by_cases Sl:j=i
    .subst Sl;cases Rw:du l PV j with
     |true=>exact Uj (h.RN j hj Rw)
     |false=>exact(gH Rw Tr (hE.nv Tr)).2 u hd hu
    .rcases hE.XX i j RR Tr (λe=>Sl e.symm) u hd hu with h1|⟨h1,_⟩
     .exact Uj (SZ j h1)
     .exact Uj (h.RN j hj h1)).symm
   by_cases hid:i∈done
   .have Sh:du l PV i=false:=by
     cases Sh:du l PV i with
     |false=>rfl
     |true=>exact absurd (h.RN i hid Sh) TR
    obtain⟨hk,_⟩:=gH Sh RR (hE.nv RR);have hq:=h.YW i hid TR;obtain⟨v,hv,hvd⟩:∃v,QY P (bu l i) x.s x.U v/\∀d,(bu l i).dst=some d->x.s d=v:=by
     unfold Ym at hq;cases hd:(bu l i).dst with
     |none=>rw[hd]at hq;obtain⟨v,hq⟩:=hq;exact⟨v,hq,by simp⟩
     |some d=>rw[hd]at hq;exact⟨_,hq,λd' e=>by cases e;rfl⟩
    refine .inl ((cz (by simp[fk,hk])).2 ⟨v,?_,?_⟩)
    .rw[h.store];exact Ap Wb hv
    .refine ih (i::L) _ done rest x (by simp only[Rc];omega) ⟨h.split,λj hj=>?_,List.nodup_cons.2 ⟨TR,h.nodup⟩,λm hm d hd=>?_,λj hj Rw=>by simp[h.RN j hj Rw],h.store,λd hd=>?_,λj hj Uj=>h.YW j hj (λhm=>Uj (by simp[hm])),h.go⟩
     .rcases cD.1 hj with rfl|hj
      .exact hid
      .exact h.sub j hj
     .rcases cD.1 hm with rfl|hm
      .simp[Wa d hd]
      .simp[h.closed m hm d hd]
     .simp only;by_cases VE:(bu l i).dst=some d
      .rw[VE];simp only[aW];rw[aE trivial];exact(hvd d VE).symm
      .have h1:=h.slot d λj hj Uj=>by
        by_cases Sl:j=i
        .rw[Sl];exact VE
        .exact hd j hj (by simp[Sl,Uj])
       rw[<-h1];cases WY:(bu l i).dst with
       |none=>rfl
       |some d'=>
        rw[WY]at VE;simp only[aW];rw[aF (λe'=>VE (by rw[e']))]
   .have ZZ:i∈rest:=by
     have:=hE.mem i RR;rw[h.split]at this;exact(dM.1 this).resolve_left hid
    obtain⟨Up,rr,rfl⟩:∃a r,rest=a::r:=by
     cases rest with
     |nil=>cases ZZ
     |cons a r=>exact⟨a,r,rfl⟩
    have SI:=Xs Up rr rfl;have hh0:Up∉done:=λhm=>(List.nodup_append.1 Q8).2.2 Up hm Up (by simp) rfl;have hih:i=Up:=by
     rcases cD.1 ZZ with e|ZZ
     .exact e
     .exfalso;have:=hE.RN (done++[Up]) rr Up i (by rw[h.split];simp) (by simp) ZZ SI;exact hh0 (h.sub _ (SZ _ this))
    subst hih;have RJ:=h.go;rw[ef,Ct RR]at RJ;refine yW Wb h.store.symm (λr Z' hK=>?_) RJ;rw[DD,aE SI]at hK;obtain⟨Xt,W1⟩:=rY (λk=>!(du l PV k)&&(!(j5 (bu l k).op)&&!((eP PV i).contains k))) (λj hj=>hE.lt j (by rw[h.split];simp[hj])) hK;refine ih (i::L) _ (done++[i]) rr ⟨aW x.s (bu l i).dst r,Z'⟩ (by simp only[Rc];omega) ⟨by rw[h.split];simp,λj hj=>?_,List.nodup_cons.2 ⟨TR,h.nodup⟩,λm hm d hd=>?_,λj hj Rw=>?_,rfl,λd hd=>?_,λj hj Uj=>?_,W1⟩
    .rcases cD.1 hj with rfl|hj
     .simp
     .simp[h.sub j hj]
    .rcases cD.1 hm with rfl|hm
     .simp[Wa d hd]
     .simp[h.closed m hm d hd]
    .rcases dM.1 hj with hj|hj
     .simp[h.RN j hj Rw]
     .simp only[iM]at hj;simp[hj]
    .have h1:(bu l i).dst=some d\/y.s d=x.s d:=by
      by_cases VE:(bu l i).dst=some d
      .exact .inl VE
      .exact .inr (h.slot d λj hj Uj=>hd j (by simp[hj]) (by
        simp only[cD,not_or];exact⟨λe=>hid (e▸hj),Uj⟩))
     simp only;cases WY:(bu l i).dst with
     |none=>rw[WY]at h1;exact h1.resolve_left (by simp)
     |some d'=>
      simp only[aW];split
      .rfl
      .rename_i PZ;rw[WY]at h1;exact h1.resolve_left (λe=>PZ (by cases e;rfl))
    .have XY:j∈done:=by
      rcases dM.1 hj with hj|hj
      .exact hj
      .simp only[iM]at hj;exact absurd (by simp[hj]) Uj
     have Vs:j∉L:=λhm=>Uj (by simp[hm]);have Tr:j<l.length:=hE.lt j (by rw[h.split];simp[XY]);have Sl:j≠i:=λe=>hid (e▸XY);have Rw:du l PV j=false:=by
      cases Rw:du l PV j with
      |false=>rfl
      |true=>exact absurd (h.RN j XY Rw) Vs
     cases hsf:j5 (bu l j).op with
     |true=>
      refine rV hE.toEOkW Tr RR Sl (λd hd hu=>?_) (λv hv=>jz hsf hv) (h.YW j XY Vs);rcases hE.XX j i Tr RR Sl d hd hu with h1|⟨_,h1⟩
      .obtain⟨a,b,UY⟩:=List.append_of_mem XY;have h2:=hE.l8 (a:=a) (j:=j) (b:=b++i::rr) (by rw[h.split,UY];simp) i h1;exact hid (by rw[UY];simp[h2])
      .exact Vs (SZ j h1)
     |false=>
      refine Xt j XY ?_;simp only[Rw,hsf,Bool.not_false,Bool.true_and,Bool.not_eq_true'];cases hc:(eP PV i).contains j with
      |false=>rfl
      |true=>exact absurd (SZ j (List.contains_iff_mem.1 hc)) Vs
  cases hr:cB deps L with
  |cons a r=>unfold ie;rw[hr]at key|-;exact key
  |nil=>
   exfalso;have:∃i,i∈ord/\i∉L:=by
    by_cases hx:∃i,i∈ord/\i∉L
    .exact hx
    .exfalso;have B':∀i∈ord,i∈L:=λi hi=>Classical.byContradiction λhn=>hx ⟨i,hi,hn⟩;have h1:=hE.nodup.length_le_of_subset B';have:=hE.len;omega
   obtain⟨i,hi,TR⟩:=this;have first:∀(a b:List Nat),ord=a++b->(∀j∈a,j∈L)->(∃i∈b,i∉L)->∃a' e b',ord=a'++e::b'/\(∀j∈a',j∈L)/\e∉L:=by
    intro a b
    induction b generalizing a with
    |nil=>rintro _ _ ⟨i,h,_⟩;cases h
    |cons e b ihb=>
     intro he ha hx;by_cases WZ:e∈L
     .refine ihb (a++[e]) (by rw[he];simp) (λj hj=>?_) ?_
      .rcases dM.1 hj with hj|hj
       .exact ha j hj
       .simp only[iM]at hj;rw[hj];exact WZ
      .obtain⟨i,hi,TR⟩:=hx;rcases cD.1 hi with rfl|hi
       .exact absurd WZ TR
       .exact⟨i,hi,TR⟩
     .exact⟨a,e,b,he,ha,WZ⟩
   obtain⟨a,e,b,he,ha,WZ⟩:=first [] ord rfl (by simp) ⟨i,hi,TR⟩
   have TY:e<l.length:=hE.lt e (by rw[he];simp);have:e∈cB deps L:=by
    unfold cB;refine nI.2 ⟨by simp[hE.XW,TY],?_⟩;simp only[Ba,Bool.not_eq_true',eQ];refine⟨by simpa using WZ,λd hd=>?_⟩;simpa using ha d (hE.ahead a e b he d hd)
   rw[hr]at this;cases this
end
def ad.rR(hm:P.follows .mixedOrders=true){l:List aG}{deps:List (List Nat)}(ord:List Nat)(PV:List (List Nat))(its:List Nat)(hB:eOk l deps PV ord=true)(hi:ef l PV [] ord=its)
 (h:RE P l (λx=>ad P n k x Q) its st):ad P n (.code (.kI l deps)::k) st Q:=by
 have hE:=AP hB;refine ad.Jl hm (pj hE l.length [] st [] ord st (by simp) ⟨rfl,by simp,List.nodup_nil,by simp,by simp,rfl,λ_ _=>rfl,by simp,by rw[hi];exact h⟩)
def RE.QS{l:List aG}{K:St->Prop}(rest:List Nat):∀(idx:List Nat) (sg:List aG) {x:St},(idx.map λm=>l[m/2]?)=sg.map some->(idx.all λm=>m%2==0)=true->
 Go P n (.d sg [.stop (RE P l K rest)]) x (λ_=>False)->RE P l K (idx++rest) x
 |[],[],_,_,_,h=>h
 |[],_::_,_,h,_,_=>by simp at h
 |_::_,[],_,h,_,_=>by simp at h
 |m::idx,i::sg,x,h,hev,hg=>by
  simp only[dO,List.cons.injEq]at h;simp only[vr,Ba,beq_iff_eq]at hev;show RE P l K (m::(idx++rest)) x;rw[RE,h.1];simp only[aE hev.1];exact .inl (T.mono (λx' P7=>RE.QS rest idx sg h.2 (by simpa using hev.2) P7) hg)
def RE.call{l:List aG}{K:St->Prop}{m:Nat}{rest:List Nat}{x:St}{i:aG}(hi:l[m/2]?=some i)(hm:m%2=0){fx:VX}{xs:List VX}(hw:bl x.s i.g=some true)(ho:i.op=.call fx xs){f:FuncId}{caps:List V}(hf:fx.ev x.s=.fn f caps)
 {Post:V->ag->Prop}(hc:aC P f (xs.map (·.ev x.s)++caps) x.U Post)(h:∀r Z',Post r Z'->RE P l K rest ⟨aW x.s i.dst r,Z'⟩):RE P l K (m::rest) x:=by
 rw[RE,hi];simp only[aE hm];exact .inr ⟨hw,by rw[ho];exact⟨f,caps,Post,hf,hc,h⟩⟩
def RE.ay{l:List aG}{K:St->Prop}{m:Nat}{rest:List Nat}{x:St}{i:aG}(hi:l[m/2]?=some i)(hm:m%2=0){fx:VX}{xs:List VX}(hw:bl x.s i.g=some true)(ho:i.op=.call fx xs){f:FuncId}{caps:List V}(hf:fx.ev x.s=.fn f caps)
 {v:V}(hc:aC P f (xs.map (·.ev x.s)++caps) x.U λr Z'=>r=v/\Z'=x.U)(h:RE P l K rest ⟨aW x.s i.dst v,x.U⟩):RE P l K (m::rest) x:=
 RE.call hi hm hw ho hf hc λr Z' ⟨h1,h2⟩=>by subst h1;subst h2;exact h
def RE.Rl{l:List aG}{K:St->Prop}{m:Nat}{rest:List Nat}{x:St}{i:aG}(hi:l[m/2]?=some i)(hm:m%2=1){d:Nat}(hd:i.dst=some d)(hw:bl x.s i.g=some true)(hk:bp i.op=0)(hp:eT x.s i.op)
 (hv:aH x.U x.s i.op=some (x.s d))(h:RE P l K rest x):RE P l K (m::rest) x:=by
 rw[RE,hi];simp only[hm,Nat.one_ne_zero,if_false];refine⟨?_,h⟩;unfold Ym;rw[hd];refine .inl ⟨hw,?_⟩;unfold QO;simp only[hk];exact⟨hp,hv⟩
variable {P:Program} {n:Nat} {st:St} {Q:St->Prop} {k:List It}
def ad.OY{k1 k2:List It}(τ:St->Prop)(h1:ad P n (k1++[.stop τ]) st Q)(h2:∀st,τ st->ad P n k2 st Q):ad P n (k1++k2) st Q:=by
 intro F hn kt hk a w hs;obtain⟨kt1,kt2,rfl,Sc,SN⟩:=List.map_eq_append_iff.1 hk;have key:∀(kt:List KI) e a w,kN P F Q (kt++[.stop τ]) e a w->kN P F Q (kt++kt2) e a w:=by
  intro kt
  induction kt with
  |nil=>
   intro e a w h;simp only[jU]at h|-;cases e with
   |normal=>obtain⟨st,h3,h4⟩:=h;exact h2 st h3 F hn kt2 SN a w h4
   |ret=>obtain⟨_,h3⟩:=h;exact ld h3 kt2
   |_=>obtain⟨h3,_⟩:=h;rcases h3 with h3|h3<;>cases h3
  |cons y kt ih=>
   intro e a w h;cases y with
   |code c=>cases e<;>first|exact wpIn_mono h ih|exact ih _ _ _ h
   |inBlock id=>
    cases e<;>simp only[List.cons_append,kN,Exit.inBlock]at h|-<;>(try split at h)<;>(try split)<;>first|exact ih _ _ _ h|contradiction
   |stop μ=>cases e<;>first|exact h|exact ih _ _ _ h
   |ops all l=>cases e<;>first|exact mD ih l a w h|exact ih _ _ _ h
 exact key kt1 _ a w (h1 F hn (kt1++[.stop τ]) (by simp[KI.it,Sc]) a w hs)
def ad.eh{x:bh}{id:Nat}(τ:St->Prop)(μ:Nat->St->Prop)(m:Nat)(h0:μ m st)
 (hr:∀m st,μ m st->ad P n (.code x::.stop (λSB=>∃m',m'<m/\μ m' SB)::[.inBlock id,.stop τ]) st Q)(h2:∀st,τ st->ad P n k st Q):
 ad P n (.code (.loop x)::.inBlock id::k) st Q:=
 ad.OY (P:=P) (n:=n) (Q:=Q) (st:=st) (k1:=[.code (.loop x),.inBlock id]) (k2:=k) τ (ad.loop μ m h0 hr) h2
open Go.Proofs
def H4{f:O'}{s:QL}(hf:f.ok)(h:Ry s.a/\Ry s.b):Ry (jV f s).a/\Ry (jV f s).b:=by
 obtain⟨⟨x1,x2⟩,_,⟨w1,w2⟩,_⟩:=hf;obtain⟨⟨a1,a2⟩,b1,b2⟩:=h;unfold jV;split
 .exact⟨⟨by simp only;omega,by simp only;omega⟩,b1,b2⟩
 .exact⟨⟨a1,a2⟩,by simp only;omega,by simp only;omega⟩
def zJ:∀{l:List O'} {s:QL},(∀f∈l,f.ok)->Ry s.a/\Ry s.b->Ry (l.foldl (λs f=>jV f s) s).a/\Ry (l.foldl (λs f=>jV f s) s).b
 |[],_,_,h=>h
 |f::l,s,hl,h=>zJ (l:=l) (λg hg=>hl g (by simp[hg])) (H4 (hl f (by simp)) h)
def mn{l:List O'}{y high:Int}{s:QL}(hl:∀f∈l,f.ok)(h:Ry s.a/\Ry s.b):Ry (dQ l y high s).a/\Ry (dQ l y high s).b:=
 zJ (λf hf=>hl f (nI.1 hf).1) h
def sJ{s:QL}:∀{l:List O'},(∀f∈l,jV f s=s)->l.foldl (λs f=>jV f s) s=s
 |[],_=>rfl
 |f::l,h=>by rw[iY,h f (by simp)];exact sJ λg hg=>h g (by simp[hg])
def oq(s:QL):∀(l:List O') (a:Int×Bool),(l.foldl (jE s) a=a\/∃f∈l,l.foldl (jE s) a=(f.y+f.h,true))/\(a.2=true->(l.foldl (jE s) a).2=true)/\((∃f∈l,jV f s≠s)->(l.foldl (jE s) a).2=true)
 |[],a=>⟨.inl rfl,id,by simp⟩
 |f::l,a=>by
  obtain⟨h1,h2,h3⟩:=oq s l (jE s a f);have hf:jE s a f=a\/jE s a f=(f.y+f.h,true):=by unfold jE;split<;>simp
  refine⟨?_,λha=>h2 ?_,?_⟩
  .rw[iY];rcases h1 with h1|⟨g,hg,h1⟩
   .rw[h1];rcases hf with hf|hf
    .exact .inl hf
    .exact .inr ⟨f,by simp,hf⟩
   .exact .inr ⟨g,by simp[hg],h1⟩
  .rcases hf with hf|hf<;>rw[hf]
   exact ha
  .rintro⟨g,hg,PZ⟩;rcases cD.1 hg with rfl|hg
   .refine h2 ?_;unfold jE;split
    .rename_i h;exact(h.resolve_left PZ).1
    .rfl
   .exact h3 ⟨g,hg,PZ⟩
def De{y high:Int}{f:O'}(h:iz y high f=true):y<f.y+f.h:=by
 refine Classical.byContradiction λhn=>?_;have:oN ⟨f.y,f.y+f.h⟩ ⟨y,y+max high 1⟩=⟨0,0⟩:=by
  unfold oN;rw[aE];simp only;omega
 simp[iz,this]at h
def iB{l:List O'}{y high:Int}{s:QL}(h:(gu l y high s).2=true):∃f∈l,y<f.y+f.h/\(gu l y high s).1=f.y+f.h:=by
 rcases(oq s (l.filter (iz y high)) (0,false)).1 with h1|⟨f,hf,h1⟩
 .unfold gu at h;rw[h1]at h;cases h
 .obtain⟨hl,hm⟩:=nI.1 hf;exact⟨f,hl,De hm,by unfold gu;rw[h1]⟩
def oG{l:List O'}{y high:Int}{s:QL}(h:dQ l y high s≠s):(gu l y high s).2=true:=by
 refine(oq s (l.filter (iz y high)) (0,false)).2.2 (Classical.byContradiction λhn=>h (sJ λf hf=>Classical.byContradiction λhe=>hn ⟨f,hf,he⟩))
def YZ(l:List O')(y:Int):Nat:=(l.filter λf=>decide (y<f.y+f.h)).length
def filter_lt{α:Type}{p q:α->Bool}(hpq:∀x,q x=true->p x=true):∀{l:List α},(l.filter q).length<=(l.filter p).length/\((∃x∈l,p x=true/\q x=false)->(l.filter q).length<(l.filter p).length)
 |[]=>by simp
 |a::l=>by
  obtain⟨h1,h2⟩:=filter_lt hpq (l:=l);cases hp:p a<;>cases hq:q a
  .simp only[List.filter_cons,hp,hq,gj,if_false];refine⟨h1,?_⟩;rintro⟨x,hx,h3,h4⟩;rcases cD.1 hx with rfl|hx
   .rw[hp]at h3;cases h3
   .exact h2 ⟨x,hx,h3,h4⟩
  .rw[hpq a hq]at hp;cases hp
  .simp only[List.filter_cons,hp,hq,gj,if_false,if_true,Rc];exact⟨by omega,λ_=>by omega⟩
  .simp only[List.filter_cons,hp,hq,if_true,Rc];refine⟨by omega,?_⟩;rintro⟨x,hx,h3,h4⟩;rcases cD.1 hx with rfl|hx
   .rw[hq]at h4;cases h4
   .have:=h2 ⟨x,hx,h3,h4⟩;omega
def xP{l:List O'}{y z:Int}(h:∃f∈l,y<f.y+f.h/\z=f.y+f.h):YZ l z<YZ l y:=by
 obtain⟨f,hf,h1,rfl⟩:=h;exact(filter_lt (p:=λg:O'=>decide (y<g.y+g.h)) (q:=λg:O'=>decide (f.y+f.h<g.y+g.h)) (λg hg=>by simp at hg|-;omega) (l:=l)).2 ⟨f,hf,by simpa using h1,by simp⟩
def vV(l:List O')(w high:Int)(s:QL)(y:Int):Bool:=decide (w<=jC (dQ l y high s))||decide (dQ l y high s=s)
def oW(l:List O')(w high:Int)(s:QL):Nat->Int->Int
 |0,y=>y
 |k+1,y=>if vV l w high s y then y else oW l w high s k (gu l y high s).1
def lk(l:List O')(w high:Int)(s:QL)(y:Int):Int:=oW l w high s l.length y
def FB{l:List O'}{y high:Int}{s:QL}(hl:∀f∈l,f.ok)(h:(gu l y high s).2=true):Ry (gu l y high s).1:=by
 obtain⟨f,hf,_,e⟩:=iB h;obtain⟨_,⟨a1,a2⟩,_,b1,b2⟩:=hl f hf;rw[e];exact⟨by omega,by omega⟩
def qS(l:List O')(high y:Int)(s:QL):V:=.agg [vI s.a,vI s.b,aJ l,vI high,vI y]
def Cx(l:List O')(high y:Int)(s:QL)(hl:l.length<=1000000)(P4:∀f∈l,f.ok)(hy:Ry y)(hh:Bq high):aP prog 133 [qS l high y s] (bc (dQ l y high s)):=λU=>by
 refine Oc.r (by simp[KL]) ?_;have hs:=aa.refl U;refine ad.mix 3 ?_;have e1:(aJ l).cells=[aJ l]:=rfl;have e2:(aJ l).stays=true:=rfl;apply sR;simp only[go_sem,seval,KL,qS,e1,e2];refine ae λi1 Z1 s1 a1 f1=>?_;have z1:=hs.none f1;replace hs:=hs.trans s1;simp only[go_sem,seval,a1,e1,e2];refine ae λi2 Z2 s2 a2 f2=>?_;have ZX:=ao a1 f2;replace a1:=s2 _ _ a1;have z2:=hs.none f2;replace hs:=hs.trans s2;simp only[go_sem,seval,a2,a1];refine ad.ay rfl rfl rfl (B9 l y high s hl P4 hy hh _) ?_;apply sR;simp only[go_sem,seval,a2,bc];exact au.pure (hs.az z2) rfl
def IE(l:List O')(w high y:Int)(s:QL)(hl:l.length<=1000000)(P4:∀f∈l,f.ok)(hy:Ry y)(hh:Bq high)(R6:Ry s.a/\Ry s.b):aP prog 131 [qS l high y s,vI w] (.bool (vV l w high s y)):=λU=>by
 refine NN.r (by simp[c131]) ?_;have hs:=aa.refl U;refine ad.mix 5 ?_;have hb:=Cx l high y s hl P4 hy hh;have hlen:=GL (dQ l y high s) (mn P4 R6).1 (mn P4 R6).2;unfold vV;generalize dQ l y high s=b at*;have e1:(aJ l).cells=[aJ l]:=rfl;have e2:(aJ l).stays=true:=rfl;apply sR;simp only[go_sem,seval,c131,qS,e1,e2];refine ae λi2 Z2 s2 a2 f2=>?_;have z2:=hs.none f2;replace hs:=hs.trans s2;simp only[go_sem,seval,a2,e1,e2];refine Go.cN rfl rfl rfl hb ?_;apply sG;simp only[go_sem,seval];refine Go.cN rfl rfl rfl hlen ?_;by_cases h1:w<=jC b
 .have q:(w<=jC b)=True:=PK h1;apply sG;simp only[go_sem,seval,q,a2];exact au.pure hs (by simp[h1])
 .have q:(w<=jC b)=False:=PG h1;apply sG;simp only[go_sem,seval,q,a2];refine Go.cN rfl rfl rfl hb ?_;obtain⟨b1,b2⟩:=b;obtain⟨s1,s2⟩:=s;apply sG;simp only[go_sem,seval,a2,bc];refine au.pure hs ?_;by_cases h2:b1=s1<;>by_cases h3:b2=s2<;>simp[h1,h2,h3]
def GW(l:List O')(w high y:Int)(s:QL)(hl:l.length<=1000000)(P4:∀f∈l,f.ok)(hy:Ry y)(hh:Bq high)(R6:Ry s.a/\Ry s.b):
 aP prog 84 [aJ l,vI w,vI high,vI y,bc s] (.PI [bc (dQ l (lk l w high s y) high s),vI (lk l w high s y)]):=λU=>by
 refine e84.r (by simp[c84]) ?_;have hs:=aa.refl U;refine ad.mix 13 ?_;have e1:(aJ l).cells=[aJ l]:=rfl;have e2:(aJ l).stays=true:=rfl;apply sR;simp only[go_sem,seval,c84,bc];refine ae λi9 Z9 s9 a9 f9=>?_;have z9:=hs.none f9;replace hs:=hs.trans s9;simp only[go_sem,seval,a9];refine ae λi10 V7 Sj Qq f10=>?_;have YU:=ao a9 f10;replace a9:=Sj _ _ a9;have UO:=hs.none f10;replace hs:=hs.trans Sj;simp only[go_sem,seval,Qq,a9,e1,e2];refine ae λi12 Z12 VG a12 f12=>?_;have n912:=ao a9 f12;replace a9:=VG _ _ a9;have Xu:=ao Qq f12;replace Qq:=VG _ _ Qq;have z12:=hs.none f12;replace hs:=hs.trans VG;simp only[go_sem,seval,a12,Qq,a9,e1,e2];generalize Za:u' _ i12 _=Y12;replace a12:=(congrFun Za i12).symm.trans af;replace a9:=((congrFun Za i9).symm.trans (ab n912)).trans a9;replace Qq:=((congrFun Za i10).symm.trans (ab Xu)).trans Qq;replace hs:=Eq.subst (motive:=aa _) Za (hs.az z12);clear Za;obtain⟨z,hz⟩:∃z,z=lk l w high s y:=⟨_,rfl⟩
 rw[<-hz];refine ad.eh (λst=>∃J,st.U=J/\aa U J/\J i12=some ⟨239,5,[qS l high z s]⟩/\J i10=some ⟨180,2,[.agg [vI 0,vI 0]]⟩/\st.s 10=.ptr i10 0 0/\st.s 12=.ptr i12 0 0/\Ry z)
  (λm st=>∃(y':Int) (k:Nat),m=YZ l y'/\YZ l y'<=k/\z=oW l w high s k y'/\Ry y'/\aa U st.U/\st.U i12=some ⟨239,5,[qS l high y' s]⟩/\st.U i10=some ⟨180,2,[.agg [vI 0,vI 0]]⟩/\st.s 1=vI w/\st.s 10=.ptr i10 0 0/\st.s 12=.ptr i12 0 0) (YZ l y) ?_ ?_ ?_
 .exact⟨y,l.length,rfl,List.length_filter_le _ _,hz,hy,hs,a12,Qq,rfl,rfl,rfl⟩
 .rintro m ⟨S,J⟩ ⟨y',k,rfl,hk,hzk,Xn,hs,Wc,Ww,k1,VH,R9⟩;simp only at hs Wc Ww k1 VH R9;refine ad.mix 13 ?_;rw[qS]at Wc;apply sR;simp only[go_sem,seval,k1,VH,R9,Wc,e1,e2];refine ad.ay rfl rfl rfl (IE l w high y' s hl P4 Xn hh R6 _) ?_;cases hf:vV l w high s y'
  .have PZ:dQ l y' high s≠s:=λe=>by simp[vV,e]at hf
   have hfd:=oG PZ;have hdec:=xP (iB hfd);apply sR;simp only[go_sem,seval,k1,VH,R9,Wc,e1,e2];refine ad.ay rfl rfl rfl (FE l y' high s hl P4 Xn hh _) ?_;apply sR;simp only[go_sem,seval,k1,VH,R9,Wc,e1,e2];obtain⟨k',rfl⟩:∃k',k=k'+1:=⟨k-1,by omega⟩
   rw[oW,hf]at hzk;have n:i12≠i10:=Xu.symm;refine⟨_,hdec,_,k',rfl,by omega,by simpa using hzk,FB P4 hfd,hs.az z12,rfl,?_⟩;rw[ab Xu];exact Ww
  .have hzy:z=y':=by cases k<;>simp[oW,hf]at hzk<;>exact hzk
   subst hzy;apply sR;simp only[go_sem,seval,k1,VH,R9,Wc,e1,e2];exact⟨J,rfl,hs,Wc,Ww,Xn⟩
 .rintro⟨S,J⟩ ⟨X',rfl,hs,Wc,Ww,VH,R9,hz2⟩;simp only at hs Wc Ww VH R9;rw[qS]at Wc;refine ad.mix 13 ?_;apply sR;simp only[go_sem,seval,VH,R9];refine ad.rR (by kernel_rfl) [0,2,3,1,4,5] [[],[0],[],[2],[0,1],[0,1,2,3,4]] [0,4,6,2,7,8,7,10] (by kernel_rfl) (by kernel_rfl) ?_;refine RE.QS (n:=0) [2,7,8,7,10] [0,4,6] [⟨(.some 35),(.load .true 5 (.t 12)),.none⟩,⟨(.some 37),(.PN .false 4 1 (.t 12)),.none⟩,⟨(.some 38),(.load .false 1 (.t 37)),.none⟩] rfl rfl ?_;apply sG;simp only[go_sem,seval,VH,R9,Wc,e1,e2];refine RE.ay rfl rfl rfl rfl rfl (Cx l high z s hl P4 hz2 hh _) ?_;refine RE.Rl rfl rfl rfl rfl rfl trivial (by simp only[go_sem,seval,VH,R9,Wc,Ww,e1,e2]) ?_;refine RE.QS (n:=0) [7,10] [8] [⟨.none,(.store 2 (.t 10) (.t 36)),.none⟩] rfl rfl ?_;apply sG;simp only[go_sem,seval,VH,R9,Wc,Ww,bc,e1,e2];refine RE.Rl rfl rfl rfl rfl rfl trivial (by simp only[go_sem,seval,VH,R9,Wc,Ww,ab Xu.symm,e1,e2]) ?_;refine RE.QS (n:=0) [] [10] [⟨(.some 11),(.Qo (.t 38)),.none⟩] rfl rfl ?_;apply sG;simp only[go_sem,seval,VH,R9,Wc,Ww,bc,e1,e2];apply sR;simp only[go_sem,seval,VH,R9,af,bc];exact au.pure (hs.az UO) rfl
open Go.Proofs
def mr(e sz b:Nat):PH:=⟨8,.seq (.VP false [⟨some 2,.Qo (.c .aL),none⟩]) (.seq (.seq (.VP false [⟨some 3,.Qo (.t 0),none⟩,⟨some 4,.RL false (.t 3) (.c (.iface 0 .undef)),none⟩]) (.cond (.t 4) (.seq (.VP false [⟨some 2,.Qo (.c .aL),none⟩]) .ret) .skip)) (.seq (.VP false [⟨some 5,.ed e sz [],none⟩,⟨some 6,.Qo (.t 0),none⟩,⟨some 7,.append e sz b (.t 5) (.t 6),none⟩,⟨some 2,.Qo (.t 7),none⟩]) .ret)),[.tmp (.t 2)]⟩
def sQ{P:Program}{f:FuncId}{fn:Func}(hf:P.funcs[f]?=some fn){e sz b:Nat}(hc:cfn P fn=some (mr e sz b))(hk:eJ P f=true)(rows:List V)(hb:rows.length*(b+1)<=140737488355328)(U:ag):
 aC P f [.sl sz rows] U λr Z'=>aa U Z'/\aN U Z' e sz r rows:=by
 refine aC.pA hf hc hk (by simp[mr]) ?_;refine ad.mix 3 ?_
 (refine ad.aY Qw.nothing 8 ?_;simp only[go_sem,seval,cg,mr])
 refine ad.Ep rfl rfl rfl λt ht=>?_;cases t
 .apply sR;simp only[go_sem,seval];refine ae λSn Z1 s1 a1 f1=>?_;obtain⟨PU,hd,Qx⟩:=(aN.new (K:=U) (e:=e) (sz:=sz) (n:=0) (rows:=[]) rfl a1 f1).dst (aa.refl _);have WI:∀U,cA U sz (.sl sz rows)=some rows:=λU=>by simp[cA]
  simp only[go_sem,seval,hd,WI,hb];refine dI λRs Z2 s2 a2 f2=>?_;have Tl:=(Qx U (aa.refl _) Z1 s1).trans s2;simp only[go_sem,seval];exact⟨_,_,aa.refl _,Wk.refl (aa.refl _) _,Tl,aN.new (by simp) a2 (s1.none f2)⟩
 .apply sR;simp only[go_sem,seval];obtain rfl:rows=[]:=ht rfl;exact⟨_,_,aa.refl _,Wk.refl (aa.refl _) _,aa.refl _,aN.start⟩
def Al{P:Program}{f:FuncId}{fn:Func}(hf:P.funcs[f]?=some fn){e sz b:Nat}(hc:cfn P fn=some (mr e sz b))(hk:eJ P f=true)(rows:List V)(hb:rows.length*(b+1)<=140737488355328):
 aP P f [.sl sz rows] (.sl sz rows):=λU=>(sQ hf hc hk rows hb U).LL λ_ _ h=>h.2.zn h.1 rfl
def aT(l:List O'):(aJ l).cells=[aJ l]:=rfl
def aV(l:List O'):(aJ l).stays=true:=rfl
def lG{tell:O'->Int×Bool}{l:List O'}(h:(dV tell l).2=true):∃f∈l,(dV tell l).1=(tell f).1/\(tell f).2=true:=by
 have key:∀(l:List O') (a:Int×Bool),l.foldl (uE tell) a=a\/∃f∈l,l.foldl (uE tell) a=((tell f).1,true)/\(tell f).2=true:=by
  intro l
  induction l with
  |nil=>intro a;exact .inl rfl
  |cons g l ih=>
   intro a;rw[iY];rcases ih (uE tell a g)with h|⟨f,hf,h,h'⟩
   .rw[h];unfold uE;split
    .rename_i hc;exact .inr ⟨g,by simp,rfl,hc.1⟩
    .exact .inl rfl
   .exact .inr ⟨f,by simp[hf],h,h'⟩
 rcases key l (0,false)with h1|⟨f,hf,h1,h2⟩
 .unfold dV at h;rw[h1]at h;cases h
 .exact⟨f,hf,by unfold dV;rw[h1],h2⟩
def nW(l:List O')(w high:Int)(s:QL)(y:Int):Bool:=!(gu l y high s).2||decide (jC (dQ l y high s)>=w)
def kJ(l:List O')(w high:Int)(s:QL):Nat->Int->Int
 |0,y=>y
 |k+1,y=>if nW l w high s y then y else kJ l w high s k (gu l y high s).1
def oX(l:List O')(w high:Int)(s:QL)(y:Int):Int:=kJ l w high s l.length y
def An(f:O')(l:List O')(s:QL):V:=.agg [vI f.node,vI f.side,vI f.anchor,vI f.x,vI f.y,vI f.w,vI f.h,aJ l,vI s.a,vI s.b]
def H7(l:List O')(f:O')(y:Int)(s:QL)(hl:l.length<=1000000)(P4:∀f∈l,f.ok)(hy:Ry y)(hh:Bq f.h)(R6:Ry s.a/\Ry s.b):
 aP prog 186 [An f l s,vI y] (.PI [bc (dQ l (oX l f.w f.h s y) f.h s),vI (oX l f.w f.h s y)]):=λU=>by
 refine Pj.r (by simp[Ke]) ?_;have hs:=aa.refl U;refine ad.mix 9 ?_;apply sR;simp only[go_sem,seval,Ke,An,aT,aV];refine ae λi2 Z2 s2 a2 f2=>?_;have z2:=hs.none f2;replace hs:=hs.trans s2;simp only[go_sem,seval,a2,aT,aV];refine ae λi4 Z4 s4 a4 f4=>?_;have n24:=ao a2 f4;replace a2:=s4 _ _ a2;have z4:=hs.none f4;replace hs:=hs.trans s4;simp only[go_sem,seval,a4,a2];obtain⟨z,hz⟩:∃z,z=oX l f.w f.h s y:=⟨_,rfl⟩
 rw[<-hz];refine ad.loop (λm st=>∃(y':Int) (k:Nat),m=YZ l y'/\YZ l y'<=k/\z=kJ l f.w f.h s k y'/\Ry y'/\aa U st.U/\st.U i2=some ⟨300,10,[An f l s]⟩/\st.U i4=some ⟨180,2,[.agg [vI 0,vI 0]]⟩/\st.s 1=vI y'/\st.s 2=.ptr i2 0 0/\st.s 4=.ptr i4 0 0) (YZ l y) ?_ ?_
 .exact⟨y,l.length,rfl,List.length_filter_le _ _,hz,hy,hs,a2,a4,rfl,rfl,rfl⟩
 .rintro m ⟨S,J⟩ ⟨y',k,rfl,hk,hzk,Xn,hs,b2,b4,k1,k2,k4⟩;simp only at hs b2 b4 k1 k2 k4;refine ad.mix 9 ?_;rw[An]at b2;have hb:=mn (y:=y') (high:=f.h) P4 R6;apply sR;simp only[go_sem,seval,k1,k2,k4,b2,aT,aV];refine ad.ay rfl rfl rfl (B9 l y' f.h s hl P4 Xn hh _) ?_;apply sR;simp only[go_sem,seval,bc];refine ae λi6 Z6 s6 a6 f6=>?_;have n26:=ao b2 f6;have n46:=ao b4 f6;replace b2:=s6 _ _ b2;replace b4:=s6 _ _ b4;have z6:=hs.none f6;replace hs:=hs.trans s6;simp only[go_sem,seval,a6,b2,k1,k2,k4,ab n26,aT,aV];generalize hq:u' _ i6 _=Y6;have a6':=(congrFun hq i6).symm.trans af;have b2':=((congrFun hq i2).symm.trans (ab n26)).trans b2;have b4':=((congrFun hq i4).symm.trans (ab n46)).trans b4;replace hs:=Eq.subst (motive:=aa _) hq (hs.az z6);refine ad.ay rfl rfl rfl (FE l y' f.h s hl P4 Xn hh _) ?_;have hex:nW l f.w f.h s y'=true->z=y':=λh=>by cases k<;>simp[kJ,h]at hzk<;>exact hzk
  have hlen:=GL (dQ l y' f.h s) hb.1 hb.2;have RJ:nW l f.w f.h s y'=false->∃k',k=k'+1/\YZ l (gu l y' f.h s).1<YZ l y'/\z=kJ l f.w f.h s k' (gu l y' f.h s).1/\Ry (gu l y' f.h s).1:=λh=>by
   have h2:(gu l y' f.h s).2=true:=by
    simp only[nW,Bool.or_eq_false_iff,Bool.not_eq_false']at h;exact h.1
   have hdec:=xP (iB h2);obtain⟨k',rfl⟩:∃k',k=k'+1:=⟨k-1,by omega⟩
   rw[kJ,h]at hzk;exact⟨k',rfl,hdec,by simpa using hzk,FB P4 h2⟩
  unfold nW at hex RJ;cases hn:(gu l y' f.h s).2
  .rw[hn]at hex;obtain rfl:=hex (by simp);apply sR;simp only[go_sem,seval,k1,k2,k4,a6',b4',b2'];exact au.pure (hs.az z4) rfl
  .rw[hn]at hex RJ;apply sR;simp only[go_sem,seval,k1,k2,k4,a6',b2'];refine Go.cN rfl rfl rfl hlen ?_;by_cases hw:jC (dQ l y' f.h s)>=f.w
   .have q:(jC (dQ l y' f.h s)>=f.w)=True:=PK hw;obtain rfl:=hex (by simp[hw]);apply sG;simp only[go_sem,seval,k1,k2,k4,a6',b4',b2',q,aT,aV];exact au.pure (hs.az z4) rfl
   .have q:(jC (dQ l y' f.h s)>=f.w)=False:=PG hw;obtain⟨k',rfl,h1,h2,h3⟩:=RJ (by simp[hw]);apply sG;simp only[go_sem,seval,k1,k2,k4,a6',b4',b2',q,aT,aV];refine⟨_,h1,_,k',rfl,by omega,h2,h3,hs,?_⟩;exact⟨by rw[An],rfl⟩
structure WOk(ws:List Int)(space:Int):Prop where
 len:ws.length<=100000
 Wd:∀x∈ws,0<=x/\x<=1099511627776
 s0:0<=space
 s1:space<=1099511627776
def fZ(space:Int):List Int->Nat->Int->List (Nat×Int)
 |[],_,_=>[]
 |x::r,k,n=>(k+1,n+space+x)::fZ space r (k+1) (n+space+x)
def pD(space width:Int):List Int->Nat->Int->Nat×Int
 |[],k,n=>(k,n)
 |x::r,k,n=>if n+space+x>width then(k,n)else pD space width r (k+1) (n+space+x)
def j0(ws:List Int)(space width:Int)(i:Nat):Nat×Int:=pD space width (ws.drop (i+1)) (i+1) (ws.getD i 0)
def qW(space width:Int):∀(r:List Int) (k:Nat) (n:Int),k<=(pD space width r k n).1/\(pD space width r k n).1<=k+r.length
 |[],k,n=>by simp[pD]
 |x::r,k,n=>by
  rw[pD];split
  .simp
  .have:=qW space width r (k+1) (n+space+x);simp only[Rc];omega
def yZ{ws:List Int}{space width:Int}{i:Nat}(h:i<ws.length):i<(j0 ws space width i).1/\(j0 ws space width i).1<=ws.length:=by
 have:=qW space width (ws.drop (i+1)) (i+1) (ws.getD i 0);rw[vD]at this;unfold j0;omega
def WOk.get{ws:List Int}{space:Int}(h:WOk ws space){i:Nat}(hi:i<ws.length):0<=ws[i]/\ws[i]<=1099511627776:=h.Wd _ (QF hi)
open Go.Proofs
def ldI(U:ag)(l:List Int):bT U false 1 (.rp (encI l))=some (encI l):=rfl
def aj(l:List Int):(encI l).cells=[encI l]:=rfl
def al(l:List Int):(encI l).stays=true:=rfl
def gG{U:ag}{l:List Int}{i:Nat}(h:i<l.length):bL U 1 (encI l) (.int .i64 i)=some (.rp (vI l[i])):=by simp[encI,bL,h]
def eO(l:List Int):dY false (encI l)=some (.int .i64 l.length):=by simp[encI,dY]
def j3(ws:List Int)(space:Int):V:=.agg [encI ws,vI space]
def KM(ws:List Int)(space:Int):dZ false 0 1 (.rp (j3 ws space))=some (.rp (encI ws)):=rfl
def KQ(ws:List Int)(space:Int):dZ false 1 1 (.rp (j3 ws space))=some (.rp (vI space)):=rfl
def Ac(ws:List Int)(space:Int):(j3 ws space).cells=[encI ws,vI space]:=rfl
def zS(ws:List Int)(space:Int):(j3 ws space).stays=true:=rfl
def Nj(ws:List Int)(space i:Int):aP prog 228 [j3 ws space,vI i] (.bool (decide (i<0\/i>=ws.length))):=λU=>by
 refine Oe.r (by simp[c228]) ?_;have hs:=aa.refl U;have hn:=eO ws;apply sR;simp only[go_sem,seval,c228,j3,aj,al];refine ae λi2 Z2 s2 a2 f2=>?_;have z2:=hs.none f2;replace hs:=hs.trans s2;by_cases h:i<0
 .have q:(i<0)=True:=PK h;simp only[go_sem,seval,a2,q,aj,al];exact au.pure hs (by simp[h])
 .have q:(i<0)=False:=PG h;simp only[go_sem,seval,a2,q,hn,aj,al];exact au.pure hs (by simp[h])
def fI(l:List (Nat×Int)):List (List V):=l.map λp=>[vI p.1,vI p.2]
def Ec(ws:List Int)(space:Int)(hw:WOk ws space)(i:Nat)(hi:i<ws.length):Iter prog 255 [.rp (j3 ws space),.rp (vI i)] (fI (fZ space (ws.drop i) i (0-space))):=by
 refine⟨Nr.c,λP9 τ Jx Z0 hy hJ=>?_⟩;refine(Nr.r (by simp[La]) ?_).2;have QJ:=hw.s0;have R6:=hw.s1;have UE:=hw.len;have hn:=eO ws;have r0:PM .i64 (0-space):=ak;refine ad.mix 6 ?_;apply sR;simp only[BB,seval,<-decide_not,bp,eT,aH,dF,dG,dB,dE,dH,bO,jm,bx,fa,cQ,fb,cJ,cy,bI,gI,ct,bH,bM,QW,jg,cP,bJ,iy,di,bY,cO,cF,ji,binBV,bD,cX,V.cells,V.stays,Qw.nothing,La,ldI,KM,KQ,r0];refine ad.loop (λm st=>∃(pre:List (Nat×Int)) (j:Nat) (n:Int) (ZJ:ag),m=ws.length-j/\i<=j/\j<=ws.length/\-1099511627776<=n/\n<=2199023255552*j/\fZ space (ws.drop i) i (0-space)=pre++fZ space (ws.drop j) j n/\
  τ (fI pre) ZJ/\aa ZJ st.U/\st.s 0=.yl P9/\st.s 1=.rp (j3 ws space)/\st.s 4=vI n/\st.s 5=vI j) (ws.length-i) ?_ ?_
 .exact⟨[],i,0-space,Z0,rfl,by omega,by omega,by omega,by omega,rfl,hJ,aa.refl _,rfl,rfl,rfl,rfl⟩
 .rintro m ⟨s,Z'⟩ ⟨pre,j,n,ZJ,rfl,hij,hj,hn1,WR,Rv,hJp,B',t0,t1,t4,t5⟩;simp only at B' t0 t1 t4 t5;refine ad.mix 6 ?_;by_cases C':j<ws.length
  .have q:((j:Int)<ws.length)=True:=PK;have hx:=hw.get C';have E':=λU=>gG (U:=U) C';rw[gT C',fZ]at Rv;generalize ws[j]=w at*;have r1:PM .i64 (space+w):=ak;have r2:PM .i64 (n+(space+w)):=ak;have r3:PM .i64 ((j:Int)+1):=ak;have en:n+space+w=n+(space+w):=by omega
   rw[en]at Rv;have e:fI (fZ space (ws.drop i) i (0-space))=fI pre++[vI ((j:Int)+1),vI (n+(space+w))]::fI (fZ space (ws.drop (j+1)) (j+1) (n+(space+w))):=by rw[Rv];simp[fI]
   apply sR;simp only[BB,seval,<-decide_not,bp,eT,aH,dF,dG,dB,dE,dH,bO,jm,bx,fa,cQ,fb,cJ,cy,bI,gI,ct,bH,bM,QW,jg,cP,bJ,iy,di,bY,cO,cF,ji,binBV,bD,cX,V.cells,V.stays,Qw.nothing,t0,t1,t4,t5,hn,q,ldI,KM,KQ,E',r1,r2,r3];refine ad.lK (Post:=λb Z2=>∃P5,bf ZJ Z' P5 Z2/\((b=true/\τ (fI pre++[[vI ((j:Int)+1),vI (n+(space+w))]]) P5)\/(b=false/\Jx (fI pre++[[vI ((j:Int)+1),vI (n+(space+w))]]) P5))) rfl rfl rfl (hy _ _ _ ZJ Z' e hJp B') ?_;rintro b Z2 ⟨P5,QM,QE⟩;rcases QE with⟨rfl,QE⟩|⟨rfl,QE⟩
   .apply sR;simp only[go_sem,seval,t0,t1,t4,t5,r3];refine⟨_,?_,pre++[(j+1,n+(space+w))],j+1,n+(space+w),P5,rfl,by omega,by omega,by omega,by omega,by rw[Rv];simp,?_,QM.1,by simp[t0,t1]⟩
    .omega
    .simpa[fI]using QE
   .apply sR;simp only[go_sem,seval,t0,t1,t4,t5];refine⟨_,P5,QM.1,Wk.refl QM.1 _,.inr ⟨_,?_,QE⟩⟩;rw[e];exact⟨fI (fZ space (ws.drop (j+1)) (j+1) (n+(space+w))),by simp⟩
  .have q:((j:Int)<ws.length)=False:=PG;apply sR;simp only[BB,seval,<-decide_not,bp,eT,aH,dF,dG,dB,dE,dH,bO,jm,bx,fa,cQ,fb,cJ,cy,bI,gI,ct,bH,bM,QW,jg,cP,bJ,iy,di,bY,cO,cF,ji,binBV,bD,cX,V.cells,V.stays,Qw.nothing,t0,t1,t4,t5,hn,q,ldI,KM,KQ];rw[show ws.drop j=[]from List.drop_of_length_le (by omega),fZ,kj]at Rv;exact⟨_,ZJ,B',Wk.refl B' _,.inl (by rw[Rv];exact hJp)⟩
def Ka(ws:List Int)(space:Int)(i:Int):aP prog 229 [j3 ws space,vI i] (.fn 255 [.rp (j3 ws space),.rp (vI i)]):=λU=>by
 refine PD.r (by simp[c229]) ?_;refine ad.mix 4 ?_;have q1:=Ac ws space;have q2:=zS ws space;have q3:(j3 ws space).cells.length=2:=rfl;generalize hx:j3 ws space=x at*;apply sR;simp only[go_sem,seval,c229,q1,q2,q3];refine ae λSn Z1 s1 a1 f1=>?_;simp only[go_sem,seval];refine ae λRs Z2 s2 a2 f2=>?_;simp only[go_sem,seval];exact⟨_,U,s1.trans s2,Wk.fn (vs':=[.rp x,.rp (vI i)]) ⟨Wk.ptr (s1.trans s2) (s2 _ _ a1) f1,Wk.ptr (s1.trans s2) a2 (s1.none f2),trivial⟩,rfl,rfl⟩
open Go.Proofs
def wy(i j n:Int):V:=.agg [vI i,vI j,vI n]
structure TkJ(ws:List Int)(space width:Int)(i:Nat)(U:ag)(Vn YO YP id10:Nat)(pre:List (List V))(v:V)(ZJ:ag):Prop where
 sub:aa U ZJ
 r8:ZJ YP=some ⟨291,3,[.agg [vI 0,vI 0,vI 0]]⟩
 r6:ZJ Vn=some ⟨3,1,[vI width]⟩
 r7:ZJ YO=some ⟨3,1,[vI i]⟩
 VI:ZJ id10=some ⟨291,3,[v]⟩
 st:(pre=[]/\v=.agg [vI 0,vI 0,vI 0])\/∃n:Int,0<pre.length/\i+pre.length<=ws.length/\fI (fZ space (ws.drop i) i (0-space))=pre++fI (fZ space (ws.drop (i+pre.length)) (i+pre.length) n)/\
  j0 ws space width i=pD space width (ws.drop (i+pre.length)) (i+pre.length) n/\v=.agg [vI i,vI (i+pre.length:Nat),vI n]
def Iz(ws:List Int)(space width:Int)(hw:WOk ws space)(i:Nat)(hi:i<ws.length):aP prog 179 [encI ws,vI space,vI width,vI i] (wy i (j0 ws space width i).1 (j0 ws space width i).2):=λU=>by
 refine Nx.r (by simp[JN]) ?_;have hs:=aa.refl U;have UE:=hw.len;refine ad.mix 13 ?_;apply sR;simp only[go_sem,seval,JN];refine ae λi6 Z6 s6 a6 f6=>?_;have z6:=hs.none f6;replace hs:=hs.trans s6;simp only[go_sem,seval,a6,aj,al];refine ae λi7 Z7 s7 a7 f7=>?_;have UF:=ao a6 f7;replace a6:=s7 _ _ a6;have z7:=hs.none f7;replace hs:=hs.trans s7;simp only[go_sem,seval,a7,a6,aj,al];refine ae λi8 Z8 s8 a8 f8=>?_;have n68:=ao a6 f8;replace a6:=s8 _ _ a6;have V8:=ao a7 f8;replace a7:=s8 _ _ a7;have z8:=hs.none f8;replace hs:=hs.trans s8;simp only[go_sem,seval,a8,a7,a6,aj,al];refine ae λi9 Z9 s9 a9 f9=>?_;have YR:=ao a6 f9;replace a6:=s9 _ _ a6;have n79:=ao a7 f9;replace a7:=s9 _ _ a7;have Wu:=ao a8 f9;replace a8:=s9 _ _ a8;have z9:=hs.none f9;replace hs:=hs.trans s9;simp only[go_sem,seval,a9,a8,a7,a6,aj,al,ab YR,ab n79,ab Wu];generalize QX:u' _ i9 _=Y9;replace a9:=(congrFun QX i9).symm.trans af;replace a6:=((congrFun QX i6).symm.trans (ab YR)).trans a6;replace a7:=((congrFun QX i7).symm.trans (ab n79)).trans a7;replace a8:=((congrFun QX i8).symm.trans (ab Wu)).trans a8;replace hs:=Eq.subst (motive:=aa _) QX (hs.az z9);clear QX;have hf:=Nj ws space i;rw[show decide ((i:Int)<0\/(i:Int)>=ws.length)=false by simp;omega]at hf;refine ad.ay rfl rfl rfl (hf _) ?_;apply sR;simp only[go_sem,seval,a9,a8,a7,a6];refine ae λi10 V7 Sj Qq f10=>?_;have Zb:=ao a6 f10;replace a6:=Sj _ _ a6;have XV:=ao a7 f10;replace a7:=Sj _ _ a7;have n810:=ao a8 f10;replace a8:=Sj _ _ a8;have YU:=ao a9 f10;replace a9:=Sj _ _ a9;have UO:=hs.none f10;replace hs:=hs.trans Sj;simp only[go_sem,seval,Qq,a9,a8,a7,a6];refine ad.ay rfl rfl rfl (Ka ws space i _) ?_;apply sR;simp only[go_sem,seval,Qq,a9,a8,a7,a6];generalize hS:mix 13 _ _=S;have S6:S 6=.ptr i6 0 0:=by rw[<-hS];rfl
 have S7:S 7=.ptr i7 0 0:=by rw[<-hS];rfl
 have S8:S 8=.ptr i8 0 0:=by rw[<-hS];rfl
 have Zc:S 10=.ptr i10 0 0:=by rw[<-hS];rfl
 have S22:S 22=.fn 255 [.rp (j3 ws space),.rp (vI i)]:=by rw[<-hS];rfl
 clear hS;have hit:=Ec ws space hw i hi;have hdr:ws.drop i=ws[i]::ws.drop (i+1):=gT hi;have Vk:ws.getD i 0=ws[i]:=by simp[hi]
 have hxi:=hw.get hi;have fin:∀(J:ag) (w:V),aa U J->J i8=some ⟨291,3,[.agg [vI 0,vI 0,vI 0]]⟩->J i10=some ⟨291,3,[wy i (j0 ws space width i).1 (j0 ws space width i).2]⟩->
  ad prog 39 [It.code (.seq (.VP false [⟨some 38,.load true 3 (.t 10),none⟩,⟨none,.store 3 (.t 8) (.t 38),none⟩]) .ret)] ⟨S,J⟩ (λst=>UK [VR.cell true 3 (VX.t 8)] st λr Z'=>r=wy i (j0 ws space width i).1 (j0 ws space width i).2/\Z'=U):=by
  intro J w h1 h2 h3;refine ad.mix 13 ?_;rw[wy]at h3;apply sR;simp only[go_sem,seval,S8,Zc,h2,h3];exact au.pure (h1.az z8) rfl
 refine ad.eK (g:=.t 22) (caps:=[.rp (j3 ws space),.rp (vI i)]) S22 hit (λx hx=>?_) [0] (λpre ZJ=>∃v,TkJ ws space width i U i6 i7 i8 i10 pre v ZJ)
  (λe pre ZJ=>e=some 0/\aa U ZJ/\ZJ i8=some ⟨291,3,[.agg [vI 0,vI 0,vI 0]]⟩/\ZJ i10=some ⟨291,3,[wy i (j0 ws space width i).1 (j0 ws space width i).2]⟩) ?_ ?_ ?_ ?_ ?_
 .obtain⟨t,_,rfl⟩:=eI.1 hx;rfl
 .exact⟨_,hs,a8,a6,a7,Qq,.inl ⟨rfl,rfl⟩⟩
 .rintro pre x post ZJ ZB Rv ⟨v,τ⟩ B';have b6:=B' _ _ τ.r6;have b7:=B' _ _ τ.r7;have b8:=B' _ _ τ.r8;have Ww:=B' _ _ τ.VI;rcases τ.st with⟨rfl,rfl⟩|⟨n,hp,Uc,hr,Qn,rfl⟩
  .obtain rfl:x=[vI ((i:Int)+1),vI ws[i]]:=by
    rw[hdr]at Rv;simp only[fZ,fI,dO,jU,List.cons.injEq]at Rv;rw[<-Rv.1];simp only[Int.sub_add_cancel,Int.zero_add];rw[show((i+1:Nat):Int)=(i:Int)+1 by omega]
   refine ad.mix 13 ?_;generalize Ro:lT S [23,24] _=S0;have T6:S0 6=.ptr i6 0 0:=by rw[<-Ro];exact S6
   have T7:S0 7=.ptr i7 0 0:=by rw[<-Ro];exact S7
   have Vt:S0 10=.ptr i10 0 0:=by rw[<-Ro];exact Zc
   have T23:S0 23=vI ((i:Int)+1):=by rw[<-Ro];rfl
   have T24:S0 24=vI ws[i]:=by rw[<-Ro];rfl
   clear Ro;have r1:PM .i64 ((i:Int)+1):=ak;have q:((i:Int)+1>(i:Int)+1)=False:=PG;apply sR;simp only[go_sem,seval,T6,T7,Vt,T23,T24];apply sR;simp only[go_sem,seval,T6,T7,Vt,T23,T24,b6,b7,Ww,r1,q];refine⟨_,(bf.refl B').set τ.VI,_,τ.sub.az UO,by rw[ab n810];exact τ.r8,by rw[ab Zb];exact τ.r6,by rw[ab XV];exact τ.r7,af,.inr ⟨ws[i],by simp,by simp;omega,?_,?_,?_⟩⟩
   .rw[hdr,fZ];simp only[Int.sub_add_cancel,Int.zero_add,fI,dO,jU,Rc,List.length_nil,List.cons_append];rw[show((i+1:Nat):Int)=(i:Int)+1 by omega]
   .unfold j0;rw[Vk];rfl
   .simp
  .have C':i+pre.length<ws.length:=by
    rcases Nat.lt_or_ge (i+pre.length) ws.length with h|h
    .exact h
    .exfalso;rw[List.drop_of_length_le h]at hr;rw[hr]at Rv;have:=congrArg List.length Rv;simp[fZ,fI]at this
   have We:ws.drop (i+pre.length)=ws[i+pre.length]::ws.drop (i+pre.length+1):=gT C';obtain rfl:x=[vI ((i:Int)+pre.length+1),vI (n+space+ws[i+pre.length])]:=by
    rw[hr,We]at Rv;have h2:=List.append_cancel_left Rv;simp only[fZ,fI,dO,List.cons.injEq]at h2;rw[<-h2.1];rw[show((i+pre.length+1:Nat):Int)=(i:Int)+pre.length+1 by omega]
   rw[We,pD]at Qn;refine ad.mix 13 ?_;generalize Ro:lT S [23,24] _=S0;have T6:S0 6=.ptr i6 0 0:=by rw[<-Ro];exact S6
   have T7:S0 7=.ptr i7 0 0:=by rw[<-Ro];exact S7
   have Vt:S0 10=.ptr i10 0 0:=by rw[<-Ro];exact Zc
   have T23:S0 23=vI ((i:Int)+pre.length+1):=by rw[<-Ro];rfl
   have T24:S0 24=vI (n+space+ws[i+pre.length]):=by rw[<-Ro];rfl
   clear Ro;have r1:PM .i64 ((i:Int)+1):=ak;have q:((i:Int)+pre.length+1>(i:Int)+1)=True:=PK;apply sR;simp only[go_sem,seval,T6,T7,Vt,T23,T24];by_cases Ug:n+space+ws[i+pre.length]>width
   .have q2:(n+space+ws[i+pre.length]>width)=True:=PK Ug;rw[aE Ug]at Qn;apply sR;simp only[go_sem,seval,T6,T7,Vt,T23,T24,b6,b7,Ww,r1,q,q2];refine⟨_,bf.refl B',τ.sub,τ.r8,?_⟩;rw[τ.VI,Qn];rfl
   .have q2:(n+space+ws[i+pre.length]>width)=False:=PG Ug;rw[aF Ug]at Qn;apply sR;simp only[go_sem,seval,T6,T7,Vt,T23,T24,b6,b7,Ww,r1,q,q2];have hpl2:(pre++[[vI ((i:Int)+pre.length+1),vI (n+space+ws[i+pre.length])]]).length=pre.length+1:=by simp
    refine⟨_,(bf.refl B').set τ.VI,_,τ.sub.az UO,by rw[ab n810];exact τ.r8,by rw[ab Zb];exact τ.r6,by rw[ab XV];exact τ.r7,af,.inr ⟨n+space+ws[i+pre.length],by omega,by omega,?_,?_,?_⟩⟩
    .rw[hr,We,hpl2,fZ];simp only[fI,dO,gw,List.cons_append,jU];rw[show((i+pre.length+1:Nat):Int)=(i:Int)+pre.length+1 by omega];rfl
    .rw[hpl2];exact Qn
    .rw[hpl2,show((i+(pre.length+1):Nat):Int)=(i:Int)+pre.length+1 by omega]
 .rintro Z' ⟨v,τ⟩;rcases τ.st with⟨h0,rfl⟩|⟨n,hp,Uc,hr,Qn,rfl⟩
  .exfalso;rw[hdr]at h0;simp[fZ,fI]at h0
  .have he:fI (fZ space (ws.drop (i+(fI (fZ space (ws.drop i) i (0-space))).length)) (i+(fI (fZ space (ws.drop i) i (0-space))).length) n)=[]:=by
    have:=congrArg List.length hr;rw[fB]at this;exact rO (by omega)
   generalize (fI (fZ space (ws.drop i) i (0-space))).length=p at*;have hd:ws.drop (i+p)=[]:=by
    cases h:ws.drop (i+p)with
    |nil=>rfl
    |cons a b=>rw[h]at he;simp[fZ,fI]at he
   rw[hd,pD]at Qn;refine ad.inBlock (fin Z' .aL τ.sub τ.r8 ?_);rw[τ.VI,Qn];rfl
 .intro id hid pre Z' _ ⟨h0,h1,h2,h3⟩;obtain rfl:id=0:=by simpa using hid
  refine ad.exit rfl ?_;exact fin Z' .aL h1 h2 h3
 .rintro pre Z' _ ⟨h0,_⟩;cases h0
open Go.Proofs
def uQ(p:Pn)(n:Int):Pn:=⟨if n>0 then p.y+p.m+n else p.y,if n>0 then 0 else p.m⟩
def ek(p:Pn)(mg n:Int):Pn:=uQ ⟨p.y,max p.m mg⟩ n
def lF(p:Pn)(mg n:Int):Pn:=⟨(uQ p n).y,max (uQ p n).m mg⟩
def CA(p:Pn)(mg n:Int)(h1:Bq p.y)(h2:Bq p.m)(h3:Bq mg)(h4:Bq n):aP prog 79 [gE p,vI mg,vI n] (gE (ek p mg n)):=λU=>by
 refine e79.r (by simp[c79]) ?_;have hs:=aa.refl U;refine ad.mix 10 ?_;apply sR;simp only[go_sem,seval,c79,gE];refine ae λi3 Z3 s3 a3 f3=>?_;have z3:=hs.none f3;replace hs:=hs.trans s3;simp only[go_sem,seval,a3];refine ae λi6 Z6 s6 a6 f6=>?_;have n36:=ao a3 f6;replace a3:=s6 _ _ a3;have z6:=hs.none f6;replace hs:=hs.trans s6;simp only[go_sem,seval,a6,a3];refine ae λi7 Z7 s7 a7 f7=>?_;have n37:=ao a3 f7;replace a3:=s7 _ _ a3;have UF:=ao a6 f7;replace a6:=s7 _ _ a6;have z7:=hs.none f7;replace hs:=hs.trans s7;simp only[go_sem,seval,a7,a6,a3,ab n37,ab UF];generalize Th:u' _ i7 _=Y7;replace a7:=(congrFun Th i7).symm.trans af;replace a3:=((congrFun Th i3).symm.trans (ab n37)).trans a3;replace a6:=((congrFun Th i6).symm.trans (ab UF)).trans a6;replace hs:=Eq.subst (motive:=aa _) Th (hs.az z7);clear Th;refine ad.call rfl rfl rfl (Cf p.y p.m mg a7) ?_;rintro r Z1 ⟨rfl,rfl⟩;apply sR;simp only[go_sem,seval];have hm:Bq (max p.m mg):=by obtain⟨g1,g2⟩:=h2;obtain⟨g3,g4⟩:=h3;exact⟨by omega,by omega⟩
 refine ad.call rfl rfl rfl (Jc p.y (max p.m mg) n h1 hm h4 af) ?_;rintro r Z2 ⟨rfl,rfl⟩;apply sR;simp only[go_sem,seval,a6,ab UF,ab UF.symm];exact au.pure ((hs.az z7).az z6) rfl
def Cv(p:Pn)(mg n:Int)(h1:Bq p.y)(h2:Bq p.m)(h3:Bq mg)(h4:Bq n):aP prog 80 [gE p,vI mg,vI n] (gE (lF p mg n)):=λU=>by
 refine e80.r (by simp[c80]) ?_;have hs:=aa.refl U;refine ad.mix 10 ?_;apply sR;simp only[go_sem,seval,c80,gE];refine ae λi3 Z3 s3 a3 f3=>?_;have z3:=hs.none f3;replace hs:=hs.trans s3;simp only[go_sem,seval,a3];refine ae λi6 Z6 s6 a6 f6=>?_;have n36:=ao a3 f6;replace a3:=s6 _ _ a3;have z6:=hs.none f6;replace hs:=hs.trans s6;simp only[go_sem,seval,a6,a3];refine ae λi7 Z7 s7 a7 f7=>?_;have n37:=ao a3 f7;replace a3:=s7 _ _ a3;have UF:=ao a6 f7;replace a6:=s7 _ _ a6;have z7:=hs.none f7;replace hs:=hs.trans s7;simp only[go_sem,seval,a7,a6,a3,ab n37,ab UF];generalize Th:u' _ i7 _=Y7;replace a7:=(congrFun Th i7).symm.trans af;replace a3:=((congrFun Th i3).symm.trans (ab n37)).trans a3;replace a6:=((congrFun Th i6).symm.trans (ab UF)).trans a6;replace hs:=Eq.subst (motive:=aa _) Th (hs.az z7);clear Th;refine ad.call rfl rfl rfl (Jc p.y p.m n h1 h2 h4 a7) ?_;rintro r Z1 ⟨rfl,rfl⟩;apply sR;simp only[go_sem,seval];refine ad.call rfl rfl rfl (Cf _ _ mg af) ?_;rintro r Z2 ⟨rfl,rfl⟩;apply sR;simp only[go_sem,seval,a6,ab UF,ab UF.symm];exact au.pure ((hs.az z7).az z6) rfl
structure Ln where
 (fr to x y w:Int)
deriving DecidableEq
def mv(l:Ln):V:=.agg [vI l.fr,vI l.to,vI l.x,vI l.y,vI l.w]
def nR(fs:List O')(ws:List Int)(space high:Int)(i:Nat)(y:Int)(s:QL):Ln:=
 let at':=lk fs (ws.getD i 0) high s y
 let b:=dQ fs at' high s
 let t:=j0 ws space (jC b) i
 ⟨i,t.1,b.a,at',t.2⟩
def Ij(fs:List O')(ws:List Int)(space high:Int)(i:Nat)(y:Int)(s:QL)(hl:fs.length<=1000000)(P4:∀f∈fs,f.ok)(hy:Ry y)(hh:Bq high)(R6:Ry s.a/\Ry s.b)(hw:WOk ws space)(hi:i<ws.length):
 aP prog 129 [aJ fs,encI ws,vI space,vI high,vI i,vI y,bc s] (mv (nR fs ws space high i y s)):=λU=>by
 refine OB.r (by simp[KX]) ?_;have hs:=aa.refl U;have hn:=eO ws;have E':=λU=>gG (U:=U) hi;have q0:((i:Int)<0)=False:=PG;have q1:((i:Int)>=ws.length)=False:=PG;refine ad.mix 18 ?_;apply sR;simp only[go_sem,seval,KX,bc];refine ae λi13 Y13 s13 RW f13=>?_;have z13:=hs.none f13;replace hs:=hs.trans s13;simp only[go_sem,seval,RW];refine ae λi14 Z14 s14 Q2 f14=>?_;have n1314:=ao RW f14;replace RW:=s14 _ _ RW;have z14:=hs.none f14;replace hs:=hs.trans s14;simp only[go_sem,seval,Q2,RW,hn,E',q0,q1];have Vk:ws.getD i 0=ws[i]:=by simp[hi]
 obtain⟨at',RF⟩:∃a,a=lk fs ws[i] high s y:=⟨_,rfl⟩
 have UA:=GW fs ws[i] high y s hl P4 hy hh R6;rw[<-RF]at UA;have Wt:=mn (y:=at') (high:=high) P4 R6;unfold nR;rw[Vk];simp only;rw[<-RF];obtain⟨b,hb⟩:∃b,b=dQ fs at' high s:=⟨_,rfl⟩
 rw[<-hb]at UA Wt|-;refine Go.cN rfl rfl rfl UA ?_;apply sG;simp only[go_sem,seval,bc];refine bj λi15 Y15 s15 VB f15=>?_;have n1315:=ao RW f15;replace RW:=s15 _ _ RW;have n1415:=ao Q2 f15;replace Q2:=s15 _ _ Q2;have z15:=hs.none f15;replace hs:=hs.trans s15;simp only[go_sem,seval,VB,Q2,RW,bc];generalize Sw:u' _ i15 _=Z15;replace VB:=(congrFun Sw i15).symm.trans af;replace RW:=((congrFun Sw i13).symm.trans (ab n1315)).trans RW;replace Q2:=((congrFun Sw i14).symm.trans (ab n1415)).trans Q2;replace hs:=Eq.subst (motive:=aa _) Sw (hs.az z15);clear Sw;refine ad.ay rfl rfl rfl (GL b Wt.1 Wt.2 _) ?_;apply sR;simp only[go_sem,seval];refine ad.ay rfl rfl rfl (Iz ws space (jC b) hw i hi _) ?_;apply sR;simp only[go_sem,seval,wy];refine ae λi17 Y17 s17 U8 f17=>?_;have Xv:=ao RW f17;replace RW:=s17 _ _ RW;have n1417:=ao Q2 f17;replace Q2:=s17 _ _ Q2;have n1517:=ao VB f17;replace VB:=s17 _ _ VB;have z17:=hs.none f17;replace hs:=hs.trans s17;simp only[go_sem,seval,U8,VB,Q2,ab Xv,ab n1417,ab n1517];exact au.pure ((hs.az z17).az z14) rfl
open Go.Proofs
def aN.BC{K ZJ Z1:ag}{e sz:Nat}{v:V}{rows:List V}(h:aN K ZJ e sz v rows)(hs:aa ZJ Z1):
 ∃PU,cK Z1 e sz v=some (rows,PU)/\(∀K':ag,aa K' K->∀Z2,aa K' Z2->aa K' (Vc.bF Z2 PU))/\(∀i o,ZJ i=some o->(o.elem≠e\/o.sz≠sz)->∀Z2:ag,Vc.bF Z2 PU i=Z2 i)/\(∀i,ZJ i=none->∀Z2:ag,Vc.bF Z2 PU i=Z2 i):=by
 rcases h with⟨rfl,rfl⟩|⟨id,rfl,ho,hk⟩
 .exact⟨none,rfl,λ_ _ _ h=>h,λ_ _ _ _ _=>rfl,λ_ _ _=>rfl⟩
 .refine⟨some id,?_,λK' hK Z2 h=>h.IW (hK.none hk),λi o hi PZ Z2=>?_,λi hi Z2=>?_⟩
  .simp only[cK,hs _ _ ho];rw[aE ⟨trivial,trivial,trivial,Qh _⟩,hU]
  .refine er λe'=>?_;subst e';rw[ho]at hi;injection hi with hi;subst hi;rcases PZ with h|h<;>exact h rfl
  .refine er λe'=>?_;subst e';rw[ho]at hi;cases hi
def rm{l:List O'}{w high B:Int}{s:QL}(hB:∀f∈l,f.y+f.h<=B):∀(k:Nat) (y:Int),y<=oW l w high s k y/\oW l w high s k y<=max y B
 |0,y=>by simp only[oW];omega
 |k+1,y=>by
  rw[oW];split
  .omega
  .rename_i hf;have PZ:dQ l y high s≠s:=λe=>hf (by simp[vV,e]);obtain⟨f,hm,h1,h2⟩:=iB (oG PZ);have:=rm hB k (gu l y high s).1 (w:=w) (high:=high) (s:=s);have:=hB f hm;omega
def fV{l:List O'}{w high B y:Int}{s:QL}(hB:∀f∈l,f.y+f.h<=B):y<=lk l w high s y/\lk l w high s y<=max y B:=rm hB _ _
def dz(fs:List O')(ws:List Int)(space high:Int)(s:QL):Nat->Nat->Int->List Ln
 |0,_,_=>[]
 |k+1,i,y=>if i<ws.length then nR fs ws space high i y s::dz fs ws space high s k (nR fs ws space high i y s).to.toNat ((nR fs ws space high i y s).y+high)else[]
def ju(fs:List O')(ws:List Int)(space high:Int)(s:QL):∀(k i:Nat) (y:Int),(dz fs ws space high s k i y).length<=k
 |0,_,_=>by simp[dz]
 |k+1,i,y=>by
  rw[dz];split
  .have:=ju fs ws space high s k (nR fs ws space high i y s).to.toNat ((nR fs ws space high i y s).y+high);simp only[Rc];omega
  .simp
def AV(l:Ln):(mv l).cells=[vI l.fr,vI l.to,vI l.x,vI l.y,vI l.w]:=rfl
def zx(l:Ln):(mv l).stays=true:=rfl
def pY(l:List Ln):V:=.sl 5 (l.map mv)
variable {P:Program} {n:Nat} {st:St} {Q:St->Prop} {k:List It}
def od(D:List (List Nat))(S:List Nat)(s:Nat):List (List Nat):=(List.range D.length).map λi=>if S.contains i&&!(i==s)then s::D.getD i []else D.getD i []
def yV{D:List (List Nat)}{S:List Nat}{s:Nat}:(od D S s).length=D.length:=by simp[od]
def yS{D:List (List Nat)}{S:List Nat}{s i:Nat}:(od D S s).getD i []=if i<D.length/\i∈S/\i≠s then s::D.getD i []else D.getD i []:=by
 unfold od;rw[tQ,l3];by_cases hi:i<D.length
 .rw[List.getElem?_range hi];by_cases hs:i∈S
  .by_cases he:i=s
   .simp[he]
   .simp[hi,hs,he]
  .simp[hs]
 .have h1:(List.range D.length)[i]?=none:=nF (by simpa using hi);rw[h1,aF (λh=>hi h.1)];simp[nF (show D.length<=i by omega)]
def zY{D:List (List Nat)}{S:List Nat}{s i:Nat}(h:i∉S\/i=s):(od D S s).getD i []=D.getD i []:=by
 rw[yS,aF];rintro⟨_,h1,h2⟩;exact h.elim (λh=>h h1) h2
def qK{D:List (List Nat)}{S:List Nat}{s:Nat}{L:List Nat}(hp:s∈L):cB (od D S s) L=cB D L:=by
 unfold cB;rw[yV];refine List.filter_congr λi hi=>?_;rw[yS];split
 .simp[hp]
 .rfl
def tj{l:List aG}{D:List (List Nat)}{S:List Nat}{s:Nat}{K:St->Prop}:∀(f:Nat) (L:List Nat) (y:St),s∈L->ie P l (od D S s) K f L y->ie P l D K f L y
 |0,L,y,hp,h=>⟨by rw[<-qK hp];exact h.1,h.2⟩
 |f+1,L,y,hp,h=>by
  unfold ie at h|-;rw[qK hp]at h;cases hr:cB D L with
  |nil=>rw[hr]at h;exact h
  |cons a r=>
   rw[hr]at h;refine pq λi hi=>?_;obtain⟨ins,h1,h2⟩:=nt h i hi;exact⟨ins,h1,TC.mono (λx hx=>tj f _ x (by simp[hp]) hx) h2⟩
def wx{l:List aG}{K:St->Prop}{b:List Nat}:∀{a:List Nat},RE P l K (a++b)=RE P l (RE P l K b) a
 |[]=>rfl
 |m::a=>by
  funext x;rw[List.cons_append,RE,RE,wx]
def nL{l:List aG}{PV:List (List Nat)}{b:List Nat}:∀{a done:List Nat},ef l PV done (a++b)=ef l PV done a++ef l PV (done++a) b
 |[],done=>by simp[ef]
 |e::a,done=>by
  rw[List.cons_append,ef,ef,nL];simp
def RE.mono{l:List aG}{K K':St->Prop}(hk:∀x,K x->K' x):∀{a:List Nat} {x:St},RE P l K a x->RE P l K' a x
 |[],x,h=>hk x h
 |m::a,x,h=>by
  rw[RE]at h|-;cases hm:l[m/2]? with
  |none=>rw[hm]at h;exact h.elim
  |some i=>
   rw[hm]at h;simp only at h|-;split at h<;>rename_i he
   .rw[aE he];exact TC.mono (λx hx=>RE.mono hk hx) h
   .rw[aF he];exact⟨h.1,RE.mono hk h.2⟩
structure FN(l:List aG)(D PV:List (List Nat))(pre tail S:List Nat)(befs:Nat->List (List Nat)):Prop where
 e:EOkW l D PV (pre++tail)
 RN:∀a b x y,pre++tail=a++b->x∈a->y∈b->x∈pre->du l PV x=true->x∈eP PV y
 sub:∀s∈S,s∈tail
 some:∃s,s∈S
 later:∀i∈tail,i∉S->∃s∈S,s∈eP PV i
 agree:∀s∈S,∀i∈pre,du l (befs s) i=du l PV i
section
variable {l:List aG} {D PV:List (List Nat)} {pre tail S:List Nat} {befs:Nat->List (List Nat)} {K:St->Prop} {Ks:Nat->St->Prop} (hF:FN l D PV pre tail S befs)
include hF
def jP.M0{L:List Nat}{y:St}:∀{rest done:List Nat} {x:St},jP P l D PV pre K L y done rest x->
 ∃YX V' x',jP P l D PV pre K L y YX V' x'/\∀h r,V'=h::r->du l PV h=true
 |[],done,x,h=>⟨done,[],x,h,by simp⟩
 |e::rest,done,x,h=>by
  have hE:=hF.e;cases SI:du l PV e with
  |true=>exact⟨done,e::rest,x,h,λa r he=>by cases he;exact SI⟩
  |false=>
   have TY:e<l.length:=hE.lt e (by rw[h.split];simp);obtain⟨hk,YY⟩:=gH SI TY (hE.nv TY);have Q8:=(List.nodup_append.1 hE.nodup).1;rw[h.split]at Q8;have hed:e∉done:=λhm=>(List.nodup_append.1 Q8).2.2 e hm e (by simp) rfl;have WZ:e∉L:=λhm=>hed (h.sub e hm);have RJ:=h.go;rw[ef,Ct TY,DD,aF (by simp[SI]),jU]at RJ;have hT:T P (bu l e) x (RE P l K (ef l PV (done++[e]) rest)):=by
    rcases RJ with RJ|⟨_,RJ⟩
    .exact RJ
    .exfalso;revert RJ hk;generalize (bu l e).op=op;intro hk RJ;split at RJ
     .simp[bp]at hk
     .simp[bp]at hk
     .simp[bp]at hk
     .exact RJ
   obtain⟨v,hv,W1⟩:=(cz (by simp[fk,hk])).1 hT;refine jP.M0 (rest:=rest) (done:=done++[e]) (x:=⟨aW x.s (bu l e).dst v,x.U⟩) ⟨by rw[h.split];simp,λi hi=>by simp[h.sub i hi],h.nodup,h.closed,λi hi Sh=>?_,h.store,λd hd=>?_,λi hi TR=>?_,W1⟩
   .rcases dM.1 hi with hi|hi
    .exact h.RN i hi Sh
    .simp only[iM]at hi;rw[hi,SI]at Sh;cases Sh
   .have h1:=h.slot d λi hi TR=>hd i (by simp[hi]) TR;have h2:=hd e (by simp) WZ;rw[h1];simp only;cases WY:(bu l e).dst with
    |none=>rfl
    |some d'=>
     rw[WY]at h2;simp only[aW];rw[aF (λe'=>h2 (by rw[e']))]
   .by_cases Sh:i=e
    .subst Sh;unfold Ym;cases hd:(bu l i).dst with
     |none=>exact⟨v,hv⟩
     |some d=>
      simp only;have e1:aW x.s (some d) v d=v:=by simp[aW]
      rw[e1];exact(fL (λt ht=>by cases ht;exact YY d hd)).2 hv
    .have hid:i∈done:=by
      rcases dM.1 hi with hi|hi
      .exact hi
      .simp only[iM]at hi;exact absurd hi Sh
     have RR:i<l.length:=hE.lt i (by rw[h.split];simp[hid]);refine rV hE RR TY Sh (λd hd hu=>?_) (λv hv=>hv) (h.YW i hid TR);rcases hE.XX i e RR TY Sh d hd hu with h1|⟨h1,_⟩
     .obtain⟨a,b,UY⟩:=List.append_of_mem hid;have h2:=hE.l8 (a:=a) (j:=i) (b:=b++e::rest++tail) (by rw[h.split,UY];simp) e h1;exact hed (by rw[UY];simp[h2])
     .rw[SI]at h1;cases h1
def Bp(hH:∀s∈S,∀(f:Nat) (L:List Nat) (y:St) (done rest:List Nat) (x:St),f+L.length=l.length->jP P l (od D S s) (befs s) pre (Ks s) L y done rest x->ie P l (od D S s) K f L y):
 ∀(f:Nat) (L:List Nat) (y:St) (done rest:List Nat) (x:St),f+L.length=l.length->(∀s∈S,s∉L)->jP P l D PV pre (λx=>∀s∈S,Ks s x) L y done rest x->ie P l D K f L y:=by
 have hE:=hF.e;obtain⟨s0,QJ⟩:=hF.some;have C':∀s∈S,s<l.length:=λs hs=>hE.lt s (by simp[hF.sub s hs]);have SD:∀s∈S,s∉pre:=λs hs hm=>(List.nodup_append.1 hE.nodup).2.2 s hm s (hF.sub s hs) rfl;intro f
 induction f with
 |zero=>
  intro L y done rest x hf hSL h;exact absurd ((og l.length L h.nodup λi hi=>hE.lt i (by rw[h.split];simp[h.sub i hi])).2 (by omega) s0 (C' s0 QJ)) (hSL s0 QJ)
 |succ f ih=>
  intro L y done rest x hf hSL h;obtain⟨done,rest,x,h,Xs⟩:=jP.M0 hF h;have Q8:=(List.nodup_append.1 hE.nodup).1;rw[h.split]at Q8;have hdp:∀i∈done,i∈pre:=λi hi=>by rw[h.split];simp[hi]
  have QT:∀m∈L,∀d∈D.getD m [],d∈L:=h.closed;have hclS:∀s,∀m∈L,∀d∈(od D S s).getD m [],d∈L:=λs m hm d hd=>by
   rw[zY (.inl λhs=>hSL m hs hm)]at hd;exact h.closed m hm d hd
  have take:rest=[]->∀s∈S,ie P l (od D S s) K (f+1) L y:=λhr s hs=>by
   subst hr;have hdp':pre=done:=by rw[h.split];simp
   refine hH s hs (f+1) L y done [] x hf ⟨by rw[hdp'];simp,h.sub,h.nodup,hclS s,λi hi Sh=>h.RN i hi (by rw[<-hF.agree s hs i (hdp i hi)];exact Sh),h.store,h.slot,h.YW,?_⟩;exact h.go s hs
  have key:uF P l (ie P l D K f) L y (cB D L):=by
   refine pq λi hi=>?_;have hi0:=hi;obtain⟨RR,TR,Wa⟩:=lx hi;rw[hE.XW]at RR;by_cases hiS:i∈S
   .have hm:i∈cB (od D S i) L:=by
     unfold cB;refine nI.2 ⟨by rw[yV,hE.XW];simpa using RR,?_⟩;rw[zY (.inr rfl)];exact(nI.1 hi).2
    have Tw:rest=[]:=by
     cases hrr:rest with
     |nil=>rfl
     |cons a rr=>
      exfalso;have ha:=Xs a rr hrr;have hapre:a∈pre:=by rw[h.split,hrr];simp
      have hb:a∈eP PV i:=hF.RN pre tail a i rfl hapre (hF.sub i hiS) hapre ha;obtain⟨pa,pb,hpe⟩:=List.append_of_mem (hE.mem i RR);have haL:a∈L:=hE.closed QT hE.mem (pa.length+1) pa i pb (by omega) hpe (λd hd=>Wa d hd) a hb;rw[hrr]at Q8;exact(List.nodup_append.1 Q8).2.2 a (h.sub a haL) a (by simp) rfl
    have h1:=take Tw i hiS;unfold ie at h1;cases hr:cB (od D S i) L with
    |nil=>rw[hr]at hm;cases hm
    |cons a r=>
     rw[hr]at h1 hm;obtain⟨ins,g1,g2⟩:=nt h1 i hm;exact⟨ins,g1,TC.mono (λx hx=>tj f _ x (by simp) hx) g2⟩
   refine⟨bu l i,by simp[bu,SQ RR],?_⟩;obtain⟨pa,pb,hpe⟩:=List.append_of_mem (hE.mem i RR);have SZ:∀j∈eP PV i,j∈L:=hE.closed QT hE.mem (pa.length+1) pa i pb (by omega) hpe Wa;have Wb:∀u∈(bu l i).kX,x.s u=y.s u:=λu hu=>(h.slot u λj hj Uj hd=>by
    have Tr:j<l.length:=hE.lt j (by simp[hdp j hj]);by_cases Sl:j=i
    .subst Sl;cases Rw:du l PV j with
     |true=>exact Uj (h.RN j hj Rw)
     |false=>exact(gH Rw Tr (hE.nv Tr)).2 u hd hu
    .rcases hE.XX i j RR Tr (λe=>Sl e.symm) u hd hu with h1|⟨h1,_⟩
     .exact Uj (SZ j h1)
     .exact Uj (h.RN j hj h1)).symm
   by_cases hid:i∈done
   .have Sh:du l PV i=false:=by
     cases Sh:du l PV i with
     |false=>rfl
     |true=>exact absurd (h.RN i hid Sh) TR
    obtain⟨hk,_⟩:=gH Sh RR (hE.nv RR);have hq:=h.YW i hid TR;obtain⟨v,hv,hvd⟩:∃v,QY P (bu l i) x.s x.U v/\∀d,(bu l i).dst=some d->x.s d=v:=by
     unfold Ym at hq;cases hd:(bu l i).dst with
     |none=>rw[hd]at hq;obtain⟨v,hq⟩:=hq;exact⟨v,hq,by simp⟩
     |some d=>rw[hd]at hq;exact⟨_,hq,λd' e=>by cases e;rfl⟩
    refine .inl ((cz (by simp[fk,hk])).2 ⟨v,?_,?_⟩)
    .rw[h.store];exact Ap Wb hv
    .refine ih (i::L) _ done rest x (by simp only[Rc];omega) (λs hs hm=>(cD.1 hm).elim (λe=>hiS (e▸hs)) (hSL s hs)) ⟨h.split,λj hj=>?_,List.nodup_cons.2 ⟨TR,h.nodup⟩,λm hm d hd=>?_,λj hj Rw=>by simp[h.RN j hj Rw],h.store,λd hd=>?_,λj hj Uj=>h.YW j hj (λhm=>Uj (by simp[hm])),h.go⟩
     .rcases cD.1 hj with rfl|hj
      .exact hid
      .exact h.sub j hj
     .rcases cD.1 hm with rfl|hm
      .simp[Wa d hd]
      .simp[h.closed m hm d hd]
     .simp only;by_cases VE:(bu l i).dst=some d
      .rw[VE];simp only[aW];rw[aE trivial];exact(hvd d VE).symm
      .have h1:=h.slot d λj hj Uj=>by
        by_cases Sl:j=i
        .rw[Sl];exact VE
        .exact hd j hj (by simp[Sl,Uj])
       rw[<-h1];cases WY:(bu l i).dst with
       |none=>rfl
       |some d'=>
        rw[WY]at VE;simp only[aW];rw[aF (λe'=>VE (by rw[e']))]
   .have ZZ:i∈rest++tail:=by
     have:=hE.mem i RR;rw[h.split,gw]at this;exact(dM.1 this).resolve_left hid
    obtain⟨Up,rr,rfl⟩:∃a r,rest=a::r:=by
     cases rest with
     |nil=>
      exfalso;rw[jU]at ZZ;obtain⟨s,hs,hsb⟩:=hF.later i ZZ hiS;exact hSL s hs (SZ _ hsb)
     |cons a r=>exact⟨a,r,rfl⟩
    have SI:=Xs Up rr rfl;have hh0:Up∉done:=λhm=>(List.nodup_append.1 Q8).2.2 Up hm Up (by simp) rfl;have hih:i=Up:=by
     rcases cD.1 (show i∈Up::(rr++tail)from ZZ)with e|ZZ
     .exact e
     .exfalso;have:=hF.RN (done++[Up]) (rr++tail) Up i (by rw[h.split];simp) (by simp) ZZ (by rw[h.split];simp) SI;exact hh0 (h.sub _ (SZ _ this))
    subst hih;have RJ:=h.go;rw[show ef l PV done (i::rr)=2*i::(DD l PV done i++ef l PV (done++[i]) rr)from rfl,Ct RR]at RJ;refine yW Wb h.store.symm (λr Z' hK=>?_) RJ;rw[DD,aE SI]at hK;obtain⟨Xt,W1⟩:=rY (λk=>!(du l PV k)&&(!(j5 (bu l k).op)&&!((eP PV i).contains k))) (λj hj=>hE.lt j (by simp[hdp j hj])) hK;refine ih (i::L) _ (done++[i]) rr ⟨aW x.s (bu l i).dst r,Z'⟩ (by simp only[Rc];omega) (λs hs hm=>(cD.1 hm).elim (λe=>hiS (e▸hs)) (hSL s hs)) ⟨by rw[h.split];simp,λj hj=>?_,List.nodup_cons.2 ⟨TR,h.nodup⟩,λm hm d hd=>?_,λj hj Rw=>?_,rfl,λd hd=>?_,λj hj Uj=>?_,W1⟩
    .rcases cD.1 hj with rfl|hj
     .simp
     .simp[h.sub j hj]
    .rcases cD.1 hm with rfl|hm
     .simp[Wa d hd]
     .simp[h.closed m hm d hd]
    .rcases dM.1 hj with hj|hj
     .simp[h.RN j hj Rw]
     .simp only[iM]at hj;simp[hj]
    .have h1:(bu l i).dst=some d\/y.s d=x.s d:=by
      by_cases VE:(bu l i).dst=some d
      .exact .inl VE
      .exact .inr (h.slot d λj hj Uj=>hd j (by simp[hj]) (by
        simp only[cD,not_or];exact⟨λe=>hid (e▸hj),Uj⟩))
     simp only;cases WY:(bu l i).dst with
     |none=>rw[WY]at h1;exact h1.resolve_left (by simp)
     |some d'=>
      simp only[aW];split
      .rfl
      .rename_i PZ;rw[WY]at h1;exact h1.resolve_left (λe=>PZ (by cases e;rfl))
    .have XY:j∈done:=by
      rcases dM.1 hj with hj|hj
      .exact hj
      .simp only[iM]at hj;exact absurd (by simp[hj]) Uj
     have Vs:j∉L:=λhm=>Uj (by simp[hm]);have Tr:j<l.length:=hE.lt j (by simp[hdp j XY]);have Sl:j≠i:=λe=>hid (e▸XY);have Rw:du l PV j=false:=by
      cases Rw:du l PV j with
      |false=>rfl
      |true=>exact absurd (h.RN j XY Rw) Vs
     cases hsf:j5 (bu l j).op with
     |true=>
      refine rV hE Tr RR Sl (λd hd hu=>?_) (λv hv=>jz hsf hv) (h.YW j XY Vs);rcases hE.XX j i Tr RR Sl d hd hu with h1|⟨_,h1⟩
      .obtain⟨a,b,UY⟩:=List.append_of_mem XY;have h2:=hE.l8 (a:=a) (j:=j) (b:=b++i::rr++tail) (by rw[h.split,UY];simp) i h1;exact hid (by rw[UY];simp[h2])
      .exact Vs (SZ j h1)
     |false=>
      refine Xt j XY ?_;simp only[Rw,hsf,Bool.not_false,Bool.true_and,Bool.not_eq_true'];cases hc:(eP PV i).contains j with
      |false=>rfl
      |true=>exact absurd (SZ j (List.contains_iff_mem.1 hc)) Vs
  cases hr:cB D L with
  |cons a r=>unfold ie;rw[hr]at key|-;exact key
  |nil=>
   exfalso;have first:∀(a b:List Nat),pre++tail=a++b->(∀j∈a,j∈L)->(∃i∈b,i∉L)->∃a' e b',pre++tail=a'++e::b'/\(∀j∈a',j∈L)/\e∉L:=by
    intro a b
    induction b generalizing a with
    |nil=>rintro _ _ ⟨i,h,_⟩;cases h
    |cons e b ihb=>
     intro he ha hx;by_cases WZ:e∈L
     .refine ihb (a++[e]) (by rw[he];simp) (λj hj=>?_) ?_
      .rcases dM.1 hj with hj|hj
       .exact ha j hj
       .simp only[iM]at hj;rw[hj];exact WZ
      .obtain⟨i,hi,TR⟩:=hx;rcases cD.1 hi with rfl|hi
       .exact absurd WZ TR
       .exact⟨i,hi,TR⟩
     .exact⟨a,e,b,he,ha,WZ⟩
   obtain⟨a,e,b,he,ha,WZ⟩:=first [] (pre++tail) rfl (by simp) ⟨s0,by simp[hF.sub s0 QJ],hSL s0 QJ⟩
   have TY:e<l.length:=hE.lt e (by rw[he];simp);have:e∈cB D L:=by
    unfold cB;refine nI.2 ⟨by simp[hE.XW,TY],?_⟩;simp only[Ba,Bool.not_eq_true',eQ];exact⟨by simpa using WZ,λd hd=>List.contains_iff_mem.2 (ha d (hE.ahead a e b he d hd))⟩
   rw[hr]at this;cases this
end
inductive PT where
 |leaf (PV:List (List Nat)) (r:List Nat)
 |fork (PV:List (List Nat)) (m:List Nat) (S:List Nat) (kids:List PT)
def PT.PV:PT->List (List Nat)
 |.leaf b _=>b
 |.fork b _ _ _=>b
def PT.ord:Nat->PT->List Nat
 |0,_=>[]
 |f+1,t=>match t with
  |.leaf _ r=>r
  |.fork _ m _ kids=>m++(match kids with
   |k::_=>PT.ord f k
   |[]=>[])
def C1(g:Nat->PT->Bool):List Nat->List PT->Bool
 |[],[]=>true
 |s::ss,t::ts=>g s t&&C1 g ss ts
 |_,_=>false
def um{g:Nat->PT->Bool}:∀{S:List Nat} {ts:List PT},C1 g S ts=true->∀s∈S,∃t∈ts,g s t=true
 |[],[],_,s,hs=>by cases hs
 |a::S,t::ts,h,s,hs=>by
  simp only[C1,Ba]at h;rcases cD.1 hs with rfl|hs
  .exact⟨t,by simp,h.1⟩
  .obtain⟨t',h1,h2⟩:=um h.2 s hs;exact⟨t',by simp[h1],h2⟩
def Jm(l:List aG)(D PV:List (List Nat))(pre tail S:List Nat):Bool:=
 IL l D PV (pre++tail)&&(mA (λa b=>!(pre.contains a)||(!(du l PV a)||(eP PV b).contains a)) (pre++tail)&&
 (S.all tail.contains&&(!S.isEmpty&&tail.all λi=>S.contains i||S.any λs=>(eP PV i).contains s)))
def Ew(l:List aG):Nat->List (List Nat)->List Nat->PT->Bool
 |0,_,_,_=>false
 |f+1,D,pre,t=>match t with
  |.leaf PV r=>eOk l D PV (pre++r)
  |.fork PV m S kids=>Jm l D PV (pre++m) (match kids with
    |k::_=>PT.ord f k
    |[]=>[]) S&&C1 (λs k=>((pre++m).all λi=>du l k.PV i==du l PV i)&&Ew l f (od D S s) (pre++m) k) S kids
def GT(P:Program)(l:List aG)(K:St->Prop):Nat->List Nat->PT->St->Prop
 |0,_,_,_=>False
 |f+1,pre,t,x=>match t with
  |.leaf PV r=>RE P l K (ef l PV pre r) x
  |.fork PV m _ kids=>RE P l (λx=>∀k∈kids,GT P l K f (pre++m) k x) (ef l PV pre m) x
def jP.more{l:List aG}{D PV:List (List Nat)}{pre m:List Nat}{K:St->Prop}{L:List Nat}{y:St}{done rest:List Nat}{x:St}(h:jP P l D PV pre (RE P l K (ef l PV pre m)) L y done rest x):
 jP P l D PV (pre++m) K L y done (rest++m) x:=by
 refine⟨by rw[h.split];simp,h.sub,h.nodup,h.closed,h.RN,h.store,h.slot,h.YW,?_⟩;rw[nL,wx,<-h.split];exact h.go
def jP.mono{l:List aG}{D PV:List (List Nat)}{pre:List Nat}{K K':St->Prop}(hk:∀x,K x->K' x){L:List Nat}{y:St}{done rest:List Nat}{x:St}(h:jP P l D PV pre K L y done rest x):
 jP P l D PV pre K' L y done rest x:=⟨h.split,h.sub,h.nodup,h.closed,h.RN,h.store,h.slot,h.YW,RE.mono hk h.go⟩
def CK{l:List aG}{K:St->Prop}:∀(fu:Nat) (D:List (List Nat)) (pre:List Nat) (t:PT),Ew l fu D pre t=true->∀(f:Nat) (L:List Nat) (y:St) (done rest:List Nat) (x:St),f+L.length=l.length->
 (∀i∈L,i∈pre)->jP P l D t.PV pre (GT P l K fu pre t) L y done rest x->ie P l D K f L y
 |0,_,_,_,h,_,_,_,_,_,_,_,_,_=>by cases h
 |fu+1,D,pre,t,h,f,L,y,done,rest,x,hf,hLp,hl=>by
  cases t with
  |leaf PV r=>exact pj (AP h) f L y done (rest++r) x hf (jP.more hl)
  |fork PV m S kids=>
   simp only[Ew,Ba]at h;obtain⟨h1,h2⟩:=h;generalize (match kids with
    |k::_=>PT.ord fu k
    |[]=>[])=tail at h1
   simp only[Jm,Ba]at h1;obtain⟨g1,g2,g3,g4,g5⟩:=h1;have hk:=um h2;have hW:=wN g1;have hF:∀kid:Nat->PT,(∀s∈S,((pre++m).all λi=>du l (kid s).PV i==du l PV i)=true)->FN l D PV (pre++m) tail S (λs=>(kid s).PV):=λkid UZ=>by
    refine⟨hW,λa b u v he hu hv hup hue=>?_,λs hs=>by simpa using eQ.1 g3 s hs,?_,λi hi hiS=>?_,λs hs i hi=>by simpa using eQ.1 (UZ s hs) i hi⟩
    .rw[he]at g2;have:=mI g2 hu hv;simp only[ki,Bool.not_eq_true',List.contains_iff_mem,hue,Bool.true_eq_false,false_or]at this;rcases this with h|h
     .have hc:(pre++m).contains u=true:=List.contains_iff_mem.2 hup;rw[hc]at h;cases h
     .exact h
    .cases S with
     |nil=>simp at g4
     |cons s S=>exact⟨s,by simp⟩
    .have:=eQ.1 g5 i hi;simp only[ki,List.contains_iff_mem,Lm]at this;exact this.resolve_left hiS
   have Ye:∀s,∃k:PT,s∈S->(k∈kids/\(((pre++m).all λi=>du l k.PV i==du l PV i)=true/\Ew l fu (od D S s) (pre++m) k=true)):=λs=>by
    by_cases hs:s∈S
    .obtain⟨k,h3,h4⟩:=hk s hs;simp only[Ba]at h4;exact⟨k,λ_=>⟨h3,h4⟩⟩
    .exact⟨.leaf [] [],λh=>absurd h hs⟩
   obtain⟨kid,UZ⟩:=Classical.axiomOfChoice Ye;have hFN:=hF kid λs hs=>(UZ s hs).2.1;have hSpre:∀s∈S,s∉pre++m:=λs hs hm=>(List.nodup_append.1 hW.nodup).2.2 s hm s (hFN.sub s hs) rfl;refine Bp (Ks:=λs=>GT P l K fu (pre++m) (kid s)) hFN (λs hs f L y done rest x hf hl=>?_) f L y done (rest++m) x hf (λs hs hm=>hSpre s hs (List.mem_append_left _ (hLp s hm))) ?_
   .refine CK fu _ _ _ (UZ s hs).2.2 f L y done rest x hf (λi hi=>?_) hl;have:=hl.sub i hi;rw[hl.split];simp[this]
   .exact jP.mono (λx hx s hs=>hx (kid s) (UZ s hs).1) (jP.more hl)
def ad.Dp(hm:P.follows .mixedOrders=true){l:List aG}{deps:List (List Nat)}(fu:Nat)(t:PT)(hB:Ew l fu deps [] t=true)(h:GT P l (λx=>ad P n k x Q) fu [] t st):ad P n (.code (.kI l deps)::k) st Q:=by
 refine ad.Jl hm (CK fu deps [] t hB l.length [] st [] [] st (by simp) (by simp) ⟨rfl,by simp,List.nodup_nil,by simp,by simp,rfl,λ_ _=>rfl,by simp,?_⟩);exact h
variable {P:Program} {l:List aG} {K:St->Prop} {f:Nat} {pre m S r its:List Nat} {PV:List (List Nat)} {a b c:PT} {x:St}
def GT.ik(h:ef l PV pre r=its)(hg:RE P l K its x):GT P l K (f+1) pre (.leaf PV r) x:=by subst h;exact hg
def GT.nU(h:ef l PV pre m=its)(hg:RE P l (λx=>GT P l K f (pre++m) a x/\GT P l K f (pre++m) b x) its x):GT P l K (f+1) pre (.fork PV m S [a,b]) x:=by
 subst h;refine RE.mono (λx hx k hk=>?_) hg;simp only[cD,List.not_mem_nil,or_false]at hk;rcases hk with rfl|rfl
 .exact hx.1
 .exact hx.2
def GT.Mr(h:ef l PV pre m=its)(hg:RE P l (λx=>GT P l K f (pre++m) a x/\GT P l K f (pre++m) b x/\GT P l K f (pre++m) c x) its x):GT P l K (f+1) pre (.fork PV m S [a,b,c]) x:=by
 subst h;refine RE.mono (λx hx k hk=>?_) hg;simp only[cD,List.not_mem_nil,or_false]at hk;rcases hk with rfl|rfl|rfl
 .exact hx.1
 .exact hx.2.1
 .exact hx.2.2
open Go.Proofs
def oO(fs:List O')(y:Int):Int:=if(dV uT fs).2 then max y (dV uT fs).1 else y
def kR(fs:List O')(f:O')(y:Int)(s:QL):Int:=oX fs f.w f.h s (oO fs y)
def o9(fs:List O')(f:O')(y:Int)(s:QL):Int:=
 let b:=dQ fs (kR fs f y s) f.h s
 if f.side=1 then b.a else max b.a (b.b-f.w)
def jL(fs:List O')(f:O')(y:Int)(s:QL):O':={ f with x:=o9 fs f y s,y:=kR fs f y s }
def sN(fs:List O')(f:O')(y:Int)(s:QL):List O':=fs++[jL fs f y s]
def HY{fs:List O'}{y:Int}(P4:∀f∈fs,f.ok)(hy:Ry y):Ry (oO fs y):=by
 unfold oO;split
 .rename_i h;obtain⟨f,hf,h1,_⟩:=lG h;obtain⟨_,⟨h3,h4⟩,_⟩:=P4 f hf;obtain⟨g1,g2⟩:=hy;rw[h1];simp only[uT];exact⟨by omega,by omega⟩
 .exact hy
def LS(fs:List O')(f:O')(y:Int)(s:QL)(hl:fs.length<=1000000)(P4:∀f∈fs,f.ok)(hy:Ry y)(hh:Bq f.h)(hw:Bq f.w)(R6:Ry s.a/\Ry s.b):
 aP prog 134 [aJ fs,aS f,vI y,bc s] (.PI [vI (o9 fs f y s),vI (kR fs f y s)]):=λU=>by
 refine OM.r (by simp[J9]) ?_;have hs:=aa.refl U;refine ad.mix 14 ?_;apply sR;simp only[go_sem,seval,J9,aS,bc];refine ae λi5 Z5 s5 a5 f5=>?_;have z5:=hs.none f5;replace hs:=hs.trans s5;simp only[go_sem,seval,a5];refine ae λi7 Z7 s7 a7 f7=>?_;have n57:=ao a5 f7;replace a5:=s7 _ _ a5;have z7:=hs.none f7;replace hs:=hs.trans s7;simp only[go_sem,seval,a7,a5];refine ad.ay rfl rfl rfl (MB fs hl P4 _) ?_;have Vj:=HY (y:=y) P4 hy;have WJ:=H7 fs f (oO fs y) s hl P4 Vj hh R6;have Wt:=mn (y:=kR fs f y s) (high:=f.h) P4 R6;obtain⟨z,hz⟩:∃z,z=kR fs f y s:=⟨_,rfl⟩
 have hz2:oX fs f.w f.h s (oO fs y)=z:=hz.symm;rw[hz2]at WJ;rw[<-hz]at Wt;obtain⟨b,hb⟩:∃b,b=dQ fs z f.h s:=⟨_,rfl⟩
 have hx:o9 fs f y s=if f.side=1 then b.a else max b.a (b.b-f.w):=by unfold o9;rw[<-hz,<-hb]
 rw[<-hz,hx];rw[<-hb]at WJ Wt;obtain⟨UI,Qp,hb3,hb4⟩:-2305843009213693952<=b.a/\b.a<=2305843009213693952/\-2305843009213693952<=b.b/\b.b<=2305843009213693952:=⟨Wt.1.1,Wt.1.2,Wt.2.1,Wt.2.2⟩
 obtain⟨hw1,Ug⟩:=hw;cases ht:(dV uT fs).2
 .have hty2:oO fs y=y:=by unfold oO;rw[ht];rfl
  rw[hty2]at WJ;apply sR;simp only[go_sem,seval,a7,a5,aT,aV];refine ad.ay rfl rfl rfl (WJ _) ?_;apply sR;simp only[go_sem,seval,a7,a5,bc];refine ae λi12 Z12 VG a12 f12=>?_;have Zd:=ao a5 f12;replace a5:=VG _ _ a5;have Ze:=ao a7 f12;replace a7:=VG _ _ a7;have z12:=hs.none f12;replace hs:=hs.trans VG;by_cases Zf:f.side=1
  .have q:(f.side=1)=True:=PK Zf;rw[aE Zf];simp only[go_sem,seval,a12,a7,a5,q,ab Zd,ab Ze];exact au.pure (hs.az z12) rfl
  .have q:(f.side=1)=False:=PG Zf;rw[aF Zf];have r1:PM .i64 (b.b-f.w):=ak;simp only[go_sem,seval,a12,a7,a5,q,r1,dd,ab Zd,ab Ze];exact au.pure (hs.az z12) rfl
 .have hty2:oO fs y=max y (dV uT fs).1:=by unfold oO;rw[ht];rfl
  rw[hty2]at WJ;apply sR;simp only[go_sem,seval,a7,a5,aT,aV,dd];refine ad.ay rfl rfl rfl (WJ _) ?_;apply sR;simp only[go_sem,seval,a7,a5,bc];refine ae λi12 Z12 VG a12 f12=>?_;have Zd:=ao a5 f12;replace a5:=VG _ _ a5;have Ze:=ao a7 f12;replace a7:=VG _ _ a7;have z12:=hs.none f12;replace hs:=hs.trans VG;by_cases Zf:f.side=1
  .have q:(f.side=1)=True:=PK Zf;rw[aE Zf];simp only[go_sem,seval,a12,a7,a5,q,ab Zd,ab Ze];exact au.pure (hs.az z12) rfl
  .have q:(f.side=1)=False:=PG Zf;rw[aF Zf];have r1:PM .i64 (b.b-f.w):=ak;simp only[go_sem,seval,a12,a7,a5,q,r1,dd,ab Zd,ab Ze];exact au.pure (hs.az z12) rfl
open Go.Proofs
def Qg(l:List Nd)(i:Nat):Int:=((l[i]?).map Nd.size).getD 0
def vq(l:List Nd)(a:Int):Bool:=decide (0<=a)&&decide (a<l.length)
def gO(l:List Nd)(a b:Int):Bool:=vq l a&&(vq l b&&(decide (b>=a)&&decide (b-a<Qg l a.toNat)))
def gB(l:List Nd)(a:Nat):Nat->List Int
 |0=>[]
 |k+1=>if gO l k a then(k:Int)::gB l a k else gB l a k
def rS(l:List Nd)(a:Nat):Nat->Int
 |0=>-1
 |k+1=>if gO l k a then(k:Int)else rS l a k
def eG(l:List Nd)(a:Nat):Int:=rS l a a
def AR{l:List Nd}{a:Int}:vq l a=true↔0<=a/\a<l.length:=by simp[vq]
def lz{l:List Nd}{i:Nat}(h:i<l.length):Qg l i=l[i].size:=by simp[Qg,h]
def F0{l:List Nd}(h:Qs l=true){i:Nat}(hi:i<l.length):1<=l[i].size/\l[i].size<=(l.length:Int)-i/\(l[i].kind=1\/l[i].size<=1):=by
 simp only[Qs,Ba]at h;exact iF l (l.length+1) 0 l.length (by omega) (Qh _) h.2 i (by omega) hi hi
def uG(l:List Nd)(a:Nat):∀k,-1<=rS l a k/\rS l a k<k
 |0=>by simp[rS]
 |k+1=>by
  rw[rS];split
  .omega
  .have:=uG l a k;omega
open Go.Proofs
def yx(U:ag)(l:List Int):cA U 1 (encI l)=some (l.map vI):=by simp[encI,cA]
def pQ{l:List Nd}(hb:Qs l=true){i:Nat}(h:i<l.length):1<=Qg l i/\Qg l i<=l.length:=by
 rw[lz h];have:=F0 hb h;omega
open Go.Proofs
def lY(l:List Nd):∀(m a e:Nat),e-a<m->e<=l.length->cj l a e=true->∀k,a<=k->(h:k<e)->(h2:k<l.length)->cj l (k+1) (k+l[k].size.toNat)=true
 |0,_,_,h,_,_=>by omega
 |m+1,a,e,hm,he,hr=>by
  intro k hk hke h2;have Vm:a<e:=by omega
  have ha:a<l.length:=by omega
  rw[cj,dif_pos Vm]at hr;have hga:l[a]?=some l[a]:=by simp[ha]
  rw[hga]at hr;simp only at hr;split at hr
  .rename_i hx;simp only[Ba]at hr;obtain⟨⟨h3,h4⟩,h5⟩:=hr;by_cases hka:k=a
   .subst hka;exact h4
   .by_cases U6:k<a+l[a].size.toNat
    .exact lY l m (a+1) (a+l[a].size.toNat) (by omega) (by omega) h4 k (by omega) U6 h2
    .exact lY l m (a+l[a].size.toNat) e (by omega) he h5 k (by omega) hke h2
  .cases hr
def Ra(x:Nd):Int:=if x.kind=1 then x.st.top+x.st.P0+x.st.PQ+x.st.H'+x.st.head else if x.kind=2 then x.line*x.words.length else x.h
def pof(x:Nd):Int:=if x.kind=1 then 0 else if x.kind=2 then x.words.length else 1
def gX:List Nd->Int
 |[]=>0
 |x::l=>Ra x+gX l
def kH:List Nd->Int
 |[]=>0
 |x::l=>pof x+kH l
def A5(a b:List Nd):gX (a++b)=gX a+gX b:=by
 induction a with
 |nil=>simp[gX]
 |cons x a ih=>simp only[List.cons_append,gX,ih];omega
def zR(a b:List Nd):kH (a++b)=kH a+kH b:=by
 induction a with
 |nil=>simp[kH]
 |cons x a ih=>simp only[List.cons_append,kH,ih];omega
def uz{x:Nd}(h:x.ok=true):0<=Ra x:=by
 obtain⟨p1,p2,p3,p4,p5,p6⟩:=jN h;unfold Ra;split
 .rename_i hk;obtain⟨q1,q2,q3,q4,q5⟩:=p6 hk;omega
 .split
  .exact Int.mul_nonneg p2 (by omega)
  .exact p4
def AS{l:List Nd}(h:l.all Nd.ok=true):0<=gX l:=by
 induction l with
 |nil=>simp[gX]
 |cons x l ih=>
  simp only[vr,Ba]at h;have:=uz h.1;have:=ih h.2;simp only[gX];omega
def dm(l:List Nd):Nat->Int
 |0=>0
 |i+1=>match l[i]? with
  |some x=>if x.kind=1 then max (dm l i) (iH l i (i+1))else dm l i
  |none=>dm l i
def EW{l:List Nd}{i:Nat}{x:Nd}{s:Sm}(hx:x.ok=true)(hs:0<=s.G'/\s.G'<=1099511627777):(oz l i x s).G'=min (s.G'+Ra x) 1099511627777/\(oz l i x s).pieces=s.pieces+pof x/\
 (oz l i x s).depth=(if x.kind=1 then max s.depth (iH l i (i+1))else s.depth)/\(oz l i x s).nodes=s.nodes:=by
 obtain⟨p1,p2,p3,p4,p5,p6⟩:=jN hx;unfold oz Ra pof;by_cases hk:x.kind=1
 .obtain⟨q1,q2,q3,q4,q5⟩:=p6 hk;simp only[hk,if_true,jT];refine⟨by omega,by omega,trivial,trivial⟩
 .by_cases SN:x.kind=2
  .rw[aF hk,aE SN,aF hk,aE SN,aF hk,aE SN,aF hk];simp only[];refine⟨rW hs p2 _,trivial,trivial,trivial⟩
  .rw[aF hk,aF SN,aF hk,aF SN,aF hk,aF SN,aF hk];exact⟨rfl,rfl,rfl,rfl⟩
def uv(l:List Nd)(P4:l.all Nd.ok=true):∀i,i<=l.length->(gC l ⟨0,0,l.length,0⟩ i)=⟨dm l i,kH (l.take i),l.length,min (gX (l.take i)) 1099511627777⟩
 |0,_=>by simp[gC,dm,kH,gX];omega
 |i+1,hi=>by
  have ih:=uv l P4 i (by omega);have hg:l[i]?=some l[i]:=by simp[show i<l.length by omega]
  have hx:=eQ.1 P4 _ (QF (show i<l.length by omega));have ht:l.take (i+1)=l.take i++[l[i]]:=SO (by omega);have hn:0<=gX (l.take i):=AS (eQ.2 λx hx=>eQ.1 P4 x (qw hx));have hh:=uz hx;simp only[gC,hg,ih];obtain⟨g1,g2,g3,g4⟩:=EW (l:=l) (i:=i) (s:=⟨dm l i,kH (l.take i),l.length,min (gX (l.take i)) 1099511627777⟩) hx ⟨by simp only;omega,by simp only;omega⟩;generalize oz l i l[i] ⟨dm l i,kH (l.take i),l.length,min (gX (l.take i)) 1099511627777⟩=r at*;obtain⟨r1,r2,r3,r4⟩:=r;simp only at g1 g2 g3 g4;subst g1 g2 g3 g4;simp only[dm,hg,ht,zR,A5,kH,gX,Sm.mk.injEq,Int.add_zero,true_and];omega
open Go.Proofs
def V.flat:V->Bool
 |.agg vs=>vs.all V.lone
 |v=>v.lone
def V.CS:V->Bool
 |.PI vs=>vs.all V.flat
 |v=>v.flat
def aq.lone{I Y':Mu}{ow RI:Nat->Prop}{w w':World}:∀{vs:List V} {l:List Value},vs.all V.lone=true->aq I ow w vs l->aq Y' RI w' vs l
 |[],l,_,h=>by simpa[aq]using h
 |v::vs,l,hv,h=>by
  simp only[vr,Ba]at hv;simp only[aq]at h|-;obtain⟨x,xs,rfl,h1,h2⟩:=h;exact⟨x,xs,rfl,A'.lone hv.1 h1,aq.lone hv.2 h2⟩
def A'.flat{I Y':Mu}{ow RI:Nat->Prop}{w w':World}{v:V}{x:Value}(hv:v.flat=true)(h:A' I ow w v x):A' Y' RI w' v x:=by
 cases v<;>try exact A'.lone hv h
 rename_i vs;simp only[A']at h|-;obtain⟨vals,rfl,h1,h2⟩:=h;exact⟨vals,rfl,aq.lone hv h1,h2⟩
def aq.flat{I Y':Mu}{ow RI:Nat->Prop}{w w':World}:∀{vs:List V} {l:List Value},vs.all V.flat=true->aq I ow w vs l->aq Y' RI w' vs l
 |[],l,_,h=>by simpa[aq]using h
 |v::vs,l,hv,h=>by
  simp only[vr,Ba]at hv;simp only[aq]at h|-;obtain⟨x,xs,rfl,h1,h2⟩:=h;exact⟨x,xs,rfl,A'.flat hv.1 h1,aq.flat hv.2 h2⟩
def A'.CS{I Y':Mu}{ow RI:Nat->Prop}{w w':World}{v:V}{x:Value}(hv:v.CS=true)(h:A' I ow w v x):A' Y' RI w' v x:=by
 cases v<;>try exact A'.flat hv h
 rename_i vs;simp only[A']at h|-;obtain⟨vals,rfl,h1⟩:=h;exact⟨vals,rfl,aq.flat hv h1⟩
def aP.zT{P:Program}{f:FuncId}{args args':List V}{v:V}{U:ag}(hw:Xi U fe args args')(h:aP P f args' v)(hv:v.CS=true):
 aC P f args U λr Z'=>r=v/\Z'=U:=by
 refine⟨(h fe).1,?_⟩;intro I w vals hs hr;have QJ:Sat w (aB I fe) I fe w:=by
  have:=hs.drop (cV U);exact⟨Qh _,rfl,rfl,rfl,λ_ _ _=>rfl,this.fin,this.inj,this.obj,λb hb _=>hb,this.kQ⟩
 refine((h fe).2 I w vals QJ (Xi.all hs hw hr)).mono ?_;rintro e w' ⟨r,Z',Y',val,rfl,⟨rfl,rfl⟩,hle,PW,QR⟩;have Qf:∀b,¬aB I fe b:=λb ⟨_,_,_,_,h,_⟩=>by simp[fe]at h
 have Rb:∀b,b<w.heap.size->w'.heap[b]?=w.heap[b]?:=λb hb=>PW.same b hb (Qf b);have RB:∀id o,U id=some o->Y' id=I id:=λid o ho=>hle id (λe=>by
  have:=hs.obj id o ho;rw[e]at this;exact this)
 have V0:∀b,aB Y' U b->aB I U b:=λb ⟨id,o,sz,cap,h1,h2⟩=>⟨id,o,sz,cap,h1,RB id o h1▸h2⟩
 have hk:cG (aB I U) (aB Y' U) w w':=λb hb hn=>⟨λho=>hn (V0 b ho),Rb b hb⟩
 refine⟨_,U,Y',val,rfl,⟨rfl,rfl⟩,hle,?_,A'.CS hv QR⟩;refine⟨PW.size,PW.os,PW.tape,PW.output,λb hb _=>Rb b hb,PW.fin,?_,?_,λb hb _=>V0 b hb,hs.Se⟩
 .intro id Sd o o' b sz cap Sr QP h1 h2 h3 h4;exact hs.inj id Sd o o' b sz cap Sr QP h1 h2 (RB id o h1▸h3) (RB Sd o' h2▸h4)
 .intro id o ho;rw[RB id o ho];refine(hs.obj id o ho).mono hle hk PW.size λb sz cap hp=>Rb b ?_;exact aB.lt hs ⟨id,o,sz,cap,ho,hp⟩
open Go.Proofs
def de{l:List Nd}{a e:Nat}(he:e<=l.length)(h:cj l a e=true){k:Nat}(h1:a<=k)(h2:k<e):(k:Int)+Qg l k<=e/\1<=Qg l k:=by
 have:=iF l (e-a+1) a e (by omega) he h k h1 h2 (by omega);rw[lz (by omega)];omega
def dW{l:List Nd}{a e:Nat}(he:e<=l.length)(h:cj l a e=true)(Vm:a<e):cj l (a+(Qg l a).toNat) e=true/\cj l (a+1) (a+(Qg l a).toNat)=true:=by
 have ha:a<l.length:=by omega
 rw[cj,dif_pos Vm]at h;simp only[SQ ha]at h;rw[lz ha];split at h
 .simp only[Ba]at h;exact⟨h.2,h.1.2⟩
 .cases h
open Go.Proofs
def B3(l:List Nd)(hl:eY l)(hb:Qs l=true):aP prog 45 [aM l] (.agg [aM l]):=λU=>by
 refine e45.r (by simp[c45]) ?_;refine ad.mix 3 ?_;apply sR;simp only[go_sem,seval,c45];refine ae λRs Z1 s1 a2 f2=>?_;simp only[go_sem,seval,a2];refine ad.ay rfl rfl rfl (C2 l hl _) ?_;apply sR;simp only[go_sem,seval,hb,a2,aM];refine au.pure (s1.az f2) rfl
def LR(l:List Nd)(a:Int):aP prog 203 [aM l,vI a] (.bool (vq l a)):=λU=>by
 refine NF.r (by simp[c203]) ?_;refine ad.mix 6 ?_;apply sR;simp only[go_sem,seval,av,ax,c203,eU];refine And.intro (λh=>?_) (λh=>?_)
 .refine au.same ?_;simp[vq];omega
 .refine au.same ?_;simp[vq];omega
def wW(l:List Nd)(hl:eY l)(hb:Qs l=true)(a:Nat)(ha:a<l.length):aP prog 204 [aM l,vI a] (vI (eG l a)):=λU=>by
 have ZP:=hl.1;refine O1.r (by simp[KT]) ?_;refine ad.mix 6 ?_;apply sR;simp only[go_sem,seval,av,ax,KT];refine⟨ak,?_⟩;refine ad.loop (λm st=>∃(k:Nat),k<=a/\m=k/\eG l a=rS l a k/\st.U=U/\st.s 0=aM l/\st.s 1=vI a/\st.s 5=vI ((k:Int)-1)) a ?_ ?_
 .exact⟨a,by omega,rfl,rfl,rfl,rfl,rfl,rfl⟩
 .rintro m ⟨s,Z'⟩ ⟨k,hk,rfl,heq,P3,h0,h1,h5⟩;simp only at P3 h0 h1 h5;subst P3;refine ad.mix 6 ?_;apply sR;simp only[go_sem,seval,av,ax,h0,h1,h5];refine And.intro (λh=>?_) (λh=>?_)
  .obtain⟨k,rfl⟩:∃j,m=j+1:=⟨m-1,by omega⟩
   have e1:((k+1:Nat):Int)-1=k:=by omega
   have C':k<l.length:=by omega
   have RM:=pQ hb C';have hse:=lz C';have hx:=mJ (U:=Z') C';simp only[go_sem,seval,av,ax,e1,hx,Nd.cells,h0,h1,h5];rw[<-hse];refine⟨ak,And.intro (λhc=>?_) (λhc=>?_)⟩
   .refine au.same ?_;rw[heq,rS,aE];simp only[gO,Ba,SX,vq];simp;omega
   .refine⟨ak,_,?_,k,by omega,rfl,?_,rfl⟩
    .omega
    .rw[heq,rS,aF];simp only[gO,Ba,SX,vq];simp;omega
  .have TP:m=0:=by omega
   subst TP;refine au.same ?_;rw[heq];rfl
end Go.Vc
