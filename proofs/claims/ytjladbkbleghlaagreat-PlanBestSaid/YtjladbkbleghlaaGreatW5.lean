/- Part 5 of the library of this proof. -/
import Derived.Test.YtjladbkbleghlaaGreatW4
import Derived.WalkKit
import Derived.ProofKit
import Derived.Deep.Slices
import Derived.ChangeArms
import Derived.WideKeyArgs
import Derived.Carry
import Derived.SizedLaws
set_option linter.all false
set_option maxHeartbeats 8000000
set_option maxRecDepth 100000
namespace Go.Vc
open Go.ChangeShapes Go.WideShapes Go.RowKit Go.Deep
def rb(P:Program)(total:Nat):Nat->List Field->Bool
 |off,[]=>off==total
 |off,f::fs=>f.offset==off&&rb P total (off+P.cellsOf f.type) fs
def xr(P:Program):Nat->TypeId->Bool
 |0,_=>false
 |n+1,t=>match P.underlying t with
  |some .bool|some (.int _)|some .string=>true
  |some (.slice e)=>xr P n e&&P.cellsOf e != 0
  |some (.struct fs)=>rb P (P.cellsOf t) 0 fs.toList&&fs.toList.all λf=>xr P n f.type
  |_=>false
def rowOf(agg:Bool)(cs:List V):V:=if agg then .agg cs else cs.getD 0 .undef
def tZ(S:TypeId->List V->Prop):List Field->List V->Prop
 |[],vs=>vs=[]
 |f::fs,vs=>∃a b,vs=a++b/\S f.type a/\tZ S fs b
def gN(P:Program):Nat->TypeId->List V->Prop
 |0,_,_=>False
 |n+1,t,vs=>match P.underlying t with
  |some .bool=>∃b,vs=[.bool b]
  |some (.int k)=>∃m,vs=[.int k m]/\(Lit.int k m).wf=true
  |some .string=>∃s:List UInt8,vs=[.str s]/\s.length<=reachBytes
  |some (.slice e)=>∃rows,vs=[.sl (P.cellsOf e) rows]/\rows.length*P.bytesOf e<=reachBytes/\∀r∈rows,∃cs,gN P n e cs/\r=rowOf (fc P e) cs
  |some (.struct fs)=>tZ (gN P n) fs.toList vs
  |_=>False
def Ah{α:Type}{Pr:Nat->α->Prop}:∀n,(∀i,i<n->∃r,Pr i r)->∃rows:List α,rows.length=n/\∀i r,rows[i]?=some r->Pr i r
 |0,_=>⟨[],rfl,λi r h=>by simp at h⟩
 |n+1,h=>by
  obtain⟨rows,h1,h2⟩:=Ah n λi hi=>h i (by omega);obtain⟨r,hr⟩:=h n (by omega);refine⟨rows++[r],by simp[h1],λi x hx=>?_⟩;rw[Is]at hx;split at hx
  .exact h2 i x hx
  .rename_i hi;have:i-rows.length=0:=by
    rcases Nat.eq_zero_or_pos (i-rows.length)with h0|h0
    .exact h0
    .rw[qv (by simp;omega)]at hx;cases hx
   rw[this]at hx;simp at hx;subst hx;have:i=n:=by omega
   subst this;exact hr
def sM{I:Mu}{ow:Nat->Prop}{w:World}{b off sz:Nat}:∀(rows:List V) (k:Nat),(∀i r,rows[i]?=some r->r.cells.length=sz/\aO I ow w r.cells b (off+(k+i)*sz))->aY I ow w rows b (off+k*sz) sz
 |[],_,_=>by simp[aY]
 |r::rs,k,h=>by
  have h0:=h 0 r rfl;simp only[aY];refine⟨h0.1,by rw[ed];simpa using h0.2,?_⟩;have e:off+k*sz+sz=off+(k+1)*sz:=by rw[Nat.add_mul];omega
  rw[e];refine sM rs (k+1) λi x hx=>?_;have:=h (i+1) x (by simpa using hx);rw[show k+1+i=k+(i+1) by omega];exact this
section
variable {H:Type} {enc:TypeId×Value->H} {P:Program} {w:World} {base:Nat} {spare:Nat->Bool} {held:Bool} {I:Mu} {ow:Nat->Prop}
def Di(P:Program)(I:Mu)(ow:Nat->Prop)(w:World)(N:Nat)(t:TypeId)(cs:List Value):Prop:=
 ∃vs,gN P N t vs/\ax I ow w vs cs/\∀u∈cs,u.oneCell'=true
def rP{S:TypeId->List V->Prop}{cs:List Value}:∀(fs:List Field) (off:Nat),rb P cs.length off fs=true->
 (∀f∈fs,∃vs,S f.type vs/\ax I ow w vs ((cs.drop f.offset).take (P.cellsOf f.type))/\∀u∈(cs.drop f.offset).take (P.cellsOf f.type),u.oneCell'=true)->
 ∃vs,tZ S fs vs/\ax I ow w vs (cs.drop off)/\∀u∈cs.drop off,u.oneCell'=true
 |[],off,hc,_=>by
  simp only[rb,beq_iff_eq]at hc;refine⟨[],rfl,?_,?_⟩
  .rw[CZ (by omega)];simp[ax]
  .rw[CZ (by omega)];simp
 |f::fs,off,hc,h=>by
  simp only[rb,Ba,beq_iff_eq]at hc;obtain⟨a,h1,h2,h3⟩:=h f (by simp);obtain⟨b,h4,h5,h6⟩:=rP fs (off+P.cellsOf f.type) hc.2 λg hg=>h g (by simp[hg]);rw[hc.1]at h2 h3;have e:cs.drop off=(cs.drop off).take (P.cellsOf f.type)++cs.drop (off+P.cellsOf f.type):=by
   rw[<-List.drop_drop,yK]
  refine⟨a++b,⟨a,b,rfl,h1,h4⟩,?_,?_⟩
  .rw[e];exact h2.append h5
  .rw[e];intro u hu;rcases fq.1 hu with hu|hu
   .exact h3 u hu
   .exact h6 u hu
def nI{v:V}{x:Value}(h:C' I ow w v x):ax I ow w [v] [x]:=by simp only[ax];exact⟨x,[],rfl,h,rfl⟩
def pE{t:TypeId}{fs:Array Field}(h:P.underlying t=some (.struct fs)):fc P t=true:=by simp[fc,h]
def lX{e:TypeId}{d:DataW H}:∀{l:List (DataW H)},d∈l->∀n∈d.weights P e,n∈DataW.weightsAll P e l
 |[],h,_,_=>by simp at h
 |x::l,h,n,hn=>by
  simp only[DataW.weightsAll,fq];rcases dI.1 h with rfl|h
  .exact .inl hn
  .exact .inr (lX h n hn)
def lC(L7:∀b,¬ow b):∀(N:Nat) (fuel:Nat) (t:TypeId) (cs:List Value) (x:DataW H×List MemPlace),xr P N t=true->(∀n∈x.1.weights P t,n<=reachBytes)->DataW.trod enc P w base spare held fuel t cs=some x->
 Di P I ow w N t cs
 |0,_,_,_,_,h,_,_=>by simp[xr]at h
 |N+1,fuel,t,cs,x,LS,SC,hx=>by
  have hok':=LS;unfold xr at LS;unfold Di;simp only[gN];split at LS
  .rename_i ht;obtain⟨b,rfl,_⟩:=DataW.trod_bool ht hx;exact⟨[.bool b],⟨b,rfl⟩,nI (by simp[C']),by simp[Value.oneCell']⟩
  .rename_i k ht;obtain⟨m,rfl,_,hw⟩:=DataW.trod_int ht hx;exact⟨[.int k m],⟨m,rfl,hw⟩,nI (by simp[C']),by simp[Value.oneCell']⟩
  .rename_i ht;obtain⟨s,rfl,rfl,hw⟩:=DataW.trod_string ht hx;exact⟨[.str s.data.toList],⟨_,rfl,SC _ (by simp[DataW.weights])⟩,nI (by simp[C']),by simp[Value.oneCell']⟩
  .rename_i e ht;simp only[Ba,bne_iff_ne,ne_eq]at LS;rcases open_slice ht hx with⟨rfl,_⟩|⟨a,len,cap,m,n,D,Pl,rfl,hb,hl,hm,hmm,rfl,hi⟩
   .exact⟨[.sl (P.cellsOf e) []],⟨[],rfl,by simp,by simp⟩,nI (by simp only[C'];exact⟨none,0,rfl,by simp,.inl trivial⟩),by simp[Value.oneCell']⟩
   .have Rv:len<=m:=by rw[hmm];split<;>omega
    simp only[DataW.weights,ht]at SC;have hlen:len*P.bytesOf e<=reachBytes:=by
     have:=SC _ (List.mem_cons_self ..);simp only[eU,List.length_range]at this;exact ly (Nat.mul_le_mul_right _ (by omega)) this
    have OL:∀i,i<len->∃r:V,(∃cs,gN P N e cs/\r=rowOf (fc P e) cs)/\r.cells.length=P.cellsOf e/\∃Vz,ax I ow w r.cells Vz/\(∀u∈Vz,u.oneCell'=true)/\Vz.length=P.cellsOf e/\
     ∀j,j<P.cellsOf e->w.cell? ((a.add (i*P.cellsOf e)).add j)=Vz[j]?:=by
     intro i SA;obtain⟨Vz,h1,h2⟩:=hi i (by omega);obtain⟨_,Mt,Ow⟩:=World.cells?_some h1;obtain⟨vs,h3,h4,h5⟩:=lC L7 N n e Vz _ LS.1 (λq hq=>SC q (List.mem_cons_of_mem _ (List.mem_append_left _ (lX (gO.2 ⟨i,by simpa using SA,rfl⟩) q hq)))) h2;have V7:vs.length=P.cellsOf e:=by rw[<-Mt,h4.length]
     have O5:(rowOf (fc P e) vs).cells=vs:=by
      unfold rowOf;split
      .rfl
      .rename_i hna;cases N with
       |zero=>simp[gN]at h3
       |succ N'=>
        unfold gN at h3;split at h3
        .obtain⟨b,rfl⟩:=h3;rfl
        .obtain⟨b,rfl,_⟩:=h3;rfl
        .obtain⟨b,rfl,_⟩:=h3;rfl
        .obtain⟨b,rfl,_⟩:=h3;rfl
        .rename_i hs;exact absurd (pE hs) hna
        .exact h3.elim
     exact⟨rowOf (fc P e) vs,⟨vs,h3,rfl⟩,by rw[O5,V7],Vz,by rw[O5];exact h4,h5,Mt,Ow⟩
    obtain⟨rows,Xx,Xy⟩:=Ah len OL;refine⟨[.sl (P.cellsOf e) rows],⟨rows,rfl,by rw[Xx];exact hlen,λr hr=>?_⟩,nI ?_,by simp[Value.oneCell']⟩
    .obtain⟨i,SA⟩:=Ea hr;exact(Xy i r SA).1
    .simp only[C'];refine⟨some a,cap,by rw[Xx],by omega,?_⟩;by_cases h0:len=0
     .left;exact rE (by omega)
     .right;have WA:∃r,rows[0]?=some r:=⟨rows[0]'(by omega),by simp⟩
      obtain⟨r0,hr0⟩:=WA;obtain⟨_,_,cs0,_,_,hcl0,hat0⟩:=Xy 0 r0 hr0;have Oj:=hat0 0 (by omega);rw[Oy (by omega)]at Oj;have Zf:a.spot=none:=by
       have:=World.cell?_spot Oj;simpa[Addr.add]using this
      obtain⟨b,off,spot⟩:=a;subst Zf;refine⟨b,off,rfl,L7 b,by omega,?_⟩;have:=sM (I:=I) (ow:=ow) (w:=w) (b:=b) (off:=off) (sz:=P.cellsOf e) rows 0 λi r hri=>?_
      .simpa using this
      .obtain⟨_,h1,Vz,h2,h3,h4,h5⟩:=Xy i r hri;refine⟨h1,jK h2 h3 λj u hu=>?_⟩;have hj:j<P.cellsOf e:=by rw[<-h4];exact(qn.1 hu).1
       have:=h5 j hj;rw[hu,add_plain,add_plain]at this;rw[ky];exact this
  .rename_i fs ht;simp only[Ba]at LS;obtain⟨xs,n,_,rfl,hl,hxl,hf⟩:=DataW.trod_struct ht hx;simp only[DataW.weights,ht]at SC;obtain⟨vs,h1,h2,h3⟩:=rP (I:=I) (ow:=ow) (w:=w) (P:=P) (S:=gN P N) (cs:=cs) fs.toList 0 (by rw[hl];exact LS.1) λf XK=>by
    obtain⟨i,hi⟩:=Ea XK;have SA:fs[i]?=some f:=by simpa using hi
    have Lr:i<xs.length:=by rw[hxl];exact(lQ.1 SA).1
    have h1:=hf i f SA;rw[Oy Lr]at h1;exact lC L7 N n f.type _ _ (fa.1 LS.2 f XK) (λq hq=>SC q (DataW.weights_mem_each (j:=i) (t:=f.type) (d:=(xs[i]'Lr).1) (by simp[hi]) (by simp[Lr]) q hq)) h1
   exact⟨vs,h1,by simpa using h2,by simpa using h3⟩
  .cases LS
def lP(P:Program)(t:TypeId)(vs:List V):V:=if fc P t then .agg vs else vs.getD 0 .undef
def Eu(L7:∀b,¬ow b){N:Nat}{t:TypeId}{v:Value}{d:DataW H}{p:List MemPlace}{r:Reach}{b0:Nat}(LS:xr P N t=true)(SC:∀n∈d.weights P t,n<=reachBytes)(OX:Value.okWide P w r b0 t v)(h:DataW.Trod enc P w base spare held t v d p):
 ∃vs,gN P N t vs/\C' I ow w (lP P t vs) v:=by
 obtain⟨fuel,hf⟩:=h;obtain⟨vs,h1,h2,h3⟩:=lC (I:=I) L7 N fuel t _ _ LS SC hf;refine⟨vs,h1,?_⟩;cases N with
 |zero=>simp[gN]at h1
 |succ N'=>
  unfold gN at h1;have MH:∀u:V,vs=[u]->v.cells=#[v]->fc P t=false->C' I ow w (lP P t vs) v:=by
   rintro u rfl hc ha;rw[hc]at h2;simp only[ax]at h2;obtain⟨x,xs,h4,h5,h6⟩:=h2;simp only[List.cons.injEq]at h4;simp only[lP,ha,iG,if_false];rw[h4.1];exact h5
  split at h1
  .rename_i ht;obtain⟨b,rfl⟩:=h1;obtain⟨x,rfl⟩:=okWide_bool ht OX;exact MH _ rfl rfl (by simp[fc,ht])
  .rename_i ht;obtain⟨b,rfl,_⟩:=h1;obtain⟨x,rfl⟩:=okWide_int ht OX;exact MH _ rfl rfl (by simp[fc,ht])
  .rename_i ht;obtain⟨b,rfl,_⟩:=h1;obtain⟨x,rfl⟩:=okWide_string ht OX;exact MH _ rfl rfl (by simp[fc,ht])
  .rename_i ht;obtain⟨b,rfl,_⟩:=h1;obtain⟨x,y,z,rfl⟩:=okWide_slice ht OX;exact MH _ rfl rfl (by simp[fc,ht])
  .rename_i ht;obtain⟨cs,rfl,_⟩:=okWide_struct ht OX;simp only[lP,pE ht,if_true,C'];exact⟨cs.toList,by simp,by simpa[Value.cells]using h2,by simpa[Value.cells]using h3⟩
  .exact h1.elim
def vh(P:Program)(N:Nat):List TypeId->List V->Prop
 |[],us=>us=[]
 |t::ts,us=>∃vs us',us=lP P t vs::us'/\gN P N t vs/\vh P N ts us'
def xX(L7:∀b,¬ow b){N:Nat}{r:Reach}{b0:Nat}:∀{ts:List TypeId} {vs:List Value} {ds:List (DataW H)} {p:List MemPlace},(∀t∈ts,xr P N t=true)->(∀n∈DataW.weightsEach P ts ds,n<=reachBytes)->
 (∀(j:Nat) t v,ts[j]?=some t->vs[j]?=some v->Value.okWide P w r b0 t v)->DataW.TrodAll enc P w base spare held ts vs ds p->∃us,vh P N ts us/\ax I ow w us vs
 |[],vs,ds,p,_,_,_,h=>by
  cases vs<;>cases ds<;>simp[DataW.TrodAll]at h;exact⟨[],rfl,by simp[ax]⟩
 |t::ts,vs,ds,p,LS,SC,OX,h=>by
  obtain⟨v,vs',d,ds',p',q,rfl,rfl,rfl,h1,h2⟩:=trodAll_cons h;simp only[DataW.weightsEach,fq]at SC;obtain⟨cs,g1,g2⟩:=Eu (I:=I) (b0:=b0) L7 (LS t (by simp)) (λq hq=>SC q (.inl hq)) (OX 0 t v rfl rfl) h1;obtain⟨us,g3,g4⟩:=xX (b0:=b0) L7 (λu hu=>LS u (by simp[hu])) (λq hq=>SC q (.inr hq)) (λj u x hj hx=>OX (j+1) u x (by simpa using hj) (by simpa using hx)) h2;exact⟨_::us,⟨cs,us,rfl,g1,g3⟩,by simp only[ax];exact⟨v,vs',rfl,g2,g4⟩⟩
def mJ(hl:laidOutB P=true):∀{ts:List TypeId} {vs:List Value} {ds:List (DataW H)} {p:List MemPlace} {W W':World} {sp:Nat->Bool},(∀t∈ts,P.readableRec t=true/\t<P.types.size)->
 DataW.TrodAll enc P W 0 (λ_=>true) true ts vs ds p->Below W.heap.size W W'->(∀x∈p,x.block<W.heap.size)->(∀x∈p,sp x.block=true)->DataW.TrodAll enc P W' 0 sp true ts vs ds p
 |[],vs,ds,p,W,W',sp,_,h,_,_,_=>by
  cases vs<;>cases ds<;>simp[DataW.TrodAll]at h|-;exact h
 |t::ts,vs,ds,p,W,W',sp,ht,h,hb,Lr,OY=>by
  obtain⟨v,vs',d,ds',p',q,rfl,rfl,rfl,h1,h2⟩:=trodAll_cons h;refine⟨p',q,WideElems.Trod_stays hl (ht t (by simp)).1 (ht t (by simp)).2 h1 (λx hx=>hb.same (Lr x (by simp[hx]))) (λx hx=>OY x (by simp[hx])),?_,rfl⟩;exact mJ hl (λu hu=>ht u (by simp[hu])) h2 hb (λx hx=>Lr x (by simp[hx])) (λx hx=>OY x (by simp[hx]))
end
def tz{H:Type}{enc:TypeId×Value->H}{P:Program}{f:Func}{s:ChangeSpec}{apart fresh handsOn again:Bool}{W W':World}{args:Array Value}{v:Value}{ds gs:List (DataW H)}{before pa pv:List MemPlace}
 (hW:DataW.Whole enc P f.params.toList s.vars apart W args.toList ds gs before)
 (Px:∀(b:Nat) (sp:Nat->Bool) (hd:Bool),DataW.TrodAll enc P W' b sp hd f.resultTypes.toList (v.resultList f.resultTypes.size) (s.fn H (ds++gs)).results [])
 (Mq:∀sp:Nat->Bool,(∀p∈before,sp p.block=true)->DataW.TrodAll enc P W' 0 sp true f.params.toList args.toList (s.fn H (ds++gs)).args pa)
 (QF:∀sp:Nat->Bool,(∀p∈before,sp p.block=true)->DataW.TrodVars enc P W' sp s.vars (s.fn H (ds++gs)).vars pv)
 (Wr:before=pa++pv)(hb:Below W.heap.size W W')
 (LS:∀(j:Nat) (t:TypeId) (r:Value),f.resultTypes[j]?=some t->(v.resultList f.resultTypes.size)[j]?=some r->Value.okWide P W' .any 0 t r):
 s.post enc P f apart fresh handsOn again W args v W':=by
 have Lr:∀p∈before,p.block<W.heap.size:=λp hp=>hW.lt p hp;have hold:∀p∈before,(λb=>decide (b<W.heap.size)) p.block=true:=λp hp=>by simpa using Lr p hp
 refine⟨ds,gs,before,[],pa,pv,hW,Px _ _ _,Mq _ hold,QF _ hold,World.keptBut_mono (λp hp=>⟨hp,?_⟩) (hb.frame (·∈before)),λ_=>?_⟩
 .rw[Wr,fq]at hp;exact Or.inr hp
 .obtain⟨_,_,_,_,_,hz,hn⟩:=hW;refine⟨LS,_,_,([]++pa)++pv,⟨[]++pa,pv,trodAll_append (Mq _ (λ_ _=>rfl)) (Px _ _ _),QF _ (λ_ _=>rfl),rfl,?_,?_⟩,?_⟩
  .intro b off hp;have Q0:MemPlace.cell b off∈before:=by rw[Wr];simpa using hp
   rw[hb.frozen (Lr _ Q0)];exact hz b off Q0
  .intro ha;have:=hn ha;rw[Wr]at this;simpa using this
  .intro p hp _;rw[Wr];simpa using hp
def B2{H:Type}{enc:TypeId×Value->H}{P:Program}{f:Func}{i:FuncId}{s:ChangeSpec}{N:Nat}(Oh:P.funcs[i]?=some f)(hl:laidOutB P=true)
 (Pk:f.params.toList.all (λt=>xr P N t&&(P.readableRec t&&decide (t<P.types.size)))=true)(QF:s.vars=[]){tb:TypeId}(Px:f.resultTypes=#[tb])(htb:P.underlying tb=some .bool)
 (hfn:∀ds,ds.length=f.params.size->s.fn H ds=⟨[.lit (.bool true)],ds,[]⟩)
 (OZ:∀us,vh P N f.params.toList us->bc P i us (.bool true))
 {apart fresh handsOn again:Bool}{W:World}{base:Nat}{args:Array Value}{ds gs:List (DataW H)}{before:List MemPlace}
 (OX:∀(j:Nat) t v,f.params[j]?=some t->args[j]?=some v->Value.okWide P W .any base t v)
 (hW:DataW.Whole enc P f.params.toList s.vars apart W args.toList ds gs before)(hvt:s.plain.varTypes P=[])
 (No:(DataW.weightsEach P (f.params.toList++s.plain.varTypes P) (ds++gs)).all (·<=reachBytes)=true)(hO:IH W):
 Calls P i args W λe W'=>∃v,e=.returned v/\s.post enc P f apart fresh handsOn again W args v W':=by
 have hW':=hW;obtain⟨p,q,hA,hV,rfl,hfz,MS⟩:=hW;have WB:=fa.1 Pk;simp only[Ba,NV]at WB;rw[QF]at hV;have hnoV:gs=[]/\q=[]:=by
  cases gs with
  |nil=>exact⟨rfl,by simpa[DataW.TrodVars]using hV⟩
  |cons g gs=>simp[DataW.TrodVars]at hV
 obtain⟨rfl,rfl⟩:=hnoV;have L7:∀b,¬aD (λ_=>Pl.dJ) j4 b:=λb ⟨_,_,_,_,h,_⟩=>by simp[j4]at h
 obtain⟨us,UO,MV⟩:=xX (I:=λ_=>Pl.dJ) (ow:=aD (λ_=>Pl.dJ) j4) (b0:=base) (r:=.any) L7 (λt ht=>(WB t ht).1)
  (by rw[hvt,kC,kC]at No;intro n hn;simpa using fa.1 No n hn) (λj t v hj hv=>OX j t v (by simpa using hj) (by simpa using hv)) hA
 have Nc:Sat W (aD (λ_=>Pl.dJ) j4) (λ_=>Pl.dJ) j4 W:=
  ⟨Md _,rfl,rfl,rfl,λ_ _ _=>rfl,⟨0,λ_ _=>rfl⟩,λ_ _ _ _ _ _ _ _ _ h=>by simp[j4]at h,λ_ _ h=>by simp[j4]at h,λb hb=>(L7 b hb).elim,⟨W,hO,Md _,λi _=>⟨L7 i,rfl⟩⟩⟩
 have Pb:=(OZ us UO j4).2 (λ_=>Pl.dJ) W args.toList Nc MV;rw[Array.toArray_toList]at Pb;refine Pb.mono ?_;rintro e W' ⟨r,Z',Y',val,rfl,⟨rfl,rfl⟩,_,LK,hr⟩;simp only[C']at hr;subst hr;have Zg:Below W.heap.size W W':=⟨LK.os,LK.tape,LK.output,LK.size,λk hk=>LK.same k hk (L7 k)⟩
 have hlen:ds.length=f.params.size:=by
  have key:∀{ts:List TypeId} {vs:List Value} {ds:List (DataW H)} {p:List MemPlace},DataW.TrodAll enc P W 0 (λ_=>true) true ts vs ds p->ds.length=ts.length:=by
   intro ts
   induction ts with
   |nil=>intro vs ds p h;cases vs<;>cases ds<;>simp[DataW.TrodAll]at h|-
   |cons t ts ih=>
    intro vs ds p h;obtain⟨_,_,_,_,_,_,_,rfl,_,_,h2⟩:=trodAll_cons h;simp[ih h2]
  simpa using key hA
 have WC:=hfn ds hlen;refine⟨.bool true,rfl,tz (pa:=p) (pv:=[]) hW' ?_ ?_ ?_ rfl Zg ?_⟩
 .intro b sp hd;rw[kC,WC,Px];exact⟨[],[],shut_bool htb _,rfl,rfl⟩
 .intro sp OY;rw[kC,WC];refine mJ hl (λt ht=>(WB t ht).2) hA Zg (λx hx=>by simpa using hW'.lt x (by simpa using hx)) (λx hx=>OY x (by simpa using hx))
 .intro sp _;rw[kC,WC,QF];rfl
 .exact ok_one Px rfl (okWide_bool_mk htb _)
open Go.Proofs Go.Proofs.Tryz
def vL{α:Type}{f:α->V}{p:α->Prop}:∀{rows:List V},(∀r∈rows,∃x,r=f x/\p x)->∃l:List α,rows=l.map f/\∀x∈l,p x
 |[],_=>⟨[],rfl,by simp⟩
 |r::rs,h=>by
  obtain⟨x,rfl,hx⟩:=h r (by simp);obtain⟨l,rfl,hl⟩:=vL λq hq=>h q (List.mem_cons_of_mem _ hq);exact⟨x::l,rfl,by simpa using⟨hx,hl⟩⟩
def OF(m:Int):Prop:=-9223372036854775808<=m/\m<=9223372036854775807
def MT.OF(s:MT):Prop:=Vc.OF s.top/\Vc.OF s.LM/\Vc.OF s.LA/\Vc.OF s.Lt/\Vc.OF s.Mm/\Vc.OF s.LZ/\Vc.OF s.Mg/\Vc.OF s.head/\Vc.OF s.before/\Vc.OF s.after/\Vc.OF s.inside/\Vc.OF s.clear
def Nd.real(x:Nd):Prop:=(Vc.OF x.kind/\Vc.OF x.size/\x.st.OF/\Vc.OF x.line/\Vc.OF x.space/\Vc.OF x.side/\Vc.OF x.w/\Vc.OF x.h)/\x.words.length<=17592186043904/\∀n∈x.words,Vc.OF n
section
variable {P:Program} {n:Nat} {t:TypeId} {vs:List V}
def B1{k:IntKind}(ht:P.underlying t=some (.int k))(h:gN P (n+1) t vs):∃m,vs=[.int k m]/\(Lit.int k m).wf=true:=by
 simpa only[gN,ht]using h
def rN{e:TypeId}(ht:P.underlying t=some (.slice e))(h:gN P (n+1) t vs):∃rows,vs=[.sl (P.cellsOf e) rows]/\rows.length*P.bytesOf e<=reachBytes/\∀r∈rows,∃cs,gN P n e cs/\r=rowOf (fc P e) cs:=by
 simpa only[gN,ht]using h
def pL{fs:Array Field}(ht:P.underlying t=some (.struct fs))(h:gN P (n+1) t vs):tZ (gN P n) fs.toList vs:=by
 simpa only[gN,ht]using h
end
def EV:prog.cellsOf 3=1:=by kernel_rfl
def Cj:prog.cellsOf 51=20:=by kernel_rfl
def FV:fc prog 3=false:=by kernel_rfl
def G9:fc prog 22=false:=by kernel_rfl
def HN:fc prog 51=true:=by kernel_rfl
def Ev:prog.bytesOf 3=8:=by kernel_rfl
def CJ:prog.bytesOf 51=176:=by kernel_rfl
def dB{n:Nat}{vs:List V}(h:gN prog (n+1) 3 vs):∃m,vs=[vI m]/\OF m:=by
 obtain⟨m,h,hw⟩:=B1 underlying3 h;exact⟨m,h,by simp[Lit.wf,IntKind.min,IntKind.max,IntKind.signed,IntKind.bits]at hw;unfold OF;omega⟩
def xq{n:Nat}{vs:List V}(h:gN prog (n+2) 23 vs):∃l,vs=[bj l]/\l.length<=17592186043904/\∀n∈l,OF n:=by
 obtain⟨rows,rfl,hl,h⟩:=rN underlying23 h;obtain⟨l,rfl,hp⟩:=vL (f:=vI) (p:=OF) λr hr=>by
  obtain⟨cs,hc,rfl⟩:=h r hr;obtain⟨m,rfl,hm⟩:=dB hc;exact⟨m,by rw[FV];rfl,hm⟩
 rw[Ev]at hl;simp only[eU,reachBytes]at hl;exact⟨l,by rw[EV];rfl,by omega,hp⟩
def A6{n:Nat}{vs:List V}(h:gN prog (n+2) 49 vs):∃s:MT,vs=s.cells/\s.OF:=by
 replace h:=pL underlying49 h;simp only[tZ]at h;obtain⟨_,_,rfl,h1,_,_,rfl,h2,_,_,rfl,h3,_,_,rfl,h4,_,_,rfl,h5,_,_,rfl,h6,_,_,rfl,h7,_,_,rfl,h8,_,_,rfl,h9,_,_,rfl,Q1,_,_,rfl,Po,_,_,rfl,Ux,rfl⟩:=h;obtain⟨m1,rfl,g1⟩:=dB h1;obtain⟨m2,rfl,g2⟩:=dB h2;obtain⟨m3,rfl,g3⟩:=dB h3;obtain⟨m4,rfl,g4⟩:=dB h4;obtain⟨m5,rfl,g5⟩:=dB h5;obtain⟨m6,rfl,g6⟩:=dB h6;obtain⟨m7,rfl,g7⟩:=dB h7;obtain⟨m8,rfl,g8⟩:=dB h8;obtain⟨m9,rfl,g9⟩:=dB h9;obtain⟨m10,rfl,g10⟩:=dB Q1;obtain⟨m11,rfl,g11⟩:=dB Po;obtain⟨m12,rfl,g12⟩:=dB Ux;exact⟨⟨m1,m2,m3,m4,m5,m6,m7,m8,m9,m10,m11,m12⟩,rfl,g1,g2,g3,g4,g5,g6,g7,g8,g9,g10,g11,g12⟩
def DM{n:Nat}{vs:List V}(h:gN prog (n+3) 51 vs):∃x:Nd,vs=x.cells/\x.real:=by
 replace h:=pL underlying51 h;simp only[tZ]at h;obtain⟨_,_,rfl,h1,_,_,rfl,h2,_,_,rfl,h3,_,_,rfl,h4,_,_,rfl,h5,_,_,rfl,h6,_,_,rfl,h7,_,_,rfl,h8,_,_,rfl,h9,rfl⟩:=h;obtain⟨m1,rfl,g1⟩:=dB h1;obtain⟨m2,rfl,g2⟩:=dB h2;obtain⟨s,rfl,g3⟩:=A6 h3;obtain⟨m4,rfl,g4⟩:=dB h4;obtain⟨m5,rfl,g5⟩:=dB h5;obtain⟨ws,rfl,g6,g6'⟩:=xq h6;obtain⟨m7,rfl,g7⟩:=dB h7;obtain⟨m8,rfl,g8⟩:=dB h8;obtain⟨m9,rfl,g9⟩:=dB h9;exact⟨⟨m1,m2,s,m4,m5,ws,m7,m8,m9⟩,rfl,⟨g1,g2,g3,g4,g5,g7,g8,g9⟩,g6,g6'⟩
def Bm{n:Nat}{vs:List V}(h:gN prog (n+4) 22 vs):∃l,vs=[aM l]/\l.length<=800000000000/\∀x∈l,x.real:=by
 obtain⟨rows,rfl,hl,h⟩:=rN underlying22 h;obtain⟨l,rfl,hp⟩:=vL (f:=ir) (p:=Nd.real) λr hr=>by
  obtain⟨cs,hc,rfl⟩:=h r hr;obtain⟨x,rfl,hx⟩:=DM hc;exact⟨x,by rw[HN];rfl,hx⟩
 rw[CJ]at hl;simp only[eU,reachBytes]at hl;exact⟨l,by rw[Cj];rfl,by omega,hp⟩
def A8{n:Nat}{vs:List V}(h:gN prog (n+4) 22 vs):∃l,lP prog 22 vs=aM l/\l.length<=800000000000/\∀x∈l,x.real:=by
 obtain⟨l,rfl,h1,h2⟩:=Bm h;exact⟨l,by unfold lP;rw[G9];rfl,h1,h2⟩
open Go.Proofs Go.Proofs.Tryz
section
variable {P:Program} {n:Nat} {st:St} {Q:St->Prop} {k:List It}
def Go.cN{i:aK}{l:List aK}{fx:VX}{xs:List VX}{f:FuncId}{caps:List V}{v:V}(hw:bp st.s i.g=some true)(ho:i.op=.call fx xs)
 (hf:fx.ev st.s=.fn f caps)(hc:bc P f (xs.map (·.ev st.s)++caps) v)(h:Go P n (.d l k) ⟨aU st.s i.dst v,st.U⟩ Q):Go P n (.d (i::l) k) st Q:=by
 refine nC hw ?_;rw[ho];exact⟨f,caps,v,hf,λZ1 _=>hc Z1,h⟩
end
def kD{U:ag}{id:Nat}{o:Ob}(h:U id=some o):E' U id o=U:=by
 funext i;simp only[E'];split
 .rename_i e;rw[e,h]
 .rfl
def Bq(n:Int):Prop:=-1152921504606846976<=n/\n<=1152921504606846976
def pz(n:Int):bc prog 52 [vI n] (.bool (decide (1<=n/\n<=1099511627776))):=λU=>by
 refine e52.r (by simp[c52]) ?_;apply sR;simp only[go_sem,seval,c52];refine And.intro (λh=>?_) (λh=>?_)
 .exact aE.same (by congr 1;exact decide_eq_decide.2 (by omega))
 .exact aE.same (by congr 1;exact(Nz (by omega)).symm)
def dK(n:Int):Int:=max (-1099511627776) (min n 1099511627776)
def wq(n:Int):bc prog 90 [vI n] (vI (dK n)):=λU=>by
 refine e90.r (by simp[c90]) ?_;apply sR;simp only[go_sem,seval,c90];exact aE.same (by congr 1;unfold dK;split<;>split<;>omega)
structure Mr where
 (a b:Int)
deriving DecidableEq
def aZ(s:Mr):V:=.agg [vI s.a,vI s.b]
def qJ(s:Mr):bc prog 203 [aZ s] (.bool (decide (s.b<=s.a))):=λU=>by
 refine KW.r (by simp[Ia]) ?_;apply sR;simp only[go_sem,seval,Ia,aZ];refine ae λi1 Z1 s1 a1 f1=>?_;simp only[go_sem,seval,a1];exact aE.pure s1 rfl
def jx(s:Mr):Int:=if s.b<=s.a then 0 else s.b-s.a
def M1(n:Int):Prop:=-2305843009213693952<=n/\n<=2305843009213693952
def BW(s:Mr)(ha:M1 s.a)(hb:M1 s.b):bc prog 183 [aZ s] (vI (jx s)):=λU=>by
 obtain⟨h1,h2⟩:=ha;obtain⟨h3,h4⟩:=hb;refine JP.r (by simp[Gj]) ?_;apply sR;simp only[go_sem,seval,Gj,aZ];refine ae λi1 Z1 s1 a1 f1=>?_;simp only[go_sem,seval,a1];refine ab.aC rfl rfl rfl (qJ ⟨_,_⟩ _) ?_;apply sR;simp only[go_sem,seval,a1];unfold jx;refine And.intro (λh=>?_) (λh=>?_)
 .rw[aI h];exact aE.pure s1 rfl
 .rw[aJ h];exact⟨au,aE.pure s1 rfl⟩
open Go.Proofs Go.Proofs.Tryz
def nF(a b:Mr):Mr:=if a.b<=a.a\/b.b<=b.a\/min a.b b.b<=max a.a b.a then⟨0,0⟩else⟨max a.a b.a,min a.b b.b⟩
def dd(a b:Int):(if b>a then b else a)=max a b:=by split<;>omega
def gB(a b:Int):(if b<a then b else a)=min a b:=by split<;>omega
def Ge(x y:Mr):bc prog 215 [aZ x,aZ y] (aZ (nF x y)):=λU=>by
 refine J0.r (by simp[Iu]) ?_;have hs:=aa.refl U;refine ab.mix 6 ?_;apply sR;simp only[go_sem,seval,Iu,aZ];refine ae λi2 Z2 s2 a2 f2=>?_;have z2:=hs.none f2;replace hs:=hs.trans s2;simp only[go_sem,seval,a2];refine ae λi3 Z3 s3 a3 f3=>?_;have UP:=ao a2 f3;replace a2:=s3 _ _ a2;have z3:=hs.none f3;replace hs:=hs.trans s3;simp only[go_sem,seval,a3,a2];refine ae λi4 Z4 s4 a4 f4=>?_;have Zh:=ao a2 f4;replace a2:=s4 _ _ a2;have Tf:=ao a3 f4;replace a3:=s4 _ _ a3;have z4:=hs.none f4;replace hs:=hs.trans s4;simp only[go_sem,seval,a4,a3,a2];refine ae λi5 Z5 s5 a5 f5=>?_;have Ti:=ao a2 f5;replace a2:=s5 _ _ a2;have Q2:=ao a3 f5;replace a3:=s5 _ _ a3;have ON:=ao a4 f5;replace a4:=s5 _ _ a4;have z5:=hs.none f5;replace hs:=hs.trans s5;simp only[go_sem,seval,a5,a4,a3,a2,dd,gB,ad Ti,ad Q2,ad ON];generalize Np:E' _ i5 _=Y5;replace a5:=(congrFun Np i5).symm.trans ak;replace a2:=((congrFun Np i2).symm.trans (ad Ti)).trans a2;replace a3:=((congrFun Np i3).symm.trans (ad Q2)).trans a3;replace a4:=((congrFun Np i4).symm.trans (ad ON)).trans a4;replace hs:=Eq.subst (motive:=aa _) Np (hs.aG z5);clear Np;refine ab.aC rfl rfl rfl (qJ ⟨_,_⟩ _) ?_;unfold nF;by_cases h1:x.b<=x.a
 .rw[aI (.inl h1),NA h1];apply sR;simp only[go_sem,seval,a4,a5];exact aE.pure (hs.aG z4) rfl
 rw[Nz h1];apply sR;simp only[go_sem,seval,a3,a5,a4];refine ab.aC rfl rfl rfl (qJ ⟨_,_⟩ _) ?_;by_cases h2:y.b<=y.a
 .rw[aI (.inr (.inl h2)),NA h2];apply sR;simp only[go_sem,seval,a4,a5];exact aE.pure (hs.aG z4) rfl
 rw[Nz h2];apply sR;simp only[go_sem,seval,a3,a5,a4];refine ab.aC rfl rfl rfl (qJ ⟨_,_⟩ _) ?_;by_cases h3:min x.b y.b<=max x.a y.a
 .rw[aI (.inr (.inr h3)),NA h3];apply sR;simp only[go_sem,seval,a4,a5];exact aE.pure (hs.aG z4) rfl
 .rw[aJ (by omega),Nz h3];apply sR;simp only[go_sem,seval,a4,a5];exact aE.pure (hs.aG z4) rfl
def EB(x y:Mr):bc prog 212 [aZ x,aZ y] (.bool (decide (nF x y=⟨0,0⟩))):=λU=>by
 refine Ko.r (by simp[Iy]) ?_;have hs:=aa.refl U;refine ab.mix 5 ?_;apply sR;simp only[go_sem,seval,Iy,aZ];refine ae λi2 Z2 s2 a2 f2=>?_;have z2:=hs.none f2;replace hs:=hs.trans s2;simp only[go_sem,seval,a2];refine ae λi3 Z3 s3 a3 f3=>?_;have UP:=ao a2 f3;replace a2:=s3 _ _ a2;have z3:=hs.none f3;replace hs:=hs.trans s3;simp only[go_sem,seval,a3,a2];refine ab.aC rfl rfl rfl (Ge ⟨_,_⟩ ⟨_,_⟩ _) ?_;have e:(⟨x.a,x.b⟩:Mr)=x:=rfl;have e':(⟨y.a,y.b⟩:Mr)=y:=rfl;rw[e,e'];generalize nF x y=m;obtain⟨u,v⟩:=m;apply sR;simp only[go_sem,seval,aZ];refine aE.pure hs ?_;by_cases h1:u=0<;>by_cases h2:v=0<;>simp[h1,h2]
structure Rct where
 (x y w h:Int)
deriving DecidableEq
def E7(r:Rct):V:=.agg [vI r.x,vI r.y,vI r.w,vI r.h]
def zj(r:Rct)(h1:Bq r.y)(h2:Bq r.h):bc prog 168 [E7 r] (aZ ⟨r.y,r.y+r.h⟩):=λU=>by
 obtain⟨g1,g2⟩:=h1;obtain⟨g3,g4⟩:=h2;refine JK.r (by simp[Io]) ?_;have hs:=aa.refl U;apply sR;simp only[go_sem,seval,Io,E7];refine ae λi1 Z1 s1 a1 f1=>?_;have z1:=hs.none f1;replace hs:=hs.trans s1;simp only[go_sem,seval,a1];refine ae λi2 Z2 s2 a2 f2=>?_;have n12:=ao a1 f2;replace a1:=s2 _ _ a1;have z2:=hs.none f2;replace hs:=hs.trans s2;simp only[go_sem,seval,a2,a1];exact⟨au,aE.pure (hs.aG z2) rfl⟩
def DE(r:Rct)(h1:Bq r.x)(h2:Bq r.w):bc prog 205 [E7 r] (aZ ⟨r.x,r.x+r.w⟩):=λU=>by
 obtain⟨g1,g2⟩:=h1;obtain⟨g3,g4⟩:=h2;refine JN.r (by simp[Hq]) ?_;have hs:=aa.refl U;apply sR;simp only[go_sem,seval,Hq,E7];refine ae λi1 Z1 s1 a1 f1=>?_;have z1:=hs.none f1;replace hs:=hs.trans s1;simp only[go_sem,seval,a1];refine ae λi2 Z2 s2 a2 f2=>?_;have n12:=ao a1 f2;replace a1:=s2 _ _ a1;have z2:=hs.none f2;replace hs:=hs.trans s2;simp only[go_sem,seval,a2,a1];exact⟨au,aE.pure (hs.aG z2) rfl⟩
structure Pn where
 (y m:Int)
deriving DecidableEq
def gn(p:Pn):V:=.agg [vI p.y,vI p.m]
def Bp(p:Pn)(h1:Bq p.y)(h2:Bq p.m):bc prog 121 [gn p] (vI (p.y+p.m)):=λU=>by
 obtain⟨g1,g2⟩:=h1;obtain⟨g3,g4⟩:=h2;refine J3.r (by simp[IA]) ?_;have hs:=aa.refl U;apply sR;simp only[go_sem,seval,IA,gn];refine ae λi1 Z1 s1 a1 f1=>?_;have z1:=hs.none f1;replace hs:=hs.trans s1;simp only[go_sem,seval,a1];exact⟨au,aE.pure hs rfl⟩
def GF(p:Pn)(y h:Int)(h1:Bq y)(h2:Bq h):bc prog 162 [gn p,vI y,vI h] (gn ⟨y+h,0⟩):=λU=>by
 obtain⟨g1,g2⟩:=h1;obtain⟨g3,g4⟩:=h2;refine KO.r (by simp[Iq]) ?_;have hs:=aa.refl U;apply sR;simp only[go_sem,seval,Iq,gn];refine ae λi1 Z1 s1 a1 f1=>?_;have z1:=hs.none f1;replace hs:=hs.trans s1;simp only[go_sem,seval,a1];refine ae λi2 Z2 s2 a2 f2=>?_;have n12:=ao a1 f2;replace a1:=s2 _ _ a1;have z2:=hs.none f2;replace hs:=hs.trans s2;simp only[go_sem,seval,a2,a1];exact⟨au,aE.pure (hs.aG z2) rfl⟩
def iX(p:Pn)(low:Int):Pn:=if low>p.y+p.m then⟨low,0⟩else p
def BR(p:Pn)(low:Int)(h1:Bq p.y)(h2:Bq p.m):bc prog 137 [gn p,vI low] (gn (iX p low)):=λU=>by
 refine K5.r (by simp[GW]) ?_;have hs:=aa.refl U;refine ab.mix 5 ?_;apply sR;simp only[go_sem,seval,GW,gn];refine ae λi2 Z2 s2 a2 f2=>?_;have z2:=hs.none f2;replace hs:=hs.trans s2;simp only[go_sem,seval,a2];refine ae λi4 Z4 s4 a4 f4=>?_;have Zh:=ao a2 f4;replace a2:=s4 _ _ a2;have z4:=hs.none f4;replace hs:=hs.trans s4;simp only[go_sem,seval,a4,a2];refine ab.aC rfl rfl rfl (Bp ⟨_,_⟩ h1 h2 _) ?_;unfold iX;by_cases h:low>p.y+p.m
 .have q:(low>p.y+p.m)=True:=LH h;rw[aI h];apply sR;simp only[go_sem,seval,a4,a2,q];exact aE.pure (hs.aG z4) rfl
 .have q:(low>p.y+p.m)=False:=Ly h;rw[aJ h];apply sR;simp only[go_sem,seval,a4,a2,q];exact aE.pure (hs.aG z4) rfl
def zF(y m n:Int){U:ag}{id:Nat}(Ls:U id=some ⟨266,2,[.agg [vI y,vI m]]⟩):aA prog 159 [.ptr id 0 0,vI n] U λr Z'=>r=.LI []/\Z'=E' U id ⟨266,2,[.agg [vI y,vI (max m n)]]⟩:=by
 refine JE.r (by simp[HQ]) ?_;apply sR;simp only[go_sem,seval,HQ,Ls,dd];exact⟨_,_,aa.refl _,Wk.refl (aa.refl _) _,rfl,rfl⟩
def FE(y m n:Int)(hy:Bq y)(hm:Bq m)(hn:Bq n){U:ag}{id:Nat}(Ls:U id=some ⟨266,2,[.agg [vI y,vI m]]⟩):aA prog 160 [.ptr id 0 0,vI n] U λr Z'=>r=.LI []/\Z'=E' U id ⟨266,2,[.agg [vI (if n>0 then y+m+n else y),vI (if n>0 then 0 else m)]]⟩:=by
 obtain⟨g1,g2⟩:=hy;obtain⟨g3,g4⟩:=hm;obtain⟨g5,g6⟩:=hn;refine K8.r (by simp[EL]) ?_;by_cases h:n>0
 .have q:(n>0)=True:=LH h;rw[aI h,aI h];apply sR;simp only[go_sem,seval,EL,Ls,q];exact⟨au,au,_,_,aa.refl _,Wk.refl (aa.refl _) _,rfl,rfl⟩
 .have q:(n>0)=False:=Ly h;rw[aJ h,aJ h];apply sR;simp only[go_sem,seval,EL,Ls,q];exact⟨_,_,aa.refl _,Wk.refl (aa.refl _) _,rfl,(by funext i;simp only[E'];split<;>simp_all)⟩
open Go.Proofs Go.Proofs.Tryz
structure LV where
 (node side anchor x y w h:Int)
deriving DecidableEq
def dF(f:LV):V:=.agg [vI f.node,vI f.side,vI f.anchor,vI f.x,vI f.y,vI f.w,vI f.h]
def bo(l:List LV):V:=.sl 7 (l.map dF)
def gS(f:LV):V:=.agg [vI f.node,vI f.side,vI f.anchor,vI f.x,vI f.y,vI f.w,vI f.h,vI f.x,vI f.y,vI f.w,vI f.h]
def LV.ok(f:LV):Prop:=Bq f.x/\Bq f.y/\Bq f.w/\Bq f.h
def Am{U:ag}{l:List LV}{i:Nat}(h:i<l.length):bN U 7 (bo l) (.int .i64 i)=some (.rp (dF l[i])):=by simp[bo,bN,h]
def qL(l:List LV):eK false (bo l)=some (.int .i64 l.length):=by simp[bo,eK]
def FU(f:LV):bc prog 167 [dF f] (gS f):=λU=>by
 refine KX.r (by simp[HH]) ?_;have hs:=aa.refl U;apply sR;simp only[go_sem,seval,HH,dF];refine ae λi1 Z1 s1 a1 f1=>?_;have z1:=hs.none f1;replace hs:=hs.trans s1;simp only[go_sem,seval,a1];refine ae λi2 Z2 s2 a2 f2=>?_;have n12:=ao a1 f2;replace a1:=s2 _ _ a1;have z2:=hs.none f2;replace hs:=hs.trans s2;simp only[go_sem,seval,a2,a1];exact aE.pure (hs.aG z2) rfl
def xj(f:LV)(hf:f.ok):bc prog 147 [gS f] (vI (f.y+f.h)):=λU=>by
 refine JD.r (by simp[H7]) ?_;have hs:=aa.refl U;apply sR;simp only[go_sem,seval,H7,gS];refine ae λi1 Z1 s1 a1 f1=>?_;have z1:=hs.none f1;replace hs:=hs.trans s1;simp only[go_sem,seval,a1];refine ab.aC rfl rfl rfl (zj ⟨_,_,_,_⟩ hf.2.1 hf.2.2.2 _) ?_;apply sR;simp only[go_sem,seval,aZ];exact aE.pure hs rfl
def hU(y high:Int)(f:LV):Bool:=!decide (nF ⟨f.y,f.y+f.h⟩ ⟨y,y+max high 1⟩=⟨0,0⟩)
def Fl(f:LV)(y high:Int)(hf:f.ok)(hy:M1 y)(hh:Bq high):bc prog 204 [gS f,vI y,vI high] (.bool (hU y high f)):=λU=>by
 obtain⟨g1,g2⟩:=hy;obtain⟨g3,g4⟩:=hh;refine Lb.r (by simp[GS]) ?_;have hs:=aa.refl U;refine ab.mix 7 ?_;apply sR;simp only[go_sem,seval,GS,gS];refine ae λi3 Z3 s3 a3 f3=>?_;have z3:=hs.none f3;replace hs:=hs.trans s3;simp only[go_sem,seval,a3];refine ab.aC rfl rfl rfl (zj ⟨_,_,_,_⟩ hf.2.1 hf.2.2.2 _) ?_;apply sR;simp only[go_sem,seval,dd];refine⟨au,?_⟩;refine ab.aC rfl rfl rfl (EB ⟨_,_⟩ ⟨_,_⟩ _) ?_;apply sR;simp only[go_sem,seval];rw[show max high 1=max 1 high by omega];exact aE.pure hs (by simp[hU,Int.max_comm])
def jG(f:LV)(s:Mr):Mr:=if f.side=1 then⟨max s.a (f.x+f.w),s.b⟩else⟨s.a,min s.b f.x⟩
def FA(f:LV)(s:Mr)(hf:f.ok):bc prog 186 [gS f,aZ s] (aZ (jG f s)):=λU=>by
 refine Lh.r (by simp[G6]) ?_;have hs:=aa.refl U;refine ab.mix 6 ?_;apply sR;simp only[go_sem,seval,G6,gS,aZ];refine ae λi2 Z2 s2 a2 f2=>?_;have z2:=hs.none f2;replace hs:=hs.trans s2;simp only[go_sem,seval,a2];refine ae λi3 Z3 s3 a3 f3=>?_;have UP:=ao a2 f3;replace a2:=s3 _ _ a2;have z3:=hs.none f3;replace hs:=hs.trans s3;simp only[go_sem,seval,a3,a2];refine ae λi4 Z4 s4 a4 f4=>?_;have Zh:=ao a2 f4;replace a2:=s4 _ _ a2;have Tf:=ao a3 f4;replace a3:=s4 _ _ a3;have z4:=hs.none f4;replace hs:=hs.trans s4;simp only[go_sem,seval,a4,a3,a2];refine ab.aC rfl rfl rfl (DE ⟨_,_,_,_⟩ hf.1 hf.2.2.1 _) ?_;apply sR;simp only[go_sem,seval,aZ];refine ae λi5 Z5 s5 a5 f5=>?_;have Ti:=ao a2 f5;replace a2:=s5 _ _ a2;have Q2:=ao a3 f5;replace a3:=s5 _ _ a3;have ON:=ao a4 f5;replace a4:=s5 _ _ a4;have z5:=hs.none f5;replace hs:=hs.trans s5;unfold jG;by_cases h:f.side=1
 .have q:(f.side=1)=True:=LH h;rw[aI h];simp only[go_sem,seval,a5,a4,a3,a2,q,dd,gB,ad Ti,ad Q2,ad ON,ad Tf.symm,ad Q2.symm,ad Zh,ad Tf,ad ON.symm];exact aE.pure (((hs.aG z5).aG z3).aG z4) rfl
 .have q:(f.side=1)=False:=Ly h;rw[aJ h];simp only[go_sem,seval,a5,a4,a3,a2,q,dd,gB,ad Ti,ad Q2,ad ON,ad Tf.symm,ad Q2.symm,ad Zh,ad Tf,ad ON.symm];exact aE.pure (((hs.aG z5).aG z3).aG z4) rfl
open Go.Proofs Go.Proofs.Tryz
def yk{α:Type}(p:α->Bool)(l:List α){i:Nat}(h:i<l.length):(l.take (i+1)).filter p=(l.take i).filter p++if p l[i]then[l[i]]else[]:=by
 rw[Ph h,List.filter_append];cases hp:p l[i]<;>simp[hp]
def FF(l:List LV)(y high:Int)(hl:l.length<=1000000)(LS:∀f∈l,f.ok)(hy:M1 y)(hh:Bq high)(g:FuncId)(caps:List V)(τ:List LV->ag->Prop)
 (hJ:∀pre U Z',τ pre U->aa U Z'->τ pre Z')
 (hg:∀pre f U,f∈l->τ pre U->aA prog g (gS f::caps) U λr Z'=>r=.LI []/\τ (pre++[f]) Z'){U:ag}(h0:τ [] U):
 aA prog 184 [bo l,vI y,vI high,.fn g caps] U λr Z'=>r=.LI []/\τ (l.filter (hU y high)) Z':=by
 refine KJ.r (by simp[F5]) ?_;refine ab.mix 14 ?_;apply sR;simp only[go_sem,seval,F5,qL];refine ab.loop (λm st=>∃i:Nat,i<=l.length/\m=l.length-i/\τ ((l.take i).filter (hU y high)) st.U/\st.s 1=vI y/\st.s 2=vI high/\st.s 3=.fn g caps/\st.s 11=bo l/\st.s 12=vI l.length/\st.s 13=vI i) l.length ?_ ?_
 .exact⟨0,by omega,rfl,h0,rfl,rfl,rfl,rfl,rfl,rfl⟩
 .rintro m ⟨s,Z'⟩ ⟨i,hi,rfl,hj,k1,k2,k3,Ue,Nb,Pp⟩;simp only at hj k1 k2 k3 Ue Nb Pp;refine ab.mix 14 ?_;by_cases Lr:i<l.length
  .have q:((i:Int)<l.length)=True:=LH;have Q3:=λU=>Am (U:=U) Lr;have N3:=ML Lr;have hfok:=LS _ N3;have Mv:=yk (hU y high) l Lr;generalize l[i]=f at*;have hs:=aa.refl Z';apply sR;simp only[go_sem,seval,k1,k2,k3,Ue,Nb,Pp,q,Q3,dF];refine ae λi9 Z9 s9 a9 f9=>?_;have z9:=hs.none f9;replace hs:=hs.trans s9;simp only[go_sem,seval,a9,k1,k2,k3,Ue,Nb,Pp];generalize MC:E' _ i9 _=Y9;replace a9:=(congrFun MC i9).symm.trans ak;replace hs:=Eq.subst (motive:=aa _) MC (hs.aG z9);clear MC;refine ab.aC rfl rfl rfl (FU f _) ?_;apply sR;simp only[go_sem,seval,gS];refine ae λMa Q4 M0 LG f10=>?_;have Qa:=ao a9 f10;replace a9:=M0 _ _ a9;have Ol:=hs.none f10;replace hs:=hs.trans M0;simp only[go_sem,seval,LG,k1,k2,k3,Ue,Nb,Pp];generalize LN:E' _ Ma _=Uf;replace LG:=(congrFun LN Ma).symm.trans ak;replace a9:=((congrFun LN i9).symm.trans (ad Qa)).trans a9;replace hs:=Eq.subst (motive:=aa _) LN (hs.aG Ol);clear LN;refine ab.aC rfl rfl rfl (Fl f y high hfok hy hh _) ?_;cases hm:hU y high f
   .rw[hm]at Mv;apply sR;simp only[go_sem,seval,k1,k2,k3,Ue,Nb,Pp];refine⟨au,_,by omega,i+1,by omega,rfl,?_,by simp[k1,k2,k3,Ue,Nb]⟩;rw[Mv];simpa using hJ _ _ _ hj hs
   .rw[hm]at Mv;apply sR;simp only[go_sem,seval,LG,k1,k2,k3,Ue,Nb,Pp];refine ab.call rfl rfl rfl (hg _ f _ N3 (hJ _ _ _ hj hs)) ?_;rintro r Z2 ⟨rfl,Zi⟩;apply sR;simp only[go_sem,seval,k1,k2,k3,Ue,Nb,Pp];refine⟨au,_,by omega,i+1,by omega,rfl,?_,by simp[k1,k2,k3,Ue,Nb]⟩;rw[Mv];simpa using Zi
  .have q:((i:Int)<l.length)=False:=Ly;apply sR;simp only[go_sem,seval,k1,k2,k3,Ue,Nb,Pp,q];obtain rfl:i=l.length:=by omega
   rw[kP]at hj;exact⟨_,_,aa.refl _,Wk.refl (aa.refl _) _,rfl,hj⟩
def ec(l:List LV)(y high:Int)(s:Mr):Mr:=(l.filter (hU y high)).foldl (λs f=>jG f s) s
def I6{id:Nat}(f:LV)(s:Mr)(hf:f.ok){U:ag}(Ls:U id=some ⟨239,2,[aZ s]⟩):aA prog 206 [gS f,.ptr id 0 0] U λr Z'=>r=.LI []/\∃Z1,aa U Z1/\Z'=E' Z1 id ⟨239,2,[aZ (jG f s)]⟩:=by
 refine KK.r (by simp[GX]) ?_;have hs:=aa.refl U;have a1:=Ls;rw[aZ]at a1;apply sR;simp only[go_sem,seval,GX,gS];refine ae λi2 Z2 s2 a2 f2=>?_;have n2:=ao a1 f2;replace a1:=s2 _ _ a1;simp only[go_sem,seval,a2,a1];refine ab.aC rfl rfl rfl (FA f s hf _) ?_;apply sR;simp only[go_sem,seval,a1,aZ];exact⟨_,_,aa.refl _,Wk.refl (aa.refl _) _,rfl,Z2,s2,rfl⟩
def zS(l:List LV)(y high:Int)(s:Mr)(hl:l.length<=1000000)(LS:∀f∈l,f.ok)(hy:M1 y)(hh:Bq high):bc prog 187 [bo l,vI y,vI high,aZ s] (aZ (ec l y high s)):=λU=>by
 refine KE.r (by simp[Ie]) ?_;have hs:=aa.refl U;refine ab.mix 10 ?_;apply sR;simp only[go_sem,seval,Ie,aZ];refine ae λi7 Z7 s7 a7 f7=>?_;have z7:=hs.none f7;replace hs:=hs.trans s7;simp only[go_sem,seval,a7];refine ae λi8 Z8 s8 a8 f8=>?_;have RY:=ao a7 f8;replace a7:=s8 _ _ a7;have z8:=hs.none f8;replace hs:=hs.trans s8;simp only[go_sem,seval,a8,a7];refine ae λi9 Z9 s9 a9 f9=>?_;have Qm:=ao a7 f9;replace a7:=s9 _ _ a7;have WD:=ao a8 f9;replace a8:=s9 _ _ a8;have z9:=hs.none f9;replace hs:=hs.trans s9;simp only[go_sem,seval,a9,a8,a7,ad Qm,ad WD];generalize MC:E' _ i9 _=Y9;replace a9:=(congrFun MC i9).symm.trans ak;replace a7:=((congrFun MC i7).symm.trans (ad Qm)).trans a7;replace a8:=((congrFun MC i8).symm.trans (ad WD)).trans a8;replace hs:=Eq.subst (motive:=aa _) MC (hs.aG z9);clear MC;refine ab.call rfl rfl rfl (FF l y high hl LS hy hh 206 [.ptr i9 0 0] (λpre J=>J i9=some ⟨239,2,[aZ (pre.foldl (λs f=>jG f s) s)]⟩/\J i8=some ⟨239,2,[.agg [vI 0,vI 0]]⟩/\aa U J) ?_ ?_ ⟨a9,a8,hs⟩) ?_
 .rintro pre J X' ⟨h1,h2,h4⟩ h5;exact⟨h5 _ _ h1,h5 _ _ h2,h4.trans h5⟩
 .rintro pre f J hf ⟨h1,h2,h4⟩;refine(I6 f _ (LS f hf) h1).mono ?_;rintro r X' ⟨rfl,X1,h5,rfl⟩;refine⟨rfl,?_,by rw[ad WD];exact h5 _ _ h2,(h4.trans h5).aG z9⟩;rw[ak,yQ];rfl
 .rintro r J ⟨rfl,h1,h2,h4⟩;have Sx:aZ (List.foldl (λs f=>jG f s) s (List.filter (hU y high) l))=.agg [vI (ec l y high s).a,vI (ec l y high s).b]:=rfl;rw[Sx]at h1;apply sR;simp only[go_sem,seval,h1,h2];exact aE.pure (h4.aG z8) rfl
open Go.Proofs Go.Proofs.Tryz
def jr(s:Mr)(a:Int×Bool)(f:LV):Int×Bool:=if jG f s=s\/(a.2=true/\f.y+f.h>=a.1)then a else(f.y+f.h,true)
def fU(l:List LV)(y high:Int)(s:Mr):Int×Bool:=(l.filter (hU y high)).foldl (jr s) (0,false)
def E8{i1 i2 i3:Nat}(f:LV)(s:Mr)(a:Int×Bool)(hf:f.ok)(Ux:i1≠i2)(XH:i1≠i3)(h23:i2≠i3){U:ag}(q1:U i1=some ⟨239,2,[aZ s]⟩)(q2:U i2=some ⟨4,1,[.bool a.2]⟩)(q3:U i3=some ⟨3,1,[vI a.1]⟩):
 aA prog 185 [gS f,.ptr i1 0 0,.ptr i2 0 0,.ptr i3 0 0] U λr Z'=>r=.LI []/\∃Z1,aa U Z1/\Z'=E' (E' Z1 i3 ⟨3,1,[vI (jr s a f).1]⟩) i2 ⟨4,1,[.bool (jr s a f).2]⟩:=by
 refine Kv.r (by simp[Ii]) ?_;refine ab.mix 5 ?_;obtain⟨u,v⟩:=a;simp only at q2 q3;apply sR;simp only[go_sem,seval,Ii,gS];refine ae λi4 Z4 s4 a4 f4=>?_;have n1:=ao q1 f4;have n2:=ao q2 f4;have n3:=ao q3 f4;replace q1:=s4 _ _ q1;replace q2:=s4 _ _ q2;replace q3:=s4 _ _ q3;have QG:=FA f s hf;have WE:=xj f hf;obtain⟨s1,s2⟩:=s;rw[aZ]at q1;simp only[go_sem,seval,a4,q1,q2,q3];refine Go.cN rfl rfl rfl QG ?_;unfold jr;generalize jG f ⟨s1,s2⟩=c;obtain⟨c1,c2⟩:=c;have same:∀Z':ag,Z'=Z4->E' (E' Z' i3 ⟨3,1,[vI u]⟩) i2 ⟨4,1,[.bool v]⟩=Z4:=λZ' e=>by
  subst e;rw[kD q3,kD q2]
 by_cases hc:c1=s1/\c2=s2
 .obtain⟨rfl,rfl⟩:=hc;apply sG;simp only[go_sem,seval,q1,aZ];refine⟨_,_,aa.refl _,Wk.refl (aa.refl _) _,rfl,Z4,s4,?_⟩;rw[aI (by simp),same _ rfl]
 .have hd:(decide (c1=s1)&&decide (c2=s2))=false:=by
   by_cases h1:c1=s1<;>by_cases h2:c2=s2<;>simp_all
  have LR:¬(⟨c1,c2⟩:Mr)=⟨s1,s2⟩:=by simpa using hc
  cases v
  .rw[aJ (by simp[LR])];apply sG;simp only[go_sem,seval,q1,q2,a4,aZ,hd];refine ab.aC rfl rfl rfl (WE _) ?_;apply sR;simp only[go_sem,seval,q2,q3,ad h23,a4];exact⟨_,_,aa.refl _,Wk.refl (aa.refl _) _,rfl,Z4,s4,rfl⟩
  .apply sG;simp only[go_sem,seval,q1,q2,a4,aZ,hd];refine Go.cN rfl rfl rfl WE ?_;by_cases hb:f.y+f.h>=u
   .have q:(f.y+f.h>=u)=True:=LH hb;apply sG;simp only[go_sem,seval,q3,q];refine⟨_,_,aa.refl _,Wk.refl (aa.refl _) _,rfl,Z4,s4,?_⟩;rw[aI (.inr (by first|exact hb|exact⟨rfl,hb⟩|simp[hb])),same _ rfl]
   .have q:(f.y+f.h>=u)=False:=Ly hb;rw[aJ (by simp[LR];omega)];apply sG;simp only[go_sem,seval,q3,a4,q];refine ab.aC rfl rfl rfl (WE _) ?_;apply sR;simp only[go_sem,seval,q2,q3,ad h23,a4];exact⟨_,_,aa.refl _,Wk.refl (aa.refl _) _,rfl,Z4,s4,rfl⟩
def B8(l:List LV)(y high:Int)(s:Mr)(hl:l.length<=1000000)(LS:∀f∈l,f.ok)(hy:M1 y)(hh:Bq high):bc prog 164 [bo l,vI y,vI high,aZ s] (.LI [vI (fU l y high s).1,.bool (fU l y high s).2]):=λU=>by
 refine Le.r (by simp[HT]) ?_;have hs:=aa.refl U;refine ab.mix 12 ?_;apply sR;simp only[go_sem,seval,HT,aZ];refine ae λi7 Z7 s7 a7 f7=>?_;have z7:=hs.none f7;replace hs:=hs.trans s7;simp only[go_sem,seval,a7];refine ae λMa Q4 M0 LG f10=>?_;have PA:=ao a7 f10;replace a7:=M0 _ _ a7;have Ol:=hs.none f10;replace hs:=hs.trans M0;simp only[go_sem,seval,LG,a7];refine ae λNx Tj PU Rt f11=>?_;have WG:=ao a7 f11;replace a7:=PU _ _ a7;have Nt:=ao LG f11;replace LG:=PU _ _ LG;have Zj:=hs.none f11;replace hs:=hs.trans PU;simp only[go_sem,seval,Rt,LG,a7,ad WG,ad Nt,ad PA,ad Nt.symm];rw[ua Nt,kD Rt,kD LG];refine ab.call rfl rfl rfl (FF l y high hl LS hy hh 185 [.ptr i7 0 0,.ptr Nx 0 0,.ptr Ma 0 0] (λpre J=>J i7=some ⟨239,2,[aZ s]⟩/\J Nx=some ⟨4,1,[.bool (pre.foldl (jr s) (0,false)).2]⟩/\
  J Ma=some ⟨3,1,[vI (pre.foldl (jr s) (0,false)).1]⟩/\aa U J) ?_ ?_ ⟨a7,Rt,LG,hs⟩) ?_
 .rintro pre J X' ⟨h1,h2,h3,h4⟩ h5;exact⟨h5 _ _ h1,h5 _ _ h2,h5 _ _ h3,h4.trans h5⟩
 .rintro pre f J hf ⟨h1,h2,h3,h4⟩;refine(E8 f s _ (LS f hf) WG PA Nt.symm h1 h2 h3).mono ?_;rintro r X' ⟨rfl,X1,h5,rfl⟩;refine⟨rfl,?_,?_,?_,((h4.trans h5).aG Ol).aG Zj⟩
  .rw[ad WG,ad PA];exact h5 _ _ h1
  .rw[ak,yQ];rfl
  .rw[ad Nt,ak,yQ];rfl
 .rintro r J ⟨rfl,h1,h2,h3,h4⟩;apply sR;simp only[go_sem,seval,h2,h3];exact aE.pure h4 rfl
def rf(tell:LV->Int×Bool)(a:Int×Bool)(f:LV):Int×Bool:=if(tell f).2=true/\(a.2=false\/(tell f).1>a.1)then((tell f).1,true)else a
def eg(tell:LV->Int×Bool)(l:List LV):Int×Bool:=l.foldl (rf tell) (0,false)
def C4(l:List LV)(hl:l.length<=1000000)(g:FuncId)(caps:List V)(tell:LV->Int×Bool)(μ:ag->Prop)(hI:∀U Z',μ U->aa U Z'->μ Z')
 (hg:∀f U,f∈l->μ U->aA prog g (gS f::caps) U λr Z'=>r=.LI [vI (tell f).1,.bool (tell f).2]/\Z'=U){U:ag}(h0:μ U):
 aA prog 145 [bo l,.fn g caps] U λr Z'=>r=.LI [vI (eg tell l).1,.bool (eg tell l).2]/\Z'=U:=by
 refine Ka.r (by simp[H9]) ?_;refine ab.mix 15 ?_;apply sR;simp only[go_sem,seval,H9,qL];refine ab.loop (λm st=>∃i:Nat,i<=l.length/\m=l.length-i/\aa U st.U/\st.s 1=.fn g caps/\st.s 6=vI (eg tell (l.take i)).1/\st.s 7=.bool (eg tell (l.take i)).2/\st.s 12=bo l/\st.s 13=vI l.length/\st.s 14=vI i) l.length ?_ ?_
 .exact⟨0,by omega,rfl,aa.refl _,rfl,rfl,rfl,rfl,rfl,rfl⟩
 .rintro m ⟨s,Z'⟩ ⟨i,hi,rfl,hs,k1,k6,k7,Nb,Pp,UQ⟩;simp only at hs k1 k6 k7 Nb Pp UQ;refine ab.mix 15 ?_;by_cases Lr:i<l.length
  .have q:((i:Int)<l.length)=True:=LH;have Q3:=λU=>Am (U:=U) Lr;have N3:=ML Lr;have Mv:eg tell (l.take (i+1))=rf tell (eg tell (l.take i)) l[i]:=by
    rw[Ph Lr,eg,yQ];rfl
   generalize l[i]=f at*;generalize eg tell (l.take i)=a at*;obtain⟨u,v⟩:=a;simp only at k6 k7;apply sR;simp only[go_sem,seval,k1,k6,k7,Nb,Pp,UQ,q,Q3,dF];refine ae λi9 Z9 s9 a9 f9=>?_;have z9:=hs.none f9;replace hs:=hs.trans s9;simp only[go_sem,seval,a9,k1,k6,k7,Nb,Pp,UQ];generalize MC:E' _ i9 _=Y9;replace a9:=(congrFun MC i9).symm.trans ak;replace hs:=Eq.subst (motive:=aa _) MC (hs.aG z9);clear MC;refine ab.aC rfl rfl rfl (FU f _) ?_;apply sR;simp only[go_sem,seval,k1,k6,k7,Nb,Pp,UQ];refine ab.aC rfl rfl rfl (hg f _ N3 (hI _ _ h0 hs)) ?_;have r1:LP .i64 ((i:Int)+1):=au;unfold rf at Mv;generalize tell f=t at*;obtain⟨x,is⟩:=t;simp only at Mv;cases is
   .rw[aJ (by simp)]at Mv;apply sR;simp only[go_sem,seval,k1,k6,k7,Nb,Pp,UQ,r1];exact⟨_,by omega,i+1,by omega,rfl,hs,by simp[k1,k6,k7,Nb,Pp,Mv]⟩
   .cases v
    .rw[aI (by simp)]at Mv;apply sR;simp only[go_sem,seval,k1,k6,k7,Nb,Pp,UQ,r1];exact⟨_,by omega,i+1,by omega,rfl,hs,by simp[k1,Nb,Pp,Mv]⟩
    .by_cases hb:x>u
     .have q2:(x>u)=True:=LH hb;rw[aI ⟨rfl,.inr hb⟩]at Mv;apply sR;simp only[go_sem,seval,k1,k6,k7,Nb,Pp,UQ,r1,q2];exact⟨_,by omega,i+1,by omega,rfl,hs,by simp[k1,Nb,Pp,Mv]⟩
     .have q2:(x>u)=False:=Ly hb;rw[aJ (by simp[hb])]at Mv;apply sR;simp only[go_sem,seval,k1,k6,k7,Nb,Pp,UQ,r1,q2];exact⟨_,by omega,i+1,by omega,rfl,hs,by simp[k1,k6,k7,Nb,Pp,Mv]⟩
  .have q:((i:Int)<l.length)=False:=Ly;obtain rfl:i=l.length:=by omega
   rw[kP]at k6 k7;apply sR;simp only[go_sem,seval,k1,k6,k7,Nb,Pp,UQ,q];exact aE.pure hs rfl
def La(a b:Int):Int:=IntKind.i64.wrap (BitVec.ofInt IntKind.i64.bits a &&& BitVec.ofInt IntKind.i64.bits b).toNat
def lz(ND:Int)(f:LV):Int×Bool:=(f.y+f.h,decide (La f.side ND≠0))
def HV{i:Nat}(f:LV)(ND:Int)(hf:f.ok){U:ag}(q:U i=some ⟨3,1,[vI ND]⟩):aA prog 146 [gS f,.ptr i 0 0] U λr Z'=>r=.LI [vI (lz ND f).1,.bool (lz ND f).2]/\Z'=U:=by
 refine JF.r (by simp[G3]) ?_;refine ab.mix 5 ?_;have hs:=aa.refl U;apply sR;simp only[go_sem,seval,G3,gS];refine ae λi2 Z2 s2 a2 f2=>?_;have z2:=hs.none f2;replace hs:=hs.trans s2;replace q:=s2 _ _ q;simp only[go_sem,seval,a2,q];refine Go.cN rfl rfl rfl (xj f hf) ?_;apply sG;simp only[go_sem,seval,a2,q];exact aE.pure hs rfl
def wF(l:List LV)(ND:Int)(hl:l.length<=1000000)(LS:∀f∈l,f.ok):bc prog 122 [bo l,vI ND] (.LI [vI (eg (lz ND) l).1,.bool (eg (lz ND) l).2]):=λU=>by
 refine JT.r (by simp[Gy]) ?_;refine ab.mix 6 ?_;have hs:=aa.refl U;apply sR;simp only[go_sem,seval,Gy];refine ae λi3 Z3 s3 a3 f3=>?_;have z3:=hs.none f3;replace hs:=hs.trans s3;simp only[go_sem,seval,a3];refine ab.aC rfl rfl rfl (C4 l hl 146 [.ptr i3 0 0] (lz ND) (λJ=>J i3=some ⟨3,1,[vI ND]⟩) (λ_ _ h h'=>h' _ _ h) (λf J hf h=>HV f ND (LS f hf) h) a3) ?_;apply sR;simp only[go_sem,seval];exact aE.pure hs rfl
def sF(f:LV):Int×Bool:=(f.y,true)
def Ih(f:LV)(hf:f.ok):bc prog 207 [gS f] (.LI [vI (sF f).1,.bool (sF f).2]):=λU=>by
 refine KS.r (by simp[Ij]) ?_;refine ab.mix 4 ?_;have hs:=aa.refl U;apply sR;simp only[go_sem,seval,Ij,gS];refine ae λi1 Z1 s1 a1 f1=>?_;have z1:=hs.none f1;replace hs:=hs.trans s1;simp only[go_sem,seval,a1];refine ab.aC rfl rfl rfl (zj ⟨_,_,_,_⟩ hf.2.1 hf.2.2.2 _) ?_;apply sR;simp only[go_sem,seval,aZ];exact aE.pure hs rfl
def Ji(l:List LV)(hl:l.length<=1000000)(LS:∀f∈l,f.ok):bc prog 188 [bo l] (.LI [vI (eg sF l).1,.bool (eg sF l).2]):=λU=>by
 refine Ld.r (by simp[GC]) ?_;refine ab.mix 4 ?_;apply sR;simp only[go_sem,seval,GC];refine ab.aC rfl rfl rfl (C4 l hl 207 [] sF (λ_=>True) (λ_ _ h _=>h) (λf J hf _=>Ih f (LS f hf) J) trivial) ?_;apply sR;simp only[go_sem,seval];exact aE.same rfl
end Go.Vc
