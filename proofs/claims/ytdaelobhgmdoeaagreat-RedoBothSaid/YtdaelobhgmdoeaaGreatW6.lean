/- Part 6 of the library of this proof. -/
import Derived.Test.YtdaelobhgmdoeaaGreatW5
import Derived.WalkKit
import Derived.ProofKit
import Derived.Deep.Slices
import Derived.ChangeArms
import Derived.WideKeyArgs
import Derived.Carry
import Derived.SizedLaws
set_option linter.all false
set_option maxHeartbeats 8000000
set_option maxRecDepth 100000
namespace Go.Vc
open Go.ChangeShapes Go.WideShapes Go.RowKit Go.Deep
def sQ(P:Program)(total:Nat):Nat->List Field->Bool
 |off,[]=>off==total
 |off,f::fs=>f.offset==off&&sQ P total (off+P.cellsOf f.type) fs
def yV(P:Program):Nat->TypeId->Bool
 |0,_=>false
 |n+1,t=>match P.underlying t with
  |some .bool|some (.int _)|some .string=>true
  |some (.slice e)=>yV P n e&&P.cellsOf e != 0
  |some (.struct fs)=>sQ P (P.cellsOf t) 0 fs.toList&&fs.toList.all λf=>yV P n f.type
  |_=>false
def rowOf(agg:Bool)(cs:List V):V:=if agg then .agg cs else cs.getD 0 .undef
def uW(S:TypeId->List V->Prop):List Field->List V->Prop
 |[],vs=>vs=[]
 |f::fs,vs=>∃a b,vs=a++b/\S f.type a/\uW S fs b
def iF(P:Program):Nat->TypeId->List V->Prop
 |0,_,_=>False
 |n+1,t,vs=>match P.underlying t with
  |some .bool=>∃b,vs=[.bool b]
  |some (.int k)=>∃m,vs=[.int k m]/\(Lit.int k m).wf=true
  |some .string=>∃s:List UInt8,vs=[.str s]/\s.length<=reachBytes
  |some (.slice e)=>∃rows,vs=[.sl (P.cellsOf e) rows]/\rows.length*P.bytesOf e<=reachBytes/\∀r∈rows,∃cs,iF P n e cs/\r=rowOf (fp P e) cs
  |some (.struct fs)=>uW (iF P n) fs.toList vs
  |_=>False
def Cr{α:Type}{Pr:Nat->α->Prop}:∀n,(∀i,i<n->∃r,Pr i r)->∃rows:List α,rows.length=n/\∀i r,rows[i]?=some r->Pr i r
 |0,_=>⟨[],rfl,λi r h=>by simp at h⟩
 |n+1,h=>by
  obtain⟨rows,h1,h2⟩:=Cr n λi hi=>h i (by omega);obtain⟨r,hr⟩:=h n (by omega);refine⟨rows++[r],by simp[h1],λi x hx=>?_⟩;rw[List.getElem?_append]at hx;split at hx
  .exact h2 i x hx
  .rename_i hi;have:i-rows.length=0:=by
    rcases Nat.eq_zero_or_pos (i-rows.length)with h0|h0
    .exact h0
    .rw[List.getElem?_eq_none (by simp;omega)]at hx;cases hx
   rw[this]at hx;simp at hx;subst hx;have:i=n:=by omega
   subst this;exact hr
def uq{I:Mu}{ow:Nat->Prop}{w:World}{b off sz:Nat}:∀(rows:List V) (k:Nat),(∀i r,rows[i]?=some r->r.cells.length=sz/\aU I ow w r.cells b (off+(k+i)*sz))->aY I ow w rows b (off+k*sz) sz
 |[],_,_=>by simp[aY]
 |r::rs,k,h=>by
  have h0:=h 0 r rfl;simp only[aY];refine⟨h0.1,by rw[ec];simpa using h0.2,?_⟩;have e:off+k*sz+sz=off+(k+1)*sz:=by rw[Nat.add_mul];omega
  rw[e];refine uq rs (k+1) λi x hx=>?_;have:=h (i+1) x (by simpa using hx);rw[show k+1+i=k+(i+1) by omega];exact this
section
variable {H:Type} {enc:TypeId×Value->H} {P:Program} {w:World} {base:Nat} {spare:Nat->Bool} {held:Bool} {I:Mu} {ow:Nat->Prop}
def EB(P:Program)(I:Mu)(ow:Nat->Prop)(w:World)(N:Nat)(t:TypeId)(cs:List Value):Prop:=
 ∃vs,iF P N t vs/\aA I ow w vs cs/\∀u∈cs,u.oneCell'=true
def ug{S:TypeId->List V->Prop}{cs:List Value}:∀(fs:List Field) (off:Nat),sQ P cs.length off fs=true->
 (∀f∈fs,∃vs,S f.type vs/\aA I ow w vs ((cs.drop f.offset).take (P.cellsOf f.type))/\∀u∈(cs.drop f.offset).take (P.cellsOf f.type),u.oneCell'=true)->
 ∃vs,uW S fs vs/\aA I ow w vs (cs.drop off)/\∀u∈cs.drop off,u.oneCell'=true
 |[],off,hc,_=>by
  simp only[sQ,beq_iff_eq]at hc;refine⟨[],rfl,?_,?_⟩
  .rw[List.drop_eq_nil_of_le (by omega)];simp[aA]
  .rw[List.drop_eq_nil_of_le (by omega)];simp
 |f::fs,off,hc,h=>by
  simp only[sQ,Ba,beq_iff_eq]at hc;obtain⟨a,h1,h2,h3⟩:=h f (by simp);obtain⟨b,h4,h5,h6⟩:=ug fs (off+P.cellsOf f.type) hc.2 λg hg=>h g (by simp[hg]);rw[hc.1]at h2 h3;have e:cs.drop off=(cs.drop off).take (P.cellsOf f.type)++cs.drop (off+P.cellsOf f.type):=by
   rw[<-List.drop_drop,List.take_append_drop]
  refine⟨a++b,⟨a,b,rfl,h1,h4⟩,?_,?_⟩
  .rw[e];exact h2.append h5
  .rw[e];intro u hu;rcases List.mem_append.1 hu with hu|hu
   .exact h3 u hu
   .exact h6 u hu
def oG{v:V}{x:Value}(h:E' I ow w v x):aA I ow w [v] [x]:=by simp only[aA];exact⟨x,[],rfl,h,rfl⟩
def qF{t:TypeId}{fs:Array Field}(h:P.underlying t=some (.struct fs)):fp P t=true:=by simp[fp,h]
def lS{e:TypeId}{d:DataW H}:∀{l:List (DataW H)},d∈l->∀n∈d.weights P e,n∈DataW.weightsAll P e l
 |[],h,_,_=>by simp at h
 |x::l,h,n,hn=>by
  simp only[DataW.weightsAll,List.mem_append];rcases List.mem_cons.1 h with rfl|h
  .exact .inl hn
  .exact .inr (lS h n hn)
def mf(RL:∀b,¬ow b):∀(N:Nat) (fuel:Nat) (t:TypeId) (cs:List Value) (x:DataW H×List MemPlace),yV P N t=true->(∀n∈x.1.weights P t,n<=reachBytes)->DataW.trod enc P w base spare held fuel t cs=some x->
 EB P I ow w N t cs
 |0,_,_,_,_,h,_,_=>by simp[yV]at h
 |N+1,fuel,t,cs,x,Rg,ZP,hx=>by
  have hok':=Rg;unfold yV at Rg;unfold EB;simp only[iF];split at Rg
  .rename_i ht;obtain⟨b,rfl,_⟩:=DataW.trod_bool ht hx;exact⟨[.bool b],⟨b,rfl⟩,oG (by simp[E']),by simp[Value.oneCell']⟩
  .rename_i k ht;obtain⟨m,rfl,_,hw⟩:=DataW.trod_int ht hx;exact⟨[.int k m],⟨m,rfl,hw⟩,oG (by simp[E']),by simp[Value.oneCell']⟩
  .rename_i ht;obtain⟨s,rfl,rfl,hw⟩:=DataW.trod_string ht hx;exact⟨[.str s.data.toList],⟨_,rfl,ZP _ (by simp[DataW.weights])⟩,oG (by simp[E']),by simp[Value.oneCell']⟩
  .rename_i e ht;simp only[Ba,bne_iff_ne,ne_eq]at Rg;rcases open_slice ht hx with⟨rfl,_⟩|⟨a,len,cap,m,n,D,Pl,rfl,hb,hl,hm,hmm,rfl,hi⟩
   .exact⟨[.sl (P.cellsOf e) []],⟨[],rfl,by simp,by simp⟩,oG (by simp only[E'];exact⟨none,0,rfl,by simp,.inl trivial⟩),by simp[Value.oneCell']⟩
   .have Wv:len<=m:=by rw[hmm];split<;>omega
    simp only[DataW.weights,ht]at ZP;have hlen:len*P.bytesOf e<=reachBytes:=by
     have:=ZP _ (List.mem_cons_self ..);simp only[List.length_map,List.length_range]at this;exact Nat.le_trans (Nat.mul_le_mul_right _ (by omega)) this
    have U6:∀i,i<len->∃r:V,(∃cs,iF P N e cs/\r=rowOf (fp P e) cs)/\r.cells.length=P.cellsOf e/\∃Sz,aA I ow w r.cells Sz/\(∀u∈Sz,u.oneCell'=true)/\Sz.length=P.cellsOf e/\
     ∀j,j<P.cellsOf e->w.cell? ((a.add (i*P.cellsOf e)).add j)=Sz[j]?:=by
     intro i WI;obtain⟨Sz,h1,h2⟩:=hi i (by omega);obtain⟨_,Sn,SE⟩:=World.cells?_some h1;obtain⟨vs,h3,h4,h5⟩:=mf RL N n e Sz _ Rg.1 (λq hq=>ZP q (List.mem_cons_of_mem _ (List.mem_append_left _ (lS (List.mem_map.2 ⟨i,by simpa using WI,rfl⟩) q hq)))) h2;have hvl:vs.length=P.cellsOf e:=by rw[<-Sn,h4.length]
     have VB:(rowOf (fp P e) vs).cells=vs:=by
      unfold rowOf;split
      .rfl
      .rename_i hna;cases N with
       |zero=>simp[iF]at h3
       |succ N'=>
        unfold iF at h3;split at h3
        .obtain⟨b,rfl⟩:=h3;rfl
        .obtain⟨b,rfl,_⟩:=h3;rfl
        .obtain⟨b,rfl,_⟩:=h3;rfl
        .obtain⟨b,rfl,_⟩:=h3;rfl
        .rename_i hs;exact absurd (qF hs) hna
        .exact h3.elim
     exact⟨rowOf (fp P e) vs,⟨vs,h3,rfl⟩,by rw[VB,hvl],Sz,by rw[VB];exact h4,h5,Sn,SE⟩
    obtain⟨rows,hr1,hr2⟩:=Cr len U6;refine⟨[.sl (P.cellsOf e) rows],⟨rows,rfl,by rw[hr1];exact hlen,λr hr=>?_⟩,oG ?_,by simp[Value.oneCell']⟩
    .obtain⟨i,WI⟩:=List.getElem?_of_mem hr;exact(hr2 i r WI).1
    .simp only[E'];refine⟨some a,cap,by rw[hr1],by omega,?_⟩;by_cases h0:len=0
     .left;exact List.eq_nil_of_length_eq_zero (by omega)
     .right;have WQ:∃r,rows[0]?=some r:=⟨rows[0]'(by omega),by simp⟩
      obtain⟨r0,hr0⟩:=WQ;obtain⟨_,_,cs0,_,_,hcl0,hat0⟩:=hr2 0 r0 hr0;have UX:=hat0 0 (by omega);rw[List.getElem?_eq_getElem (by omega)]at UX;have hspot:a.spot=none:=by
       have:=World.cell?_spot UX;simpa[Addr.add]using this
      obtain⟨b,off,spot⟩:=a;subst hspot;refine⟨b,off,rfl,RL b,by omega,?_⟩;have:=uq (I:=I) (ow:=ow) (w:=w) (b:=b) (off:=off) (sz:=P.cellsOf e) rows 0 λi r hri=>?_
      .simpa using this
      .obtain⟨_,h1,Sz,h2,h3,h4,h5⟩:=hr2 i r hri;refine⟨h1,kc h2 h3 λj u hu=>?_⟩;have hj:j<P.cellsOf e:=by rw[<-h4];exact(List.getElem?_eq_some_iff.1 hu).1
       have:=h5 j hj;rw[hu,add_plain,add_plain]at this;rw[Nat.zero_add];exact this
  .rename_i fs ht;simp only[Ba]at Rg;obtain⟨xs,n,_,rfl,hl,hxl,hf⟩:=DataW.trod_struct ht hx;simp only[DataW.weights,ht]at ZP;obtain⟨vs,h1,h2,h3⟩:=ug (I:=I) (ow:=ow) (w:=w) (P:=P) (S:=iF P N) (cs:=cs) fs.toList 0 (by rw[hl];exact Rg.1) λf hfm=>by
    obtain⟨i,hi⟩:=List.getElem?_of_mem hfm;have WI:fs[i]?=some f:=by simpa using hi
    have H':i<xs.length:=by rw[hxl];exact(Array.getElem?_eq_some_iff.1 WI).1
    have h1:=hf i f WI;rw[List.getElem?_eq_getElem H']at h1;exact mf RL N n f.type _ _ (List.all_eq_true.1 Rg.2 f hfm) (λq hq=>ZP q (DataW.weights_mem_each (j:=i) (t:=f.type) (d:=(xs[i]'H').1) (by simp[hi]) (by simp[H']) q hq)) h1
   exact⟨vs,h1,by simpa using h2,by simpa using h3⟩
  .cases Rg
def ov(P:Program)(t:TypeId)(vs:List V):V:=if fp P t then .agg vs else vs.getD 0 .undef
def GU(RL:∀b,¬ow b){N:Nat}{t:TypeId}{v:Value}{d:DataW H}{p:List MemPlace}{r:Reach}{b0:Nat}(Rg:yV P N t=true)(ZP:∀n∈d.weights P t,n<=reachBytes)(Ut:Value.okWide P w r b0 t v)(h:DataW.Trod enc P w base spare held t v d p):
 ∃vs,iF P N t vs/\E' I ow w (ov P t vs) v:=by
 obtain⟨fuel,hf⟩:=h;obtain⟨vs,h1,h2,h3⟩:=mf (I:=I) RL N fuel t _ _ Rg ZP hf;refine⟨vs,h1,?_⟩;cases N with
 |zero=>simp[iF]at h1
 |succ N'=>
  unfold iF at h1;have SD:∀u:V,vs=[u]->v.cells=#[v]->fp P t=false->E' I ow w (ov P t vs) v:=by
   rintro u rfl hc ha;rw[hc]at h2;simp only[aA]at h2;obtain⟨x,xs,h4,h5,h6⟩:=h2;simp only[List.cons.injEq]at h4;simp only[ov,ha,Bool.false_eq_true,if_false];rw[h4.1];exact h5
  split at h1
  .rename_i ht;obtain⟨b,rfl⟩:=h1;obtain⟨x,rfl⟩:=okWide_bool ht Ut;exact SD _ rfl rfl (by simp[fp,ht])
  .rename_i ht;obtain⟨b,rfl,_⟩:=h1;obtain⟨x,rfl⟩:=okWide_int ht Ut;exact SD _ rfl rfl (by simp[fp,ht])
  .rename_i ht;obtain⟨b,rfl,_⟩:=h1;obtain⟨x,rfl⟩:=okWide_string ht Ut;exact SD _ rfl rfl (by simp[fp,ht])
  .rename_i ht;obtain⟨b,rfl,_⟩:=h1;obtain⟨x,y,z,rfl⟩:=okWide_slice ht Ut;exact SD _ rfl rfl (by simp[fp,ht])
  .rename_i ht;obtain⟨cs,rfl,_⟩:=okWide_struct ht Ut;simp only[ov,qF ht,if_true,E'];exact⟨cs.toList,by simp,by simpa[Value.cells]using h2,by simpa[Value.cells]using h3⟩
  .exact h1.elim
def xy(P:Program)(N:Nat):List TypeId->List V->Prop
 |[],us=>us=[]
 |t::ts,us=>∃vs us',us=ov P t vs::us'/\iF P N t vs/\xy P N ts us'
def yX(RL:∀b,¬ow b){N:Nat}{r:Reach}{b0:Nat}:∀{ts:List TypeId} {vs:List Value} {ds:List (DataW H)} {p:List MemPlace},(∀t∈ts,yV P N t=true)->(∀n∈DataW.weightsEach P ts ds,n<=reachBytes)->
 (∀(j:Nat) t v,ts[j]?=some t->vs[j]?=some v->Value.okWide P w r b0 t v)->DataW.TrodAll enc P w base spare held ts vs ds p->∃us,xy P N ts us/\aA I ow w us vs
 |[],vs,ds,p,_,_,_,h=>by
  cases vs<;>cases ds<;>simp[DataW.TrodAll]at h;exact⟨[],rfl,by simp[aA]⟩
 |t::ts,vs,ds,p,Rg,ZP,Ut,h=>by
  obtain⟨v,vs',d,ds',p',q,rfl,rfl,rfl,h1,h2⟩:=trodAll_cons h;simp only[DataW.weightsEach,List.mem_append]at ZP;obtain⟨cs,g1,g2⟩:=GU (I:=I) (b0:=b0) RL (Rg t (by simp)) (λq hq=>ZP q (.inl hq)) (Ut 0 t v rfl rfl) h1;obtain⟨us,g3,g4⟩:=yX (b0:=b0) RL (λu hu=>Rg u (by simp[hu])) (λq hq=>ZP q (.inr hq)) (λj u x hj hx=>Ut (j+1) u x (by simpa using hj) (by simpa using hx)) h2;exact⟨_::us,⟨cs,us,rfl,g1,g3⟩,by simp only[aA];exact⟨v,vs',rfl,g2,g4⟩⟩
def nz(hl:laidOutB P=true):∀{ts:List TypeId} {vs:List Value} {ds:List (DataW H)} {p:List MemPlace} {W W':World} {sp:Nat->Bool},(∀t∈ts,P.readableRec t=true/\t<P.types.size)->
 DataW.TrodAll enc P W 0 (λ_=>true) true ts vs ds p->Below W.heap.size W W'->(∀x∈p,x.block<W.heap.size)->(∀x∈p,sp x.block=true)->DataW.TrodAll enc P W' 0 sp true ts vs ds p
 |[],vs,ds,p,W,W',sp,_,h,_,_,_=>by
  cases vs<;>cases ds<;>simp[DataW.TrodAll]at h|-;exact h
 |t::ts,vs,ds,p,W,W',sp,ht,h,hb,H',hsp=>by
  obtain⟨v,vs',d,ds',p',q,rfl,rfl,rfl,h1,h2⟩:=trodAll_cons h;refine⟨p',q,WideElems.Trod_stays hl (ht t (by simp)).1 (ht t (by simp)).2 h1 (λx hx=>hb.same (H' x (by simp[hx]))) (λx hx=>hsp x (by simp[hx])),?_,rfl⟩;exact nz hl (λu hu=>ht u (by simp[hu])) h2 hb (λx hx=>H' x (by simp[hx])) (λx hx=>hsp x (by simp[hx]))
end
def uH{H:Type}{enc:TypeId×Value->H}{P:Program}{f:Func}{s:ChangeSpec}{apart fresh handsOn again:Bool}{W W':World}{args:Array Value}{v:Value}{ds gs:List (DataW H)}{before pa pv:List MemPlace}
 (hW:DataW.Whole enc P f.params.toList s.vars apart W args.toList ds gs before)
 (Wc:∀(b:Nat) (sp:Nat->Bool) (hd:Bool),DataW.TrodAll enc P W' b sp hd f.resultTypes.toList (v.resultList f.resultTypes.size) (s.fn H (ds++gs)).results [])
 (R4:∀sp:Nat->Bool,(∀p∈before,sp p.block=true)->DataW.TrodAll enc P W' 0 sp true f.params.toList args.toList (s.fn H (ds++gs)).args pa)
 (Xw:∀sp:Nat->Bool,(∀p∈before,sp p.block=true)->DataW.TrodVars enc P W' sp s.vars (s.fn H (ds++gs)).vars pv)
 (Vx:before=pa++pv)(hb:Below W.heap.size W W')
 (Rg:∀(j:Nat) (t:TypeId) (r:Value),f.resultTypes[j]?=some t->(v.resultList f.resultTypes.size)[j]?=some r->Value.okWide P W' .any 0 t r):
 s.post enc P f apart fresh handsOn again W args v W':=by
 have H':∀p∈before,p.block<W.heap.size:=λp hp=>hW.lt p hp;have hold:∀p∈before,(λb=>decide (b<W.heap.size)) p.block=true:=λp hp=>by simpa using H' p hp
 refine⟨ds,gs,before,[],pa,pv,hW,Wc _ _ _,R4 _ hold,Xw _ hold,World.keptBut_mono (λp hp=>⟨hp,?_⟩) (hb.frame (·∈before)),λ_=>?_⟩
 .rw[Vx,List.mem_append]at hp;exact Or.inr hp
 .obtain⟨_,_,_,_,_,hz,hn⟩:=hW;refine⟨Rg,_,_,([]++pa)++pv,⟨[]++pa,pv,trodAll_append (R4 _ (λ_ _=>rfl)) (Wc _ _ _),Xw _ (λ_ _=>rfl),rfl,?_,?_⟩,?_⟩
  .intro b off hp;have XJ:MemPlace.cell b off∈before:=by rw[Vx];simpa using hp
   rw[hb.frozen (H' _ XJ)];exact hz b off XJ
  .intro ha;have:=hn ha;rw[Vx]at this;simpa using this
  .intro p hp _;rw[Vx];simpa using hp
def DW{H:Type}{enc:TypeId×Value->H}{P:Program}{f:Func}{i:FuncId}{s:ChangeSpec}{N:Nat}(Tk:P.funcs[i]?=some f)(hl:laidOutB P=true)
 (VS:f.params.toList.all (λt=>yV P N t&&(P.readableRec t&&decide (t<P.types.size)))=true)(Xw:s.vars=[]){tb:TypeId}(Wc:f.resultTypes=#[tb])(htb:P.underlying tb=some .bool)
 (hfn:∀ds,ds.length=f.params.size->s.fn H ds=⟨[.lit (.bool true)],ds,[]⟩)
 (hlaw:∀us,xy P N f.params.toList us->aV P i us (.bool true))
 {apart fresh handsOn again:Bool}{W:World}{base:Nat}{args:Array Value}{ds gs:List (DataW H)}{before:List MemPlace}
 (Ut:∀(j:Nat) t v,f.params[j]?=some t->args[j]?=some v->Value.okWide P W .any base t v)
 (hW:DataW.Whole enc P f.params.toList s.vars apart W args.toList ds gs before)(hvt:s.plain.varTypes P=[])
 (Ti:(DataW.weightsEach P (f.params.toList++s.plain.varTypes P) (ds++gs)).all (·<=reachBytes)=true)(hO:Nb W):
 Calls P i args W λe W'=>∃v,e=.returned v/\s.post enc P f apart fresh handsOn again W args v W':=by
 have hW':=hW;obtain⟨p,q,hA,hV,rfl,hfz,SR⟩:=hW;have hts':=List.all_eq_true.1 VS;simp only[Ba,decide_eq_true_eq]at hts';rw[Xw]at hV;have hnoV:gs=[]/\q=[]:=by
  cases gs with
  |nil=>exact⟨rfl,by simpa[DataW.TrodVars]using hV⟩
  |cons g gs=>simp[DataW.TrodVars]at hV
 obtain⟨rfl,rfl⟩:=hnoV;have RL:∀b,¬aG (λ_=>Pl.dK) jT b:=λb ⟨_,_,_,_,h,_⟩=>by simp[jT]at h
 obtain⟨us,UM,Ur⟩:=yX (I:=λ_=>Pl.dK) (ow:=aG (λ_=>Pl.dK) jT) (b0:=base) (r:=.any) RL (λt ht=>(hts' t ht).1)
  (by rw[hvt,List.append_nil,List.append_nil]at Ti;intro n hn;simpa using List.all_eq_true.1 Ti n hn) (λj t v hj hv=>Ut j t v (by simpa using hj) (by simpa using hv)) hA
 have Tx:Sat W (aG (λ_=>Pl.dK) jT) (λ_=>Pl.dK) jT W:=
  ⟨Nat.le_refl _,rfl,rfl,rfl,λ_ _ _=>rfl,⟨0,λ_ _=>rfl⟩,λ_ _ _ _ _ _ _ _ _ h=>by simp[jT]at h,λ_ _ h=>by simp[jT]at h,λb hb=>(RL b hb).elim,⟨W,hO,Nat.le_refl _,λi _=>⟨RL i,rfl⟩⟩⟩
 have SL:=(hlaw us UM jT).2 (λ_=>Pl.dK) W args.toList Tx Ur;rw[Array.toArray_toList]at SL;refine SL.mono ?_;rintro e W' ⟨r,Z',Y',val,rfl,⟨rfl,rfl⟩,_,Ru,hr⟩;simp only[E']at hr;subst hr;have hbel:Below W.heap.size W W':=⟨Ru.os,Ru.tape,Ru.output,Ru.size,λk hk=>Ru.same k hk (RL k)⟩
 have hlen:ds.length=f.params.size:=by
  have key:∀{ts:List TypeId} {vs:List Value} {ds:List (DataW H)} {p:List MemPlace},DataW.TrodAll enc P W 0 (λ_=>true) true ts vs ds p->ds.length=ts.length:=by
   intro ts
   induction ts with
   |nil=>intro vs ds p h;cases vs<;>cases ds<;>simp[DataW.TrodAll]at h|-
   |cons t ts ih=>
    intro vs ds p h;obtain⟨_,_,_,_,_,_,_,rfl,_,_,h2⟩:=trodAll_cons h;simp[ih h2]
  simpa using key hA
 have hfn':=hfn ds hlen;refine⟨.bool true,rfl,uH (pa:=p) (pv:=[]) hW' ?_ ?_ ?_ rfl hbel ?_⟩
 .intro b sp hd;rw[List.append_nil,hfn',Wc];exact⟨[],[],shut_bool htb _,rfl,rfl⟩
 .intro sp hsp;rw[List.append_nil,hfn'];refine nz hl (λt ht=>(hts' t ht).2) hA hbel (λx hx=>by simpa using hW'.lt x (by simpa using hx)) (λx hx=>hsp x (by simpa using hx))
 .intro sp _;rw[List.append_nil,hfn',Xw];rfl
 .exact ok_one Wc rfl (okWide_bool_mk htb _)
open Go.Proofs Go.Proofs.Tryz
def w8{α:Type}{f:α->V}{p:α->Prop}:∀{rows:List V},(∀r∈rows,∃x,r=f x/\p x)->∃l:List α,rows=l.map f/\∀x∈l,p x
 |[],_=>⟨[],rfl,by simp⟩
 |r::rs,h=>by
  obtain⟨x,rfl,hx⟩:=h r (by simp);obtain⟨l,rfl,hl⟩:=w8 λq hq=>h q (List.mem_cons_of_mem _ hq);exact⟨x::l,rfl,by simpa using⟨hx,hl⟩⟩
def U2(m:Int):Prop:=-9223372036854775808<=m/\m<=9223372036854775807
def SA.U2(s:SA):Prop:=Vc.U2 s.top/\Vc.U2 s.Ry/\Vc.U2 s.Rl/\Vc.U2 s.Rb/\Vc.U2 s.R9/\Vc.U2 s.RM/\Vc.U2 s.RV/\Vc.U2 s.head/\Vc.U2 s.before/\Vc.U2 s.after/\Vc.U2 s.inside/\Vc.U2 s.clear
def Nd.real(x:Nd):Prop:=(Vc.U2 x.kind/\Vc.U2 x.size/\x.st.U2/\Vc.U2 x.line/\Vc.U2 x.space/\Vc.U2 x.side/\Vc.U2 x.w/\Vc.U2 x.h)/\x.words.length<=17592186043904/\∀n∈x.words,Vc.U2 n
section
variable {P:Program} {n:Nat} {t:TypeId} {vs:List V}
def EH{k:IntKind}(ht:P.underlying t=some (.int k))(h:iF P (n+1) t vs):∃m,vs=[.int k m]/\(Lit.int k m).wf=true:=by
 simpa only[iF,ht]using h
def tf{e:TypeId}(ht:P.underlying t=some (.slice e))(h:iF P (n+1) t vs):∃rows,vs=[.sl (P.cellsOf e) rows]/\rows.length*P.bytesOf e<=reachBytes/\∀r∈rows,∃cs,iF P n e cs/\r=rowOf (fp P e) cs:=by
 simpa only[iF,ht]using h
def qJ{fs:Array Field}(ht:P.underlying t=some (.struct fs))(h:iF P (n+1) t vs):uW (iF P n) fs.toList vs:=by
 simpa only[iF,ht]using h
end
def GX:prog.cellsOf 3=1:=by kernel_rfl
def En:prog.cellsOf 59=20:=by kernel_rfl
def ID:fp prog 3=false:=by kernel_rfl
def Kk:fp prog 22=false:=by kernel_rfl
def Jq:fp prog 59=true:=by kernel_rfl
def HH:prog.bytesOf 3=8:=by kernel_rfl
def FL:prog.bytesOf 59=176:=by kernel_rfl
def dB{n:Nat}{vs:List V}(h:iF prog (n+1) 3 vs):∃m,vs=[vI m]/\U2 m:=by
 obtain⟨m,h,hw⟩:=EH underlying3 h;exact⟨m,h,by simp[Lit.wf,IntKind.min,IntKind.max,IntKind.signed,IntKind.bits]at hw;unfold U2;omega⟩
def FV{n:Nat}{vs:List V}(h:iF prog (n+2) 57 vs):∃l,vs=[bn l]/\l.length<=17592186043904/\∀n∈l,U2 n:=by
 obtain⟨rows,rfl,hl,h⟩:=tf underlying57 h;obtain⟨l,rfl,hp⟩:=w8 (f:=vI) (p:=U2) λr hr=>by
  obtain⟨cs,hc,rfl⟩:=h r hr;obtain⟨m,rfl,hm⟩:=dB hc;exact⟨m,by rw[ID];rfl,hm⟩
 rw[HH]at hl;simp only[List.length_map,reachBytes]at hl;exact⟨l,by rw[GX];rfl,by omega,hp⟩
def DJ{n:Nat}{vs:List V}(h:iF prog (n+2) 56 vs):∃s:SA,vs=s.cells/\s.U2:=by
 replace h:=qJ underlying56 h;simp only[uW]at h;obtain⟨_,_,rfl,h1,_,_,rfl,h2,_,_,rfl,h3,_,_,rfl,h4,_,_,rfl,h5,_,_,rfl,h6,_,_,rfl,h7,_,_,rfl,h8,_,_,rfl,h9,_,_,rfl,VY,_,_,rfl,Vw,_,_,rfl,h12,rfl⟩:=h;obtain⟨m1,rfl,g1⟩:=dB h1;obtain⟨m2,rfl,g2⟩:=dB h2;obtain⟨m3,rfl,g3⟩:=dB h3;obtain⟨m4,rfl,g4⟩:=dB h4;obtain⟨m5,rfl,g5⟩:=dB h5;obtain⟨m6,rfl,g6⟩:=dB h6;obtain⟨m7,rfl,g7⟩:=dB h7;obtain⟨m8,rfl,g8⟩:=dB h8;obtain⟨m9,rfl,g9⟩:=dB h9;obtain⟨m10,rfl,g10⟩:=dB VY;obtain⟨m11,rfl,g11⟩:=dB Vw;obtain⟨m12,rfl,g12⟩:=dB h12;exact⟨⟨m1,m2,m3,m4,m5,m6,m7,m8,m9,m10,m11,m12⟩,rfl,g1,g2,g3,g4,g5,g6,g7,g8,g9,g10,g11,g12⟩
def DY{n:Nat}{vs:List V}(h:iF prog (n+3) 59 vs):∃x:Nd,vs=x.cells/\x.real:=by
 replace h:=qJ underlying59 h;simp only[uW]at h;obtain⟨_,_,rfl,h1,_,_,rfl,h2,_,_,rfl,h3,_,_,rfl,h4,_,_,rfl,h5,_,_,rfl,h6,_,_,rfl,h7,_,_,rfl,h8,_,_,rfl,h9,rfl⟩:=h;obtain⟨m1,rfl,g1⟩:=dB h1;obtain⟨m2,rfl,g2⟩:=dB h2;obtain⟨s,rfl,g3⟩:=DJ h3;obtain⟨m4,rfl,g4⟩:=dB h4;obtain⟨m5,rfl,g5⟩:=dB h5;obtain⟨ws,rfl,g6,g6'⟩:=FV h6;obtain⟨m7,rfl,g7⟩:=dB h7;obtain⟨m8,rfl,g8⟩:=dB h8;obtain⟨m9,rfl,g9⟩:=dB h9;exact⟨⟨m1,m2,s,m4,m5,ws,m7,m8,m9⟩,rfl,⟨g1,g2,g3,g4,g5,g7,g8,g9⟩,g6,g6'⟩
def CK{n:Nat}{vs:List V}(h:iF prog (n+4) 22 vs):∃l,vs=[aK l]/\l.length<=800000000000/\∀x∈l,x.real:=by
 obtain⟨rows,rfl,hl,h⟩:=tf underlying22 h;obtain⟨l,rfl,hp⟩:=w8 (f:=iB) (p:=Nd.real) λr hr=>by
  obtain⟨cs,hc,rfl⟩:=h r hr;obtain⟨x,rfl,hx⟩:=DY hc;exact⟨x,by rw[Jq];rfl,hx⟩
 rw[FL]at hl;simp only[List.length_map,reachBytes]at hl;exact⟨l,by rw[En];rfl,by omega,hp⟩
def pt{n:Nat}{vs:List V}(h:iF prog (n+4) 22 vs):∃l,ov prog 22 vs=aK l/\l.length<=800000000000/\∀x∈l,x.real:=by
 obtain⟨l,rfl,h1,h2⟩:=CK h;exact⟨l,by unfold ov;rw[Kk];rfl,h1,h2⟩
open Go.Proofs Go.Proofs.Tryz
def lH(l:List Nd):∀(m a e:Nat),e-a<m->e<=l.length->cu l a e=true->∀k,a<=k->(h:k<e)->(h2:k<l.length)->cu l (k+1) (k+l[k].size.toNat)=true
 |0,_,_,h,_,_=>by omega
 |m+1,a,e,hm,he,hr=>by
  intro k hk hke h2;have WN:a<e:=by omega
  have ha:a<l.length:=by omega
  rw[cu,dif_pos WN]at hr;have hga:l[a]?=some l[a]:=by simp[ha]
  rw[hga]at hr;simp only at hr;split at hr
  .rename_i hx;simp only[Ba]at hr;obtain⟨⟨h3,h4⟩,h5⟩:=hr;by_cases hka:k=a
   .subst hka;exact h4
   .by_cases XJ:k<a+l[a].size.toNat
    .exact lH l m (a+1) (a+l[a].size.toNat) (by omega) (by omega) h4 k (by omega) XJ h2
    .exact lH l m (a+l[a].size.toNat) e (by omega) he h5 k (by omega) hke h2
  .cases hr
def Sx(x:Nd):Int:=if x.kind=1 then x.st.top+x.st.Ry+x.st.Rl+x.st.Rb+x.st.head else if x.kind=2 then x.line*x.words.length else x.h
def pof(x:Nd):Int:=if x.kind=1 then 0 else if x.kind=2 then x.words.length else 1
def jk:List Nd->Int
 |[]=>0
 |x::l=>Sx x+jk l
def kB:List Nd->Int
 |[]=>0
 |x::l=>pof x+kB l
def xU(a b:List Nd):jk (a++b)=jk a+jk b:=by
 induction a with
 |nil=>simp[jk]
 |cons x a ih=>simp only[List.cons_append,jk,ih];omega
def yZ(a b:List Nd):kB (a++b)=kB a+kB b:=by
 induction a with
 |nil=>simp[kB]
 |cons x a ih=>simp only[List.cons_append,kB,ih];omega
def tv{x:Nd}(h:x.ok=true):0<=Sx x:=by
 obtain⟨p1,p2,p3,p4,p5,p6⟩:=jN h;unfold Sx;split
 .rename_i hk;obtain⟨q1,q2,q3,q4,q5⟩:=p6 hk;omega
 .split
  .exact Int.mul_nonneg p2 (by omega)
  .exact p4
def zm{l:List Nd}(h:l.all Nd.ok=true):0<=jk l:=by
 induction l with
 |nil=>simp[jk]
 |cons x l ih=>
  simp only[List.all_cons,Ba]at h;have:=tv h.1;have:=ih h.2;simp only[jk];omega
def dm(l:List Nd):Nat->Int
 |0=>0
 |i+1=>match l[i]? with
  |some x=>if x.kind=1 then max (dm l i) (iJ l i (i+1))else dm l i
  |none=>dm l i
def E2{l:List Nd}{i:Nat}{x:Nd}{s:Sm}(hx:x.ok=true)(hs:0<=s.O'/\s.O'<=1099511627777):(nD l i x s).O'=min (s.O'+Sx x) 1099511627777/\(nD l i x s).pieces=s.pieces+pof x/\
 (nD l i x s).depth=(if x.kind=1 then max s.depth (iJ l i (i+1))else s.depth)/\(nD l i x s).nodes=s.nodes:=by
 obtain⟨p1,p2,p3,p4,p5,p6⟩:=jN hx;unfold nD Sx pof;by_cases hk:x.kind=1
 .obtain⟨q1,q2,q3,q4,q5⟩:=p6 hk;simp only[hk,if_true,jA];refine⟨by omega,by omega,trivial,trivial⟩
 .by_cases Uq:x.kind=2
  .rw[if_neg hk,if_pos Uq,if_neg hk,if_pos Uq,if_neg hk,if_pos Uq,if_neg hk];simp only[];refine⟨rH hs p2 _,trivial,trivial,trivial⟩
  .rw[if_neg hk,if_neg Uq,if_neg hk,if_neg Uq,if_neg hk,if_neg Uq,if_neg hk];exact⟨rfl,rfl,rfl,rfl⟩
def tI(l:List Nd)(Rg:l.all Nd.ok=true):∀i,i<=l.length->(gN l ⟨0,0,l.length,0⟩ i)=⟨dm l i,kB (l.take i),l.length,min (jk (l.take i)) 1099511627777⟩
 |0,_=>by simp[gN,dm,kB,jk];omega
 |i+1,hi=>by
  have ih:=tI l Rg i (by omega);have hg:l[i]?=some l[i]:=by simp[show i<l.length by omega]
  have hx:=List.all_eq_true.1 Rg _ (List.getElem_mem (show i<l.length by omega));have ht:l.take (i+1)=l.take i++[l[i]]:=List.take_succ_eq_append_getElem (by omega);have hn:0<=jk (l.take i):=zm (List.all_eq_true.2 λx hx=>List.all_eq_true.1 Rg x (List.mem_of_mem_take hx));have hh:=tv hx;simp only[gN,hg,ih];obtain⟨g1,g2,g3,g4⟩:=E2 (l:=l) (i:=i) (s:=⟨dm l i,kB (l.take i),l.length,min (jk (l.take i)) 1099511627777⟩) hx ⟨by simp only;omega,by simp only;omega⟩;generalize nD l i l[i] ⟨dm l i,kB (l.take i),l.length,min (jk (l.take i)) 1099511627777⟩=r at*;obtain⟨r1,r2,r3,r4⟩:=r;simp only at g1 g2 g3 g4;subst g1 g2 g3 g4;simp only[dm,hg,ht,yZ,xU,kB,jk,Sm.mk.injEq,Int.add_zero,true_and];omega
open Go.Proofs Go.Proofs.Tryz
def V.flat:V->Bool
 |.agg vs=>vs.all V.lone
 |v=>v.lone
def V.Cc:V->Bool
 |.Rf vs=>vs.all V.flat
 |v=>v.flat
def aA.lone{I Y':Mu}{ow TG:Nat->Prop}{w w':World}:∀{vs:List V} {l:List Value},vs.all V.lone=true->aA I ow w vs l->aA Y' TG w' vs l
 |[],l,_,h=>by simpa[aA]using h
 |v::vs,l,hv,h=>by
  simp only[List.all_cons,Ba]at hv;simp only[aA]at h|-;obtain⟨x,xs,rfl,h1,h2⟩:=h;exact⟨x,xs,rfl,E'.lone hv.1 h1,aA.lone hv.2 h2⟩
def E'.flat{I Y':Mu}{ow TG:Nat->Prop}{w w':World}{v:V}{x:Value}(hv:v.flat=true)(h:E' I ow w v x):E' Y' TG w' v x:=by
 cases v<;>try exact E'.lone hv h
 rename_i vs;simp only[E']at h|-;obtain⟨Ri,rfl,h1,h2⟩:=h;exact⟨Ri,rfl,aA.lone hv h1,h2⟩
def aA.flat{I Y':Mu}{ow TG:Nat->Prop}{w w':World}:∀{vs:List V} {l:List Value},vs.all V.flat=true->aA I ow w vs l->aA Y' TG w' vs l
 |[],l,_,h=>by simpa[aA]using h
 |v::vs,l,hv,h=>by
  simp only[List.all_cons,Ba]at hv;simp only[aA]at h|-;obtain⟨x,xs,rfl,h1,h2⟩:=h;exact⟨x,xs,rfl,E'.flat hv.1 h1,aA.flat hv.2 h2⟩
def E'.Cc{I Y':Mu}{ow TG:Nat->Prop}{w w':World}{v:V}{x:Value}(hv:v.Cc=true)(h:E' I ow w v x):E' Y' TG w' v x:=by
 cases v<;>try exact E'.flat hv h
 rename_i vs;simp only[E']at h|-;obtain⟨Ri,rfl,h1⟩:=h;exact⟨Ri,rfl,aA.flat hv h1⟩
def aV.uy{P:Program}{f:FuncId}{args args':List V}{v:V}{U:ai}(hw:ZI U jT args args')(h:aV P f args' v)(hv:v.Cc=true):
 aD P f args U λr Z'=>r=v/\Z'=U:=by
 refine⟨(h jT).1,?_⟩;intro I w Ri hs hr;have RX:Sat w (aG I jT) I jT w:=by
  have:=hs.drop (ot U);exact⟨Nat.le_refl _,rfl,rfl,rfl,λ_ _ _=>rfl,this.fin,this.inj,this.obj,λb hb _=>hb,this.nZ⟩
 refine((h jT).2 I w Ri RX (ZI.all hs hw hr)).mono ?_;rintro e w' ⟨r,Z',Y',val,rfl,⟨rfl,rfl⟩,hle,Ru,Ur⟩;have RL:∀b,¬aG I jT b:=λb ⟨_,_,_,_,h,_⟩=>by simp[jT]at h
 have Tu:∀b,b<w.heap.size->w'.heap[b]?=w.heap[b]?:=λb hb=>Ru.same b hb (RL b);have Uv:∀id o,U id=some o->Y' id=I id:=λid o ho=>hle id (λe=>by
  have:=hs.obj id o ho;rw[e]at this;exact this)
 have hown:∀b,aG Y' U b->aG I U b:=λb ⟨id,o,sz,cap,h1,h2⟩=>⟨id,o,sz,cap,h1,Uv id o h1▸h2⟩
 have hk:da (aG I U) (aG Y' U) w w':=λb hb hn=>⟨λho=>hn (hown b ho),Tu b hb⟩
 refine⟨_,U,Y',val,rfl,⟨rfl,rfl⟩,hle,?_,E'.Cc hv Ur⟩;refine⟨Ru.size,Ru.os,Ru.tape,Ru.output,λb hb _=>Tu b hb,Ru.fin,?_,?_,λb hb _=>hown b hb,hs.UB⟩
 .intro id Ta o o' b sz cap Ui SI h1 h2 h3 h4;exact hs.inj id Ta o o' b sz cap Ui SI h1 h2 (Uv id o h1▸h3) (Uv Ta o' h2▸h4)
 .intro id o ho;rw[Uv id o ho];refine(hs.obj id o ho).mono hle hk Ru.size λb sz cap hp=>Tu b ?_;exact aG.lt hs ⟨id,o,sz,cap,ho,hp⟩
open Go.Proofs Go.Proofs.Tryz
def dr{l:List Nd}{a e:Nat}(he:e<=l.length)(h:cu l a e=true){k:Nat}(h1:a<=k)(h2:k<e):(k:Int)+RO l k<=e/\1<=RO l k:=by
 have:=ir l (e-a+1) a e (by omega) he h k h1 h2 (by omega);rw[lk (by omega)];omega
def ei{l:List Nd}{a e:Nat}(he:e<=l.length)(h:cu l a e=true)(WN:a<e):cu l (a+(RO l a).toNat) e=true/\cu l (a+1) (a+(RO l a).toNat)=true:=by
 have ha:a<l.length:=by omega
 rw[cu,dif_pos WN]at h;simp only[List.getElem?_eq_getElem ha]at h;rw[lk ha];split at h
 .simp only[Ba]at h;exact⟨h.2,h.1.2⟩
 .cases h
open Go.Proofs Go.Proofs.Tryz
def Bc(l:List Nd)(hl:dH l)(hb:R3 l=true):aV prog 161 [aK l] (.agg [aK l]):=λU=>by
 refine Of.r (by simp[JZ]) ?_;refine ad.mix 3 ?_;apply sR;simp only[go_sem,seval,JZ];refine af λWg Z1 s1 a2 f2=>?_;simp only[go_sem,seval,a2];refine ad.aB rfl rfl rfl (Cl l hl _) ?_;apply sR;simp only[go_sem,seval,hb,a2,aK];refine ay.pure (s1.aE f2) rfl
def Mn(l:List Nd)(a:Int):aV prog 261 [aK l,vI a] (.bool (uF l a)):=λU=>by
 refine P8.r (by simp[ML]) ?_;refine ad.mix 6 ?_;apply sR;simp only[go_sem,seval,aO,aP,ML,fj];refine And.intro (λh=>?_) (λh=>?_)
 .refine ay.same ?_;simp[uF];omega
 .refine ay.same ?_;simp[uF];omega
def vD(l:List Nd)(hl:dH l)(hb:R3 l=true)(a:Nat)(ha:a<l.length):aV prog 262 [aK l,vI a] (vI (eQ l a)):=λU=>by
 have hl1:=hl.1;refine Pb.r (by simp[Kw]) ?_;refine ad.mix 6 ?_;apply sR;simp only[go_sem,seval,aO,aP,Kw];refine⟨ao (by omega) (by omega),?_⟩;refine ad.loop (λm st=>∃(k:Nat),k<=a/\m=k/\eQ l a=rF l a k/\st.U=U/\st.s 0=aK l/\st.s 1=vI a/\st.s 5=vI ((k:Int)-1)) a ?_ ?_
 .exact⟨a,by omega,rfl,rfl,rfl,rfl,rfl,rfl⟩
 .rintro m ⟨s,Z'⟩ ⟨k,hk,rfl,heq,RH,h0,h1,h5⟩;simp only at RH h0 h1 h5;subst RH;refine ad.mix 6 ?_;apply sR;simp only[go_sem,seval,aO,aP,h0,h1,h5];refine And.intro (λh=>?_) (λh=>?_)
  .obtain⟨k,rfl⟩:∃j,m=j+1:=⟨m-1,by omega⟩
   have e1:((k+1:Nat):Int)-1=k:=by omega
   have H':k<l.length:=by omega
   have Ti:=pH hb H';have hse:=lk H';have hx:=lI (U:=Z') H';simp only[go_sem,seval,aO,aP,e1,hx,Nd.cells,h0,h1,h5];rw[<-hse];refine⟨ao (by omega) (by omega),And.intro (λhc=>?_) (λhc=>?_)⟩
   .refine ay.same ?_;rw[heq,rF,if_pos];simp only[gZ,Ba,decide_eq_true_eq,uF];simp;omega
   .refine⟨ao (by omega) (by omega),_,?_,k,by omega,rfl,?_,rfl⟩
    .omega
    .rw[heq,rF,if_neg];simp only[gZ,Ba,decide_eq_true_eq,uF];simp;omega
  .have UY:m=0:=by omega
   subst UY;refine ay.same ?_;rw[heq];rfl
end Go.Vc
