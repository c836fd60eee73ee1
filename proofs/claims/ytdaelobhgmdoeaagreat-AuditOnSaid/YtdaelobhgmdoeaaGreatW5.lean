/- Part 5 of the library of this proof. -/
import Derived.Test.YtdaelobhgmdoeaaGreatW4
import Derived.WalkKit
import Derived.ProofKit
import Derived.Deep.Slices
import Derived.ChangeArms
import Derived.WideKeyArgs
import Derived.Carry
import Derived.SizedLaws
set_option linter.all false
set_option maxHeartbeats 8000000
set_option maxRecDepth 100000
namespace Go.Vc
open Go.ChangeShapes Go.WideShapes Go.RowKit Go.Deep
def xB(P:Program)(total:Nat):Nat->List Field->Bool
 |off,[]=>off==total
 |off,f::fs=>f.offset==off&&xB P total (off+P.cellsOf f.type) fs
def BA(P:Program):Nat->TypeId->Bool
 |0,_=>false
 |n+1,t=>match P.underlying t with
  |some .bool|some (.int _)|some .string=>true
  |some (.slice e)=>BA P n e&&P.cellsOf e != 0
  |some (.struct fs)=>xB P (P.cellsOf t) 0 fs.toList&&fs.toList.all λf=>BA P n f.type
  |_=>false
def rowOf(agg:Bool)(cs:List V):V:=if agg then .agg cs else cs.getD 0 .undef
def yS(S:TypeId->List V->Prop):List Field->List V->Prop
 |[],vs=>vs=[]
 |f::fs,vs=>∃a b,vs=a++b/\S f.type a/\yS S fs b
def ji(P:Program):Nat->TypeId->List V->Prop
 |0,_,_=>False
 |n+1,t,vs=>match P.underlying t with
  |some .bool=>∃b,vs=[.bool b]
  |some (.int k)=>∃m,vs=[.int k m]/\(Lit.int k m).wf=true
  |some .string=>∃s:List UInt8,vs=[.str s]/\s.length<=reachBytes
  |some (.slice e)=>∃rows,vs=[.sl (P.cellsOf e) rows]/\rows.length*P.bytesOf e<=reachBytes/\∀r∈rows,∃cs,ji P n e cs/\r=rowOf (fa P e) cs
  |some (.struct fs)=>yS (ji P n) fs.toList vs
  |_=>False
def Ge{α:Type}{Pr:Nat->α->Prop}:∀n,(∀i,i<n->∃r,Pr i r)->∃rows:List α,rows.length=n/\∀i r,rows[i]?=some r->Pr i r
 |0,_=>⟨[],rfl,λi r h=>by simp at h⟩
 |n+1,h=>by
  obtain⟨rows,h1,h2⟩:=Ge n λi hi=>h i (by omega);obtain⟨r,hr⟩:=h n (by omega);refine⟨rows++[r],by simp[h1],λi x hx=>?_⟩;rw[OR]at hx;split at hx
  .exact h2 i x hx
  .rename_i hi;have:i-rows.length=0:=by
    rcases Nat.eq_zero_or_pos (i-rows.length)with h0|h0
    .exact h0
    .rw[rO (by simp;omega)]at hx;cases hx
   rw[this]at hx;simp at hx;subst hx;have:i=n:=by omega
   subst this;exact hr
def wZ{I:Mu}{ow:Nat->Prop}{w:World}{b off sz:Nat}:∀(rows:List V) (k:Nat),(∀i r,rows[i]?=some r->r.cells.length=sz/\aN I ow w r.cells b (off+(k+i)*sz))->aS I ow w rows b (off+k*sz) sz
 |[],_,_=>by simp[aS]
 |r::rs,k,h=>by
  have h0:=h 0 r rfl;simp only[aS];refine⟨h0.1,by rw[dK];simpa using h0.2,?_⟩;have e:off+k*sz+sz=off+(k+1)*sz:=by rw[Nat.add_mul];omega
  rw[e];refine wZ rs (k+1) λi x hx=>?_;have:=h (i+1) x (by simpa using hx);rw[show k+1+i=k+(i+1) by omega];exact this
section
variable {H:Type} {enc:TypeId×Value->H} {P:Program} {w:World} {base:Nat} {spare:Nat->Bool} {held:Bool} {I:Mu} {ow:Nat->Prop}
def Kz(P:Program)(I:Mu)(ow:Nat->Prop)(w:World)(N:Nat)(t:TypeId)(cs:List Value):Prop:=
 ∃vs,ji P N t vs/\al I ow w vs cs/\∀u∈cs,u.oneCell'=true
def wu{S:TypeId->List V->Prop}{cs:List Value}:∀(fs:List Field) (off:Nat),xB P cs.length off fs=true->
 (∀f∈fs,∃vs,S f.type vs/\al I ow w vs ((cs.drop f.offset).take (P.cellsOf f.type))/\∀u∈(cs.drop f.offset).take (P.cellsOf f.type),u.oneCell'=true)->
 ∃vs,yS S fs vs/\al I ow w vs (cs.drop off)/\∀u∈cs.drop off,u.oneCell'=true
 |[],off,hc,_=>by
  simp only[xB,beq_iff_eq]at hc;refine⟨[],rfl,?_,?_⟩
  .rw[Ah (by omega)];simp[al]
  .rw[Ah (by omega)];simp
 |f::fs,off,hc,h=>by
  simp only[xB,Ba,beq_iff_eq]at hc;obtain⟨a,h1,h2,h3⟩:=h f (by simp);obtain⟨b,h4,h5,h6⟩:=wu fs (off+P.cellsOf f.type) hc.2 λg hg=>h g (by simp[hg]);rw[hc.1]at h2 h3;have e:cs.drop off=(cs.drop off).take (P.cellsOf f.type)++cs.drop (off+P.cellsOf f.type):=by
   rw[<-List.drop_drop,sZ]
  refine⟨a++b,⟨a,b,rfl,h1,h4⟩,?_,?_⟩
  .rw[e];exact h2.append h5
  .rw[e];intro u hu;rcases dc.1 hu with hu|hu
   .exact h3 u hu
   .exact h6 u hu
def rE{v:V}{x:Value}(h:E' I ow w v x):al I ow w [v] [x]:=by simp only[al];exact⟨x,[],rfl,h,rfl⟩
def tL{t:TypeId}{fs:Array Field}(h:P.underlying t=some (.struct fs)):fa P t=true:=by simp[fa,h]
def nO{e:TypeId}{d:DataW H}:∀{l:List (DataW H)},d∈l->∀n∈d.weights P e,n∈DataW.weightsAll P e l
 |[],h,_,_=>by simp at h
 |x::l,h,n,hn=>by
  simp only[DataW.weightsAll,dc];rcases cg.1 h with rfl|h
  .exact .inl hn
  .exact .inr (nO h n hn)
def nL(Yx:∀b,¬ow b):∀(N:Nat) (fuel:Nat) (t:TypeId) (cs:List Value) (x:DataW H×List MemPlace),BA P N t=true->(∀n∈x.1.weights P t,n<=reachBytes)->DataW.trod enc P w base spare held fuel t cs=some x->
 Kz P I ow w N t cs
 |0,_,_,_,_,h,_,_=>by simp[BA]at h
 |N+1,fuel,t,cs,x,M',hwt,hx=>by
  have hok':=M';unfold BA at M';unfold Kz;simp only[ji];split at M'
  .rename_i ht;obtain⟨b,rfl,_⟩:=DataW.trod_bool ht hx;exact⟨[.bool b],⟨b,rfl⟩,rE (by simp[E']),by simp[Value.oneCell']⟩
  .rename_i k ht;obtain⟨m,rfl,_,hw⟩:=DataW.trod_int ht hx;exact⟨[.int k m],⟨m,rfl,hw⟩,rE (by simp[E']),by simp[Value.oneCell']⟩
  .rename_i ht;obtain⟨s,rfl,rfl,hw⟩:=DataW.trod_string ht hx;exact⟨[.str s.data.toList],⟨_,rfl,hwt _ (by simp[DataW.weights])⟩,rE (by simp[E']),by simp[Value.oneCell']⟩
  .rename_i e ht;simp only[Ba,bne_iff_ne,ne_eq]at M';rcases open_slice ht hx with⟨rfl,_⟩|⟨a,len,cap,m,n,D,Pl,rfl,hb,hl,hm,hmm,rfl,hi⟩
   .exact⟨[.sl (P.cellsOf e) []],⟨[],rfl,by simp,by simp⟩,rE (by simp only[E'];exact⟨none,0,rfl,by simp,.inl trivial⟩),by simp[Value.oneCell']⟩
   .have hlm:len<=m:=by rw[hmm];split<;>omega
    simp only[DataW.weights,ht]at hwt;have hlen:len*P.bytesOf e<=reachBytes:=by
     have:=hwt _ (List.mem_cons_self ..);simp only[cL,List.length_range]at this;exact jI (Nat.mul_le_mul_right _ (by omega)) this
    have hel:∀i,i<len->∃r:V,(∃cs,ji P N e cs/\r=rowOf (fa P e) cs)/\r.cells.length=P.cellsOf e/\∃Yy,al I ow w r.cells Yy/\(∀u∈Yy,u.oneCell'=true)/\Yy.length=P.cellsOf e/\
     ∀j,j<P.cellsOf e->w.cell? ((a.add (i*P.cellsOf e)).add j)=Yy[j]?:=by
     intro i hi';obtain⟨Yy,h1,h2⟩:=hi i (by omega);obtain⟨_,YZ,hat⟩:=World.cells?_some h1;obtain⟨vs,h3,h4,h5⟩:=nL Yx N n e Yy _ M'.1 (λq hq=>hwt q (List.mem_cons_of_mem _ (List.mem_append_left _ (nO (gg.2 ⟨i,by simpa using hi',rfl⟩) q hq)))) h2;have hvl:vs.length=P.cellsOf e:=by rw[<-YZ,h4.length]
     have hcells:(rowOf (fa P e) vs).cells=vs:=by
      unfold rowOf;split
      .rfl
      .rename_i hna;cases N with
       |zero=>simp[ji]at h3
       |succ N'=>
        unfold ji at h3;split at h3
        .obtain⟨b,rfl⟩:=h3;rfl
        .obtain⟨b,rfl,_⟩:=h3;rfl
        .obtain⟨b,rfl,_⟩:=h3;rfl
        .obtain⟨b,rfl,_⟩:=h3;rfl
        .rename_i hs;exact absurd (tL hs) hna
        .exact h3.elim
     exact⟨rowOf (fa P e) vs,⟨vs,h3,rfl⟩,by rw[hcells,hvl],Yy,by rw[hcells];exact h4,h5,YZ,hat⟩
    obtain⟨rows,hr1,hr2⟩:=Ge len hel;refine⟨[.sl (P.cellsOf e) rows],⟨rows,rfl,by rw[hr1];exact hlen,λr hr=>?_⟩,rE ?_,by simp[Value.oneCell']⟩
    .obtain⟨i,hi'⟩:=ET hr;exact(hr2 i r hi').1
    .simp only[E'];refine⟨some a,cap,by rw[hr1],by omega,?_⟩;by_cases h0:len=0
     .left;exact xz (by omega)
     .right;have hfirst:∃r,rows[0]?=some r:=⟨rows[0]'(by omega),by simp⟩
      obtain⟨r0,hr0⟩:=hfirst;obtain⟨_,_,cs0,_,_,hcl0,hat0⟩:=hr2 0 r0 hr0;have hc0:=hat0 0 (by omega);rw[Zq6 (by omega)]at hc0;have hspot:a.spot=none:=by
       have:=World.cell?_spot hc0;simpa[Addr.add]using this
      obtain⟨b,off,spot⟩:=a;subst hspot;refine⟨b,off,rfl,Yx b,by omega,?_⟩;have:=wZ (I:=I) (ow:=ow) (w:=w) (b:=b) (off:=off) (sz:=P.cellsOf e) rows 0 λi r hri=>?_
      .simpa using this
      .obtain⟨_,h1,Yy,h2,h3,h4,h5⟩:=hr2 i r hri;refine⟨h1,lj h2 h3 λj u hu=>?_⟩;have hj:j<P.cellsOf e:=by rw[<-h4];exact(iT.1 hu).1
       have:=h5 j hj;rw[hu,add_plain,add_plain]at this;rw[gY];exact this
  .rename_i fs ht;simp only[Ba]at M';obtain⟨xs,n,_,rfl,hl,hxl,hf⟩:=DataW.trod_struct ht hx;simp only[DataW.weights,ht]at hwt;obtain⟨vs,h1,h2,h3⟩:=wu (I:=I) (ow:=ow) (w:=w) (P:=P) (S:=ji P N) (cs:=cs) fs.toList 0 (by rw[hl];exact M'.1) λf hfm=>by
    obtain⟨i,hi⟩:=ET hfm;have hi':fs[i]?=some f:=by simpa using hi
    have H':i<xs.length:=by rw[hxl];exact(nN.1 hi').1
    have h1:=hf i f hi';rw[Zq6 H']at h1;exact nL Yx N n f.type _ _ (dX.1 M'.2 f hfm) (λq hq=>hwt q (DataW.weights_mem_each (j:=i) (t:=f.type) (d:=(xs[i]'H').1) (by simp[hi]) (by simp[H']) q hq)) h1
   exact⟨vs,h1,by simpa using h2,by simpa using h3⟩
  .cases M'
def rA(P:Program)(t:TypeId)(vs:List V):V:=if fa P t then .agg vs else vs.getD 0 .undef
def MF(Yx:∀b,¬ow b){N:Nat}{t:TypeId}{v:Value}{d:DataW H}{p:List MemPlace}{r:Reach}{b0:Nat}(M':BA P N t=true)(hwt:∀n∈d.weights P t,n<=reachBytes)(hval:Value.okWide P w r b0 t v)(h:DataW.Trod enc P w base spare held t v d p):
 ∃vs,ji P N t vs/\E' I ow w (rA P t vs) v:=by
 obtain⟨fuel,hf⟩:=h;obtain⟨vs,h1,h2,h3⟩:=nL (I:=I) Yx N fuel t _ _ M' hwt hf;refine⟨vs,h1,?_⟩;cases N with
 |zero=>simp[ji]at h1
 |succ N'=>
  unfold ji at h1;have hone:∀u:V,vs=[u]->v.cells=#[v]->fa P t=false->E' I ow w (rA P t vs) v:=by
   rintro u rfl hc ha;rw[hc]at h2;simp only[al]at h2;obtain⟨x,xs,h4,h5,h6⟩:=h2;simp only[List.cons.injEq]at h4;simp only[rA,ha,eQ,if_false];rw[h4.1];exact h5
  split at h1
  .rename_i ht;obtain⟨b,rfl⟩:=h1;obtain⟨x,rfl⟩:=okWide_bool ht hval;exact hone _ rfl rfl (by simp[fa,ht])
  .rename_i ht;obtain⟨b,rfl,_⟩:=h1;obtain⟨x,rfl⟩:=okWide_int ht hval;exact hone _ rfl rfl (by simp[fa,ht])
  .rename_i ht;obtain⟨b,rfl,_⟩:=h1;obtain⟨x,rfl⟩:=okWide_string ht hval;exact hone _ rfl rfl (by simp[fa,ht])
  .rename_i ht;obtain⟨b,rfl,_⟩:=h1;obtain⟨x,y,z,rfl⟩:=okWide_slice ht hval;exact hone _ rfl rfl (by simp[fa,ht])
  .rename_i ht;obtain⟨cs,rfl,_⟩:=okWide_struct ht hval;simp only[rA,tL ht,if_true,E'];exact⟨cs.toList,by simp,by simpa[Value.cells]using h2,by simpa[Value.cells]using h3⟩
  .exact h1.elim
def A3(P:Program)(N:Nat):List TypeId->List V->Prop
 |[],us=>us=[]
 |t::ts,us=>∃vs us',us=rA P t vs::us'/\ji P N t vs/\A3 P N ts us'
def Cu(Yx:∀b,¬ow b){N:Nat}{r:Reach}{b0:Nat}:∀{ts:List TypeId} {vs:List Value} {ds:List (DataW H)} {p:List MemPlace},(∀t∈ts,BA P N t=true)->(∀n∈DataW.weightsEach P ts ds,n<=reachBytes)->
 (∀(j:Nat) t v,ts[j]?=some t->vs[j]?=some v->Value.okWide P w r b0 t v)->DataW.TrodAll enc P w base spare held ts vs ds p->∃us,A3 P N ts us/\al I ow w us vs
 |[],vs,ds,p,_,_,_,h=>by
  cases vs<;>cases ds<;>simp[DataW.TrodAll]at h;exact⟨[],rfl,by simp[al]⟩
 |t::ts,vs,ds,p,M',hwt,hval,h=>by
  obtain⟨v,vs',d,ds',p',q,rfl,rfl,rfl,h1,h2⟩:=trodAll_cons h;simp only[DataW.weightsEach,dc]at hwt;obtain⟨cs,g1,g2⟩:=MF (I:=I) (b0:=b0) Yx (M' t (by simp)) (λq hq=>hwt q (.inl hq)) (hval 0 t v rfl rfl) h1;obtain⟨us,g3,g4⟩:=Cu (b0:=b0) Yx (λu hu=>M' u (by simp[hu])) (λq hq=>hwt q (.inr hq)) (λj u x hj hx=>hval (j+1) u x (by simpa using hj) (by simpa using hx)) h2;exact⟨_::us,⟨cs,us,rfl,g1,g3⟩,by simp only[al];exact⟨v,vs',rfl,g2,g4⟩⟩
def pL(hl:laidOutB P=true):∀{ts:List TypeId} {vs:List Value} {ds:List (DataW H)} {p:List MemPlace} {W W':World} {sp:Nat->Bool},(∀t∈ts,P.readableRec t=true/\t<P.types.size)->
 DataW.TrodAll enc P W 0 (λ_=>true) true ts vs ds p->Below W.heap.size W W'->(∀x∈p,x.block<W.heap.size)->(∀x∈p,sp x.block=true)->DataW.TrodAll enc P W' 0 sp true ts vs ds p
 |[],vs,ds,p,W,W',sp,_,h,_,_,_=>by
  cases vs<;>cases ds<;>simp[DataW.TrodAll]at h|-;exact h
 |t::ts,vs,ds,p,W,W',sp,ht,h,hb,H',hsp=>by
  obtain⟨v,vs',d,ds',p',q,rfl,rfl,rfl,h1,h2⟩:=trodAll_cons h;refine⟨p',q,WideElems.Trod_stays hl (ht t (by simp)).1 (ht t (by simp)).2 h1 (λx hx=>hb.same (H' x (by simp[hx]))) (λx hx=>hsp x (by simp[hx])),?_,rfl⟩;exact pL hl (λu hu=>ht u (by simp[hu])) h2 hb (λx hx=>H' x (by simp[hx])) (λx hx=>hsp x (by simp[hx]))
end
def yp{H:Type}{enc:TypeId×Value->H}{P:Program}{f:Func}{s:ChangeSpec}{apart fresh handsOn again:Bool}{W W':World}{args:Array Value}{v:Value}{ds gs:List (DataW H)}{before pa pv:List MemPlace}
 (hW:DataW.Whole enc P f.params.toList s.vars apart W args.toList ds gs before)
 (hres:∀(b:Nat) (sp:Nat->Bool) (hd:Bool),DataW.TrodAll enc P W' b sp hd f.resultTypes.toList (v.resultList f.resultTypes.size) (s.fn H (ds++gs)).results [])
 (YE:∀sp:Nat->Bool,(∀p∈before,sp p.block=true)->DataW.TrodAll enc P W' 0 sp true f.params.toList args.toList (s.fn H (ds++gs)).args pa)
 (hvars:∀sp:Nat->Bool,(∀p∈before,sp p.block=true)->DataW.TrodVars enc P W' sp s.vars (s.fn H (ds++gs)).vars pv)
 (hps:before=pa++pv)(hb:Below W.heap.size W W')
 (M':∀(j:Nat) (t:TypeId) (r:Value),f.resultTypes[j]?=some t->(v.resultList f.resultTypes.size)[j]?=some r->Value.okWide P W' .any 0 t r):
 s.post enc P f apart fresh handsOn again W args v W':=by
 have H':∀p∈before,p.block<W.heap.size:=λp hp=>hW.lt p hp;have hold:∀p∈before,(λb=>decide (b<W.heap.size)) p.block=true:=λp hp=>by simpa using H' p hp
 refine⟨ds,gs,before,[],pa,pv,hW,hres _ _ _,YE _ hold,hvars _ hold,World.keptBut_mono (λp hp=>⟨hp,?_⟩) (hb.frame (·∈before)),λ_=>?_⟩
 .rw[hps,dc]at hp;exact Or.inr hp
 .obtain⟨_,_,_,_,_,hz,hn⟩:=hW;refine⟨M',_,_,([]++pa)++pv,⟨[]++pa,pv,trodAll_append (YE _ (λ_ _=>rfl)) (hres _ _ _),hvars _ (λ_ _=>rfl),rfl,?_,?_⟩,?_⟩
  .intro b off hp;have hin:MemPlace.cell b off∈before:=by rw[hps];simpa using hp
   rw[hb.frozen (H' _ hin)];exact hz b off hin
  .intro ha;have:=hn ha;rw[hps]at this;simpa using this
  .intro p hp _;rw[hps];simpa using hp
def Kt{H:Type}{enc:TypeId×Value->H}{P:Program}{f:Func}{i:FuncId}{s:ChangeSpec}{N:Nat}(hfs:P.funcs[i]?=some f)(hl:laidOutB P=true)
 (hts:f.params.toList.all (λt=>BA P N t&&(P.readableRec t&&decide (t<P.types.size)))=true)(hvars:s.vars=[]){tb:TypeId}(hres:f.resultTypes=#[tb])(htb:P.underlying tb=some .bool)
 (hfn:∀ds,ds.length=f.params.size->s.fn H ds=⟨[.lit (.bool true)],ds,[]⟩)
 (hlaw:∀us,A3 P N f.params.toList us->aJ P i us (.bool true))
 {apart fresh handsOn again:Bool}{W:World}{base:Nat}{args:Array Value}{ds gs:List (DataW H)}{before:List MemPlace}
 (hval:∀(j:Nat) t v,f.params[j]?=some t->args[j]?=some v->Value.okWide P W .any base t v)
 (hW:DataW.Whole enc P f.params.toList s.vars apart W args.toList ds gs before)(hvt:s.plain.varTypes P=[])
 (hsz:(DataW.weightsEach P (f.params.toList++s.plain.varTypes P) (ds++gs)).all (·<=reachBytes)=true)(hO:Uy W):
 Calls P i args W λe W'=>∃v,e=.returned v/\s.post enc P f apart fresh handsOn again W args v W':=by
 have hW':=hW;obtain⟨p,q,hA,hV,rfl,hfz,hnd⟩:=hW;have hts':=dX.1 hts;simp only[Ba,Zq9]at hts';rw[hvars]at hV;have hnoV:gs=[]/\q=[]:=by
  cases gs with
  |nil=>exact⟨rfl,by simpa[DataW.TrodVars]using hV⟩
  |cons g gs=>simp[DataW.TrodVars]at hV
 obtain⟨rfl,rfl⟩:=hnoV;have Yx:∀b,¬aA (λ_=>Pl.dr) iJ b:=λb ⟨_,_,_,_,h,_⟩=>by simp[iJ]at h
 obtain⟨us,hsh,hrep⟩:=Cu (I:=λ_=>Pl.dr) (ow:=aA (λ_=>Pl.dr) iJ) (b0:=base) (r:=.any) Yx (λt ht=>(hts' t ht).1)
  (by rw[hvt,lH,lH]at hsz;intro n hn;simpa using dX.1 hsz n hn) (λj t v hj hv=>hval j t v (by simpa using hj) (by simpa using hv)) hA
 have hsat:Sat W (aA (λ_=>Pl.dr) iJ) (λ_=>Pl.dr) iJ W:=
  ⟨YQ _,rfl,rfl,rfl,λ_ _ _=>rfl,⟨0,λ_ _=>rfl⟩,λ_ _ _ _ _ _ _ _ _ h=>by simp[iJ]at h,λ_ _ h=>by simp[iJ]at h,λb hb=>(Yx b hb).elim,⟨W,hO,YQ _,λi _=>⟨Yx i,rfl⟩⟩⟩
 have Zi:=(hlaw us hsh iJ).2 (λ_=>Pl.dr) W args.toList hsat hrep;rw[Array.toArray_toList]at Zi;refine Zi.mono ?_;rintro e W' ⟨r,Z',Y',val,rfl,⟨rfl,rfl⟩,_,Ye,hr⟩;simp only[E']at hr;subst hr;have hbel:Below W.heap.size W W':=⟨Ye.os,Ye.tape,Ye.output,Ye.size,λk hk=>Ye.same k hk (Yx k)⟩
 have hlen:ds.length=f.params.size:=by
  have key:∀{ts:List TypeId} {vs:List Value} {ds:List (DataW H)} {p:List MemPlace},DataW.TrodAll enc P W 0 (λ_=>true) true ts vs ds p->ds.length=ts.length:=by
   intro ts
   induction ts with
   |nil=>intro vs ds p h;cases vs<;>cases ds<;>simp[DataW.TrodAll]at h|-
   |cons t ts ih=>
    intro vs ds p h;obtain⟨_,_,_,_,_,_,_,rfl,_,_,h2⟩:=trodAll_cons h;simp[ih h2]
  simpa using key hA
 have hfn':=hfn ds hlen;refine⟨.bool true,rfl,yp (pa:=p) (pv:=[]) hW' ?_ ?_ ?_ rfl hbel ?_⟩
 .intro b sp hd;rw[lH,hfn',hres];exact⟨[],[],shut_bool htb _,rfl,rfl⟩
 .intro sp hsp;rw[lH,hfn'];refine pL hl (λt ht=>(hts' t ht).2) hA hbel (λx hx=>by simpa using hW'.lt x (by simpa using hx)) (λx hx=>hsp x (by simpa using hx))
 .intro sp _;rw[lH,hfn',hvars];rfl
 .exact ok_one hres rfl (okWide_bool_mk htb _)
open Go.Proofs Go.Proofs.Tryz
def An{α:Type}{f:α->V}{p:α->Prop}:∀{rows:List V},(∀r∈rows,∃x,r=f x/\p x)->∃l:List α,rows=l.map f/\∀x∈l,p x
 |[],_=>⟨[],rfl,by simp⟩
 |r::rs,h=>by
  obtain⟨x,rfl,hx⟩:=h r (by simp);obtain⟨l,rfl,hl⟩:=An λq hq=>h q (List.mem_cons_of_mem _ hq);exact⟨x::l,rfl,by simpa using⟨hx,hl⟩⟩
def inI(m:Int):Prop:=-9223372036854775808<=m/\m<=9223372036854775807
def Sty.inI(s:Sty):Prop:=Vc.inI s.top/\Vc.inI s.Yv/\Vc.inI s.Yj/\Vc.inI s.Yc/\Vc.inI s.Zp/\Vc.inI s.YN/\Vc.inI s.YY/\Vc.inI s.head/\Vc.inI s.before/\Vc.inI s.after/\Vc.inI s.inside/\Vc.inI s.clear
def Nd.real(x:Nd):Prop:=(Vc.inI x.kind/\Vc.inI x.size/\x.st.inI/\Vc.inI x.line/\Vc.inI x.space/\Vc.inI x.side/\Vc.inI x.w/\Vc.inI x.h)/\x.words.length<=17592186043904/\∀n∈x.words,Vc.inI n
section
variable {P:Program} {n:Nat} {t:TypeId} {vs:List V}
def IJ{k:IntKind}(ht:P.underlying t=some (.int k))(h:ji P (n+1) t vs):∃m,vs=[.int k m]/\(Lit.int k m).wf=true:=by
 simpa only[ji,ht]using h
def wL{e:TypeId}(ht:P.underlying t=some (.slice e))(h:ji P (n+1) t vs):∃rows,vs=[.sl (P.cellsOf e) rows]/\rows.length*P.bytesOf e<=reachBytes/\∀r∈rows,∃cs,ji P n e cs/\r=rowOf (fa P e) cs:=by
 simpa only[ji,ht]using h
def tz{fs:Array Field}(ht:P.underlying t=some (.struct fs))(h:ji P (n+1) t vs):yS (ji P n) fs.toList vs:=by
 simpa only[ji,ht]using h
end
def Nc:prog.cellsOf 3=1:=by kernel_rfl
def JN:prog.cellsOf 59=20:=by kernel_rfl
def Oe:fa prog 3=false:=by kernel_rfl
def RM:fa prog 22=false:=by kernel_rfl
def Po:fa prog 59=true:=by kernel_rfl
def MW:prog.bytesOf 3=8:=by kernel_rfl
def Lo:prog.bytesOf 59=176:=by kernel_rfl
def dd{n:Nat}{vs:List V}(h:ji prog (n+1) 3 vs):∃m,vs=[vI m]/\inI m:=by
 obtain⟨m,h,hw⟩:=IJ underlying3 h;exact⟨m,h,by simp[Lit.wf,IntKind.min,IntKind.max,IntKind.signed,IntKind.bits]at hw;unfold inI;omega⟩
def Lm{n:Nat}{vs:List V}(h:ji prog (n+2) 57 vs):∃l,vs=[bl l]/\l.length<=17592186043904/\∀n∈l,inI n:=by
 obtain⟨rows,rfl,hl,h⟩:=wL underlying57 h;obtain⟨l,rfl,hp⟩:=An (f:=vI) (p:=inI) λr hr=>by
  obtain⟨cs,hc,rfl⟩:=h r hr;obtain⟨m,rfl,hm⟩:=dd hc;exact⟨m,by rw[Oe];rfl,hm⟩
 rw[MW]at hl;simp only[cL,reachBytes]at hl;exact⟨l,by rw[Nc];rfl,by omega,hp⟩
def Hq{n:Nat}{vs:List V}(h:ji prog (n+2) 56 vs):∃s:Sty,vs=s.cells/\s.inI:=by
 replace h:=tz underlying56 h;simp only[yS]at h;obtain⟨_,_,rfl,h1,_,_,rfl,h2,_,_,rfl,h3,_,_,rfl,h4,_,_,rfl,h5,_,_,rfl,h6,_,_,rfl,h7,_,_,rfl,h8,_,_,rfl,h9,_,_,rfl,h10,_,_,rfl,h11,_,_,rfl,h12,rfl⟩:=h;obtain⟨m1,rfl,g1⟩:=dd h1;obtain⟨m2,rfl,g2⟩:=dd h2;obtain⟨m3,rfl,g3⟩:=dd h3;obtain⟨m4,rfl,g4⟩:=dd h4;obtain⟨m5,rfl,g5⟩:=dd h5;obtain⟨m6,rfl,g6⟩:=dd h6;obtain⟨m7,rfl,g7⟩:=dd h7;obtain⟨m8,rfl,g8⟩:=dd h8;obtain⟨m9,rfl,g9⟩:=dd h9;obtain⟨m10,rfl,g10⟩:=dd h10;obtain⟨m11,rfl,g11⟩:=dd h11;obtain⟨m12,rfl,g12⟩:=dd h12;exact⟨⟨m1,m2,m3,m4,m5,m6,m7,m8,m9,m10,m11,m12⟩,rfl,g1,g2,g3,g4,g5,g6,g7,g8,g9,g10,g11,g12⟩
def IA{n:Nat}{vs:List V}(h:ji prog (n+3) 59 vs):∃x:Nd,vs=x.cells/\x.real:=by
 replace h:=tz underlying59 h;simp only[yS]at h;obtain⟨_,_,rfl,h1,_,_,rfl,h2,_,_,rfl,h3,_,_,rfl,h4,_,_,rfl,h5,_,_,rfl,h6,_,_,rfl,h7,_,_,rfl,h8,_,_,rfl,h9,rfl⟩:=h;obtain⟨m1,rfl,g1⟩:=dd h1;obtain⟨m2,rfl,g2⟩:=dd h2;obtain⟨s,rfl,g3⟩:=Hq h3;obtain⟨m4,rfl,g4⟩:=dd h4;obtain⟨m5,rfl,g5⟩:=dd h5;obtain⟨ws,rfl,g6,g6'⟩:=Lm h6;obtain⟨m7,rfl,g7⟩:=dd h7;obtain⟨m8,rfl,g8⟩:=dd h8;obtain⟨m9,rfl,g9⟩:=dd h9;exact⟨⟨m1,m2,s,m4,m5,ws,m7,m8,m9⟩,rfl,⟨g1,g2,g3,g4,g5,g7,g8,g9⟩,g6,g6'⟩
def HZ{n:Nat}{vs:List V}(h:ji prog (n+4) 22 vs):∃l,vs=[aH l]/\l.length<=800000000000/\∀x∈l,x.real:=by
 obtain⟨rows,rfl,hl,h⟩:=wL underlying22 h;obtain⟨l,rfl,hp⟩:=An (f:=jE) (p:=Nd.real) λr hr=>by
  obtain⟨cs,hc,rfl⟩:=h r hr;obtain⟨x,rfl,hx⟩:=IA hc;exact⟨x,by rw[Po];rfl,hx⟩
 rw[Lo]at hl;simp only[cL,reachBytes]at hl;exact⟨l,by rw[JN];rfl,by omega,hp⟩
def G6{n:Nat}{vs:List V}(h:ji prog (n+4) 22 vs):∃l,rA prog 22 vs=aH l/\l.length<=800000000000/\∀x∈l,x.real:=by
 obtain⟨l,rfl,h1,h2⟩:=HZ h;exact⟨l,by unfold rA;rw[RM];rfl,h1,h2⟩
inductive Tr(α:Type) where
 |e
 |n (l:Tr α) (v:α) (r:Tr α)
def Da:Nat->Nat->List Bool
 |0,_=>[]
 |_+1,0=>[]
 |f+1,k+1=>Nat.beq (Nat.mod k 2) 0::Da f (Nat.div k 2)
def pathOf(k:Nat):List Bool:=Da (Nat.succ k) k
def Uf{α:Type}(d:α)(f:Nat):List Bool->Tr α->α:=
 @Nat.rec (λ_=>List Bool->Tr α->α) (λ_ _=>d)
  (λ_ ih p t=>@List.casesOn Bool (λ_=>α) p (@Tr.casesOn α (λ_=>α) t d (λ_ v _=>v))
    (λb p'=>@Tr.casesOn α (λ_=>α) t d (λl _ r=>ih p' (@Bool.casesOn (λ_=>Tr α) b r l)))) f
def eZ{α:Type}(d:α)(k:Nat)(t:Tr α):α:=Uf d (Nat.succ k) (pathOf k) t
def Ut{α:Type}(d v:α)(f:Nat):List Bool->Tr α->Tr α:=
 @Nat.rec (λ_=>List Bool->Tr α->Tr α) (λ_ t=>t)
  (λ_ ih p t=>@List.casesOn Bool (λ_=>Tr α) p (@Tr.casesOn α (λ_=>Tr α) t (.n .e v .e) (λl _ r=>.n l v r))
    (λb p'=>@Tr.casesOn α (λ_=>Tr α) t (@Bool.casesOn (λ_=>Tr α) b (.n .e d (ih p' .e)) (.n (ih p' .e) d .e))
      (λl u r=>@Bool.casesOn (λ_=>Tr α) b (.n l u (ih p' r)) (.n (ih p' l) u r)))) f
def j3{α:Type}(d v:α)(k:Nat)(t:Tr α):Tr α:=Ut d v (Nat.succ k) (pathOf k) t
structure CS where
 s:Tr V
 U:Tr (Option Ob)
 Yu:Nat
def CS.sf(cs:CS):Nat->V:=λi=>eZ (.P' []) i cs.s
def ZH(U:Tr (Option Ob)):af:=λi=>eZ none i U
def WC(cs:CS)(d:Nat)(v:V):CS:=⟨j3 (.P' []) v d cs.s,cs.U,cs.Yu⟩
def CS.put(cs:CS)(d:Option Nat)(v:V):CS:=@Option.casesOn Nat (λ_=>CS) d cs (λd=>WC cs d v)
def eqQ:Int->Int->Bool
 |.ofNat m,.ofNat n=>Nat.beq m n
 |.negSucc m,.negSucc n=>Nat.beq m n
 |_,_=>false
def leQ:Int->Int->Bool
 |.ofNat m,.ofNat n=>Nat.ble m n
 |.negSucc _,.ofNat _=>true
 |.negSucc m,.negSucc n=>Nat.ble n m
 |.ofNat _,.negSucc _=>false
def Uq:Int->Int->Int
 |.ofNat m,.ofNat n=>.ofNat (Nat.add m n)
 |a,b=>a+b
def Sa:Int->Int->Int
 |.ofNat m,.ofNat n=>@Bool.casesOn (λ_=>Int) (Nat.ble n m) (.negSucc (Nat.sub (Nat.sub n m) 1)) (.ofNat (Nat.sub m n))
 |a,b=>a-b
def QG:Int->Bool
 |.ofNat m=>Nat.ble m 9223372036854775807
 |.negSucc m=>Nat.ble m 9223372036854775807
def PC(k:IntKind)(n:Int):Bool:=match k with
 |.i64=>QG n
 |k=>decide (k.wrap n=n)
def gI(k:IntKind)(n:Int):Option V:=@Bool.casesOn (λ_=>Option V) (PC k n) none (some (.int k n))
def eqK(k k':IntKind):Bool:=decide (k=k')
def Qa:IntKind->Bool
 |.i64=>true
 |_=>false
structure FI where
 f:IntKind->Int->Int->Option V
def rF(op:BinOp):FI:=
 match op with
 |.add=>⟨λk a b=>gI k (Uq a b)⟩
 |.sub=>⟨λk a b=>gI k (Sa a b)⟩
 |.mul=>⟨λk a b=>gI k (a*b)⟩
 |.quo=>⟨λk a b=>if b=0 then none else gI k (a.tdiv b)⟩
 |.rem=>⟨λk a b=>if b=0 then none else some (.int k (a.tmod b))⟩
 |.eql=>⟨λ_ a b=>some (.bool (eqQ a b))⟩
 |.neq=>⟨λ_ a b=>some (.bool (not (eqQ a b)))⟩
 |.lss=>⟨λ_ a b=>some (.bool (not (leQ b a)))⟩
 |.leq=>⟨λ_ a b=>some (.bool (leQ a b))⟩
 |.gtr=>⟨λ_ a b=>some (.bool (not (leQ a b)))⟩
 |.geq=>⟨λ_ a b=>some (.bool (leQ b a))⟩
 |.and=>⟨λk a b=>dW .and k a b⟩
 |.or=>⟨λk a b=>dW .or k a b⟩
 |.shl=>⟨λk a b=>dW .shl k a b⟩
 |.shr=>⟨λk a b=>dW .shr k a b⟩
 |_=>⟨λ_ _ _=>none⟩
def zJ(op:BinOp)(a b:List UInt8):Option V:=
 match op with
 |.add=>@Bool.casesOn (λ_=>Option V) (Nat.ble (a.length+b.length) 9223372036854775807) none (some (.str (a++b)))
 |.eql=>some (.bool (decide (a=b)))
 |.neq=>some (.bool (decide (a≠b)))
 |_=>none
def IZ(k k':IntKind):Bool:=@Bool.casesOn (λ_=>Bool) (Qa k) (eqK k k') (Qa k')
def Ti(k:IntKind)(a:Int)(g:IntKind->Int->Int->Option V):V->Option V
 |.int k' b=>@Bool.casesOn (λ_=>Option V) (IZ k k') none (g k a b)
 |_=>none
def UJ(op:BinOp)(a:List UInt8):V->Option V
 |.str b=>zJ op a b
 |_=>none
def Ma(op:BinOp)(g:IntKind->Int->Int->Option V)(y:V):V->Option V
 |.int k a=>Ti k a g y
 |.str a=>UJ op a y
 |_=>none
def Tq:V->Option V
 |.int k a=>gI k (0-a)
 |_=>none
def OJ(k:IntKind):V->Option V
 |.int _ a=>gI k a
 |_=>none
def UA:V->Option V
 |.bool b=>some (.bool (!b))
 |_=>none
def N2(a b:V):V->Option V
 |.bool t=>some (@Bool.casesOn (λ_=>V) t b a)
 |_=>none
def Bj:Int->Option Nat
 |.ofNat m=>some m
 |_=>none
def Ra(U:Tr (Option Ob))(ZS:Nat)(x i:V):Option V:=
 match x,i with
 |.own id off len,.int _ j=>match Bj j with
  |some m=>match eZ none id U with
   |some ob=>@Bool.casesOn (λ_=>Option V) (Nat.beq ob.sz ZS&&Nat.blt m len) none (some (.ptr id (Nat.add off m) 0))
   |none=>none
  |none=>none
 |.sl sz rows,.int _ j=>match Bj j with
  |some m=>@Bool.casesOn (λ_=>Option V) (Nat.beq sz ZS) none (match rows[m]? with
   |some r=>some (.rp r)
   |none=>none)
  |none=>none
 |_,_=>none
def KN(U:Tr (Option Ob))(agg:Bool)(sz:Nat)(x:V):Option V:=
 match x with
 |.ptr id i k=>match eZ none id U with
  |some ob=>match ob.rows[i]? with
   |some r=>match agg with
    |true=>@Bool.casesOn (λ_=>Option V) (Nat.beq k 0&&Nat.beq r.cells.length sz)
       (@Bool.casesOn (λ_=>Option V) (Nat.ble (Nat.add k sz) r.cells.length) none (some (.agg ((r.cells.drop k).take sz)))) (some (.agg r.cells))
    |false=>r.cells[k]?
   |none=>none
  |none=>none
 |x=>bB (ZH U) agg sz x
def KO:V->V->Option V
 |.str s,.int _ j=>match Bj j with
  |some m=>match s[m]? with
   |some b=>some (.int .u8 (Int.ofNat b.toNat))
   |none=>none
  |none=>none
 |_,_=>none
structure Mk where
 var:Bool
 len:Nat
 gone:Option Nat
 ob:Ob
def Ts(e sz:Nat)(x:V):Option Mk:=@Bool.casesOn (λ_=>Option Mk) (Nat.beq x.cells.length sz&&x.stays) none (some ⟨true,0,none,⟨e,sz,[x]⟩⟩)
def Fi(e sz:Nat)(xs:List V):Option Mk:=@Bool.casesOn (λ_=>Option Mk) (xs.all λx=>Nat.beq x.cells.length sz&&x.stays) none (some ⟨false,xs.length,none,⟨e,sz,xs⟩⟩)
def mkQ(e sz bytes:Nat)(z:V):V->Option Mk
 |.int k m=>match k with
  |.i64=>match Bj m with
   |some j=>@Bool.casesOn (λ_=>Option Mk) (Nat.ble (j*(bytes+1)) 140737488355328) none (some ⟨false,j,none,⟨e,sz,List.replicate j z⟩⟩)
   |none=>none
  |_=>none
 |_=>none
def FC(U:Tr (Option Ob))(e sz bytes:Nat)(a b:V):Option Mk:=match bN (ZH U) e sz a,bz (ZH U) sz b with
 |some (base,Yn),some src=>@Bool.casesOn (λ_=>Option Mk) (Nat.ble ((base.length+src.length)*(bytes+1)) 140737488355328) none (some ⟨false,base.length+src.length,Yn,⟨e,sz,base++src⟩⟩)
 |_,_=>none
def AX(fl:Nat)(dst:Option Nat)(cs:CS)(m:Mk):Option CS:=
 match m.gone with
 |none=>some (CS.put ⟨cs.s,j3 none (some m.ob) cs.Yu cs.U,Nat.succ cs.Yu⟩ dst (@Bool.casesOn (λ_=>V) m.var (.own cs.Yu 0 m.len) (.ptr cs.Yu 0 0)))
 |some d=>@Bool.casesOn (λ_=>Option CS) (Nat.ble fl d) none
    (some (CS.put ⟨cs.s,j3 none (some m.ob) cs.Yu (j3 none none d cs.U),Nat.succ cs.Yu⟩ dst (@Bool.casesOn (λ_=>V) m.var (.own cs.Yu 0 m.len) (.ptr cs.Yu 0 0))))
inductive Out where
 |nx (cs:CS)
 |ex (id:Nat) (cs:CS)
 |rt (cs:CS)
 |bad
structure Rs where
 v:V
 U:Tr (Option Ob)
 Yu:Nat
def gB:=FuncId->List V->Tr (Option Ob)->Nat->Nat->Option Rs
structure BI where
 f:gB->Nat->CS->Option CS
def kD(dst:Option Nat)(g:CS->Option V):BI:=⟨λ_ _ cs=>match g cs with
 |some v=>some (cs.put dst v)
 |none=>none⟩
def Tt(dst:Option Nat)(x:VX):BI:=⟨λ_ _ cs=>some (cs.put dst (x.ev cs.sf))⟩
def EI(dst:Option Nat)(g:CS->Option Mk):BI:=⟨λ_ fl cs=>match g cs with
 |some m=>AX fl dst cs m
 |none=>none⟩
def iL(dst:Option Nat)(cs:CS):Option Rs->Option CS
 |some r=>some (CS.put ⟨cs.s,r.U,r.Yu⟩ dst r.v)
 |none=>none
def Mm(dst:Option Nat)(cs:CS):Option Rs->Option CS
 |some r=>@Bool.casesOn (λ_=>Option CS) r.v.ct none (some (cs.put dst r.v))
 |none=>none
def Ly(draw:Bool)(dst:Option Nat)(fx:VX)(xs:List VX):BI:=match draw with
 |true=>⟨λcall _ cs=>match fx.ev cs.sf with
  |.fn f caps=>Mm dst cs (call f (xs.map (·.ev cs.sf)++caps) cs.U cs.Yu cs.Yu)
  |_=>none⟩
 |false=>⟨λcall fl cs=>match fx.ev cs.sf with
  |.fn f caps=>iL dst cs (call f (xs.map (·.ev cs.sf)++caps) cs.U cs.Yu fl)
  |_=>none⟩
def Gn(dst:Option Nat)(fl sz:Nat)(xv:V)(cs:CS):V->Option CS
 |.ptr id i0 c=>@Bool.casesOn (λ_=>Option CS) (Nat.ble fl id) none (match eZ none id cs.U with
  |some ob=>match ob.rows[i0]? with
   |some r=>match fk r c sz xv with
    |some r'=>some (CS.put ⟨cs.s,j3 none (some ⟨ob.elem,ob.sz,ob.rows.set i0 r'⟩) id cs.U,cs.Yu⟩ dst (.P' []))
    |none=>none
   |none=>none
  |none=>none)
 |_=>none
def EO(dst:Option Nat)(sz:Nat)(xa xv:VX):BI:=⟨λ_ fl cs=>Gn dst fl sz (xv.ev cs.sf) cs (xa.ev cs.sf)⟩
def F8(dst:Option Nat)(fl sz:Nat)(z:V)(cs:CS):V->Option CS
 |.own id off len=>@Bool.casesOn (λ_=>Option CS) (Nat.ble fl id) none (match eZ none id cs.U with
  |some ob=>@Bool.casesOn (λ_=>Option CS) (Nat.beq ob.sz sz&&Nat.ble (off+len) ob.rows.length) none
     (some (CS.put ⟨cs.s,j3 none (some ⟨ob.elem,ob.sz,ob.rows.take off++List.replicate len z++ob.rows.drop (off+len)⟩) id cs.U,cs.Yu⟩ dst (.P' [])))
  |none=>none)
 |_=>none
def EG(draw:Bool)(dst:Option Nat)(sz:Nat)(z:V)(xv:VX):BI:=match draw with
 |true=>⟨λ_ _ _=>none⟩
 |false=>⟨λ_ fl cs=>F8 dst fl sz z cs (xv.ev cs.sf)⟩
def jt(draw:Bool)(dst:Option Nat)(op:Yq):BI:=match op with
 |.YH x=>Tt dst x
 |.pick c a b=>kD dst λcs=>N2 (a.ev cs.sf) (b.ev cs.sf) (c.ev cs.sf)
 |.bin op x y=>@FI.casesOn (λ_=>BI) (rF op) λg=>kD dst λcs=>Ma op g (y.ev cs.sf) (x.ev cs.sf)
 |.not x=>kD dst λcs=>UA (x.ev cs.sf)
 |.neg x=>kD dst λcs=>Tq (x.ev cs.sf)
 |.convI k x=>kD dst λcs=>OJ k (x.ev cs.sf)
 |.idxA ZS x i=>kD dst λcs=>Ra cs.U ZS (x.ev cs.sf) (i.ev cs.sf)
 |.idxS x i=>kD dst λcs=>KO (x.ev cs.sf) (i.ev cs.sf)
 |.load agg sz x=>kD dst λcs=>KN cs.U agg sz (x.ev cs.sf)
 |.box e sz x=>EI dst λcs=>Ts e sz (x.ev cs.sf)
 |.alloc e sz z=>EI dst λ_=>some ⟨true,0,none,⟨e,sz,[z]⟩⟩
 |.eR e sz xs=>EI dst λcs=>Fi e sz (xs.map (·.ev cs.sf))
 |.mk e sz bytes z x=>EI dst λcs=>mkQ e sz bytes z (x.ev cs.sf)
 |.append e sz bytes a b=>EI dst λcs=>FC cs.U e sz bytes (a.ev cs.sf) (b.ev cs.sf)
 |.call f xs=>Ly draw dst f xs
 |.store sz a x=>EO dst sz a x
 |.clear sz z x=>EG draw dst sz z x
 |op=>kD dst λcs=>aE (ZH cs.U) cs.sf op
def so(dst:Option Nat)(b:Bool)(B:BI)(call:gB)(fl:Nat)(cs:CS):V->Option CS
 |.bool c=>@Bool.casesOn (λ_=>Option CS) (Bool.xor c b) (B.f call fl cs) (some (cs.put dst (.P' [])))
 |.P' []=>some (cs.put dst (.P' []))
 |.int _ _=>some (cs.put dst (.P' []))
 |_=>none
def vD(draw:Bool)(i:az):BI:=match i.g with
 |none=>jt draw i.dst i.op
 |some (x,b)=>⟨λcall fl cs=>so i.dst b (jt draw i.dst i.op) call fl cs (x.ev cs.sf)⟩
def Tr.ofL:List V->Nat->Tr V->Tr V
 |[],_,t=>t
 |v::l,k,t=>Tr.ofL l (Nat.succ k) (j3 (.P' []) v k t)
def A6(res:List VR)(cs:CS):Option Rs:=match nY ⟨cs.sf,ZH cs.U⟩ res with
 |some v=>some ⟨v,cs.U,cs.Yu⟩
 |none=>none
def MZ(res:List VR):Out->Option Rs
 |.nx cs=>A6 res cs
 |.rt cs=>A6 res cs
 |_=>none
def xU(o:Out)(k:CS->Out):Out:=@Out.casesOn (λ_=>Out) o k (λid cs=>.ex id cs) (λcs=>.rt cs) .bad
def QD(id:Nat)(o:Out):Out:=@Out.casesOn (λ_=>Out) o (λcs=>.nx cs) (λj cs=>@Bool.casesOn (λ_=>Out) (Nat.beq j id) (.ex j cs) (.nx cs)) (λcs=>.rt cs) .bad
def onB(v:V)(a b:Out):Out:=match v with
 |.bool c=>@Bool.casesOn (λ_=>Out) c b a
 |_=>.bad
def gL{α:Type}(d:α):List Bool->Tr α->α
 |_,.e=>d
 |[],.n _ v _=>v
 |b::p,.n l _ r=>gL d p (if b then l else r)
def sL{α:Type}(d v:α):List Bool->Tr α->Tr α
 |[],.e=>.n .e v .e
 |[],.n l _ r=>.n l v r
 |b::p,.e=>if b then .n (sL d v p .e) d .e else .n .e d (sL d v p .e)
 |b::p,.n l u r=>if b then .n (sL d v p l) u r else .n l u (sL d v p r)
def oY{α:Type}(d:α):∀(f:Nat) (p:List Bool) (t:Tr α),p.length<f->Uf d f p t=gL d p t
 |0,_,_,h=>by omega
 |f+1,[],t,_=>by cases t<;>rfl
 |f+1,b::p,t,h=>by
  cases t with
  |e=>rfl
  |n l u r=>
   have ih:=oY d f p (if b then l else r) (by simpa using h);cases b<;>exact ih
def Ad{α:Type}(d v:α):∀(f:Nat) (p:List Bool) (t:Tr α),p.length<f->Ut d v f p t=sL d v p t
 |0,_,_,h=>by omega
 |f+1,[],t,_=>by cases t<;>rfl
 |f+1,b::p,t,h=>by
  have h':p.length<f:=by simpa using h
  cases t with
  |e=>cases b<;>simp only[sL,eQ,if_false,if_true]<;>rw[<-Ad d v f p _ h']<;>rfl
  |n l u r=>cases b<;>simp only[sL,eQ,if_false,if_true]<;>rw[<-Ad d v f p _ h']<;>rfl
def LL{α:Type}(d:α)(p:List Bool):gL d p .e=d:=by cases p<;>rfl
def FH{α:Type}(d v:α):∀(p q:List Bool) (t:Tr α),gL d q (sL d v p t)=if q=p then v else gL d q t
 |[],[],t=>by cases t<;>simp[sL,gL]
 |[],b::q,t=>by cases t<;>simp[sL,gL,LL]
 |a::p,[],t=>by cases t<;>cases a<;>simp[sL,gL]
 |a::p,b::q,t=>by
  cases t with
  |e=>
   have ih:=FH d v p q .e;cases a<;>cases b<;>simp[sL,gL,LL,ih]
  |n l u r=>
   have ihl:=FH d v p q l;have ihr:=FH d v p q r;cases a<;>cases b<;>simp[sL,gL,ihl,ihr]
def zH:List Bool->Nat
 |[]=>0
 |b::p=>2*zH p+(if b then 1 else 2)
def pc:∀(f k:Nat),k<f->zH (Da f k)=k
 |0,_,h=>by omega
 |f+1,0,_=>rfl
 |f+1,k+1,h=>by
  have ih:=pc f (k/2) (by omega);have ih':zH (Da f (k.div 2))=k/2:=ih;simp only[Da,zH,ih'];have h1:Nat.mod k 2=k%2:=rfl;by_cases hk:k%2=0
  .have:Nat.beq (Nat.mod k 2) 0=true:=by rw[h1,hk];rfl
   simp only[this,if_true];omega
  .have hk1:k%2=1:=by omega
   have:Nat.beq (Nat.mod k 2) 0=false:=by rw[h1,hk1];rfl
   simp only[this,eQ,if_false];omega
def UN:∀p:List Bool,p.length<=zH p
 |[]=>YQ _
 |b::p=>by have:=UN p;simp only[ZK,zH];split<;>omega
def jh(k:Nat):(pathOf k).length<k.succ:=by
 have h1:=UN (pathOf k);have h2:zH (pathOf k)=k:=pc (k+1) k (by omega);omega
def Ek{i k:Nat}(h:pathOf i=pathOf k):i=k:=by
 have h1:zH (pathOf i)=i:=pc (i+1) i (by omega);have h2:zH (pathOf k)=k:=pc (k+1) k (by omega);rw[<-h1,<-h2,h]
def kF{α:Type}(d v:α)(i k:Nat)(t:Tr α):eZ d i (j3 d v k t)=if i=k then v else eZ d i t:=by
 unfold eZ j3;rw[oY _ _ _ _ (jh i),oY _ _ _ _ (jh i),Ad _ _ _ _ _ (jh k),FH];by_cases h:i=k
 .simp[h]
 .rw[av h,av (λe=>h (Ek e))]
def wN{α:Type}(d:α)(i:Nat):eZ d i .e=d:=by
 unfold eZ;rw[oY _ _ _ _ (jh i),LL]
def Jb(cs:CS)(d:Option Nat)(v:V):(cs.put d v).sf=aO cs.sf d v:=by
 funext i;cases d with
 |none=>rfl
 |some d=>show eZ _ i (j3 _ v d cs.s)=_;rw[kF];rfl
def II(cs:CS)(d:Option Nat)(v:V):(cs.put d v).U=cs.U/\(cs.put d v).Yu=cs.Yu:=by cases d<;>exact⟨rfl,rfl⟩
def uI(U:Tr (Option Ob))(k:Nat)(o:Ob):ZH (j3 none (some o) k U)=C' (ZH U) k o:=by
 funext i;show eZ none i _=_;rw[kF];rfl
def Gv(U:Tr (Option Ob))(k:Nat):ZH (j3 none none k U)=del (ZH U) k:=by
 funext i;show eZ none i _=_;rw[kF];rfl
mutual
def aq(R:Nat->Nat->Prop):V->V->Prop
 |.own id off len,u=>∃ZD,u=.own ZD off len/\R id ZD
 |.ptr id i k,u=>∃ZD,u=.ptr ZD i k/\R id ZD
 |.sl sz rows,u=>∃X6,u=.sl sz X6/\aD R rows X6
 |.rp v,u=>∃v',u=.rp v'/\aq R v v'
 |.fn f caps,u=>∃Ze,u=.fn f Ze/\aD R caps Ze
 |.bm f caps,u=>∃Ze,u=.bm f Ze/\aD R caps Ze
 |.iface t v,u=>∃v',u=.iface t v'/\aq R v v'
 |.agg c,u=>∃c',u=.agg c'/\aD R c c'
 |.P' c,u=>∃c',u=.P' c'/\aD R c c'
 |.undef,u=>u=.undef
 |.int k n,u=>u=.int k n
 |.bool b,u=>u=.bool b
 |.str s,u=>u=.str s
 |.aC,u=>u=.aC
 |.nilp,u=>u=.nilp
 |.YS,u=>u=.YS
 |.Yt,u=>u=.Yt
 |.raw v,u=>u=.raw v
 |.obj v,u=>u=.obj v
 |.gp v,u=>u=.gp v
 |.yl v,u=>∃ZD,u=.yl ZD/\R v ZD
 |.mp v,u=>u=.mp v
def aD(R:Nat->Nat->Prop):List V->List V->Prop
 |[],l=>l=[]
 |v::vs,l=>∃u us,l=u::us/\aq R v u/\aD R vs us
end
section
variable {R R':Nat->Nat->Prop}
mutual
def aq.mono(h:∀a b,R a b->R' a b):∀(v u:V),aq R v u->aq R' v u
 |.own id off len,u,g=>by simp only[aq]at g|-;obtain⟨i,e,r⟩:=g;exact⟨i,e,h _ _ r⟩
 |.ptr id i k,u,g=>by simp only[aq]at g|-;obtain⟨i,e,r⟩:=g;exact⟨i,e,h _ _ r⟩
 |.sl sz rows,u,g=>by simp only[aq]at g|-;obtain⟨i,e,r⟩:=g;exact⟨i,e,aD.mono h _ _ r⟩
 |.rp v,u,g=>by simp only[aq]at g|-;obtain⟨i,e,r⟩:=g;exact⟨i,e,aq.mono h _ _ r⟩
 |.fn f caps,u,g=>by simp only[aq]at g|-;obtain⟨i,e,r⟩:=g;exact⟨i,e,aD.mono h _ _ r⟩
 |.bm f caps,u,g=>by simp only[aq]at g|-;obtain⟨i,e,r⟩:=g;exact⟨i,e,aD.mono h _ _ r⟩
 |.iface t v,u,g=>by simp only[aq]at g|-;obtain⟨i,e,r⟩:=g;exact⟨i,e,aq.mono h _ _ r⟩
 |.agg c,u,g=>by simp only[aq]at g|-;obtain⟨i,e,r⟩:=g;exact⟨i,e,aD.mono h _ _ r⟩
 |.P' c,u,g=>by simp only[aq]at g|-;obtain⟨i,e,r⟩:=g;exact⟨i,e,aD.mono h _ _ r⟩
 |.undef,u,g=>by simpa[aq]using g
 |.int k n,u,g=>by simpa[aq]using g
 |.bool b,u,g=>by simpa[aq]using g
 |.str s,u,g=>by simpa[aq]using g
 |.aC,u,g=>by simpa[aq]using g
 |.nilp,u,g=>by simpa[aq]using g
 |.YS,u,g=>by simpa[aq]using g
 |.Yt,u,g=>by simpa[aq]using g
 |.raw v,u,g=>by simpa[aq]using g
 |.obj v,u,g=>by simpa[aq]using g
 |.gp v,u,g=>by simpa[aq]using g
 |.yl v,u,g=>by simp only[aq]at g|-;obtain⟨i,e,r⟩:=g;exact⟨i,e,h _ _ r⟩
 |.mp v,u,g=>by simpa[aq]using g
def aD.mono(h:∀a b,R a b->R' a b):∀(v u:List V),aD R v u->aD R' v u
 |[],u,g=>by simpa[aD]using g
 |v::vs,u,g=>by
  simp only[aD]at g|-;obtain⟨a,as1,e,r,rs⟩:=g;exact⟨a,as1,e,aq.mono h _ _ r,aD.mono h _ _ rs⟩
end
mutual
def cU:∀(v:V),v.ct=true->aq R v v
 |.own ..,g=>by simp[V.ct]at g
 |.ptr ..,g=>by simp[V.ct]at g
 |.sl sz rows,g=>by simp only[V.ct]at g;simp only[aq];exact⟨rows,rfl,eW rows g⟩
 |.rp v,g=>by simp only[V.ct]at g;simp only[aq];exact⟨v,rfl,cU v g⟩
 |.fn f caps,g=>by simp only[V.ct]at g;simp only[aq];exact⟨caps,rfl,eW caps g⟩
 |.bm f caps,g=>by simp only[V.ct]at g;simp only[aq];exact⟨caps,rfl,eW caps g⟩
 |.iface t v,g=>by simp only[V.ct]at g;simp only[aq];exact⟨v,rfl,cU v g⟩
 |.agg c,g=>by simp only[V.ct]at g;simp only[aq];exact⟨c,rfl,eW c g⟩
 |.P' c,g=>by simp only[V.ct]at g;simp only[aq];exact⟨c,rfl,eW c g⟩
 |.undef,_=>by simp[aq]
 |.int k n,_=>by simp[aq]
 |.bool b,_=>by simp[aq]
 |.str s,_=>by simp[aq]
 |.aC,_=>by simp[aq]
 |.nilp,_=>by simp[aq]
 |.YS,_=>by simp[aq]
 |.Yt,_=>by simp[aq]
 |.raw v,_=>by simp[aq]
 |.obj v,_=>by simp[aq]
 |.gp v,_=>by simp[aq]
 |.yl v,g=>by simp[V.ct]at g
 |.mp v,_=>by simp[aq]
def eW:∀(l:List V),cd l=true->aD R l l
 |[],_=>by simp[aD]
 |v::vs,g=>by
  simp only[cd,Ba]at g;simp only[aD];exact⟨v,vs,rfl,cU v g.1,eW vs g.2⟩
end
mutual
def oU:∀(v u:V),v.ct=true->aq R v u->u=v
 |.own ..,_,g,_=>by simp[V.ct]at g
 |.ptr ..,_,g,_=>by simp[V.ct]at g
 |.sl sz rows,u,g,h=>by simp only[V.ct]at g;simp only[aq]at h;obtain⟨r,rfl,h⟩:=h;rw[jw rows r g h]
 |.rp v,u,g,h=>by simp only[V.ct]at g;simp only[aq]at h;obtain⟨r,rfl,h⟩:=h;rw[oU v r g h]
 |.fn f caps,u,g,h=>by simp only[V.ct]at g;simp only[aq]at h;obtain⟨r,rfl,h⟩:=h;rw[jw caps r g h]
 |.bm f caps,u,g,h=>by simp only[V.ct]at g;simp only[aq]at h;obtain⟨r,rfl,h⟩:=h;rw[jw caps r g h]
 |.iface t v,u,g,h=>by simp only[V.ct]at g;simp only[aq]at h;obtain⟨r,rfl,h⟩:=h;rw[oU v r g h]
 |.agg c,u,g,h=>by simp only[V.ct]at g;simp only[aq]at h;obtain⟨r,rfl,h⟩:=h;rw[jw c r g h]
 |.P' c,u,g,h=>by simp only[V.ct]at g;simp only[aq]at h;obtain⟨r,rfl,h⟩:=h;rw[jw c r g h]
 |.undef,u,_,h=>by simpa[aq]using h
 |.int k n,u,_,h=>by simpa[aq]using h
 |.bool b,u,_,h=>by simpa[aq]using h
 |.str s,u,_,h=>by simpa[aq]using h
 |.aC,u,_,h=>by simpa[aq]using h
 |.nilp,u,_,h=>by simpa[aq]using h
 |.YS,u,_,h=>by simpa[aq]using h
 |.Yt,u,_,h=>by simpa[aq]using h
 |.raw v,u,_,h=>by simpa[aq]using h
 |.obj v,u,_,h=>by simpa[aq]using h
 |.gp v,u,_,h=>by simpa[aq]using h
 |.yl v,_,g,_=>by simp[V.ct]at g
 |.mp v,u,_,h=>by simpa[aq]using h
def jw:∀(l m:List V),cd l=true->aD R l m->m=l
 |[],m,_,h=>by simpa[aD]using h
 |v::vs,m,g,h=>by
  simp only[cd,Ba]at g;simp only[aD]at h;obtain⟨u,us,rfl,h1,h2⟩:=h;rw[oU v u g.1 h1,jw vs us g.2 h2]
end
def aD.eS{l:List V}:aD R [] l↔l=[]:=by simp[aD]
def aD.bu{v:V}{vs l:List V}:aD R (v::vs) l↔∃u us,l=u::us/\aq R v u/\aD R vs us:=by simp[aD]
def aD.length:∀{l m:List V},aD R l m->m.length=l.length
 |[],_,h=>by rw[aD.eS]at h;simp[h]
 |v::vs,_,h=>by obtain⟨u,us,rfl,_,h2⟩:=aD.bu.1 h;simp[h2.length]
def aD.get:∀{l m:List V},aD R l m->∀{i:Nat} {v:V},l[i]?=some v->∃u,m[i]?=some u/\aq R v u
 |[],_,_,i,v,hv=>by simp at hv
 |v::vs,_,h,i,x,hv=>by
  obtain⟨u,us,rfl,h1,h2⟩:=aD.bu.1 h;cases i with
  |zero=>simp at hv;subst hv;exact⟨u,by simp,h1⟩
  |succ i=>simp at hv;simpa using h2.get hv
def aD.append:∀{l m l' m':List V},aD R l m->aD R l' m'->aD R (l++l') (m++m')
 |[],_,_,_,h,h'=>by rw[aD.eS]at h;subst h;simpa using h'
 |v::vs,_,_,_,h,h'=>by
  obtain⟨u,us,rfl,h1,h2⟩:=aD.bu.1 h;exact aD.bu.2 ⟨u,us++_,by simp,h1,h2.append h'⟩
def aD.take:∀{l m:List V},aD R l m->∀i,aD R (l.take i) (m.take i)
 |[],_,h,i=>by rw[aD.eS]at h;subst h;simp[aD]
 |v::vs,_,h,i=>by
  obtain⟨u,us,rfl,h1,h2⟩:=aD.bu.1 h;cases i with
  |zero=>simp[aD]
  |succ i=>exact aD.bu.2 ⟨u,us.take i,by simp,h1,h2.take i⟩
def aD.drop:∀{l m:List V},aD R l m->∀i,aD R (l.drop i) (m.drop i)
 |[],_,h,i=>by rw[aD.eS]at h;subst h;simp[aD]
 |v::vs,_,h,i=>by
  obtain⟨u,us,rfl,h1,h2⟩:=aD.bu.1 h;cases i with
  |zero=>exact aD.bu.2 ⟨u,us,by simp,h1,h2⟩
  |succ i=>simpa using h2.drop i
def aD.set:∀{l m:List V},aD R l m->∀(i:Nat) {v u:V},aq R v u->aD R (l.set i v) (m.set i u)
 |[],_,h,i,_,_,_=>by rw[aD.eS]at h;subst h;simp[aD]
 |v::vs,_,h,i,x,y,hx=>by
  obtain⟨u,us,rfl,h1,h2⟩:=aD.bu.1 h;cases i with
  |zero=>exact aD.bu.2 ⟨y,us,by simp,hx,h2⟩
  |succ i=>exact aD.bu.2 ⟨u,us.set i y,by simp,h1,h2.set i hx⟩
def aD.replicate{v u:V}(h:aq R v u):∀n,aD R (List.replicate n v) (List.replicate n u)
 |0=>by simp[aD]
 |n+1=>aD.bu.2 ⟨u,List.replicate n u,by simp[List.replicate_succ],h,aD.replicate h n⟩
def aD.one{v u:V}(h:aq R v u):aD R [v] [u]:=aD.bu.2 ⟨u,[],rfl,h,by simp[aD]⟩
def aq.ir{k:IntKind}{n:Int}{u:V}:aq R (.int k n) u↔u=.int k n:=by simp[aq]
def aq.iF{b:Bool}{u:V}:aq R (.bool b) u↔u=.bool b:=by simp[aq]
def aq.uY{b:List UInt8}{u:V}:aq R (.str b) u↔u=.str b:=by simp[aq]
def aq.rq{b:List V}{u:V}:aq R (.agg b) u↔∃c,u=.agg c/\aD R b c:=by simp[aq]
def aq.agg{l m:List V}(h:aD R l m):aq R (.agg l) (.agg m):=aq.rq.2 ⟨m,rfl,h⟩
def aq.rp{l m:V}(h:aq R l m):aq R (.rp l) (.rp m):=by simp only[aq];exact⟨m,rfl,h⟩
def aq.cells{v u:V}(h:aq R v u):aD R v.cells u.cells:=by
 cases v<;>simp only[aq]at h
 case agg c=>obtain⟨c',rfl,h⟩:=h;simpa[V.cells]using h
 all_goals first
  |(subst h;exact aD.one (by simp[aq]))
  |(obtain⟨c,rfl,h⟩:=h;exact aD.one (by simp only[aq];exact⟨_,rfl,h⟩))
def aq.stays{v u:V}(h:aq R v u):u.stays=v.stays:=by
 cases v<;>simp only[aq]at h<;>first
  |(subst h;rfl)
  |(obtain⟨c,rfl,h⟩:=h;rfl)
end
def Lv(R:Nat->Nat->Prop)(Zc U:af):Prop:=∀c a o,R c a->Zc c=some o->∃X6,U a=some ⟨o.elem,o.sz,X6⟩/\aD R o.rows X6
def Lv.sup{R:Nat->Nat->Prop}{Zc U Z1:af}(h:Lv R Zc U)(hs:aa U Z1):Lv R Zc Z1:=λc a o hc ho=>by
 obtain⟨X6,h1,h2⟩:=h c a o hc ho;exact⟨X6,hs _ _ h1,h2⟩
structure fG(K:af)(fl:Nat)(R:Nat->Nat->Prop)(Zc:af)(Yu:Nat)(U:af):Prop where
 dom:∀c a,R c a->c<Yu
 live:Lv R Zc U
 inj:∀c c' a o o',R c a->R c' a->Zc c=some o->Zc c'=some o'->c=c'
 fn:∀c a a',R c a->R c a'->a=a'
 gJ:aa K U
 kfl:∀a o c oc,K a=some o->R c a->Zc c=some oc->c<fl
section
variable {R:Nat->Nat->Prop} {K Zc U:af} {fl Yu:Nat}
def fG.write(h:fG K fl R Zc Yu U){c a:Nat}{o:Ob}(hc:R c a)(ho:Zc c=some o)(hf:fl<=c){rows X6:List V}(hr:aD R rows X6):
 fG K fl R (C' Zc c ⟨o.elem,o.sz,rows⟩) Yu (C' U a ⟨o.elem,o.sz,X6⟩):=by
 have hlive:∀i x,C' Zc c ⟨o.elem,o.sz,rows⟩ i=some x->∃y,Zc i=some y:=λi x hx=>by
  by_cases e:i=c
  .rw[e];exact⟨o,ho⟩
  .rw[ae e]at hx;exact⟨x,hx⟩
 refine⟨h.dom,?_,?_,?_,?_,?_⟩
 .intro c1 a1 o1 h1 h2;by_cases e:c1=c
  .subst e;have:a1=a:=h.fn c1 a1 a h1 hc;subst this;rw[ag]at h2;simp only[aB]at h2;subst h2;exact⟨X6,ag,hr⟩
  .rw[ae e]at h2;have YA:a1≠a:=λe'=>by subst e';exact e (h.inj c1 c a1 o1 o h1 hc h2 ho)
   rw[ae YA];exact h.live c1 a1 o1 h1 h2
 .intro c1 c2 a1 o1 o2 h1 h2 h3 h4;obtain⟨y,hy⟩:=hlive _ _ h3;obtain⟨z,hz⟩:=hlive _ _ h4;exact h.inj c1 c2 a1 y z h1 h2 hy hz
 .exact h.fn
 .intro i x hx;have YA:i≠a:=λe=>by subst e;have:=h.kfl i x c o hx hc ho;omega
  rw[ae YA];exact h.gJ i x hx
 .intro a1 o1 c1 oc h1 h2 h3;obtain⟨y,hy⟩:=hlive _ _ h3;exact h.kfl a1 o1 c1 y h1 h2 hy
def fG.rem(h:fG K fl R Zc Yu U){c a:Nat}{o:Ob}(hc:R c a)(ho:Zc c=some o)(hf:fl<=c):
 fG K fl R (del Zc c) Yu (del U a):=by
 have hlive:∀i x,del Zc c i=some x->i≠c/\Zc i=some x:=λi x hx=>by
  by_cases e:i=c
  .subst e;simp[Vc.del]at hx
  .rw[bR e]at hx;exact⟨e,hx⟩
 refine⟨h.dom,?_,?_,?_,?_,?_⟩
 .intro c1 a1 o1 h1 h2;obtain⟨e,h2⟩:=hlive _ _ h2;have YA:a1≠a:=λe'=>by subst e';exact e (h.inj c1 c a1 o1 o h1 hc h2 ho)
  rw[bR YA];exact h.live c1 a1 o1 h1 h2
 .intro c1 c2 a1 o1 o2 h1 h2 h3 h4;exact h.inj c1 c2 a1 o1 o2 h1 h2 (hlive _ _ h3).2 (hlive _ _ h4).2
 .exact h.fn
 .intro i x hx;have YA:i≠a:=λe=>by subst e;have:=h.kfl i x c o hx hc ho;omega
  rw[bR YA];exact h.gJ i x hx
 .intro a1 o1 c1 oc h1 h2 h3;exact h.kfl a1 o1 c1 oc h1 h2 (hlive _ _ h3).2
def ext(R:Nat->Nat->Prop)(c a:Nat):Nat->Nat->Prop:=λx y=>R x y\/(x=c/\y=a)
def Az(c a:Nat):∀x y,R x y->ext R c a x y:=λ_ _ h=>.inl h
def fG.new(h:fG K fl R Zc Yu U){i:Nat}(hi:U i=none){ob:Ob}{X6:List V}(hr:aD R ob.rows X6):
 fG K fl (ext R Yu i) (C' Zc Yu ob) (Yu+1) (C' U i ⟨ob.elem,ob.sz,X6⟩):=by
 have H':∀c a,R c a->c≠Yu:=λc a hc=>by have:=h.dom c a hc;omega
 have hold:∀c a o,R c a->C' Zc Yu ob c=some o->Zc c=some o/\a≠i:=λc a o hc ho=>by
  rw[ae (H' c a hc)]at ho;refine⟨ho,λe=>?_⟩;subst e;obtain⟨r,hr,_⟩:=h.live c a o hc ho;rw[hi]at hr;cases hr
 refine⟨?_,?_,?_,?_,h.gJ.C' hi,?_⟩
 .rintro c a (hc|⟨rfl,rfl⟩)
  .have:=h.dom c a hc;omega
  .omega
 .rintro c a o (hc|⟨rfl,rfl⟩) ho
  .obtain⟨h1,h2⟩:=hold c a o hc ho;obtain⟨r,h3,h4⟩:=h.live c a o hc h1;rw[ae h2];exact⟨r,h3,aD.mono (Az Yu i) _ _ h4⟩
  .rw[ag]at ho;simp only[aB]at ho;subst ho;exact⟨X6,ag,aD.mono (Az _ _) _ _ hr⟩
 .rintro c c' a o o' (hc|⟨rfl,rfl⟩) (hc'|⟨rfl,e⟩) ho ho'
  .exact h.inj c c' a o o' hc hc' (hold _ _ _ hc ho).1 (hold _ _ _ hc' ho').1
  .exact absurd e (hold _ _ _ hc ho).2
  .exact absurd rfl (hold _ _ _ hc' ho').2
  .rfl
 .rintro c a a' (hc|⟨rfl,rfl⟩) (hc'|⟨e,rfl⟩)
  .exact h.fn c a a' hc hc'
  .exact absurd e (H' _ _ hc)
  .exact absurd rfl (H' _ _ hc')
  .rfl
 .rintro a o c oc hk (hc|⟨rfl,rfl⟩) ho
  .exact h.kfl a o c oc hk hc (hold _ _ _ hc ho).1
  .have:=h.gJ a o hk;rw[hi]at this;cases this
def okX:VX->Bool
 |.t _=>true
 |.c v=>v.ct
def jS(op:Yq):Bool:=op.xs.all okX&&(match op with
 |.alloc _ _ z=>z.ct
 |.build zero _=>cd zero
 |.clear _ z _=>z.ct
 |.mk _ _ _ z _=>z.ct
 |.more (.tas _ _ z) _=>z.ct
 |_=>true)
def dv(i:az):Bool:=jS i.op&&(match i.g with
 |some (x,_)=>okX x
 |none=>true)
def F6:VR->Bool
 |.tmp x=>okX x
 |.cell _ _ x=>okX x
 |.bad=>true
variable {s s':Nat->V}
def cc(hs:∀i,aq R (s i) (s' i)){x:VX}(hx:okX x=true):aq R (x.ev s) (x.ev s'):=by
 cases x with
 |t n=>exact hs n
 |c v=>exact cU v hx
def fW(hs:∀i,aq R (s i) (s' i)):∀{xs:List VX},xs.all okX=true->aD R (xs.map (·.ev s)) (xs.map (·.ev s'))
 |[],_=>by simp[aD]
 |x::xs,h=>by
  simp only[iV,Ba]at h;exact aD.bu.2 ⟨_,_,rfl,cc hs h.1,fW hs h.2⟩
def CX{op:BinOp}{k:IntKind}{a b:Int}{v:V}(h:dW op k a b=some v):v.ct=true:=by
 unfold dW at h;split at h<;>first
  |(simp only[aB]at h;subst h;rfl)
  |(split at h<;>first|(simp only[aB]at h;subst h;rfl)|cases h)
  |cases h
def C5{op:BinOp}{a b:List UInt8}{v:V}(h:pW op a b=some v):v.ct=true:=by
 unfold pW at h;split at h<;>first
  |(simp only[aB]at h;subst h;rfl)
  |cases h
def Kq{op:BinOp}{a b a' b' v:V}(ha:aq R a a')(hb:aq R b b')(h:xR op a b=some v):a'=a/\b'=b/\v.ct=true:=by
 unfold xR at h;split at h
 .simp only[aq]at ha hb;split at h
  .exact⟨ha,hb,CX h⟩
  .cases h
 .simp only[aq]at ha hb;exact⟨ha,hb,C5 h⟩
 .cases h
def Ka{b:Bool}{x x' v:V}(hx:aq R x x')(h:cW b x=some v):∃v',cW b x'=some v'/\aq R v v':=by
 unfold cW at h;split at h<;>simp only[aB,reduceCtorEq]at h<;>simp only[aq]at hx<;>subst h
 .obtain⟨i,rfl,_⟩:=hx;exact⟨_,rfl,by simp[aq]⟩
 .obtain⟨i,rfl,hr⟩:=hx;exact⟨_,rfl,by simp[aq,hr.length]⟩
 .subst hx;exact⟨_,rfl,by simp[aq]⟩
 .subst hx;exact⟨_,rfl,by simp[aq]⟩
def jR{agg:Bool}{off sz:Nat}{vs us:List V}{v:V}(h:aD R vs us)(hv:cQ agg off sz vs=some v):∃v',cQ agg off sz us=some v'/\aq R v v':=by
 unfold cQ at hv|-;cases agg
 .simpa using h.get hv
 .simp only[if_true,aB]at hv|-;subst hv;exact⟨_,rfl,aq.agg ((h.drop off).take sz)⟩
def J4{agg:Bool}{off sz:Nat}{x x' v:V}(hx:aq R x x')(h:HH agg off sz x=some v):∃v',HH agg off sz x'=some v'/\aq R v v':=by
 unfold HH at h;split at h
 .obtain⟨c,rfl,hr⟩:=aq.rq.1 hx;exact jR hr h
 .cases h
def GO{agg:Bool}{off sz:Nat}{x x' v:V}(hx:aq R x x')(h:l4 agg off sz x=some v):∃v',l4 agg off sz x'=some v'/\aq R v v':=by
 unfold l4 at h;split at h
 .simp only[aq]at hx;obtain⟨i,rfl,hr⟩:=hx;simp only[aB]at h;subst h;exact⟨_,rfl,by simp only[aq];exact⟨i,rfl,hr⟩⟩
 .simp only[aq]at hx;obtain⟨u,rfl,hr⟩:=hx;simp only[Zq8]at h;obtain⟨w,hw,rfl⟩:=h;obtain⟨w',h1,h2⟩:=jR hr.cells hw;exact⟨.rp w',by simp[l4,h1],aq.rp h2⟩
 .cases h
def G7(hm:Lv R Zc U){ZS:Nat}{x i x' i' v:V}(hx:aq R x x')(hi:aq R i i')(h:bo Zc ZS x i=some v):∃v',bo U ZS x' i'=some v'/\aq R v v':=by
 unfold bo at h;split at h
 .simp only[aq]at hx hi;obtain⟨a,rfl,ha⟩:=hx;subst hi;split at h
  .rename_i ob YV;obtain⟨X6,h1,h2⟩:=hm _ _ _ ha YV;split at h
   .rename_i hc;simp only[aB]at h;subst h;refine⟨_,?_,by simp only[aq];exact⟨a,rfl,ha⟩⟩;simp only[bo,h1];rw[ar hc]
   .cases h
  .cases h
 .simp only[aq]at hx hi;obtain⟨X6,rfl,hr⟩:=hx;subst hi;split at h
  .rename_i hc;split at h
   .rename_i r hrr;simp only[aB]at h;subst h;obtain⟨u,h1,h2⟩:=hr.get hrr;refine⟨.rp u,?_,aq.rp h2⟩;simp only[bo,h1];rw[ar hc]
   .cases h
  .cases h
 .cases h
def EY{agg:Bool}{n ZS:Nat}{x i x' i' v:V}(hx:aq R x x')(hi:aq R i i')(h:mW agg n ZS x i=some v):∃v',mW agg n ZS x' i'=some v'/\aq R v v':=by
 unfold mW at h;split at h
 .simp only[aq]at hx hi;obtain⟨a,rfl,ha⟩:=hx;subst hi;split at h
  .rename_i hc;simp only[aB]at h;subst h;exact⟨_,by simp only[mW];rw[ar hc],by simp only[aq];exact⟨a,rfl,ha⟩⟩
  .cases h
 .simp only[aq]at hx hi;obtain⟨u,rfl,hr⟩:=hx;subst hi;split at h
  .rename_i hc;simp only[Zq8]at h;obtain⟨w,hw,rfl⟩:=h;obtain⟨w',h1,h2⟩:=jR hr.cells hw;exact⟨.rp w',by simp only[mW];rw[ar hc,h1];rfl,aq.rp h2⟩
  .cases h
 .cases h
def GC{agg:Bool}{n ZS:Nat}{x i x' i' v:V}(hx:aq R x x')(hi:aq R i i')(h:tf agg n ZS x i=some v):∃v',tf agg n ZS x' i'=some v'/\aq R v v':=by
 unfold tf at h;split at h
 .obtain⟨c,rfl,hr⟩:=aq.rq.1 hx;rw[aq.ir]at hi;subst hi;split at h
  .rename_i hc;obtain⟨w',h1,h2⟩:=jR hr h;exact⟨w',by simp only[tf];rw[ar hc,h1],h2⟩
  .cases h
 .cases h
def HE{x i x' i' v:V}(hx:aq R x x')(hi:aq R i i')(h:qT x i=some v):∃v',qT x' i'=some v'/\aq R v v':=by
 have h0:=h;unfold qT at h;split at h
 .rw[aq.uY]at hx;rw[aq.ir]at hi;subst hx hi;refine⟨v,h0,?_⟩;split at h
  .split at h
   .simp only[aB]at h;subst h;simp[aq]
   .cases h
  .cases h
 .cases h
def yN(hm:Lv R Zc U){agg:Bool}{sz:Nat}{x x' v:V}(hx:aq R x x')(h:bB Zc agg sz x=some v):∃v',bB U agg sz x'=some v'/\aq R v v':=by
 unfold bB at h;split at h
 .simp only[aq]at hx;obtain⟨a,rfl,ha⟩:=hx;split at h
  .rename_i ob YV;obtain⟨X6,h1,h2⟩:=hm _ _ _ ha YV;split at h
   .rename_i r hr;obtain⟨r',h3,h4⟩:=h2.get hr;have hl:=h4.cells.length;simp only[bB,h1,h3,hl];cases agg
    .simp only[eQ,if_false]at h|-;exact h4.cells.get h
    .simp only[if_true]at h|-;split at h
     .rename_i hc;simp only[aB]at h;subst h;exact⟨_,by rw[ar hc],aq.agg h4.cells⟩
     .split at h
      .rename_i hc hc';rw[av hc,ar hc'];simp only[aB]at h;subst h;exact⟨_,rfl,aq.agg ((h4.cells.drop _).take _)⟩
      .cases h
   .cases h
  .cases h
 .simp only[aq]at hx;obtain⟨u,rfl,hr⟩:=hx;rename_i w;have hl:=hr.cells.length;cases agg
  .simp only[eQ,if_false]at h;split at h
   .cases h
   .simp only[aB]at h;subst h;rename_i hna;refine⟨u,?_,hr⟩;cases u<;>simp only[bB,eQ,if_false];cases w<;>simp only[aq]at hr<;>simp at hr hna
  .simp only[if_true]at h;split at h
   .rename_i hc;simp only[aB]at h;subst h;refine⟨_,?_,aq.agg hr.cells⟩;simp only[bB,hl,if_true];rw[ar hc]
   .cases h
 .cases h
def EB{d:Int}:∀{o o':Option V},(match o,o' with|none,none=>True|some x,some x'=>aq R x x'|_,_=>False)->∀{j:Int},bS d o=some j->bS d o'=some j
 |none,none,_,j,h=>h
 |some x,some x',hx,j,h=>by
  simp only at hx;cases x<;>simp only[bS]at h<;>first|cases h|skip
  rw[aq.ir]at hx;subst hx;rfl
 |none,some _,hx,_,_=>hx.elim
 |some _,none,hx,_,_=>hx.elim
def E4(hm:Lv R Zc U){ZS:Nat}{x x' v:V}{lo hi mx lo' hi' mx':Option V}(hx:aq R x x')
 (h1:∀d j,bS d lo=some j->bS d lo'=some j)(h2:∀d j,bS d hi=some j->bS d hi'=some j)(h3:∀d j,bS d mx=some j->bS d mx'=some j)
 (h:ek Zc ZS x lo hi mx=some v):∃v',ek U ZS x' lo' hi' mx'=some v'/\aq R v v':=by
 unfold ek at h;split at h
 .simp only[aq]at hx;obtain⟨a,rfl,ha⟩:=hx;split at h
  .rename_i l hh m e1 e2 e3;split at h
   .rename_i hc;simp only[aB]at h;subst h;have hsz:x8 U a ZS=true:=by
     have hz:=hc.2.2.2.2;unfold x8 at hz|-;split at hz
     .rename_i ob YV;obtain⟨X6,g1,g2⟩:=hm _ _ _ ha YV;rw[g1];exact hz
     .cases hz
    refine⟨_,?_,by simp only[aq];exact⟨a,rfl,ha⟩⟩;simp only[ek,h1 _ _ e1,h2 _ _ e2,h3 _ _ e3];rw[ar ⟨hc.1,hc.2.1,hc.2.2.1,hc.2.2.2.1,hsz⟩]
   .cases h
  .cases h
 .simp only[aq]at hx;obtain⟨X6,rfl,hr⟩:=hx;have hl:=hr.length;split at h
  .rename_i l hh m e1 e2 e3;split at h
   .rename_i hc;simp only[aB]at h;subst h;refine⟨.sl _ ((X6.drop l.toNat).take (hh.toNat-l.toNat)),?_,by simp only[aq];exact⟨_,rfl,(hr.drop _).take _⟩⟩;simp only[ek,h1 _ _ e1,hl,h2 _ _ e2,h3 _ _ e3];rw[ar hc]
   .cases h
  .cases h
 .simp only[aq]at hx;subst hx;split at h
  .rename_i l hh m e1 e2 e3;split at h
   .rename_i hc;simp only[aB]at h;subst h;refine⟨.aC,?_,by simp[aq]⟩;simp only[ek,h1 _ _ e1,h2 _ _ e2,h3 _ _ e3];rw[ar hc]
   .cases h
  .cases h
 .cases h
def C0{x x' v:V}{lo hi lo' hi':Option V}(hx:aq R x x')
 (h1:∀d j,bS d lo=some j->bS d lo'=some j)(h2:∀d j,bS d hi=some j->bS d hi'=some j)
 (h:lv x lo hi=some v):∃v',lv x' lo' hi'=some v'/\aq R v v':=by
 unfold lv at h;split at h
 .rw[aq.uY]at hx;subst hx;split at h
  .rename_i l hh e1 e2;split at h
   .rename_i hc;simp only[aB]at h;subst h;refine⟨_,?_,aq.uY.2 rfl⟩;simp only[lv,h1 _ _ e1,h2 _ _ e2];rw[ar hc]
   .cases h
  .cases h
 .cases h
def xT{x x' v:V}(hx:aq R x x')(h:gX x=some v):∃v',gX x'=some v'/\aq R v v':=by
 unfold gX at h;split at h<;>first|cases h|skip
 all_goals (have hx0:=hx;simp only[aq]at hx;obtain⟨i,rfl,_⟩:=hx;exact⟨_,rfl,hx0⟩)
def HA{neg:Bool}{x y x' y' v:V}(hx:aq R x x')(hy:aq R y y')(h:binBV neg x y=some v):∃v',binBV neg x' y'=some v'/\aq R v v':=by
 have h0:=h;unfold binBV at h;split at h
 .rw[aq.iF]at hx hy;subst hx hy;refine⟨v,h0,?_⟩;simp only[aB]at h;subst h;simp[aq]
 .cases h
def Bt{m:Bool}{x y x' y' v:V}(hx:aq R x x')(hy:aq R y y')(h:my m x y=some v):∃v',my m x' y'=some v'/\aq R v v':=by
 have h0:=h;unfold my at h;split at h
 .rw[aq.ir]at hx hy;subst hx hy;refine⟨v,h0,?_⟩;split at h
  .simp only[aB]at h;subst h;simp[aq]
  .cases h
 .cases h
def EW{x y x' y':V}{b:Bool}(hx:aq R x x')(hy:aq R y y')(h:lA x y=some b):x'=x/\y'=y:=by
 unfold lA at h;split at h<;>first|cases h|skip
 all_goals simp only[aq]at hx hy
 all_goals exact⟨hx,hy⟩
def uo:∀{l m l' m':List V} {b:Bool},aD R l l'->aD R m m'->gE l m=some b->l'=l/\m'=m
 |[],[],_,_,_,h1,h2,_=>by rw[aD.eS]at h1 h2;exact⟨h1,h2⟩
 |v::vs,u::us,_,_,b,h1,h2,h=>by
  obtain⟨v',vs',rfl,g1,g2⟩:=aD.bu.1 h1;obtain⟨u',us',rfl,g3,g4⟩:=aD.bu.1 h2;simp only[gE]at h;split at h
  .rename_i e1 e2;obtain⟨rfl,rfl⟩:=EW g1 g3 e1;obtain⟨rfl,rfl⟩:=uo g2 g4 e2;exact⟨rfl,rfl⟩
  .cases h
 |[],_::_,_,_,_,_,_,h=>by simp[gE]at h
 |_::_,[],_,_,_,_,_,h=>by simp[gE]at h
def KK{neg:Bool}{ks:List Nat}{x y x' y' v:V}(hx:aq R x x')(hy:aq R y y')(h:sK neg ks x y=some v):∃v',sK neg ks x' y'=some v'/\aq R v v':=by
 have h0:=h;unfold sK at h;split at h
 .obtain⟨c,rfl,g1⟩:=aq.rq.1 hx;obtain⟨d,rfl,g2⟩:=aq.rq.1 hy;split at h
  .split at h
   .rename_i e;obtain⟨rfl,rfl⟩:=uo g1 g2 e;refine⟨v,h0,?_⟩;simp only[aB]at h;subst h;simp[aq]
   .cases h
  .cases h
 .cases h
def tM:∀{l m:List V} {b:List UInt8},aD R l m->bytesOf l=some b->m=l
 |[],_,_,h,_=>by rw[aD.eS]at h;exact h
 |v::vs,_,b,h,hb=>by
  obtain⟨u,us,rfl,g1,g2⟩:=aD.bu.1 h;simp only[bytesOf]at hb;split at hb
  .rename_i e1 e2;rw[tM g2 e2];cases v<;>simp[byteOf]at e1;rw[aq.ir]at g1;rw[g1]
  .cases hb
def Ea(hm:Lv R Zc U){x x' v:V}(hx:aq R x x')(h:kB Zc x=some v):∃v',kB U x'=some v'/\aq R v v':=by
 unfold kB at h;split at h
 .simp only[aq]at hx;subst hx;simp only[aB]at h;subst h;exact⟨_,rfl,by simp[aq]⟩
 .simp only[aq]at hx;obtain⟨a,rfl,ha⟩:=hx;split at h
  .rename_i ob YV;obtain⟨X6,h1,h2⟩:=hm _ _ _ ha YV;split at h
   .rename_i hc;simp only[Zq8]at h;obtain⟨l,hl,rfl⟩:=h;have e:=tM ((h2.drop _).take _) hl;refine⟨_,?_,aq.uY.2 rfl⟩;simp only[kB,h1,h2.length,e,hl,Option.map_some];rw[ar hc]
   .cases h
  .cases h
 .cases h
def Jt{i:Nat}{x x' v:V}(hx:aq R x x')(h:D8 i x=some v):∃v',D8 i x'=some v'/\aq R v v':=by
 unfold D8 at h;split at h
 .simp only[aq]at hx;obtain⟨c,rfl,hr⟩:=hx;exact hr.get h
 .cases h
def kP(R:Nat->Nat->Prop):List (Nat×Nat×V)->List (Nat×Nat×V)->Prop
 |[],l=>l=[]
 |p::ps,l=>∃u us,l=(p.1,p.2.1,u)::us/\aq R p.2.2 u/\kP R ps us
def vt:∀{ps ps':List (Nat×Nat×V)} {z z' l:List V},aD R z z'->kP R ps ps'->jH z ps=some l->∃l',jH z' ps'=some l'/\aD R l l'
 |[],_,z,z',l,hz,hp,h=>by
  simp only[kP]at hp;subst hp;simp only[jH,aB]at h;subst h;exact⟨_,rfl,hz⟩
 |(off,sz,x)::ps,_,z,z',l,hz,hp,h=>by
  simp only[kP]at hp;obtain⟨u,us,rfl,h1,h2⟩:=hp;simp only[jH]at h|-;split at h
  .rename_i hc;rw[ar ⟨by rw[h1.cells.length];exact hc.1,by rw[h1.stays];exact hc.2.1,by rw[hz.length];exact hc.2.2⟩];refine vt ?_ h2 h;unfold ec;rw[h1.cells.length];exact((hz.take _).append h1.cells).append (hz.drop _)
  .cases h
def oJ(hs:∀i,aq R (s i) (s' i)){lo:Option VX}(h:∀x∈lo.toList,okX x=true)(d j:Int):bS d (lo.map (·.ev s))=some j->bS d (lo.map (·.ev s'))=some j:=by
 refine EB (R:=R) ?_;cases lo with
 |none=>trivial
 |some x=>exact cc hs (h x (by simp))
def GI(hm:Lv R Zc U)(hs:∀i,aq R (s i) (s' i)){op:Yq}(M':jS op=true){v:V}(hp:ez s op)(h:aE Zc s op=some v):
 ez s' op/\∃v',aE U s' op=some v'/\aq R v v':=by
 have hok':=M';simp only[jS,Ba]at M';have hx:=dX.1 M'.1;have E:∀x,x∈op.xs->aq R (x.ev s) (x.ev s'):=λx h=>cc hs (hx x h);cases op<;>simp only[Yq.xs,cg,List.not_mem_nil,or_false,forall_eq_or_imp,forall_eq,dc]at E<;>simp only[aE,ez,aB,reduceCtorEq,true_and]at h hp|-
 case YH=>subst h;exact⟨_,rfl,E⟩
 case pick c a b=>
  split at h
  .rename_i t ht;have:=E.1;rw[ht,aq.iF]at this;rw[this];simp only[aB]at h|-;subst h;refine⟨_,rfl,?_⟩;cases t
   .exact E.2.2
   .exact E.2.1
  .cases h
 case bin op x y=>
  obtain⟨e1,e2,e3⟩:=Kq E.1 E.2 h;rw[e1,e2];exact⟨hp,v,h,cU v e3⟩
 case not x=>
  split at h
  .rename_i b hb;rw[hb,aq.iF]at E;rw[E];simp only[aB]at h|-;subst h;exact⟨_,rfl,by simp[aq]⟩
  .cases h
 case neg x=>
  split at h
  .rename_i k b hb;rw[hb]at hp;rw[hb,aq.ir]at E;rw[E];simp only[aB]at h|-;subst h;exact⟨hp,_,rfl,by simp[aq]⟩
  .cases h
 case len=>exact Ka E h
 case cap=>
  unfold MO at h;split at h
  .rename_i hn;rw[hn]at E;simp only[aq]at E;rw[E];simp only[aB]at h;subst h;exact⟨_,rfl,by simp[aq]⟩
  .cases h
 case fld=>exact J4 E h
 case YB=>exact GO E h
 case idxA=>exact G7 hm E.1 E.2 h
 case idxAA=>exact EY E.1 E.2 h
 case idxV=>exact GC E.1 E.2 h
 case idxS=>exact HE E.1 E.2 h
 case load=>exact yN hm E h
 case slice ZS x lo hi mx=>
  have YD:=hx;simp only[Yq.xs,cg,dc]at YD;exact E4 hm E.1 (oJ hs λy hy=>YD y (.inr (.inl (.inl hy)))) (oJ hs λy hy=>YD y (.inr (.inl (.inr hy)))) (oJ hs λy hy=>YD y (.inr (.inr hy))) h
 case sliceS x lo hi=>
  have YD:=hx;simp only[Yq.xs,cg,dc]at YD;exact C0 E.1 (oJ hs λy hy=>YD y (.inr (.inl hy))) (oJ hs λy hy=>YD y (.inr (.inr hy))) h
 case ext=>exact Jt E h
 case more m xs=>
  by_cases hb:∃f,m=.mkB f
  .obtain⟨f,rfl⟩:=hb;simp only[aB]at h|-;subst h;exact⟨_,rfl,by simp only[aq];exact⟨_,rfl,fW hs M'.1⟩⟩
  cases xs with
  |nil=>cases m<;>first|exact absurd ⟨_,rfl⟩ hb|simp at h
  |cons x xs=>
   have ex:=E x (by simp);cases xs with
   |cons y ys=>cases m<;>first|exact absurd ⟨_,rfl⟩ hb|simp at h
   |nil=>
    cases m
    case mkB=>exact absurd ⟨_,rfl⟩ hb
    case mkI t=>
     simp only[aB]at h|-;subst h;exact⟨_,rfl,by simp only[aq];exact⟨_,rfl,ex⟩⟩
    case tas t ok z=>
     have hz:z.ct=true:=M'.2;simp only[]at h|-;unfold Jr at h|-;split at h
     .rename_i t' v' hv';rw[hv']at ex;simp only[aq]at ex;obtain⟨u,hu,hru⟩:=ex;rw[hu];simp only;split at h
      .rename_i e;rw[ar e];simp only[aB]at h|-;subst h;refine⟨_,rfl,?_⟩;cases ok
       .exact hru
       .simp only[if_true,aq,aD];exact⟨_,rfl,_,_,rfl,hru,_,_,rfl,rfl,rfl⟩
      .rename_i e;rw[av e];cases ok
       .simp at h
       .simp only[if_true,aB]at h|-;subst h;refine⟨_,rfl,?_⟩;simp only[aq,aD];exact⟨_,rfl,_,_,rfl,cU z hz,_,_,rfl,rfl,rfl⟩
     .rename_i hv';rw[hv']at ex;simp only[aq]at ex;rw[ex];cases ok
      .simp at h
      .simp only[if_true,aB]at h|-;subst h;refine⟨_,rfl,?_⟩;simp only[aq,aD];exact⟨_,rfl,_,_,rfl,cU z hz,_,_,rfl,rfl,rfl⟩
     .cases h
    case nilP neg=>
     simp only[]at h|-;unfold Gm at h;split at h
     .rename_i hv';rw[hv']at ex;simp only[aq]at ex;rw[ex];exact⟨v,h,by simp only[aB]at h;subst h;simp[aq]⟩
     .rename_i hv';rw[hv']at ex;simp only[aq]at ex;obtain⟨u,hu,_⟩:=ex;rw[hu];exact⟨v,h,by simp only[aB]at h;subst h;simp[aq]⟩
     .rename_i hv';rw[hv']at ex;simp only[aq]at ex;obtain⟨u,hu,_⟩:=ex;rw[hu];exact⟨v,h,by simp only[aB]at h;subst h;simp[aq]⟩
     .cases h
    all_goals simp at h
 case mkfn f xs=>
  subst h;exact⟨_,rfl,by simp only[aq];exact⟨_,rfl,fW hs M'.1⟩⟩
 case convI k x=>
  split at h
  .rename_i k' b hb;rw[hb]at hp;rw[hb,aq.ir]at E;rw[E];simp only[aB]at h|-;subst h;exact⟨hp,_,rfl,by simp[aq]⟩
  .cases h
 case nilCheck=>exact xT E h
 case Zz=>exact HA E.1 E.2 h
 case eqS=>exact KK E.1 E.2 h
 case minmax=>exact Bt E.1 E.2 h
 case bstr=>exact Ea hm E h
 case build zero parts=>
  simp only[Zq8]at h;obtain⟨l,hl,rfl⟩:=h;have hpr:∀ps:List (Nat×Nat×VX),(∀p∈ps,okX p.2.2=true)->kP R (ps.map λp=>(p.1,p.2.1,p.2.2.ev s)) (ps.map λp=>(p.1,p.2.1,p.2.2.ev s')):=by
   intro ps
   induction ps with
   |nil=>intro _;simp[kP]
   |cons p ps ih=>
    intro hps;simp only[dS,kP];exact⟨_,_,rfl,cc hs (hps p (by simp)),ih λq hq=>hps q (by simp[hq])⟩
  obtain⟨l',h1,h2⟩:=vt (eW zero M'.2) (hpr parts λp hp=>hx _ (by simp only[Yq.xs,gg];exact⟨p,hp,rfl⟩)) hl;exact⟨.agg l',by rw[h1];rfl,aq.agg h2⟩
end
variable {R:Nat->Nat->Prop} {K:af} {fl:Nat} {P:Program} {n:Nat}
structure cB(K:af)(fl:Nat)(R:Nat->Nat->Prop)(cs:CS)(st:St):Prop where
 slot:∀i,aq R (cs.sf i) (st.s i)
 mem:fG K fl R (ZH cs.U) cs.Yu st.U
def Ha{s s':Nat->V}(h:∀i,aq R (s i) (s' i)){d:Option Nat}{v u:V}(hv:aq R v u):∀i,aq R (aO s d v i) (aO s' d u i):=by
 intro i;cases d with
 |none=>exact h i
 |some d=>
  show aq R (if i=d then v else s i) (if i=d then u else s' i);split
  .exact hv
  .exact h i
def cB.put{cs:CS}{st:St}(h:cB K fl R cs st){d:Option Nat}{v u:V}(hv:aq R v u):cB K fl R (cs.put d v) ⟨aO st.s d u,st.U⟩:=by
 refine⟨?_,?_⟩
 .rw[Jb];exact Ha h.slot hv
 .rw[(II cs d v).1,(II cs d v).2];exact h.mem
def aq.AD:aq R (.P' []) (.P' []):=by simp[aq,aD]
def PQ(a b:Int):eqQ a b=decide (a=b):=by
 cases a<;>cases b<;>rw[Bool.eq_iff_iff]<;>simp[eqQ]<;>first|rfl|omega
def Ps(a b:Int):leQ a b=decide (a<=b):=by
 cases a<;>cases b<;>rw[Bool.eq_iff_iff]<;>simp only[leQ,Nat.ble_eq,Zq9,eQ,false_iff,true_iff,Int.ofNat_eq_natCast]<;>omega
def NY(a b:Int):Uq a b=a+b:=by cases a<;>cases b<;>rfl
def Mv(a b:Int):Sa a b=a-b:=by
 cases a<;>cases b<;>simp only[Sa];rename_i m k;cases h:Nat.ble k m
 .have:¬k<=m:=by rw[<-Nat.ble_eq];simp[h]
  simp only[Nat.sub_eq,Int.ofNat_eq_natCast];omega
 .have:k<=m:=oG h;simp only[Nat.sub_eq,Int.ofNat_eq_natCast];omega
def Nx{a:Int}(h:QG a=true):Yl .i64 a:=by
 cases a<;>simp only[QG,Nat.ble_eq]at h
 .rw[Int.ofNat_eq_natCast];exact ai
 .exact ai
def M9{k:IntKind}{a:Int}(h:PC k a=true):Yl k a:=by
 unfold PC at h;split at h
 .exact Nx h
 .simpa[Yl]using h
def bP{α:Type}{b:Bool}{x y:α}:@Bool.casesOn (λ_=>α) b x y=if b then y else x:=by cases b<;>rfl
def sH{α:Type}{b:Bool}{x y:α}:@Bool.rec (λ_=>α) x y b=if b then y else x:=by cases b<;>rfl
def yH{k:IntKind}{a:Int}{v:V}(h:gI k a=some v):v=.int k a/\Yl k a:=by
 unfold gI at h;rw[bP]at h;split at h
 .rename_i hi;simp only[aB]at h;exact⟨h.symm,M9 hi⟩
 .cases h
def D2{op:BinOp}{k:IntKind}{a b:Int}{v:V}(h:(rF op).f k a b=some v):iS op k a b/\dW op k a b=some v:=by
 unfold rF at h;split at h<;>simp only[]at h
 .obtain⟨rfl,h2⟩:=yH h;rw[NY]at*;exact⟨h2,rfl⟩
 .obtain⟨rfl,h2⟩:=yH h;rw[Mv]at*;exact⟨h2,rfl⟩
 .obtain⟨rfl,h2⟩:=yH h;exact⟨h2,rfl⟩
 .split at h
  .cases h
  .rename_i hb;obtain⟨rfl,h2⟩:=yH h;exact⟨h2,by simp[dW,hb]⟩
 .split at h
  .cases h
  .rename_i hb;simp only[aB]at h;subst h;exact⟨trivial,by simp[dW,hb]⟩
 all_goals first
  |exact⟨trivial,h⟩
  |(simp only[aB]at h;subst h;refine⟨trivial,?_⟩;simp only[PQ,Ps,dW,aB,V.bool.injEq];try (rw[Bool.eq_iff_iff];simp))
  |cases h
def Eg{op:BinOp}{a b:List UInt8}{v:V}(h:zJ op a b=some v):v8 op a b/\pW op a b=some v:=by
 unfold zJ at h;split at h
 .rw[bP]at h;split at h
  .rename_i hb;simp only[aB]at h;subst h;exact⟨oG hb,rfl⟩
  .cases h
 .exact⟨trivial,h⟩
 .exact⟨trivial,h⟩
 .cases h
def J3{k k':IntKind}(h:IZ k k'=true):k=k':=by
 unfold IZ at h;rw[bP]at h;cases k<;>cases k'<;>simp_all [Qa,eqK]
def LB{op:BinOp}{x y v:V}(h:Ma op (rF op).f y x=some v):qj op x y/\xR op x y=some v:=by
 unfold Ma at h;split at h
 .unfold Ti at h;split at h
  .rw[bP]at h;split at h
   .rename_i hk;have:=J3 hk;subst this;obtain⟨h1,h2⟩:=D2 h;exact⟨h1,by simp[xR,h2]⟩
   .cases h
  .cases h
 .unfold UJ at h;split at h
  .exact Eg h
  .cases h
 .cases h
def MB{U:Tr (Option Ob)}{ZS:Nat}{x i v:V}(h:Ra U ZS x i=some v):bo (ZH U) ZS x i=some v:=by
 unfold Ra at h;split at h
 .split at h
  .rename_i m hm;have hj:=hm;unfold Bj at hm;split at hm
   .simp only[aB]at hm;subst hm;split at h
    .rename_i ob YV;rw[bP]at h;split at h
     .rename_i hc;simp only[Ba,Nat.beq_eq,Nat.blt_eq]at hc;have e:ZH U _=some ob:=YV;simp only[bo,e];rw[ar ⟨hc.1,by simp,by simpa using hc.2⟩];exact h
     .cases h
    .cases h
   .cases hm
  .cases h
 .split at h
  .rename_i m hm;unfold Bj at hm;split at hm
   .simp only[aB]at hm;subst hm;rw[bP]at h;split at h
    .rename_i hc;rw[Nat.beq_eq]at hc;simp only[bo];rw[ar ⟨hc,by simp⟩];exact h
    .cases h
   .cases hm
  .cases h
 .cases h
def JO{x i v:V}(h:KO x i=some v):qT x i=some v:=by
 unfold KO at h;split at h
 .split at h
  .rename_i m hm;unfold Bj at hm;split at hm
   .simp only[aB]at hm;subst hm;simp only[qT];rw[ar (by simp)];exact h
   .cases hm
  .cases h
 .cases h
def Im{U:Tr (Option Ob)}{agg:Bool}{sz:Nat}{x v:V}(h:KN U agg sz x=some v):bB (ZH U) agg sz x=some v:=by
 unfold KN at h;split at h
 .split at h
  .rename_i ob YV;have e:ZH U _=some ob:=YV;split at h
   .rename_i r hr;simp only[bB,e,hr];split at h
    .rw[bP,bP]at h;simp only[if_true];split at h
     .rename_i hc;simp only[Ba,Nat.beq_eq]at hc;rw[ar hc];exact h
     .rename_i hc;split at h
      .rename_i hc';rw[av (by simpa using hc),ar (show _+sz<=_ from oG hc')];exact h
      .cases h
    .simpa using h
   .cases h
  .cases h
 .exact h
def pq{draw:Bool}{call:gB}{dst:Option Nat}{op:Yq}{cs Yy:CS}{st:St}(hk:aX op=0)(M':jS op=true)(h:cB K fl R cs st)
 (hr:(jt draw dst op).f call fl cs=some Yy):∃v',ez st.s op/\aE st.U st.s op=some v'/\cB K fl R Yy ⟨aO st.s dst v',st.U⟩:=by
 have key:∃v,ez cs.sf op/\aE (ZH cs.U) cs.sf op=some v/\Yy=cs.put dst v:=by
  have hp:∀(g:CS->Option V),(kD dst g).f call fl cs=some Yy->∃v,g cs=some v/\Yy=cs.put dst v:=by
   intro g hg;simp only[kD]at hg;split at hg
   .rename_i v hv;simp only[aB]at hg;exact⟨v,hv,hg.symm⟩
   .cases hg
  cases op<;>simp only[aX,reduceCtorEq]at hk<;>simp only[jt]at hr
  case YH x=>
   simp only[Tt,aB]at hr;exact⟨_,trivial,rfl,hr.symm⟩
  case bin op x y=>
   have hr':(kD dst λcs=>Ma op (rF op).f (y.ev cs.sf) (x.ev cs.sf)).f call fl cs=some Yy:=hr;obtain⟨v,h1,h2⟩:=hp _ hr';obtain⟨h3,h4⟩:=LB h1;exact⟨v,h3,h4,h2⟩
  case pick c a b=>
   obtain⟨v,h1,h2⟩:=hp _ hr;refine⟨v,trivial,?_,h2⟩;simp only[aE];unfold N2 at h1;split at h1
   .rename_i t ht;rw[bP]at h1;rw[ht];exact h1
   .cases h1
  case not x=>
   obtain⟨v,h1,h2⟩:=hp _ hr;refine⟨v,trivial,?_,h2⟩;simp only[aE];unfold UA at h1;split at h1
   .rename_i t ht;rw[ht];exact h1
   .cases h1
  case neg x=>
   obtain⟨v,h1,h2⟩:=hp _ hr;unfold Tq at h1;split at h1
   .rename_i k t ht;obtain⟨h3,h4⟩:=yH h1;exact⟨v,by simp only[ez,ht];exact h4,by simp only[aE,ht,h3],h2⟩
   .cases h1
  case convI k x=>
   obtain⟨v,h1,h2⟩:=hp _ hr;unfold OJ at h1;split at h1
   .rename_i k t ht;obtain⟨h3,h4⟩:=yH h1;exact⟨v,by simp only[ez,ht];exact h4,by simp only[aE,ht,h3],h2⟩
   .cases h1
  case idxA=>obtain⟨v,h1,h2⟩:=hp _ hr;exact⟨v,trivial,MB h1,h2⟩
  case idxS=>obtain⟨v,h1,h2⟩:=hp _ hr;exact⟨v,trivial,JO h1,h2⟩
  case load=>obtain⟨v,h1,h2⟩:=hp _ hr;exact⟨v,trivial,Im h1,h2⟩
  all_goals (obtain⟨v,h1,h2⟩:=hp _ hr;exact⟨v,trivial,h1,h2⟩)
 obtain⟨v,h1,h2,rfl⟩:=key;obtain⟨h3,v',h4,h5⟩:=GI h.mem.live h.slot M' h1 h2;exact⟨v',h3,h4,h.put h5⟩
def Cj{Zc U:af}(hm:Lv R Zc U){sz:Nat}{x x':V}{l:List V}(hx:aq R x x')(h:bz Zc sz x=some l):∃l',bz U sz x'=some l'/\aD R l l':=by
 unfold bz at h;split at h
 .simp only[aq]at hx;obtain⟨a,rfl,ha⟩:=hx;split at h
  .rename_i ob YV;obtain⟨X6,h1,h2⟩:=hm _ _ _ ha YV;split at h
   .rename_i hc;simp only[aB]at h;subst h;refine⟨_,?_,(h2.drop _).take _⟩;simp only[bz,h1,h2.length];rw[ar hc]
   .cases h
  .cases h
 .simp only[aq]at hx;obtain⟨X6,rfl,hr⟩:=hx;split at h
  .rename_i hc;simp only[aB]at h;subst h;exact⟨X6,by simp[bz,hc],hr⟩
  .cases h
 .simp only[aq]at hx;subst hx;simp only[aB]at h;subst h;exact⟨[],rfl,by simp[aD]⟩
 .rename_i s;simp only[aq]at hx;subst hx;refine⟨l,h,?_⟩;split at h
  .simp only[aB]at h;subst h
   induction s with
   |nil=>simp[aD]
   |cons b s ih=>simp only[dS,aD];exact⟨_,_,rfl,by simp[aq],ih⟩
  .cases h
 .cases h
def BD{Zc U:af}(hm:Lv R Zc U){e sz:Nat}{x x':V}{l:List V}{d:Option Nat}(hx:aq R x x')(h:bN Zc e sz x=some (l,d)):
 ∃l' d',bN U e sz x'=some (l',d')/\aD R l l'/\(d=none/\d'=none\/∃c a o,d=some c/\d'=some a/\R c a/\Zc c=some o):=by
 unfold bN at h;split at h
 .simp only[aq]at hx;obtain⟨a,rfl,ha⟩:=hx;split at h
  .rename_i ob YV;obtain⟨X6,h1,h2⟩:=hm _ _ _ ha YV;split at h
   .rename_i hc;simp only[aB,Prod.mk.injEq]at h;obtain⟨rfl,rfl⟩:=h;refine⟨_,some a,?_,h2.take _,.inr ⟨_,a,ob,rfl,rfl,ha,YV⟩⟩;simp only[bN,h1,h2.length];rw[ar hc]
   .cases h
  .cases h
 .simp only[aq]at hx;subst hx;simp only[aB,Prod.mk.injEq]at h;obtain⟨rfl,rfl⟩:=h;exact⟨[],none,rfl,by simp[aD],.inl ⟨rfl,rfl⟩⟩
 .cases h
def ke{dst:Option Nat}{cs Yy:CS}{st:St}(h:cB K fl R cs st){m:Mk}{X6:List V}{d':Option Nat}(YK:aD R m.ob.rows X6)
 (hd:m.gone=none/\d'=none\/∃c a o,m.gone=some c/\d'=some a/\R c a/\ZH cs.U c=some o)(hr:AX fl dst cs m=some Yy){id:Nat}(O':st.U id=none):
 ∃R',(∀a b,R a b->R' a b)/\cB K fl R' Yy ⟨aO st.s dst (if m.var then .ptr id 0 0 else .own id 0 m.len),C' (bt st.U d') id ⟨m.ob.elem,m.ob.sz,X6⟩⟩:=by
 refine⟨ext R cs.Yu id,Az _ _,?_⟩;have hval:aq (ext R cs.Yu id) (@Bool.casesOn (λ_=>V) m.var (.own cs.Yu 0 m.len) (.ptr cs.Yu 0 0)) (if m.var then .ptr id 0 0 else .own id 0 m.len):=by
  cases m.var
  .simp only[aq,eQ,if_false];exact⟨id,rfl,.inr ⟨rfl,rfl⟩⟩
  .simp only[aq,if_true];exact⟨id,rfl,.inr ⟨rfl,rfl⟩⟩
 have hslot:∀i,aq (ext R cs.Yu id) (cs.sf i) (st.s i):=λi=>aq.mono (Az _ _) _ _ (h.slot i);unfold AX at hr;rcases hd with⟨e1,rfl⟩|⟨c,a,o,e1,rfl,hR,ho⟩
 .rw[e1]at hr;simp only[aB]at hr;subst hr;have hm:=h.mem.new O' YK;have hS:cB K fl (ext R cs.Yu id) ⟨cs.s,j3 none (some m.ob) cs.Yu cs.U,Nat.succ cs.Yu⟩ ⟨st.s,C' st.U id ⟨m.ob.elem,m.ob.sz,X6⟩⟩:=
   ⟨hslot,by simp only[uI];exact hm⟩
  exact hS.put hval
 .rw[e1]at hr;simp only[bP]at hr;split at hr
  .rename_i hf;simp only[aB]at hr;subst hr;have h1:=h.mem.rem hR ho (oG hf);have hid':del st.U a id=none:=by
    by_cases e:id=a
    .simp[del,e]
    .rw[bR e];exact O'
   have hm:=h1.new hid' YK;have hS:cB K fl (ext R cs.Yu id) ⟨cs.s,j3 none (some m.ob) cs.Yu (j3 none none c cs.U),Nat.succ cs.Yu⟩ ⟨st.s,C' (del st.U a) id ⟨m.ob.elem,m.ob.sz,X6⟩⟩:=
    ⟨hslot,by simp only[uI,Gv];exact hm⟩
   rw[bP]at hval;exact hS.put hval
  .cases hr
def xi{draw:Bool}{call:gB}{dst:Option Nat}{op:Yq}{cs Yy:CS}{st:St}(hk:aX op=3)(M':jS op=true)(h:cB K fl R cs st)
 (hr:(jt draw dst op).f call fl cs=some Yy):∃g',eff st.s st.U op=some g'/\∀id,st.U id=none->∃R',(∀a b,R a b->R' a b)/\
   cB K fl R' Yy ⟨aO st.s dst (g' id).1,(g' id).2⟩:=by
 have hp:∀(g:CS->Option Mk),(EI dst g).f call fl cs=some Yy->∃m,g cs=some m/\AX fl dst cs m=some Yy:=by
  intro g hg;simp only[EI]at hg;split at hg
  .rename_i v hv;exact⟨v,hv,hg⟩
  .cases hg
 simp only[jS,Ba]at M';have hx:=dX.1 M'.1;cases op<;>simp only[aX,reduceCtorEq,Nat.reduceEqDiff]at hk<;>simp only[jt]at hr
 case more m xs=>cases m<;>simp at hk
 case alloc e sz z=>
  obtain⟨m,h1,h2⟩:=hp _ hr;simp only[aB]at h1;subst h1;refine⟨_,rfl,λid O'=>?_⟩;have:=ke (d':=none) h (aD.one (cU (R:=R) z M'.2)) (.inl ⟨rfl,rfl⟩) h2 O';simpa[bt]using this
 case box e sz x=>
  obtain⟨m,h1,h2⟩:=hp _ hr;have hv:=cc h.slot (hx x (by simp[Yq.xs]));unfold Ts at h1;rw[bP]at h1;split at h1
  .rename_i hc;simp only[Ba,Nat.beq_eq]at hc;simp only[aB]at h1;subst h1;refine⟨λid=>(.ptr id 0 0,C' st.U id ⟨e,sz,[x.ev st.s]⟩),?_,λid O'=>?_⟩
   .simp only[eff];rw[ar ⟨by rw[hv.cells.length];exact hc.1,by rw[hv.stays];exact hc.2⟩]
   .have:=ke (d':=none) h (aD.one hv) (.inl ⟨rfl,rfl⟩) h2 O';simpa[bt]using this
  .cases h1
 case appz=>simp[kD,aE]at hr
 case mk e sz bytes z x=>
  obtain⟨m,h1,h2⟩:=hp _ hr;have hv:=cc h.slot (hx x (by simp[Yq.xs]));unfold mkQ at h1;split at h1
  .rename_i kk mm hxe;rw[hxe]at hv;simp only[aq]at hv;split at h1
   .split at h1
    .rename_i j hj;rw[bP]at h1;split at h1
     .rename_i hc;simp only[aB]at h1;subst h1;have hmj:mm=(j:Int):=by
       cases mm<;>simp only[Bj,aB,reduceCtorEq]at hj;subst hj;rfl
      subst hmj;refine⟨λid=>(.own id 0 j,C' st.U id ⟨e,sz,List.replicate j z⟩),?_,λid O'=>?_⟩
      .simp only[eff];rw[hv];have hc':j*(bytes+1)<=140737488355328:=oG hc;simp only[eX];rw[ar ⟨by omega,hc'⟩]
      .have:=ke (d':=none) h (aD.replicate (cU (R:=R) z M'.2) j) (.inl ⟨rfl,rfl⟩) h2 O';simpa[bt]using this
     .cases h1
    .cases h1
   .cases h1
  .cases h1
 case eR e sz xs=>
  obtain⟨m,h1,h2⟩:=hp _ hr;have hv:=fW h.slot M'.1;simp only[Yq.xs]at hv;unfold Fi at h1;rw[bP]at h1;split at h1
  .rename_i hc;simp only[aB]at h1;subst h1;refine⟨λid=>(.own id 0 xs.length,C' st.U id ⟨e,sz,xs.map (·.ev st.s)⟩),?_,λid O'=>?_⟩
   .simp only[eff];rw[ar];rw[dX];intro y hy;rw[gg]at hy;obtain⟨x,hxx,rfl⟩:=hy;have hvx:=cc h.slot (hx x (by simp[Yq.xs,hxx]));have:=dX.1 hc (x.ev cs.sf) (gg.2 ⟨x,hxx,rfl⟩);simp only[Ba,Nat.beq_eq]at this;simp[hvx.cells.length,hvx.stays,this]
   .have:=ke (d':=none) h hv (.inl ⟨rfl,rfl⟩) h2 O';simpa[bt]using this
  .cases h1
 case append e sz bytes xa xb=>
  obtain⟨m,h1,h2⟩:=hp _ hr;have ha:=cc h.slot (hx xa (by simp[Yq.xs]));have hb:=cc h.slot (hx xb (by simp[Yq.xs]));unfold FC at h1;split at h1
  .rename_i base Yn src e1 e2;obtain⟨base',d',g1,g2,g3⟩:=BD h.mem.live ha e1;obtain⟨src',g4,g5⟩:=Cj h.mem.live hb e2;rw[bP]at h1;split at h1
   .rename_i hc;simp only[aB]at h1;subst h1;refine⟨λid=>(.own id 0 (base'.length+src'.length),C' (bt st.U d') id ⟨e,sz,base'++src'⟩),?_,λid O'=>?_⟩
    .simp only[eff,g1,g4];rw[ar (by rw[g2.length,g5.length];exact oG hc)]
    .have:=ke h (g2.append g5) g3 h2 O';simpa[g2.length,g5.length]using this
   .cases h1
  .cases h1
def DC{r r' x x' q:V}{k sz:Nat}(hr:aq R r r')(hx:aq R x x')(h:fk r k sz x=some q):∃q',fk r' k sz x'=some q'/\aq R q q':=by
 unfold fk at h;split at h
 .rename_i hc;have hc':x'.cells.length=sz/\x'.stays=true:=⟨by rw[hx.cells.length];exact hc.1,by rw[hx.stays];exact hc.2⟩
  split at h
  .rename_i hd;simp only[aB]at h;subst h;refine⟨x',?_,hx⟩;unfold fk;rw[ar hc',ar ⟨hd.1,by rw[hr.cells.length];exact hd.2⟩]
  .rename_i hd;split at h
   .rename_i he;simp only[aB]at h;subst h;refine⟨_,?_,aq.agg (((hr.cells.take k).append hx.cells).append (hr.cells.drop (k+sz)))⟩;unfold fk;rw[ar hc',av (by rw[hr.cells.length];exact hd),ar (by rw[hr.cells.length];exact he)]
   .cases h
 .cases h
def qx{dst:Option Nat}{sz:Nat}{xa xv:VX}{call:gB}{cs Yy:CS}{st:St}(M':jS (.store sz xa xv)=true)(h:cB K fl R cs st)
 (hr:(EO dst sz xa xv).f call fl cs=some Yy):∃Z',gj st.U sz (xa.ev st.s) (xv.ev st.s)=some Z'/\cB K fl R Yy ⟨aO st.s dst (.P' []),Z'⟩:=by
 simp only[jS,Yq.xs,iV,List.all_nil,Bool.and_true,Ba]at M';have ha:=cc h.slot M'.1;have hv:=cc h.slot M'.2;simp only[EO,Gn]at hr;split at hr
 .rename_i id i0 c hptr;rw[hptr]at ha;simp only[aq]at ha;obtain⟨a,ha1,ha2⟩:=ha;rw[sH]at hr;split at hr
  .rename_i hf;split at hr
   .rename_i ob YV;have hob':ZH cs.U id=some ob:=YV;obtain⟨X6,h1,h2⟩:=h.mem.live _ _ _ ha2 hob';split at hr
    .rename_i r hrr;obtain⟨r',h3,h4⟩:=h2.get hrr;split at hr
     .rename_i q hq;obtain⟨q',h5,h6⟩:=DC h4 hv hq;simp only[aB]at hr;subst hr;refine⟨C' st.U a ⟨ob.elem,ob.sz,X6.set i0 q'⟩,?_,?_⟩
      .simp only[gj,ha1,h1,h3,h5]
      .have hm:=h.mem.write ha2 hob' (oG hf) (h2.set i0 h6);have hS:cB K fl R ⟨cs.s,j3 none (some ⟨ob.elem,ob.sz,ob.rows.set i0 q⟩) id cs.U,cs.Yu⟩ ⟨st.s,C' st.U a ⟨ob.elem,ob.sz,X6.set i0 q'⟩⟩:=
        ⟨h.slot,by simp only[uI];exact hm⟩
       exact hS.put aq.AD
     .cases hr
    .cases hr
   .cases hr
  .cases hr
 .cases hr
variable {P:Program} {n:Nat}
def Le(R R':Nat->Nat->Prop):Prop:=∀a b,R a b->R' a b
def Le.refl(R:Nat->Nat->Prop):Le R R:=λ_ _ h=>h
def Le.trans{R R' R'':Nat->Nat->Prop}(h:Le R R')(h':Le R' R''):Le R R'':=λa b g=>h' a b (h a b g)
def kL(P:Program)(call:gB):Prop:=∀g args Zc Yu fl r,call g args Zc Yu fl=some r->∀(K:af) (R:Nat->Nat->Prop) (U:af) (args':List V),
 fG K fl R (ZH Zc) Yu U->aD R args args'->au P g args' U λv Z'=>∃R',Le R R'/\aq R' r.v v/\fG K fl R' (ZH r.U) r.Yu Z'
def au.drop{f:FuncId}{args:List V}{U:af}{Post Post':V->af->Prop}(h:au P f args U Post)
 (hp:∀r Z',Post r Z'->∃Z0,aa Z0 Z'/\Post' r Z0):au P f args U Post':=by
 refine⟨h.1,λI w Yf hs hr=>(h.2 I w Yf hs hr).mono ?_⟩;rintro e w' ⟨r,Z',Y',val,h1,h2,h3,h4,h5⟩;obtain⟨Z0,h6,h7⟩:=hp r Z' h2;exact⟨r,Z0,Y',val,h1,h7,h3,h4.drop h6,Wk.refl h6 r Y' _ _ _ val h4 h5⟩
section
variable {call:gB} {K:af} {fl:Nat} {R:Nat->Nat->Prop} {cs Yy:CS} {st:St} {Q:St->Prop} {k:List It}
def nG{draw:Bool}{i:az}(M':dv i=true)(h:cB K fl R cs st)(hr:(vD draw i).f call fl cs=some Yy):
 (aQ st.s i.g=some true/\(jt draw i.dst i.op).f call fl cs=some Yy)\/(aQ st.s i.g=some false/\Yy=cs.put i.dst (.P' [])):=by
 simp only[dv,Ba]at M';unfold vD at hr;split at hr
 .rename_i hg;exact .inl ⟨by simp[hg,aQ],hr⟩
 .rename_i x b hg;have hx:=M'.2;simp only[hg]at hx;have hv:=cc h.slot hx;simp only[so]at hr;split at hr
  .rename_i c hc;rw[hc,aq.iF]at hv;rw[sH]at hr;split at hr
   .rename_i hcb;simp only[aB]at hr;refine .inr ⟨?_,hr.symm⟩;simp only[hg,aQ,hv];cases c<;>cases b<;>simp_all
   .rename_i hcb;refine .inl ⟨?_,hr⟩;simp only[hg,aQ,hv];cases c<;>cases b<;>simp_all
  .rename_i hc;rw[hc]at hv;simp only[aq,aD]at hv;obtain⟨c',hv,rfl⟩:=hv;simp only[aB]at hr;exact .inr ⟨by simp only[hg,aQ,hv],hr.symm⟩
  .rename_i hc;rw[hc,aq.ir]at hv;simp only[aB]at hr;exact .inr ⟨by simp only[hg,aQ,hv],hr.symm⟩
  .cases hr
def AZ{draw:Bool}{dst:Option Nat}{op:Yq}(h:op=.bad\/(∃b x,op=.rngS b x)\/(∃x,op=.nxtS x)\/∃m xs,op=.more m xs/\aX op=4)(hr:(jt draw dst op).f call fl cs=some Yy):False:=by
 rcases h with rfl|⟨b,x,rfl⟩|⟨x,rfl⟩|⟨m,xs,rfl,hk⟩
 case inr.inr.inr=>cases m<;>simp[aX]at hk<;>simp[jt,kD,aE]at hr
 all_goals simp[jt,kD,aE]at hr
def n7(op:Yq):aX op=0\/(∃fx xs,op=.call fx xs)\/(∃sz a x,op=.store sz a x)\/aX op=3\/(∃sz z x,op=.clear sz z x)\/(op=.bad\/(∃b x,op=.rngS b x)\/(∃x,op=.nxtS x)\/∃m xs,op=.more m xs/\aX op=4):=by
 cases op
 case more m xs=>cases m<;>simp[aX]
 all_goals simp[aX]
def Mz(hc:kL P call){i:az}{l:List az}(M':dv i=true)(h:cB K fl R cs st)(hr:(vD false i).f call fl cs=some Yy)
 (hk:∀R' YW,Le R R'->cB K fl R' Yy YW->ab P n (.ops l::k) YW Q):ab P n (.ops (i::l)::k) st Q:=by
 have X9:jS i.op=true:=by simp only[dv,Ba]at M';exact M'.1
 rcases nG M' h hr with⟨hw,hr⟩|⟨hw,rfl⟩
 .rcases n7 i.op with h0|⟨fx,xs,h0⟩|⟨sz,a,x,h0⟩|h0|⟨sz,z,x,h0⟩|h0
  .obtain⟨v',h1,h2,h3⟩:=pq h0 X9 h hr;exact ab.pure hw h1 h2 (hk R _ (Le.refl R) h3)
  .rw[h0]at hr X9;simp only[jt,Ly]at hr;simp only[jS,Yq.xs,iV,Ba]at X9;split at hr
   .rename_i f caps hf;have hfx:=cc h.slot X9.1.1;rw[hf]at hfx;simp only[aq]at hfx;obtain⟨Ze,hf',hcaps⟩:=hfx;generalize YZ:call f (xs.map (·.ev cs.sf)++caps) cs.U cs.Yu fl=r at hr;cases r with
    |none=>simp[iL]at hr
    |some r=>
     simp only[iL,aB]at hr;refine ab.call hw h0 hf' (hc _ _ _ _ _ _ YZ K R st.U _ h.mem ((fW h.slot X9.1.2).append hcaps)) ?_;rintro v Z' ⟨R',hle,hv,hm⟩;have hS:cB K fl R' ⟨cs.s,r.U,r.Yu⟩ ⟨st.s,Z'⟩:=⟨λj=>aq.mono hle _ _ (h.slot j),hm⟩
     exact hk R' _ hle (hr▸hS.put hv)
   .cases hr
  .rw[h0]at hr X9;obtain⟨Z',h1,h2⟩:=qx X9 h hr;exact ab.gj hw h0 h1 (hk R _ (Le.refl R) h2)
  .obtain⟨g',h1,h2⟩:=xi h0 X9 h hr;refine ab.eff hw h1 λid O'=>?_;obtain⟨R',h3,h4⟩:=h2 id O';exact hk R' _ h3 h4
  .rw[h0]at hr X9;simp only[jt,EG,F8]at hr;simp only[jS,Yq.xs,iV,List.all_nil,Bool.and_true,Ba]at X9;have hx:=cc h.slot X9.1;split at hr
   .rename_i id off len O';rw[O']at hx;simp only[aq]at hx;obtain⟨a,ha1,ha2⟩:=hx;rw[sH]at hr;split at hr
    .rename_i hf;split at hr
     .rename_i ob YV;have hob':ZH cs.U id=some ob:=YV;obtain⟨X6,g1,g2⟩:=h.mem.live _ _ _ ha2 hob';rw[sH]at hr;split at hr
      .rename_i ZA;simp only[Ba,Nat.beq_eq,Nat.ble_eq]at ZA;simp only[aB]at hr;refine ab.clear hw h0 ha1 g1 ZA.1 (by rw[g2.length];exact ZA.2) ?_;have hm:=h.mem.write ha2 hob' (oG hf) (((g2.take off).append (aD.replicate (cU (R:=R) z X9.2) len)).append (g2.drop (off+len)));have hS:cB K fl R ⟨cs.s,j3 none (some ⟨ob.elem,ob.sz,ob.rows.take off++List.replicate len z++ob.rows.drop (off+len)⟩) id cs.U,cs.Yu⟩
        ⟨st.s,C' st.U a ⟨ob.elem,ob.sz,X6.take off++List.replicate len z++X6.drop (off+len)⟩⟩:=⟨h.slot,by simp only[uI];exact hm⟩
       exact hk R _ (Le.refl R) (hr▸hS.put aq.AD)
      .cases hr
     .cases hr
    .cases hr
   .cases hr
  .exact(AZ h0 hr).elim
 .exact ab.o5 hw (hk R _ (Le.refl R) (h.put aq.AD))
end
def ux(P:Program)(n:Nat)(K:af)(fl:Nat)(R:Nat->Nat->Prop)(k:List It)(Q:St->Prop):Out->Prop
 |.nx cs=>∀R' st,Le R R'->cB K fl R' cs st->ab P n k st Q
 |.ex id cs=>∃k',fZ id k=some k'/\∀R' st,Le R R'->cB K fl R' cs st->ab P n k' st Q
 |.rt cs=>∀R' st,Le R R'->cB K fl R' cs st->Q st
 |.bad=>False
def ux.le{K:af}{fl:Nat}{R R':Nat->Nat->Prop}{k:List It}{Q:St->Prop}{o:Out}(h:ux P n K fl R k Q o)(hle:Le R R'):ux P n K fl R' k Q o:=by
 cases o
 case bad=>exact h
 case ex=>obtain⟨k',h1,h2⟩:=h;exact⟨k',h1,λR'' st h3 h4=>h2 R'' st (hle.trans h3) h4⟩
 all_goals exact λR'' st h3 h4=>h R'' st (hle.trans h3) h4
def Ag(i:Nat):∀(l:List V) (k:Nat) (t:Tr V),eZ (.P' []) i (Tr.ofL l k t)=if k<=i/\i<k+l.length then l.getD (i-k) (.P' [])else eZ (.P' []) i t
 |[],k,t=>by simp[Tr.ofL];intro h1 h2;omega
 |v::l,k,t=>by
  rw[Tr.ofL,Ag i l (k+1),kF];simp only[ZK];by_cases h1:i=k
  .subst h1;rw[av (by omega),ar rfl,ar (by omega)];simp
  .by_cases h2:k+1<=i/\i<k+1+l.length
   .rw[ar h2,ar (by omega),show i-k=(i-(k+1))+1 by omega];simp
   .rw[av h2,av h1,av (by omega)]
def Ev{K:af}{fl:Nat}{R:Nat->Nat->Prop}{cs:CS}{st:St}(h:cB K fl R cs st){r:VR}(M':F6 r=true){v:V}(hv:gm ⟨cs.sf,ZH cs.U⟩ r=some v):
 ∃v',gm st r=some v'/\aq R v v':=by
 cases r<;>simp only[gm,reduceCtorEq,aB]at hv|-
 case tmp x=>subst hv;exact⟨_,rfl,cc h.slot M'⟩
 case cell agg sz x=>exact yN h.mem.live (cc h.slot M') hv
def xL{K:af}{fl:Nat}{R:Nat->Nat->Prop}{cs:CS}{st:St}(h:cB K fl R cs st):∀{l:List VR},l.all F6=true->∀{vs:List V},ej ⟨cs.sf,ZH cs.U⟩ l=some vs->
 ∃vs',ej st l=some vs'/\aD R vs vs'
 |[],_,vs,hv=>by simp only[ej,aB]at hv;subst hv;exact⟨[],rfl,by simp[aD]⟩
 |r::l,M',vs,hv=>by
  simp only[iV,Ba]at M';simp only[ej]at hv;split at hv
  .rename_i v h1;split at hv
   .rename_i us h2;simp only[aB]at hv;subst hv;obtain⟨v',g1,g2⟩:=Ev h M'.1 h1;obtain⟨us',g3,g4⟩:=xL h M'.2 h2;exact⟨v'::us',by simp[ej,g1,g3],aD.bu.2 ⟨v',us',rfl,g2,g4⟩⟩
   .cases hv
  .cases hv
def DR{K:af}{fl:Nat}{R:Nat->Nat->Prop}{cs:CS}{st:St}(h:cB K fl R cs st){l:List VR}(M':l.all F6=true){v:V}(hv:nY ⟨cs.sf,ZH cs.U⟩ l=some v):
 ∃v',nY st l=some v'/\aq R v v':=by
 unfold nY at hv;cases hr:ej ⟨cs.sf,ZH cs.U⟩ l with
 |none=>simp[hr]at hv
 |some vs=>
  obtain⟨vs',g1,g2⟩:=xL h M' hr;rw[hr]at hv;unfold nY;rw[g1]
  match vs,hv,g2 with
  |[],hv,g2=>
   rw[aD.eS]at g2;subst g2;simp only[aB]at hv;subst hv;exact⟨_,rfl,by simp[aq,aD]⟩
  |[u],hv,g2=>
   obtain⟨x,xs,rfl,g3,g4⟩:=aD.bu.1 g2;rw[aD.eS]at g4;subst g4;simp only[aB]at hv;subst hv;exact⟨_,rfl,g3⟩
  |u1::u2::us,hv,g2=>
   obtain⟨x,xs,rfl,g3,g4⟩:=aD.bu.1 g2;obtain⟨y,ys,rfl,g5,g6⟩:=aD.bu.1 g4;simp only[aB]at hv;subst hv;exact⟨_,rfl,by simp only[aq];exact⟨_,rfl,g2⟩⟩
def FP{a b:Int}(h:eqQ a b=true):a=b:=by
 cases a<;>cases b<;>simp only[eqQ,eQ]at h
 .rw[gn h]
 .rw[gn h]
end Go.Vc
