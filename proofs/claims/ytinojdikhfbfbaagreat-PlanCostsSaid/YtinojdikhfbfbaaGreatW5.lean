import Derived.Test.YtinojdikhfbfbaaGreatW4
import Derived.WalkKit
import Derived.ProofKit
import Derived.Deep.Slices
import Derived.ChangeArms
import Derived.WideKeyArgs
import Derived.Carry
import Derived.SizedLaws
set_option linter.all false
set_option maxHeartbeats 8000000
set_option maxRecDepth 100000
open Go.Proofs.Tryz
namespace Go.Vc
open Go.ChangeShapes Go.WideShapes Go.RowKit Go.Deep
def vG(P:Program)(total:Nat):Nat->List Field->Bool
 |off,[]=>off==total
 |off,f::fs=>f.offset==off&&vG P total (off+P.cellsOf f.type) fs
def Az(P:Program):Nat->TypeId->Bool
 |0,_=>false
 |n+1,t=>match P.underlying t with
  |some .bool|some (.int _)|some .string=>true
  |some (.slice e)=>Az P n e&&P.cellsOf e != 0
  |some (.struct fs)=>vG P (P.cellsOf t) 0 fs.toList&&fs.toList.all λf=>Az P n f.type
  |_=>false
def rowOf(agg:Bool)(cs:List V):V:=if agg then .agg cs else cs.getD 0 .undef
def sT(S:TypeId->List V->Prop):List Field->List V->Prop
 |[],vs=>vs=[]
 |f::fs,vs=>∃a b,vs=a++b/\S f.type a/\sT S fs b
def iy(P:Program):Nat->TypeId->List V->Prop
 |0,_,_=>False
 |n+1,t,vs=>match P.underlying t with
  |some .bool=>∃b,vs=[.bool b]
  |some (.int k)=>∃m,vs=[.int k m]/\(Lit.int k m).wf=true
  |some .string=>∃s:List UInt8,vs=[.str s]/\s.length<=reachBytes
  |some (.slice e)=>∃rows,vs=[.sl (P.cellsOf e) rows]/\rows.length*P.bytesOf e<=reachBytes/\∀r∈rows,∃cs,iy P n e cs/\r=rowOf (fX P e) cs
  |some (.struct fs)=>sT (iy P n) fs.toList vs
  |_=>False
def Dj{α:Type}{Pr:Nat->α->Prop}:∀n,(∀i,i<n->∃r,Pr i r)->∃rows:List α,rows.length=n/\∀i r,rows[i]?=some r->Pr i r
 |0,_=>⟨[],rfl,λi r h=>by simp at h⟩
 |n+1,h=>by
  obtain⟨rows,h1,h2⟩:=Dj n λi hi=>h i (by omega);obtain⟨r,hr⟩:=h n (by omega);refine⟨rows++[r],by simp[h1],λi x hx=>?_⟩;rw[KB]at hx;split at hx
  .exact h2 i x hx
  .rename_i hi;have:i-rows.length=0:=by
    rcases Nat.eq_zero_or_pos (i-rows.length)with h0|h0
    .exact h0
    .rw[tm (by simp;omega)]at hx;cases hx
   rw[this]at hx;simp at hx;subst hx;have:i=n:=by omega
   subst this;exact hr
def uy{I:Mu}{ow:Nat->Prop}{w:World}{b off sz:Nat}:∀(rows:List V) (k:Nat),(∀i r,rows[i]?=some r->r.cells.length=sz/\aW I ow w r.cells b (off+(k+i)*sz))->bc I ow w rows b (off+k*sz) sz
 |[],_,_=>by simp[bc]
 |r::rs,k,h=>by
  have h0:=h 0 r rfl;simp only[bc];refine⟨h0.1,by rw[ei];simpa using h0.2,?_⟩;have e:off+k*sz+sz=off+(k+1)*sz:=by rw[Nat.add_mul];omega
  rw[e];refine uy rs (k+1) λi x hx=>?_;have:=h (i+1) x (by simpa using hx);rw[show k+1+i=k+(i+1) by omega];exact this
section
variable {H:Type} {enc:TypeId×Value->H} {P:Program} {w:World} {base:Nat} {spare:Nat->Bool} {held:Bool} {I:Mu} {ow:Nat->Prop}
def G1(P:Program)(I:Mu)(ow:Nat->Prop)(w:World)(N:Nat)(t:TypeId)(cs:List Value):Prop:=
 ∃vs,iy P N t vs/\aB I ow w vs cs/\∀u∈cs,u.oneCell'=true
def uG{S:TypeId->List V->Prop}{cs:List Value}:∀(fs:List Field) (off:Nat),vG P cs.length off fs=true->
 (∀f∈fs,∃vs,S f.type vs/\aB I ow w vs ((cs.drop f.offset).take (P.cellsOf f.type))/\∀u∈(cs.drop f.offset).take (P.cellsOf f.type),u.oneCell'=true)->
 ∃vs,sT S fs vs/\aB I ow w vs (cs.drop off)/\∀u∈cs.drop off,u.oneCell'=true
 |[],off,hc,_=>by
  simp only[vG,beq_iff_eq]at hc;refine⟨[],rfl,?_,?_⟩
  .rw[HA (by omega)];simp[aB]
  .rw[HA (by omega)];simp
 |f::fs,off,hc,h=>by
  simp only[vG,Ba,beq_iff_eq]at hc;obtain⟨a,h1,h2,h3⟩:=h f (by simp);obtain⟨b,h4,h5,h6⟩:=uG fs (off+P.cellsOf f.type) hc.2 λg hg=>h g (by simp[hg]);rw[hc.1]at h2 h3;have e:cs.drop off=(cs.drop off).take (P.cellsOf f.type)++cs.drop (off+P.cellsOf f.type):=by
   rw[<-List.drop_drop,Bb]
  refine⟨a++b,⟨a,b,rfl,h1,h4⟩,?_,?_⟩
  .rw[e];exact h2.append h5
  .rw[e];intro u hu;rcases gl.1 hu with hu|hu
   .exact h3 u hu
   .exact h6 u hu
def qn{v:V}{x:Value}(h:E' I ow w v x):aB I ow w [v] [x]:=by simp only[aB];exact⟨x,[],rfl,h,rfl⟩
def sZ{t:TypeId}{fs:Array Field}(h:P.underlying t=some (.struct fs)):fX P t=true:=by simp[fX,h]
def nq{e:TypeId}{d:DataW H}:∀{l:List (DataW H)},d∈l->∀n∈d.weights P e,n∈DataW.weightsAll P e l
 |[],h,_,_=>by simp at h
 |x::l,h,n,hn=>by
  simp only[DataW.weightsAll,gl];rcases ew.1 h with rfl|h
  .exact .inl hn
  .exact .inr (nq h n hn)
def nR(Sw:∀b,¬ow b):∀(N:Nat) (fuel:Nat) (t:TypeId) (cs:List Value) (x:DataW H×List MemPlace),Az P N t=true->(∀n∈x.1.weights P t,n<=reachBytes)->DataW.trod enc P w base spare held fuel t cs=some x->
 G1 P I ow w N t cs
 |0,_,_,_,_,h,_,_=>by simp[Az]at h
 |N+1,fuel,t,cs,x,Se,hwt,hx=>by
  have hok':=Se;unfold Az at Se;unfold G1;simp only[iy];split at Se
  .rename_i ht;obtain⟨b,rfl,_⟩:=DataW.trod_bool ht hx;exact⟨[.bool b],⟨b,rfl⟩,qn (by simp[E']),by simp[Value.oneCell']⟩
  .rename_i k ht;obtain⟨m,rfl,_,hw⟩:=DataW.trod_int ht hx;exact⟨[.int k m],⟨m,rfl,hw⟩,qn (by simp[E']),by simp[Value.oneCell']⟩
  .rename_i ht;obtain⟨s,rfl,rfl,hw⟩:=DataW.trod_string ht hx;exact⟨[.str s.data.toList],⟨_,rfl,hwt _ (by simp[DataW.weights])⟩,qn (by simp[E']),by simp[Value.oneCell']⟩
  .rename_i e ht;simp only[Ba,bne_iff_ne,ne_eq]at Se;rcases open_slice ht hx with⟨rfl,_⟩|⟨a,len,cap,m,n,D,Pl,rfl,hb,hl,hm,hmm,rfl,hi⟩
   .exact⟨[.sl (P.cellsOf e) []],⟨[],rfl,by simp,by simp⟩,qn (by simp only[E'];exact⟨none,0,rfl,by simp,.inl trivial⟩),by simp[Value.oneCell']⟩
   .have UF:len<=m:=by rw[hmm];split<;>omega
    simp only[DataW.weights,ht]at hwt;have hlen:len*P.bytesOf e<=reachBytes:=by
     have:=hwt _ (List.mem_cons_self ..);simp only[dO,List.length_range]at this;exact mN (Nat.mul_le_mul_right _ (by omega)) this
    have Wv:∀i,i<len->∃r:V,(∃cs,iy P N e cs/\r=rowOf (fX P e) cs)/\r.cells.length=P.cellsOf e/\∃cs',aB I ow w r.cells cs'/\(∀u∈cs',u.oneCell'=true)/\cs'.length=P.cellsOf e/\
     ∀j,j<P.cellsOf e->w.cell? ((a.add (i*P.cellsOf e)).add j)=cs'[j]?:=by
     intro i ZE;obtain⟨cs',h1,h2⟩:=hi i (by omega);obtain⟨_,Tr,U7⟩:=World.cells?_some h1;obtain⟨vs,h3,h4,h5⟩:=nR Sw N n e cs' _ Se.1 (λq hq=>hwt q (List.mem_cons_of_mem _ (List.mem_append_left _ (nq (iE.2 ⟨i,by simpa using ZE,rfl⟩) q hq)))) h2;have hvl:vs.length=P.cellsOf e:=by rw[<-Tr,h4.length]
     have WZ:(rowOf (fX P e) vs).cells=vs:=by
      unfold rowOf;split
      .rfl
      .rename_i hna;cases N with
       |zero=>simp[iy]at h3
       |succ N'=>
        unfold iy at h3;split at h3
        .obtain⟨b,rfl⟩:=h3;rfl
        .obtain⟨b,rfl,_⟩:=h3;rfl
        .obtain⟨b,rfl,_⟩:=h3;rfl
        .obtain⟨b,rfl,_⟩:=h3;rfl
        .rename_i hs;exact absurd (sZ hs) hna
        .exact h3.elim
     exact⟨rowOf (fX P e) vs,⟨vs,h3,rfl⟩,by rw[WZ,hvl],cs',by rw[WZ];exact h4,h5,Tr,U7⟩
    obtain⟨rows,hr1,hr2⟩:=Dj len Wv;refine⟨[.sl (P.cellsOf e) rows],⟨rows,rfl,by rw[hr1];exact hlen,λr hr=>?_⟩,qn ?_,by simp[Value.oneCell']⟩
    .obtain⟨i,ZE⟩:=II hr;exact(hr2 i r ZE).1
    .simp only[E'];refine⟨some a,cap,by rw[hr1],by omega,?_⟩;by_cases h0:len=0
     .left;exact td (by omega)
     .right;have hfirst:∃r,rows[0]?=some r:=⟨rows[0]'(by omega),by simp⟩
      obtain⟨r0,hr0⟩:=hfirst;obtain⟨_,_,cs0,_,_,hcl0,hat0⟩:=hr2 0 r0 hr0;have VL:=hat0 0 (by omega);rw[V7 (by omega)]at VL;have hspot:a.spot=none:=by
       have:=World.cell?_spot VL;simpa[Addr.add]using this
      obtain⟨b,off,spot⟩:=a;subst hspot;refine⟨b,off,rfl,Sw b,by omega,?_⟩;have:=uy (I:=I) (ow:=ow) (w:=w) (b:=b) (off:=off) (sz:=P.cellsOf e) rows 0 λi r hri=>?_
      .simpa using this
      .obtain⟨_,h1,cs',h2,h3,h4,h5⟩:=hr2 i r hri;refine⟨h1,lG h2 h3 λj u hu=>?_⟩;have hj:j<P.cellsOf e:=by rw[<-h4];exact(rz.1 hu).1
       have:=h5 j hj;rw[hu,add_plain,add_plain]at this;rw[kQ];exact this
  .rename_i fs ht;simp only[Ba]at Se;obtain⟨xs,n,_,rfl,hl,hxl,hf⟩:=DataW.trod_struct ht hx;simp only[DataW.weights,ht]at hwt;obtain⟨vs,h1,h2,h3⟩:=uG (I:=I) (ow:=ow) (w:=w) (P:=P) (S:=iy P N) (cs:=cs) fs.toList 0 (by rw[hl];exact Se.1) λf hfm=>by
    obtain⟨i,hi⟩:=II hfm;have ZE:fs[i]?=some f:=by simpa using hi
    have u':i<xs.length:=by rw[hxl];exact(ny.1 ZE).1
    have h1:=hf i f ZE;rw[V7 u']at h1;exact nR Sw N n f.type _ _ (gj.1 Se.2 f hfm) (λq hq=>hwt q (DataW.weights_mem_each (j:=i) (t:=f.type) (d:=(xs[i]'u').1) (by simp[hi]) (by simp[u']) q hq)) h1
   exact⟨vs,h1,by simpa using h2,by simpa using h3⟩
  .cases Se
def mi(P:Program)(t:TypeId)(vs:List V):V:=if fX P t then .agg vs else vs.getD 0 .undef
def H5(Sw:∀b,¬ow b){N:Nat}{t:TypeId}{v:Value}{d:DataW H}{p:List MemPlace}{r:Reach}{b0:Nat}(Se:Az P N t=true)(hwt:∀n∈d.weights P t,n<=reachBytes)(WK:Value.okWide P w r b0 t v)(h:DataW.Trod enc P w base spare held t v d p):
 ∃vs,iy P N t vs/\E' I ow w (mi P t vs) v:=by
 obtain⟨fuel,hf⟩:=h;obtain⟨vs,h1,h2,h3⟩:=nR (I:=I) Sw N fuel t _ _ Se hwt hf;refine⟨vs,h1,?_⟩;cases N with
 |zero=>simp[iy]at h1
 |succ N'=>
  unfold iy at h1;have Sz:∀u:V,vs=[u]->v.cells=#[v]->fX P t=false->E' I ow w (mi P t vs) v:=by
   rintro u rfl hc ha;rw[hc]at h2;simp only[aB]at h2;obtain⟨x,xs,h4,h5,h6⟩:=h2;simp only[List.cons.injEq]at h4;simp only[mi,ha,jb,if_false];rw[h4.1];exact h5
  split at h1
  .rename_i ht;obtain⟨b,rfl⟩:=h1;obtain⟨x,rfl⟩:=okWide_bool ht WK;exact Sz _ rfl rfl (by simp[fX,ht])
  .rename_i ht;obtain⟨b,rfl,_⟩:=h1;obtain⟨x,rfl⟩:=okWide_int ht WK;exact Sz _ rfl rfl (by simp[fX,ht])
  .rename_i ht;obtain⟨b,rfl,_⟩:=h1;obtain⟨x,rfl⟩:=okWide_string ht WK;exact Sz _ rfl rfl (by simp[fX,ht])
  .rename_i ht;obtain⟨b,rfl,_⟩:=h1;obtain⟨x,y,z,rfl⟩:=okWide_slice ht WK;exact Sz _ rfl rfl (by simp[fX,ht])
  .rename_i ht;obtain⟨cs,rfl,_⟩:=okWide_struct ht WK;simp only[mi,sZ ht,if_true,E'];exact⟨cs.toList,by simp,by simpa[Value.cells]using h2,by simpa[Value.cells]using h3⟩
  .exact h1.elim
def yq(P:Program)(N:Nat):List TypeId->List V->Prop
 |[],us=>us=[]
 |t::ts,us=>∃vs us',us=mi P t vs::us'/\iy P N t vs/\yq P N ts us'
def zZ(Sw:∀b,¬ow b){N:Nat}{r:Reach}{b0:Nat}:∀{ts:List TypeId} {vs:List Value} {ds:List (DataW H)} {p:List MemPlace},(∀t∈ts,Az P N t=true)->(∀n∈DataW.weightsEach P ts ds,n<=reachBytes)->
 (∀(j:Nat) t v,ts[j]?=some t->vs[j]?=some v->Value.okWide P w r b0 t v)->DataW.TrodAll enc P w base spare held ts vs ds p->∃us,yq P N ts us/\aB I ow w us vs
 |[],vs,ds,p,_,_,_,h=>by
  cases vs<;>cases ds<;>simp[DataW.TrodAll]at h;exact⟨[],rfl,by simp[aB]⟩
 |t::ts,vs,ds,p,Se,hwt,WK,h=>by
  obtain⟨v,vs',d,ds',p',q,rfl,rfl,rfl,h1,h2⟩:=trodAll_cons h;simp only[DataW.weightsEach,gl]at hwt;obtain⟨cs,g1,g2⟩:=H5 (I:=I) (b0:=b0) Sw (Se t (by simp)) (λq hq=>hwt q (.inl hq)) (WK 0 t v rfl rfl) h1;obtain⟨us,g3,g4⟩:=zZ (b0:=b0) Sw (λu hu=>Se u (by simp[hu])) (λq hq=>hwt q (.inr hq)) (λj u x hj hx=>WK (j+1) u x (by simpa using hj) (by simpa using hx)) h2;exact⟨_::us,⟨cs,us,rfl,g1,g3⟩,by simp only[aB];exact⟨v,vs',rfl,g2,g4⟩⟩
def oW(hl:laidOutB P=true):∀{ts:List TypeId} {vs:List Value} {ds:List (DataW H)} {p:List MemPlace} {W W':World} {sp:Nat->Bool},(∀t∈ts,P.readableRec t=true/\t<P.types.size)->
 DataW.TrodAll enc P W 0 (λ_=>true) true ts vs ds p->Below W.heap.size W W'->(∀x∈p,x.block<W.heap.size)->(∀x∈p,sp x.block=true)->DataW.TrodAll enc P W' 0 sp true ts vs ds p
 |[],vs,ds,p,W,W',sp,_,h,_,_,_=>by
  cases vs<;>cases ds<;>simp[DataW.TrodAll]at h|-;exact h
 |t::ts,vs,ds,p,W,W',sp,ht,h,hb,u',VM=>by
  obtain⟨v,vs',d,ds',p',q,rfl,rfl,rfl,h1,h2⟩:=trodAll_cons h;refine⟨p',q,WideElems.Trod_stays hl (ht t (by simp)).1 (ht t (by simp)).2 h1 (λx hx=>hb.same (u' x (by simp[hx]))) (λx hx=>VM x (by simp[hx])),?_,rfl⟩;exact oW hl (λu hu=>ht u (by simp[hu])) h2 hb (λx hx=>u' x (by simp[hx])) (λx hx=>VM x (by simp[hx]))
end
def wB{H:Type}{enc:TypeId×Value->H}{P:Program}{f:Func}{s:ChangeSpec}{apart fresh handsOn again:Bool}{W W':World}{args:Array Value}{v:Value}{ds gs:List (DataW H)}{before pa pv:List MemPlace}
 (hW:DataW.Whole enc P f.params.toList s.vars apart W args.toList ds gs before)
 (WE:∀(b:Nat) (sp:Nat->Bool) (hd:Bool),DataW.TrodAll enc P W' b sp hd f.resultTypes.toList (v.resultList f.resultTypes.size) (s.fn H (ds++gs)).results [])
 (Tq:∀sp:Nat->Bool,(∀p∈before,sp p.block=true)->DataW.TrodAll enc P W' 0 sp true f.params.toList args.toList (s.fn H (ds++gs)).args pa)
 (Zm:∀sp:Nat->Bool,(∀p∈before,sp p.block=true)->DataW.TrodVars enc P W' sp s.vars (s.fn H (ds++gs)).vars pv)
 (hps:before=pa++pv)(hb:Below W.heap.size W W')
 (Se:∀(j:Nat) (t:TypeId) (r:Value),f.resultTypes[j]?=some t->(v.resultList f.resultTypes.size)[j]?=some r->Value.okWide P W' .any 0 t r):
 s.post enc P f apart fresh handsOn again W args v W':=by
 have u':∀p∈before,p.block<W.heap.size:=λp hp=>hW.lt p hp;have hold:∀p∈before,(λb=>decide (b<W.heap.size)) p.block=true:=λp hp=>by simpa using u' p hp
 refine⟨ds,gs,before,[],pa,pv,hW,WE _ _ _,Tq _ hold,Zm _ hold,World.keptBut_mono (λp hp=>⟨hp,?_⟩) (hb.frame (·∈before)),λ_=>?_⟩
 .rw[hps,gl]at hp;exact Or.inr hp
 .obtain⟨_,_,_,_,_,hz,hn⟩:=hW;refine⟨Se,_,_,([]++pa)++pv,⟨[]++pa,pv,trodAll_append (Tq _ (λ_ _=>rfl)) (WE _ _ _),Zm _ (λ_ _=>rfl),rfl,?_,?_⟩,?_⟩
  .intro b off hp;have W6:MemPlace.cell b off∈before:=by rw[hps];simpa using hp
   rw[hb.frozen (u' _ W6)];exact hz b off W6
  .intro ha;have:=hn ha;rw[hps]at this;simpa using this
  .intro p hp _;rw[hps];simpa using hp
def FU{H:Type}{enc:TypeId×Value->H}{P:Program}{f:Func}{i:FuncId}{s:ChangeSpec}{N:Nat}(W1:P.funcs[i]?=some f)(hl:laidOutB P=true)
 (Xm:f.params.toList.all (λt=>Az P N t&&(P.readableRec t&&decide (t<P.types.size)))=true)(Zm:s.vars=[]){tb:TypeId}(WE:f.resultTypes=#[tb])(htb:P.underlying tb=some .bool)
 (hfn:∀ds,ds.length=f.params.size->s.fn H ds=⟨[.lit (.bool true)],ds,[]⟩)
 (WL:∀us,yq P N f.params.toList us->aX P i us (.bool true))
 {apart fresh handsOn again:Bool}{W:World}{base:Nat}{args:Array Value}{ds gs:List (DataW H)}{before:List MemPlace}
 (WK:∀(j:Nat) t v,f.params[j]?=some t->args[j]?=some v->Value.okWide P W .any base t v)
 (hW:DataW.Whole enc P f.params.toList s.vars apart W args.toList ds gs before)(hvt:s.plain.varTypes P=[])
 (TU:(DataW.weightsEach P (f.params.toList++s.plain.varTypes P) (ds++gs)).all (·<=reachBytes)=true)(hO:OQ W):
 Calls P i args W λe W'=>∃v,e=.returned v/\s.post enc P f apart fresh handsOn again W args v W':=by
 have hW':=hW;obtain⟨p,q,hA,hV,rfl,hfz,Th⟩:=hW;have hts':=gj.1 Xm;simp only[Ba,US]at hts';rw[Zm]at hV;have hnoV:gs=[]/\q=[]:=by
  cases gs with
  |nil=>exact⟨rfl,by simpa[DataW.TrodVars]using hV⟩
  |cons g gs=>simp[DataW.TrodVars]at hV
 obtain⟨rfl,rfl⟩:=hnoV;have Sw:∀b,¬aO (λ_=>Pl.dY) iK b:=λb ⟨_,_,_,_,h,_⟩=>by simp[iK]at h
 obtain⟨us,hsh,TV⟩:=zZ (I:=λ_=>Pl.dY) (ow:=aO (λ_=>Pl.dY) iK) (b0:=base) (r:=.any) Sw (λt ht=>(hts' t ht).1)
  (by rw[hvt,kr,kr]at TU;intro n hn;simpa using gj.1 TU n hn) (λj t v hj hv=>WK j t v (by simpa using hj) (by simpa using hv)) hA
 have UD:Sat W (aO (λ_=>Pl.dY) iK) (λ_=>Pl.dY) iK W:=
  ⟨SD _,rfl,rfl,rfl,λ_ _ _=>rfl,⟨0,λ_ _=>rfl⟩,λ_ _ _ _ _ _ _ _ _ h=>by simp[iK]at h,λ_ _ h=>by simp[iK]at h,λb hb=>(Sw b hb).elim,⟨W,hO,SD _,λi _=>⟨Sw i,rfl⟩⟩⟩
 have UK:=(WL us hsh iK).2 (λ_=>Pl.dY) W args.toList UD TV;rw[Array.toArray_toList]at UK;refine UK.mono ?_;rintro e W' ⟨r,Z',Y',val,rfl,⟨rfl,rfl⟩,_,Sj,hr⟩;simp only[E']at hr;subst hr;have hbel:Below W.heap.size W W':=⟨Sj.os,Sj.tape,Sj.output,Sj.size,λk hk=>Sj.same k hk (Sw k)⟩
 have hlen:ds.length=f.params.size:=by
  have key:∀{ts:List TypeId} {vs:List Value} {ds:List (DataW H)} {p:List MemPlace},DataW.TrodAll enc P W 0 (λ_=>true) true ts vs ds p->ds.length=ts.length:=by
   intro ts
   induction ts with
   |nil=>intro vs ds p h;cases vs<;>cases ds<;>simp[DataW.TrodAll]at h|-
   |cons t ts ih=>
    intro vs ds p h;obtain⟨_,_,_,_,_,_,_,rfl,_,_,h2⟩:=trodAll_cons h;simp[ih h2]
  simpa using key hA
 have hfn':=hfn ds hlen;refine⟨.bool true,rfl,wB (pa:=p) (pv:=[]) hW' ?_ ?_ ?_ rfl hbel ?_⟩
 .intro b sp hd;rw[kr,hfn',WE];exact⟨[],[],shut_bool htb _,rfl,rfl⟩
 .intro sp VM;rw[kr,hfn'];refine oW hl (λt ht=>(hts' t ht).2) hA hbel (λx hx=>by simpa using hW'.lt x (by simpa using hx)) (λx hx=>VM x (by simpa using hx))
 .intro sp _;rw[kr,hfn',Zm];rfl
 .exact ok_one WE rfl (okWide_bool_mk htb _)
open Go.Proofs
def tF{α:Type}{f:α->V}{p:α->Prop}:∀{rows:List V},(∀r∈rows,∃x,r=f x/\p x)->∃l:List α,rows=l.map f/\∀x∈l,p x
 |[],_=>⟨[],rfl,by simp⟩
 |r::rs,h=>by
  obtain⟨x,rfl,hx⟩:=h r (by simp);obtain⟨l,rfl,hl⟩:=tF λq hq=>h q (List.mem_cons_of_mem _ hq);exact⟨x::l,rfl,by simpa using⟨hx,hl⟩⟩
def Wi(m:Int):Prop:=-9223372036854775808<=m/\m<=9223372036854775807
def TA.Wi(s:TA):Prop:=Vc.Wi s.top/\Vc.Wi s.Sk/\Vc.Wi s.R5/\Vc.Wi s.O'/\Vc.Wi s.SG/\Vc.Wi s.R9/\Vc.Wi s.Sl/\Vc.Wi s.head/\Vc.Wi s.before/\Vc.Wi s.after/\Vc.Wi s.inside/\Vc.Wi s.clear
def Nd.real(x:Nd):Prop:=(Vc.Wi x.kind/\Vc.Wi x.size/\x.st.Wi/\Vc.Wi x.line/\Vc.Wi x.space/\Vc.Wi x.side/\Vc.Wi x.w/\Vc.Wi x.h)/\x.words.length<=17592186043904/\∀n∈x.words,Vc.Wi n
section
variable {P:Program} {n:Nat} {t:TypeId} {vs:List V}
def GD{k:IntKind}(ht:P.underlying t=some (.int k))(h:iy P (n+1) t vs):∃m,vs=[.int k m]/\(Lit.int k m).wf=true:=by
 simpa only[iy,ht]using h
def pj{e:TypeId}(ht:P.underlying t=some (.slice e))(h:iy P (n+1) t vs):∃rows,vs=[.sl (P.cellsOf e) rows]/\rows.length*P.bytesOf e<=reachBytes/\∀r∈rows,∃cs,iy P n e cs/\r=rowOf (fX P e) cs:=by
 simpa only[iy,ht]using h
def lv{fs:Array Field}(ht:P.underlying t=some (.struct fs))(h:iy P (n+1) t vs):sT (iy P n) fs.toList vs:=by
 simpa only[iy,ht]using h
end
def HZ:prog.cellsOf 3=1:=by kernel_rfl
def Gp:prog.cellsOf 59=20:=by kernel_rfl
def JI:fX prog 3=false:=by kernel_rfl
def KY:fX prog 22=false:=by kernel_rfl
def KT:fX prog 59=true:=by kernel_rfl
def HS:prog.bytesOf 3=8:=by kernel_rfl
def Gi:prog.bytesOf 59=176:=by kernel_rfl
def db{n:Nat}{vs:List V}(h:iy prog (n+1) 3 vs):∃m,vs=[vI m]/\Wi m:=by
 obtain⟨m,h,hw⟩:=GD underlying3 h;exact⟨m,h,by simp[Lit.wf,IntKind.min,IntKind.max,IntKind.signed,IntKind.bits]at hw;unfold Wi;omega⟩
def GZ{n:Nat}{vs:List V}(h:iy prog (n+2) 57 vs):∃l,vs=[aZ l]/\l.length<=17592186043904/\∀n∈l,Wi n:=by
 obtain⟨rows,rfl,hl,h⟩:=pj underlying57 h;obtain⟨l,rfl,hp⟩:=tF (f:=vI) (p:=Wi) λr hr=>by
  obtain⟨cs,hc,rfl⟩:=h r hr;obtain⟨m,rfl,hm⟩:=db hc;exact⟨m,by rw[JI];rfl,hm⟩
 rw[HS]at hl;simp only[dO,reachBytes]at hl;exact⟨l,by rw[HZ];rfl,by omega,hp⟩
def DG{n:Nat}{vs:List V}(h:iy prog (n+2) 56 vs):∃s:TA,vs=s.cells/\s.Wi:=by
 replace h:=lv underlying56 h;simp only[sT]at h;obtain⟨_,_,rfl,h1,_,_,rfl,h2,_,_,rfl,h3,_,_,rfl,h4,_,_,rfl,h5,_,_,rfl,h6,_,_,rfl,h7,_,_,rfl,h8,_,_,rfl,h9,_,_,rfl,ZH,_,_,rfl,Xs,_,_,rfl,h12,rfl⟩:=h;obtain⟨m1,rfl,g1⟩:=db h1;obtain⟨m2,rfl,g2⟩:=db h2;obtain⟨m3,rfl,g3⟩:=db h3;obtain⟨m4,rfl,g4⟩:=db h4;obtain⟨m5,rfl,g5⟩:=db h5;obtain⟨m6,rfl,g6⟩:=db h6;obtain⟨m7,rfl,g7⟩:=db h7;obtain⟨m8,rfl,g8⟩:=db h8;obtain⟨m9,rfl,g9⟩:=db h9;obtain⟨m10,rfl,g10⟩:=db ZH;obtain⟨m11,rfl,g11⟩:=db Xs;obtain⟨m12,rfl,g12⟩:=db h12;exact⟨⟨m1,m2,m3,m4,m5,m6,m7,m8,m9,m10,m11,m12⟩,rfl,g1,g2,g3,g4,g5,g6,g7,g8,g9,g10,g11,g12⟩
def Fu{n:Nat}{vs:List V}(h:iy prog (n+3) 59 vs):∃x:Nd,vs=x.cells/\x.real:=by
 replace h:=lv underlying59 h;simp only[sT]at h;obtain⟨_,_,rfl,h1,_,_,rfl,h2,_,_,rfl,h3,_,_,rfl,h4,_,_,rfl,h5,_,_,rfl,h6,_,_,rfl,h7,_,_,rfl,h8,_,_,rfl,h9,rfl⟩:=h;obtain⟨m1,rfl,g1⟩:=db h1;obtain⟨m2,rfl,g2⟩:=db h2;obtain⟨s,rfl,g3⟩:=DG h3;obtain⟨m4,rfl,g4⟩:=db h4;obtain⟨m5,rfl,g5⟩:=db h5;obtain⟨ws,rfl,g6,g6'⟩:=GZ h6;obtain⟨m7,rfl,g7⟩:=db h7;obtain⟨m8,rfl,g8⟩:=db h8;obtain⟨m9,rfl,g9⟩:=db h9;exact⟨⟨m1,m2,s,m4,m5,ws,m7,m8,m9⟩,rfl,⟨g1,g2,g3,g4,g5,g7,g8,g9⟩,g6,g6'⟩
def DP{n:Nat}{vs:List V}(h:iy prog (n+4) 22 vs):∃l,vs=[aQ l]/\l.length<=800000000000/\∀x∈l,x.real:=by
 obtain⟨rows,rfl,hl,h⟩:=pj underlying22 h;obtain⟨l,rfl,hp⟩:=tF (f:=ie) (p:=Nd.real) λr hr=>by
  obtain⟨cs,hc,rfl⟩:=h r hr;obtain⟨x,rfl,hx⟩:=Fu hc;exact⟨x,by rw[KT];rfl,hx⟩
 rw[Gi]at hl;simp only[dO,reachBytes]at hl;exact⟨l,by rw[Gp];rfl,by omega,hp⟩
def Er{n:Nat}{vs:List V}(h:iy prog (n+4) 22 vs):∃l,mi prog 22 vs=aQ l/\l.length<=800000000000/\∀x∈l,x.real:=by
 obtain⟨l,rfl,h1,h2⟩:=DP h;exact⟨l,by unfold mi;rw[KY];rfl,h1,h2⟩
open Go.Proofs
section
variable {P:Program} {n:Nat} {st:St} {Q:St->Prop} {k:List It}
def Go.Lh{i:aU}{l:List aU}{fx:VX}{xs:List VX}{f:FuncId}{caps:List V}{v:V}(hw:bt st.s i.g=some true)(ho:i.op=.call fx xs)
 (hf:fx.ev st.s=.fn f caps)(hc:aX P f (xs.map (·.ev st.s)++caps) v)(h:Go P n (.d l k) ⟨bb st.s i.dst v,st.U⟩ Q):Go P n (.d (i::l) k) st Q:=by
 refine o3 hw ?_;rw[ho];exact⟨f,caps,v,hf,λZ1 _=>hc Z1,h⟩
def pJ{P:Program}{n:Nat}{st:St}{Q:St->Prop}{k}{i:aU}{l:List aU}{fx:VX}{xs:List VX}{f:FuncId}{caps:List V}{v:V}(hw:(bt st.s i.g,i.op,fx.ev st.s)=(some true,.call fx xs,.fn f caps))(hc:aX P f (xs.map (·.ev st.s)++caps) v)(h:Go P n (.d l k) ⟨bb st.s i.dst v,st.U⟩ Q):Go P n (.d (i::l) k) st Q:=Go.Lh (congrArg (·.1) hw) (congrArg (·.2.1) hw) (congrArg (·.2.2) hw) hc h
end
def mc{U:al}{id:Nat}{o:Ob}(h:U id=some o):C' U id o=U:=by
 funext i;simp only[C'];split
 .rename_i e;rw[e,h]
 .rfl
def Bq(n:Int):Prop:=-1152921504606846976<=n/\n<=1152921504606846976
def ry(n:Int):aX prog 74 [vI n] (.bool (decide (1<=n/\n<=1099511627776))):=λU=>by
 refine e74.q ?_;apply sR;simp only[go_sem,seval,c74];refine And.intro (λh=>?_) (λh=>?_)
 .exact aD.same (by congr 1;exact decide_eq_decide.2 (by omega))
 .exact aD.same (by congr 1;exact(TE (by omega)).symm)
def dJ(n:Int):Int:=max (-1099511627776) (min n 1099511627776)
def zU(n:Int):aX prog 111 [vI n] (vI (dJ n)):=λU=>by
 refine Qm.q ?_;apply sR;simp only[go_sem,seval,Mz];exact aD.same (by congr 1;unfold dJ;split<;>split<;>omega)
structure SK where
 (a b:Int)
deriving DecidableEq
def aY(s:SK):V:=.agg [vI s.a,vI s.b]
def tL(s:SK):aX prog 241 [aY s] (.bool (decide (s.b<=s.a))):=λU=>by
 refine PC.q ?_;apply sR;simp only[go_sem,seval,MH,aY];refine aF λi1 Z1 s1 a1 f1=>?_;simp only[go_sem,seval,a1];exact aD.pure s1 rfl
def fN(s:SK):Int:=if s.b<=s.a then 0 else s.b-s.a
def Tj(n:Int):Prop:=-2305843009213693952<=n/\n<=2305843009213693952
def E1(s:SK)(ha:Tj s.a)(hb:Tj s.b):aX prog 223 [aY s] (vI (fN s)):=λU=>by
 obtain⟨h1,h2⟩:=ha;obtain⟨h3,h4⟩:=hb;refine QA.q ?_;apply sR;simp only[go_sem,seval,Oe,aY];refine aF λi1 Z1 s1 a1 f1=>?_;simp only[go_sem,seval,a1];refine pS rfl (tL ⟨_,_⟩ _) ?_;simp only[go_sem,seval,a1];unfold fN;refine And.intro (λh=>?_) (λh=>?_)
 .rw[aI h];exact aD.pure s1 rfl
 .rw[aK h];exact⟨ar,aD.pure s1 rfl⟩
open Go.Proofs
def nT(a b:SK):SK:=if a.b<=a.a\/b.b<=b.a\/min a.b b.b<=max a.a b.a then⟨0,0⟩else⟨max a.a b.a,min a.b b.b⟩
def cj(a b:Int):(if b>a then b else a)=max a b:=by split<;>omega
def eP(a b:Int):(if b<a then b else a)=min a b:=by split<;>omega
def Lr(x y:SK):aX prog 250 [aY x,aY y] (aY (nT x y)):=λU=>by
 refine RK.q ?_;have hs:=aa.refl U;refine mS 6 ?_;simp only[go_sem,seval,OZ,aY];refine aE hs λi2 Z2 s2 a2 f2 z2 hs=>?_;simp only[go_sem,seval,a2];refine aE hs λi3 Z3 s3 a3 f3 z3 hs=>?_;obtain⟨n23,a2⟩:=RZ a2 f3 s3;simp only[go_sem,seval,a3,a2];refine aE hs λi4 Z4 s4 a4 f4 z4 hs=>?_;obtain⟨VZ,a2⟩:=RZ a2 f4 s4;obtain⟨YJ,a3⟩:=RZ a3 f4 s4;simp only[go_sem,seval,a4,a3,a2];refine aE hs λi5 Z5 s5 a5 f5 z5 hs=>?_;obtain⟨n25,a2⟩:=RZ a2 f5 s5;obtain⟨ZI,a3⟩:=RZ a3 f5 s5;obtain⟨Ww,a4⟩:=RZ a4 f5 s5;simp only[go_sem,seval,a5,a4,a3,a2,cj,eP,ad n25,ad ZI,ad Ww];generalize Uj:C' _ i5 _=Y5;replace a5:=Ti Uj;replace a2:=So Uj n25 a2;replace a3:=So Uj ZI a3;replace a4:=So Uj Ww a4;replace hs:=Te Uj hs z5;refine pR rfl (tL ⟨_,_⟩ _) ?_;unfold nT;by_cases h1:x.b<=x.a
 .rw[aI (.inl h1),Tv h1];apply sR;simp only[go_sem,seval,a4,a5];exact aD.pure (hs.aL z4) rfl
 rw[TE h1];apply sR;simp only[go_sem,seval,a3,a5,a4];refine pR rfl (tL ⟨_,_⟩ _) ?_;by_cases h2:y.b<=y.a
 .rw[aI (.inr (.inl h2)),Tv h2];apply sR;simp only[go_sem,seval,a4,a5];exact aD.pure (hs.aL z4) rfl
 rw[TE h2];apply sR;simp only[go_sem,seval,a3,a5,a4];refine pR rfl (tL ⟨_,_⟩ _) ?_;by_cases h3:min x.b y.b<=max x.a y.a
 .rw[aI (.inr (.inr h3)),Tv h3];apply sR;simp only[go_sem,seval,a4,a5];exact aD.pure (hs.aL z4) rfl
 .rw[aK (by omega),TE h3];apply sR;simp only[go_sem,seval,a4,a5];exact aD.pure (hs.aL z4) rfl
def Ie(x y:SK):aX prog 248 [aY x,aY y] (.bool (decide (nT x y=⟨0,0⟩))):=λU=>by
 refine QL.q ?_;have hs:=aa.refl U;refine mS 5 ?_;simp only[go_sem,seval,M6,aY];refine aE hs λi2 Z2 s2 a2 f2 z2 hs=>?_;simp only[go_sem,seval,a2];refine aE hs λi3 Z3 s3 a3 f3 z3 hs=>?_;obtain⟨n23,a2⟩:=RZ a2 f3 s3;simp only[go_sem,seval,a3,a2];refine pR rfl (Lr ⟨_,_⟩ ⟨_,_⟩ _) ?_;have e:(⟨x.a,x.b⟩:SK)=x:=rfl;have e':(⟨y.a,y.b⟩:SK)=y:=rfl;rw[e,e'];generalize nT x y=m;obtain⟨u,v⟩:=m;apply sR;simp only[go_sem,seval,aY];refine aD.pure hs ?_;by_cases h1:u=0<;>by_cases h2:v=0<;>simp[h1,h2]
structure Rct where
 (x y w h:Int)
deriving DecidableEq
def IN(r:Rct):V:=.agg [vI r.x,vI r.y,vI r.w,vI r.h]
def BP(r:Rct)(h1:Bq r.y)(h2:Bq r.h):aX prog 210 [IN r] (aY ⟨r.y,r.y+r.h⟩):=λU=>by
 obtain⟨g1,g2⟩:=h1;obtain⟨g3,g4⟩:=h2;refine Pe.q ?_;have hs:=aa.refl U;apply sR;simp only[go_sem,seval,L0,IN];refine aE hs λi1 Z1 s1 a1 f1 z1 hs=>?_;simp only[go_sem,seval,a1];refine aE hs λi2 Z2 s2 a2 f2 z2 hs=>?_;obtain⟨n12,a1⟩:=RZ a1 f2 s2;simp only[go_sem,seval,a2,a1];exact⟨ar,aD.pure (hs.aL z2) rfl⟩
def ET(r:Rct)(h1:Bq r.x)(h2:Bq r.w):aX prog 243 [IN r] (aY ⟨r.x,r.x+r.w⟩):=λU=>by
 obtain⟨g1,g2⟩:=h1;obtain⟨g3,g4⟩:=h2;refine Pk.q ?_;have hs:=aa.refl U;apply sR;simp only[go_sem,seval,MO,IN];refine aE hs λi1 Z1 s1 a1 f1 z1 hs=>?_;simp only[go_sem,seval,a1];refine aE hs λi2 Z2 s2 a2 f2 z2 hs=>?_;obtain⟨n12,a1⟩:=RZ a1 f2 s2;simp only[go_sem,seval,a2,a1];exact⟨ar,aD.pure (hs.aL z2) rfl⟩
structure Pn where
 (y m:Int)
deriving DecidableEq
def dx(p:Pn):V:=.agg [vI p.y,vI p.m]
def Ew(p:Pn)(h1:Bq p.y)(h2:Bq p.m):aX prog 148 [dx p] (vI (p.y+p.m)):=λU=>by
 obtain⟨g1,g2⟩:=h1;obtain⟨g3,g4⟩:=h2;refine Qo.q ?_;have hs:=aa.refl U;apply sR;simp only[go_sem,seval,Ng,dx];refine aE hs λi1 Z1 s1 a1 f1 z1 hs=>?_;simp only[go_sem,seval,a1];exact⟨ar,aD.pure hs rfl⟩
def KX(p:Pn)(y h:Int)(h1:Bq y)(h2:Bq h):aX prog 204 [dx p,vI y,vI h] (dx ⟨y+h,0⟩):=λU=>by
 obtain⟨g1,g2⟩:=h1;obtain⟨g3,g4⟩:=h2;refine Qd.q ?_;have hs:=aa.refl U;apply sR;simp only[go_sem,seval,Ov,dx];refine aE hs λi1 Z1 s1 a1 f1 z1 hs=>?_;simp only[go_sem,seval,a1];refine aE hs λi2 Z2 s2 a2 f2 z2 hs=>?_;obtain⟨n12,a1⟩:=RZ a1 f2 s2;simp only[go_sem,seval,a2,a1];exact⟨ar,aD.pure (hs.aL z2) rfl⟩
def fk(p:Pn)(low:Int):Pn:=if low>p.y+p.m then⟨low,0⟩else p
def Ho(p:Pn)(low:Int)(h1:Bq p.y)(h2:Bq p.m):aX prog 171 [dx p,vI low] (dx (fk p low)):=λU=>by
 refine Q8.q ?_;have hs:=aa.refl U;refine mS 5 ?_;simp only[go_sem,seval,Mn,dx];refine aE hs λi2 Z2 s2 a2 f2 z2 hs=>?_;simp only[go_sem,seval,a2];refine aE hs λi4 Z4 s4 a4 f4 z4 hs=>?_;obtain⟨VZ,a2⟩:=RZ a2 f4 s4;simp only[go_sem,seval,a4,a2];refine pR rfl (Ew ⟨_,_⟩ h1 h2 _) ?_;unfold fk;by_cases h:low>p.y+p.m
 .have q:(low>p.y+p.m)=True:=RX h;rw[aI h];apply sR;simp only[go_sem,seval,a4,a2,q];exact aD.pure (hs.aL z4) rfl
 .have q:(low>p.y+p.m)=False:=H' h;rw[aK h];apply sR;simp only[go_sem,seval,a4,a2,q];exact aD.pure (hs.aL z4) rfl
def Dt(y m n:Int){U:al}{id:Nat}(L':U id=some ⟨271,2,[.agg [vI y,vI m]]⟩):aG prog 201 [.ptr id 0 0,vI n] U λr Z'=>r=.Sa []/\Z'=C' U id ⟨271,2,[.agg [vI y,vI (max m n)]]⟩:=by
 refine Rb.q ?_;apply sR;simp only[go_sem,seval,MW,L',cj];exact Tf ⟨rfl,rfl⟩
def J0(y m n:Int)(hy:Bq y)(hm:Bq m)(hn:Bq n){U:al}{id:Nat}(L':U id=some ⟨271,2,[.agg [vI y,vI m]]⟩):aG prog 202 [.ptr id 0 0,vI n] U λr Z'=>r=.Sa []/\Z'=C' U id ⟨271,2,[.agg [vI (if n>0 then y+m+n else y),vI (if n>0 then 0 else m)]]⟩:=by
 obtain⟨g1,g2⟩:=hy;obtain⟨g3,g4⟩:=hm;obtain⟨g5,g6⟩:=hn;refine Ql.q ?_;by_cases h:n>0
 .have q:(n>0)=True:=RX h;rw[aI h,aI h];apply sR;simp only[go_sem,seval,Kt,L',q];exact⟨ar,ar,_,_,aa.refl _,Wk.refl (aa.refl _) _,rfl,rfl⟩
 .have q:(n>0)=False:=H' h;rw[aK h,aK h];apply sR;simp only[go_sem,seval,Kt,L',q];exact Tf ⟨rfl,(by funext i;simp only[C'];split<;>simp_all)⟩
open Go.Proofs
structure Si where
 (node side anchor x y w h:Int)
deriving DecidableEq
def br(f:Si):V:=.agg [vI f.node,vI f.side,vI f.anchor,vI f.x,vI f.y,vI f.w,vI f.h]
def bj(l:List Si):V:=.sl 7 (l.map br)
def jv(f:Si):V:=.agg [vI f.node,vI f.side,vI f.anchor,vI f.x,vI f.y,vI f.w,vI f.h,vI f.x,vI f.y,vI f.w,vI f.h]
def Si.ok(f:Si):Prop:=Bq f.x/\Bq f.y/\Bq f.w/\Bq f.h
def oD{U:al}{l:List Si}{i:Nat}(h:i<l.length):bI U 7 (bj l) (.int .i64 i)=some (.rp (br l[i])):=by simp[bj,bI,h]
def jT(l:List Si):eM false (bj l)=some (.int .i64 l.length):=by simp[bj,eM]
def JN(f:Si):aX prog 209 [br f] (jv f):=λU=>by
 refine QP.q ?_;have hs:=aa.refl U;apply sR;simp only[go_sem,seval,MZ,br];refine aE hs λi1 Z1 s1 a1 f1 z1 hs=>?_;simp only[go_sem,seval,a1];refine aE hs λi2 Z2 s2 a2 f2 z2 hs=>?_;obtain⟨n12,a1⟩:=RZ a1 f2 s2;simp only[go_sem,seval,a2,a1];exact aD.pure (hs.aL z2) rfl
def zf(f:Si)(hf:f.ok):aX prog 181 [jv f] (vI (f.y+f.h)):=λU=>by
 refine Ph.q ?_;have hs:=aa.refl U;apply sR;simp only[go_sem,seval,LY,jv];refine aE hs λi1 Z1 s1 a1 f1 z1 hs=>?_;simp only[go_sem,seval,a1];refine pS rfl (BP ⟨_,_,_,_⟩ hf.2.1 hf.2.2.2 _) ?_;simp only[go_sem,seval,aY];exact aD.pure hs rfl
def fe(y high:Int)(f:Si):Bool:=!decide (nT ⟨f.y,f.y+f.h⟩ ⟨y,y+max high 1⟩=⟨0,0⟩)
def HY(f:Si)(y high:Int)(hf:f.ok)(hy:Tj y)(hh:Bq high):aX prog 242 [jv f,vI y,vI high] (.bool (fe y high f)):=λU=>by
 obtain⟨g1,g2⟩:=hy;obtain⟨g3,g4⟩:=hh;refine RD.q ?_;have hs:=aa.refl U;refine mS 7 ?_;simp only[go_sem,seval,NQ,jv];refine aE hs λi3 Z3 s3 a3 f3 z3 hs=>?_;simp only[go_sem,seval,a3];refine pS rfl (BP ⟨_,_,_,_⟩ hf.2.1 hf.2.2.2 _) ?_;simp only[go_sem,seval,cj];refine⟨ar,?_⟩;refine pS rfl (Ie ⟨_,_⟩ ⟨_,_⟩ _) ?_;simp only[go_sem,seval];rw[show max high 1=max 1 high by omega];exact aD.pure hs (by simp[fe,Int.max_comm])
def hU(f:Si)(s:SK):SK:=if f.side=1 then⟨max s.a (f.x+f.w),s.b⟩else⟨s.a,min s.b f.x⟩
def J9(f:Si)(s:SK)(hf:f.ok):aX prog 226 [jv f,aY s] (aY (hU f s)):=λU=>by
 refine PK.q ?_;have hs:=aa.refl U;refine mS 6 ?_;simp only[go_sem,seval,LK,jv,aY];refine aE hs λi2 Z2 s2 a2 f2 z2 hs=>?_;simp only[go_sem,seval,a2];refine aE hs λi3 Z3 s3 a3 f3 z3 hs=>?_;obtain⟨n23,a2⟩:=RZ a2 f3 s3;simp only[go_sem,seval,a3,a2];refine aE hs λi4 Z4 s4 a4 f4 z4 hs=>?_;obtain⟨VZ,a2⟩:=RZ a2 f4 s4;obtain⟨YJ,a3⟩:=RZ a3 f4 s4;simp only[go_sem,seval,a4,a3,a2];refine pS rfl (ET ⟨_,_,_,_⟩ hf.1 hf.2.2.1 _) ?_;simp only[go_sem,seval,aY];refine aE hs λi5 Z5 s5 a5 f5 z5 hs=>?_;obtain⟨n25,a2⟩:=RZ a2 f5 s5;obtain⟨ZI,a3⟩:=RZ a3 f5 s5;obtain⟨Ww,a4⟩:=RZ a4 f5 s5;unfold hU;by_cases h:f.side=1
 .have q:(f.side=1)=True:=RX h;rw[aI h];simp only[go_sem,seval,a5,a4,a3,a2,q,cj,eP,ad n25,ad ZI,ad Ww,ad YJ.symm,ad ZI.symm,ad VZ,ad YJ,ad Ww.symm];exact aD.pure (((hs.aL z5).aL z3).aL z4) rfl
 .have q:(f.side=1)=False:=H' h;rw[aK h];simp only[go_sem,seval,a5,a4,a3,a2,q,cj,eP,ad n25,ad ZI,ad Ww,ad YJ.symm,ad ZI.symm,ad VZ,ad YJ,ad Ww.symm];exact aD.pure (((hs.aL z5).aL z3).aL z4) rfl
open Go.Proofs
def nz{α:Type}(p:α->Bool)(l:List α){i:Nat}(h:i<l.length):(l.take (i+1)).filter p=(l.take i).filter p++if p l[i]then[l[i]]else[]:=by
 rw[Vn h,List.filter_append];cases hp:p l[i]<;>simp[hp]
def JG(l:List Si)(y high:Int)(hl:l.length<=1000000)(Se:∀f∈l,f.ok)(hy:Tj y)(hh:Bq high)(g:FuncId)(caps:List V)(τ:List Si->al->Prop)
 (hJ:∀pre U Z',τ pre U->aa U Z'->τ pre Z')
 (hg:∀pre f U,f∈l->τ pre U->aG prog g (jv f::caps) U λr Z'=>r=.Sa []/\τ (pre++[f]) Z'){U:al}(h0:τ [] U):
 aG prog 224 [bj l,vI y,vI high,.fn g caps] U λr Z'=>r=.Sa []/\τ (l.filter (fe y high)) Z':=by
 refine Q1.q ?_;refine mS 14 ?_;simp only[go_sem,seval,L4,jT];refine ay.loop (λm st=>∃i:Nat,i<=l.length/\m=l.length-i/\τ ((l.take i).filter (fe y high)) st.U/\st.s 1=vI y/\st.s 2=vI high/\st.s 3=.fn g caps/\st.s 11=bj l/\st.s 12=vI l.length/\st.s 13=vI i) l.length ?_ ?_
 .exact⟨0,by omega,rfl,h0,rfl,rfl,rfl,rfl,rfl,rfl⟩
 .rintro m ⟨s,Z'⟩ ⟨i,hi,rfl,hj,k1,k2,k3,T',Tc,V8⟩;simp only at hj k1 k2 k3 T' Tc V8;refine ay.mix 14 ?_;by_cases u':i<l.length
  .have q:=qT u';have SW:=λU=>oD (U:=U) u';have Vh:=SU u';have XA:=Se _ Vh;have SB:=nz (fe y high) l u';generalize l[i]=f at*;have hs:=aa.refl Z';apply sR;simp only[go_sem,seval,k1,k2,k3,T',Tc,V8,q,SW,br];refine aE hs λi9 Y9 s9 a9 f9 z9 hs=>?_;simp only[go_sem,seval,a9,k1,k2,k3,T',Tc,V8];generalize Tb:C' _ i9 _=Z9;replace a9:=Ti Tb;replace hs:=Te Tb hs z9;refine pS rfl (JN f _) ?_;simp only[go_sem,seval,jv];refine aE hs λi10 XV TN Sb f10 UH hs=>?_;obtain⟨Vi,a9⟩:=RZ a9 f10 TN;simp only[go_sem,seval,Sb,k1,k2,k3,T',Tc,V8];generalize Ss:C' _ i10 _=Y10;replace Sb:=Ti Ss;replace a9:=So Ss Vi a9;replace hs:=Te Ss hs UH;refine pR rfl (HY f y high XA hy hh _) ?_;cases hm:fe y high f
   .rw[hm]at SB;apply sR;simp only[go_sem,seval,k1,k2,k3,T',Tc,V8];refine⟨ar,_,by omega,i+1,by omega,rfl,?_,by simp[k1,k2,k3,T',Tc]⟩;rw[SB];simpa using hJ _ _ _ hj hs
   .rw[hm]at SB;apply sR;simp only[go_sem,seval,Sb,k1,k2,k3,T',Tc,V8];refine TX rfl (hg _ f _ Vh (hJ _ _ _ hj hs)) ?_;rintro r Z2 ⟨rfl,hj2⟩;apply sR;simp only[go_sem,seval,k1,k2,k3,T',Tc,V8];refine⟨ar,_,by omega,i+1,by omega,rfl,?_,by simp[k1,k2,k3,T',Tc]⟩;rw[SB];simpa using hj2
  .have q:=qF u';apply sR;simp only[go_sem,seval,k1,k2,k3,T',Tc,V8,q];obtain rfl:i=l.length:=by omega
   rw[iC]at hj;exact Tf ⟨rfl,hj⟩
def bP(l:List Si)(y high:Int)(s:SK):SK:=(l.filter (fe y high)).foldl (λs f=>hU f s) s
def Nr{id:Nat}(f:Si)(s:SK)(hf:f.ok){U:al}(L':U id=some ⟨195,2,[aY s]⟩):aG prog 244 [jv f,.ptr id 0 0] U λr Z'=>r=.Sa []/\∃Z1,aa U Z1/\Z'=C' Z1 id ⟨195,2,[aY (hU f s)]⟩:=by
 refine Qe.q ?_;have hs:=aa.refl U;have a1:=L';rw[aY]at a1;apply sR;simp only[go_sem,seval,NL,jv];refine aF λi2 Z2 s2 a2 f2=>?_;obtain⟨n2,a1⟩:=RZ a1 f2 s2;simp only[go_sem,seval,a2,a1];refine pS rfl (J9 f s hf _) ?_;simp only[go_sem,seval,a1,aY];exact Tf ⟨rfl,Z2,s2,rfl⟩
def CJ(l:List Si)(y high:Int)(s:SK)(hl:l.length<=1000000)(Se:∀f∈l,f.ok)(hy:Tj y)(hh:Bq high):aX prog 227 [bj l,vI y,vI high,aY s] (aY (bP l y high s)):=λU=>by
 refine PQ.q ?_;have hs:=aa.refl U;refine mS 10 ?_;simp only[go_sem,seval,N3,aY];refine aE hs λi7 Z7 s7 a7 f7 z7 hs=>?_;simp only[go_sem,seval,a7];refine aE hs λi8 Z8 s8 a8 f8 z8 hs=>?_;obtain⟨V0,a7⟩:=RZ a7 f8 s8;simp only[go_sem,seval,a8,a7];refine aE hs λi9 Y9 s9 a9 f9 z9 hs=>?_;obtain⟨n79,a7⟩:=RZ a7 f9 s9;obtain⟨n89,a8⟩:=RZ a8 f9 s9;simp only[go_sem,seval,a9,a8,a7,ad n79,ad n89];generalize Tb:C' _ i9 _=Z9;replace a9:=Ti Tb;replace a7:=So Tb n79 a7;replace a8:=So Tb n89 a8;replace hs:=Te Tb hs z9;refine TX rfl (JG l y high hl Se hy hh 244 [.ptr i9 0 0] (λpre J=>J i9=some ⟨195,2,[aY (pre.foldl (λs f=>hU f s) s)]⟩/\J i8=some ⟨195,2,[.agg [vI 0,vI 0]]⟩/\aa U J) ?_ ?_ ⟨a9,a8,hs⟩) ?_
 .rintro pre J X' ⟨h1,h2,h4⟩ h5;exact⟨h5 _ _ h1,h5 _ _ h2,h4.trans h5⟩
 .rintro pre f J hf ⟨h1,h2,h4⟩;refine(Nr f _ (Se f hf) h1).mono ?_;rintro r X' ⟨rfl,X1,h5,rfl⟩;refine⟨rfl,?_,by rw[ad n89];exact h5 _ _ h2,(h4.trans h5).aL z9⟩;rw[aA,nj];rfl
 .rintro r J ⟨rfl,h1,h2,h4⟩;have XR:aY (List.foldl (λs f=>hU f s) s (List.filter (fe y high) l))=.agg [vI (bP l y high s).a,vI (bP l y high s).b]:=rfl;rw[XR]at h1;apply sR;simp only[go_sem,seval,h1,h2];exact aD.pure (h4.aL z8) rfl
open Go.Proofs
def iZ(s:SK)(a:Int×Bool)(f:Si):Int×Bool:=if hU f s=s\/(a.2=true/\f.y+f.h>=a.1)then a else(f.y+f.h,true)
def cJ(l:List Si)(y high:Int)(s:SK):Int×Bool:=(l.filter (fe y high)).foldl (iZ s) (0,false)
def H9{i1 i2 i3:Nat}(f:Si)(s:SK)(a:Int×Bool)(hf:f.ok)(h12:i1≠i2)(h13:i1≠i3)(h23:i2≠i3){U:al}(q1:U i1=some ⟨195,2,[aY s]⟩)(q2:U i2=some ⟨4,1,[.bool a.2]⟩)(q3:U i3=some ⟨3,1,[vI a.1]⟩):
 aG prog 225 [jv f,.ptr i1 0 0,.ptr i2 0 0,.ptr i3 0 0] U λr Z'=>r=.Sa []/\∃Z1,aa U Z1/\Z'=C' (C' Z1 i3 ⟨3,1,[vI (iZ s a f).1]⟩) i2 ⟨4,1,[.bool (iZ s a f).2]⟩:=by
 refine RV.q ?_;refine ay.mix 5 ?_;obtain⟨u,v⟩:=a;simp only at q2 q3;apply sR;simp only[go_sem,seval,N0,jv];refine aF λi4 Z4 s4 a4 f4=>?_;have n1:=bf q1 f4;have n2:=bf q2 f4;have n3:=bf q3 f4;replace q1:=s4 _ _ q1;replace q2:=s4 _ _ q2;replace q3:=s4 _ _ q3;have XB:=J9 f s hf;have hbot:=zf f hf;obtain⟨s1,s2⟩:=s;rw[aY]at q1;simp only[go_sem,seval,a4,q1,q2,q3];refine pJ rfl XB ?_;unfold iZ;generalize hU f ⟨s1,s2⟩=c;obtain⟨c1,c2⟩:=c;have same:∀Z':al,Z'=Z4->C' (C' Z' i3 ⟨3,1,[vI u]⟩) i2 ⟨4,1,[.bool v]⟩=Z4:=λZ' e=>by
  subst e;rw[mc q3,mc q2]
 by_cases hc:c1=s1/\c2=s2
 .obtain⟨rfl,rfl⟩:=hc;apply sG;simp only[go_sem,seval,q1,aY];refine Tf ⟨rfl,Z4,s4,?_⟩;rw[aI (by simp),same _ rfl]
 .have hd:(decide (c1=s1)&&decide (c2=s2))=false:=by
   by_cases h1:c1=s1<;>by_cases h2:c2=s2<;>simp_all
  have Sh:¬(⟨c1,c2⟩:SK)=⟨s1,s2⟩:=by simpa using hc
  cases v
  .rw[aK (by simp[Sh])];apply sG;simp only[go_sem,seval,q1,q2,a4,aY,hd];refine pS rfl (hbot _) ?_;simp only[go_sem,seval,q2,q3,ad h23,a4];exact Tf ⟨rfl,Z4,s4,rfl⟩
  .apply sG;simp only[go_sem,seval,q1,q2,a4,aY,hd];refine pJ rfl hbot ?_;by_cases hb:f.y+f.h>=u
   .have q:(f.y+f.h>=u)=True:=RX hb;apply sG;simp only[go_sem,seval,q3,q];refine Tf ⟨rfl,Z4,s4,?_⟩;rw[aI (.inr (by first|exact hb|exact⟨rfl,hb⟩|simp[hb])),same _ rfl]
   .have q:(f.y+f.h>=u)=False:=H' hb;rw[aK (by simp[Sh];omega)];apply sG;simp only[go_sem,seval,q3,a4,q];refine pS rfl (hbot _) ?_;simp only[go_sem,seval,q2,q3,ad h23,a4];exact Tf ⟨rfl,Z4,s4,rfl⟩
def FQ(l:List Si)(y high:Int)(s:SK)(hl:l.length<=1000000)(Se:∀f∈l,f.ok)(hy:Tj y)(hh:Bq high):aX prog 206 [bj l,vI y,vI high,aY s] (.Sa [vI (cJ l y high s).1,.bool (cJ l y high s).2]):=λU=>by
 refine Qa.q ?_;have hs:=aa.refl U;refine mS 12 ?_;simp only[go_sem,seval,Nt,aY];refine aE hs λi7 Z7 s7 a7 f7 z7 hs=>?_;simp only[go_sem,seval,a7];refine aE hs λi10 XV TN Sb f10 UH hs=>?_;obtain⟨TB,a7⟩:=RZ a7 f10 TN;simp only[go_sem,seval,Sb,a7];refine aE hs λi11 Yq Vq Ts f11 YK hs=>?_;obtain⟨n711,a7⟩:=RZ a7 f11 Vq;obtain⟨Ug,Sb⟩:=RZ Sb f11 Vq;simp only[go_sem,seval,Ts,Sb,a7,ad n711,ad Ug,ad TB,ad Ug.symm];rw[wV Ug,mc Ts,mc Sb];refine TX rfl (JG l y high hl Se hy hh 225 [.ptr i7 0 0,.ptr i11 0 0,.ptr i10 0 0] (λpre J=>J i7=some ⟨195,2,[aY s]⟩/\J i11=some ⟨4,1,[.bool (pre.foldl (iZ s) (0,false)).2]⟩/\
  J i10=some ⟨3,1,[vI (pre.foldl (iZ s) (0,false)).1]⟩/\aa U J) ?_ ?_ ⟨a7,Ts,Sb,hs⟩) ?_
 .rintro pre J X' ⟨h1,h2,h3,h4⟩ h5;exact⟨h5 _ _ h1,h5 _ _ h2,h5 _ _ h3,h4.trans h5⟩
 .rintro pre f J hf ⟨h1,h2,h3,h4⟩;refine(H9 f s _ (Se f hf) n711 TB Ug.symm h1 h2 h3).mono ?_;rintro r X' ⟨rfl,X1,h5,rfl⟩;refine⟨rfl,?_,?_,?_,((h4.trans h5).aL UH).aL YK⟩
  .rw[ad n711,ad TB];exact h5 _ _ h1
  .rw[aA,nj];rfl
  .rw[ad Ug,aA,nj];rfl
 .rintro r J ⟨rfl,h1,h2,h3,h4⟩;apply sR;simp only[go_sem,seval,h2,h3];exact aD.pure h4 rfl
def ir(tell:Si->Int×Bool)(a:Int×Bool)(f:Si):Int×Bool:=if(tell f).2=true/\(a.2=false\/(tell f).1>a.1)then((tell f).1,true)else a
def cF(tell:Si->Int×Bool)(l:List Si):Int×Bool:=l.foldl (ir tell) (0,false)
def Hf(l:List Si)(hl:l.length<=1000000)(g:FuncId)(caps:List V)(tell:Si->Int×Bool)(μ:al->Prop)(hI:∀U Z',μ U->aa U Z'->μ Z')
 (hg:∀f U,f∈l->μ U->aG prog g (jv f::caps) U λr Z'=>r=.Sa [vI (tell f).1,.bool (tell f).2]/\Z'=U){U:al}(h0:μ U):
 aG prog 179 [bj l,.fn g caps] U λr Z'=>r=.Sa [vI (cF tell l).1,.bool (cF tell l).2]/\Z'=U:=by
 refine Qv.q ?_;refine mS 15 ?_;simp only[go_sem,seval,MK,jT];refine ay.loop (λm st=>∃i:Nat,i<=l.length/\m=l.length-i/\aa U st.U/\st.s 1=.fn g caps/\st.s 6=vI (cF tell (l.take i)).1/\st.s 7=.bool (cF tell (l.take i)).2/\st.s 12=bj l/\st.s 13=vI l.length/\st.s 14=vI i) l.length ?_ ?_
 .exact⟨0,by omega,rfl,aa.refl _,rfl,rfl,rfl,rfl,rfl,rfl⟩
 .rintro m ⟨s,Z'⟩ ⟨i,hi,rfl,hs,k1,k6,k7,Tc,V8,VN⟩;simp only at hs k1 k6 k7 Tc V8 VN;refine ay.mix 15 ?_;by_cases u':i<l.length
  .have q:=qT u';have SW:=λU=>oD (U:=U) u';have Vh:=SU u';have SB:cF tell (l.take (i+1))=ir tell (cF tell (l.take i)) l[i]:=by
    rw[Vn u',cF,nj];rfl
   generalize l[i]=f at*;generalize cF tell (l.take i)=a at*;obtain⟨u,v⟩:=a;simp only at k6 k7;apply sR;simp only[go_sem,seval,k1,k6,k7,Tc,V8,VN,q,SW,br];refine aE hs λi9 Y9 s9 a9 f9 z9 hs=>?_;simp only[go_sem,seval,a9,k1,k6,k7,Tc,V8,VN];generalize Tb:C' _ i9 _=Z9;replace a9:=Ti Tb;replace hs:=Te Tb hs z9;refine pS rfl (JN f _) ?_;simp only[go_sem,seval,k1,k6,k7,Tc,V8,VN];refine pR rfl (hg f _ Vh (hI _ _ h0 hs)) ?_;have r1:=rI i;unfold ir at SB;generalize tell f=t at*;obtain⟨x,is⟩:=t;simp only at SB;cases is
   .rw[aK (by simp)]at SB;apply sR;simp only[go_sem,seval,k1,k6,k7,Tc,V8,VN,r1];exact⟨_,by omega,i+1,by omega,rfl,hs,by simp[k1,k6,k7,Tc,V8,SB]⟩
   .cases v
    .rw[aI (by simp)]at SB;apply sR;simp only[go_sem,seval,k1,k6,k7,Tc,V8,VN,r1];exact⟨_,by omega,i+1,by omega,rfl,hs,by simp[k1,Tc,V8,SB]⟩
    .by_cases hb:x>u
     .have q2:(x>u)=True:=RX hb;rw[aI ⟨rfl,.inr hb⟩]at SB;apply sR;simp only[go_sem,seval,k1,k6,k7,Tc,V8,VN,r1,q2];exact⟨_,by omega,i+1,by omega,rfl,hs,by simp[k1,Tc,V8,SB]⟩
     .have q2:(x>u)=False:=H' hb;rw[aK (by simp[hb])]at SB;apply sR;simp only[go_sem,seval,k1,k6,k7,Tc,V8,VN,r1,q2];exact⟨_,by omega,i+1,by omega,rfl,hs,by simp[k1,k6,k7,Tc,V8,SB]⟩
  .have q:=qF u';obtain rfl:i=l.length:=by omega
   rw[iC]at k6 k7;apply sR;simp only[go_sem,seval,k1,k6,k7,Tc,V8,VN,q];exact aD.pure hs rfl
def Kz(a b:Int):Int:=IntKind.i64.wrap (BitVec.ofInt IntKind.i64.bits a &&& BitVec.ofInt IntKind.i64.bits b).toNat
def gk(Tl:Int)(f:Si):Int×Bool:=(f.y+f.h,decide (Kz f.side Tl≠0))
def Lz{i:Nat}(f:Si)(Tl:Int)(hf:f.ok){U:al}(q:U i=some ⟨3,1,[vI Tl]⟩):aG prog 180 [jv f,.ptr i 0 0] U λr Z'=>r=.Sa [vI (gk Tl f).1,.bool (gk Tl f).2]/\Z'=U:=by
 refine Qt.q ?_;refine ay.mix 5 ?_;have hs:=aa.refl U;apply sR;simp only[go_sem,seval,O2,jv];refine aE hs λi2 Z2 s2 a2 f2 z2 hs=>?_;replace q:=s2 _ _ q;simp only[go_sem,seval,a2,q];refine pJ rfl (zf f hf) ?_;apply sG;simp only[go_sem,seval,a2,q];exact aD.pure hs rfl
def AX(l:List Si)(Tl:Int)(hl:l.length<=1000000)(Se:∀f∈l,f.ok):aX prog 149 [bj l,vI Tl] (.Sa [vI (cF (gk Tl) l).1,.bool (cF (gk Tl) l).2]):=λU=>by
 refine Rd.q ?_;refine ay.mix 6 ?_;have hs:=aa.refl U;apply sR;simp only[go_sem,seval,Ns];refine aE hs λi3 Z3 s3 a3 f3 z3 hs=>?_;simp only[go_sem,seval,a3];refine pS rfl (Hf l hl 180 [.ptr i3 0 0] (gk Tl) (λJ=>J i3=some ⟨3,1,[vI Tl]⟩) (λ_ _ h h'=>h' _ _ h) (λf J hf h=>Lz f Tl (Se f hf) h) a3) ?_;simp only[go_sem,seval];exact aD.pure hs rfl
def ln(f:Si):Int×Bool:=(f.y,true)
def Li(f:Si)(hf:f.ok):aX prog 245 [jv f] (.Sa [vI (ln f).1,.bool (ln f).2]):=λU=>by
 refine Pj.q ?_;refine ay.mix 4 ?_;have hs:=aa.refl U;apply sR;simp only[go_sem,seval,Mr,jv];refine aE hs λi1 Z1 s1 a1 f1 z1 hs=>?_;simp only[go_sem,seval,a1];refine pS rfl (BP ⟨_,_,_,_⟩ hf.2.1 hf.2.2.2 _) ?_;simp only[go_sem,seval,aY];exact aD.pure hs rfl
def NG(l:List Si)(hl:l.length<=1000000)(Se:∀f∈l,f.ok):aX prog 228 [bj l] (.Sa [vI (cF ln l).1,.bool (cF ln l).2]):=λU=>by
 refine Rr.q ?_;refine mS 4 ?_;simp only[go_sem,seval,Oj];refine pS rfl (Hf l hl 245 [] ln (λ_=>True) (λ_ _ h _=>h) (λf J hf _=>Li f (Se f hf) J) trivial) ?_;simp only[go_sem,seval];exact aD.same rfl
end Go.Vc
