import Derived.Test.YtompjkkmfibkiaaGreatW6
import Derived.WalkKit
import Derived.ProofKit
import Derived.Deep.Slices
import Derived.ChangeArms
import Derived.WideKeyArgs
import Derived.Carry
import Derived.SizedLaws
set_option linter.all false
set_option maxHeartbeats 8000000
set_option maxRecDepth 100000
open Go.Proofs.Tryz
namespace Go.Vc
open Go.ChangeShapes Go.WideShapes Go.RowKit Go.Deep
def vL(P:Program)(total:Nat):Nat->List Field->Bool
 |off,[]=>off==total
 |off,f::fs=>f.offset==off&&vL P total (off+P.cellsOf f.type) fs
def zX(P:Program):Nat->TypeId->Bool
 |0,_=>false
 |n+1,t=>match P.underlying t with
  |some .bool|some (.int _)|some .string=>true
  |some (.slice e)=>zX P n e&&P.cellsOf e != 0
  |some (.struct fs)=>vL P (P.cellsOf t) 0 fs.toList&&fs.toList.all λf=>zX P n f.type
  |_=>false
def rowOf(agg:Bool)(cs:List V):V:=if agg then .agg cs else cs.getD 0 .undef
def rq(S:TypeId->List V->Prop):List Field->List V->Prop
 |[],vs=>vs=[]
 |f::fs,vs=>∃a b,vs=a++b/\S f.type a/\rq S fs b
def iH(P:Program):Nat->TypeId->List V->Prop
 |0,_,_=>False
 |n+1,t,vs=>match P.underlying t with
  |some .bool=>∃b,vs=[.bool b]
  |some (.int k)=>∃m,vs=[.int k m]/\(Lit.int k m).wf=true
  |some .string=>∃s:List UInt8,vs=[.str s]/\s.length<=reachBytes
  |some (.slice e)=>∃rows,vs=[.sl (P.cellsOf e) rows]/\rows.length*P.bytesOf e<=reachBytes/\∀r∈rows,∃cs,iH P n e cs/\r=rowOf (fS P e) cs
  |some (.struct fs)=>rq (iH P n) fs.toList vs
  |_=>False
def D3{α:Type}{Pr:Nat->α->Prop}:∀n,(∀i,i<n->∃r,Pr i r)->∃rows:List α,rows.length=n/\∀i r,rows[i]?=some r->Pr i r
 |0,_=>⟨[],rfl,λi r h=>by simp at h⟩
 |n+1,h=>by
  obtain⟨rows,h1,h2⟩:=D3 n λi hi=>h i (by omega);obtain⟨r,hr⟩:=h n (by omega);refine⟨rows++[r],by simp[h1],λi x hx=>?_⟩;rw[Na]at hx;split at hx
  .exact h2 i x hx
  .rename_i hi;have:i-rows.length=0:=by
    rcases Nat.eq_zero_or_pos (i-rows.length)with h0|h0
    .exact h0
    .rw[wW (by simp;omega)]at hx;cases hx
   rw[this]at hx;simp at hx;subst hx;have:i=n:=by omega
   subst this;exact hr
def vS{I:Mu}{ow:Nat->Prop}{w:World}{b off sz:Nat}:∀(rows:List V) (k:Nat),(∀i r,rows[i]?=some r->r.cells.length=sz/\aT I ow w r.cells b (off+(k+i)*sz))->bg I ow w rows b (off+k*sz) sz
 |[],_,_=>by simp[bg]
 |r::rs,k,h=>by
  have h0:=h 0 r rfl;simp only[bg];refine⟨h0.1,by rw[dM];simpa using h0.2,?_⟩;have e:off+k*sz+sz=off+(k+1)*sz:=by rw[Nat.add_mul];omega
  rw[e];refine vS rs (k+1) λi x hx=>?_;have:=h (i+1) x (by simpa using hx);rw[show k+1+i=k+(i+1) by omega];exact this
section
variable {H:Type} {enc:TypeId×Value->H} {P:Program} {w:World} {base:Nat} {spare:Nat->Bool} {held:Bool} {I:Mu} {ow:Nat->Prop}
def IF(P:Program)(I:Mu)(ow:Nat->Prop)(w:World)(N:Nat)(t:TypeId)(cs:List Value):Prop:=
 ∃vs,iH P N t vs/\aq I ow w vs cs/\∀u∈cs,u.oneCell'=true
def uT{S:TypeId->List V->Prop}{cs:List Value}:∀(fs:List Field) (off:Nat),vL P cs.length off fs=true->
 (∀f∈fs,∃vs,S f.type vs/\aq I ow w vs ((cs.drop f.offset).take (P.cellsOf f.type))/\∀u∈(cs.drop f.offset).take (P.cellsOf f.type),u.oneCell'=true)->
 ∃vs,rq S fs vs/\aq I ow w vs (cs.drop off)/\∀u∈cs.drop off,u.oneCell'=true
 |[],off,hc,_=>by
  simp only[vL,beq_iff_eq]at hc;refine⟨[],rfl,?_,?_⟩
  .rw[K7 (by omega)];simp[aq]
  .rw[K7 (by omega)];simp
 |f::fs,off,hc,h=>by
  simp only[vL,Ba,beq_iff_eq]at hc;obtain⟨a,h1,h2,h3⟩:=h f (by simp);obtain⟨b,h4,h5,h6⟩:=uT fs (off+P.cellsOf f.type) hc.2 λg hg=>h g (by simp[hg]);rw[hc.1]at h2 h3;have e:cs.drop off=(cs.drop off).take (P.cellsOf f.type)++cs.drop (off+P.cellsOf f.type):=by
   rw[<-List.drop_drop,ua]
  refine⟨a++b,⟨a,b,rfl,h1,h4⟩,?_,?_⟩
  .rw[e];exact h2.append h5
  .rw[e];intro u hu;rcases ec.1 hu with hu|hu
   .exact h3 u hu
   .exact h6 u hu
def qv{v:V}{x:Value}(h:E' I ow w v x):aq I ow w [v] [x]:=by simp only[aq];exact⟨x,[],rfl,h,rfl⟩
def tJ{t:TypeId}{fs:Array Field}(h:P.underlying t=some (.struct fs)):fS P t=true:=by simp[fS,h]
def nz{e:TypeId}{d:DataW H}:∀{l:List (DataW H)},d∈l->∀n∈d.weights P e,n∈DataW.weightsAll P e l
 |[],h,_,_=>by simp at h
 |x::l,h,n,hn=>by
  simp only[DataW.weightsAll,ec];rcases et.1 h with rfl|h
  .exact .inl hn
  .exact .inr (nz h n hn)
def nv(Wb:∀b,¬ow b):∀(N:Nat) (fuel:Nat) (t:TypeId) (cs:List Value) (x:DataW H×List MemPlace),zX P N t=true->(∀n∈x.1.weights P t,n<=reachBytes)->DataW.trod enc P w base spare held fuel t cs=some x->
 IF P I ow w N t cs
 |0,_,_,_,_,h,_,_=>by simp[zX]at h
 |N+1,fuel,t,cs,x,VE,hwt,hx=>by
  have hok':=VE;unfold zX at VE;unfold IF;simp only[iH];split at VE
  .rename_i ht;obtain⟨b,rfl,_⟩:=DataW.trod_bool ht hx;exact⟨[.bool b],⟨b,rfl⟩,qv (by simp[E']),by simp[Value.oneCell']⟩
  .rename_i k ht;obtain⟨m,rfl,_,hw⟩:=DataW.trod_int ht hx;exact⟨[.int k m],⟨m,rfl,hw⟩,qv (by simp[E']),by simp[Value.oneCell']⟩
  .rename_i ht;obtain⟨s,rfl,rfl,hw⟩:=DataW.trod_string ht hx;exact⟨[.str s.data.toList],⟨_,rfl,hwt _ (by simp[DataW.weights])⟩,qv (by simp[E']),by simp[Value.oneCell']⟩
  .rename_i e ht;simp only[Ba,bne_iff_ne,ne_eq]at VE;rcases open_slice ht hx with⟨rfl,_⟩|⟨a,len,cap,m,n,D,Pl,rfl,hb,hl,hm,hmm,rfl,hi⟩
   .exact⟨[.sl (P.cellsOf e) []],⟨[],rfl,by simp,by simp⟩,qv (by simp only[E'];exact⟨none,0,rfl,by simp,.inl trivial⟩),by simp[Value.oneCell']⟩
   .have Xc:len<=m:=by rw[hmm];split<;>omega
    simp only[DataW.weights,ht]at hwt;have hlen:len*P.bytesOf e<=reachBytes:=by
     have:=hwt _ (List.mem_cons_self ..);simp only[cO,List.length_range]at this;exact j2 (Nat.mul_le_mul_right _ (by omega)) this
    have hel:∀i,i<len->∃r:V,(∃cs,iH P N e cs/\r=rowOf (fS P e) cs)/\r.cells.length=P.cellsOf e/\∃Xw,aq I ow w r.cells Xw/\(∀u∈Xw,u.oneCell'=true)/\Xw.length=P.cellsOf e/\
     ∀j,j<P.cellsOf e->w.cell? ((a.add (i*P.cellsOf e)).add j)=Xw[j]?:=by
     intro i hi';obtain⟨Xw,h1,h2⟩:=hi i (by omega);obtain⟨_,Xg,XG⟩:=World.cells?_some h1;obtain⟨vs,h3,h4,h5⟩:=nv Wb N n e Xw _ VE.1 (λq hq=>hwt q (List.mem_cons_of_mem _ (List.mem_append_left _ (nz (gM.2 ⟨i,by simpa using hi',rfl⟩) q hq)))) h2;have ZV:vs.length=P.cellsOf e:=by rw[<-Xg,h4.length]
     have hcells:(rowOf (fS P e) vs).cells=vs:=by
      unfold rowOf;split
      .rfl
      .rename_i hna;cases N with
       |zero=>simp[iH]at h3
       |succ N'=>
        unfold iH at h3;split at h3
        .obtain⟨b,rfl⟩:=h3;rfl
        .obtain⟨b,rfl,_⟩:=h3;rfl
        .obtain⟨b,rfl,_⟩:=h3;rfl
        .obtain⟨b,rfl,_⟩:=h3;rfl
        .rename_i hs;exact absurd (tJ hs) hna
        .exact h3.elim
     exact⟨rowOf (fS P e) vs,⟨vs,h3,rfl⟩,by rw[hcells,ZV],Xw,by rw[hcells];exact h4,h5,Xg,XG⟩
    obtain⟨rows,hr1,hr2⟩:=D3 len hel;refine⟨[.sl (P.cellsOf e) rows],⟨rows,rfl,by rw[hr1];exact hlen,λr hr=>?_⟩,qv ?_,by simp[Value.oneCell']⟩
    .obtain⟨i,hi'⟩:=Kk hr;exact(hr2 i r hi').1
    .simp only[E'];refine⟨some a,cap,by rw[hr1],by omega,?_⟩;by_cases h0:len=0
     .left;exact pV (by omega)
     .right;have hfirst:∃r,rows[0]?=some r:=⟨rows[0]'(by omega),by simp⟩
      obtain⟨r0,hr0⟩:=hfirst;obtain⟨_,_,cs0,_,_,hcl0,hat0⟩:=hr2 0 r0 hr0;have hc0:=hat0 0 (by omega);rw[Zq6 (by omega)]at hc0;have hspot:a.spot=none:=by
       have:=World.cell?_spot hc0;simpa[Addr.add]using this
      obtain⟨b,off,spot⟩:=a;subst hspot;refine⟨b,off,rfl,Wb b,by omega,?_⟩;have:=vS (I:=I) (ow:=ow) (w:=w) (b:=b) (off:=off) (sz:=P.cellsOf e) rows 0 λi r hri=>?_
      .simpa using this
      .obtain⟨_,h1,Xw,h2,h3,h4,h5⟩:=hr2 i r hri;refine⟨h1,ly h2 h3 λj u hu=>?_⟩;have hj:j<P.cellsOf e:=by rw[<-h4];exact(pq.1 hu).1
       have:=h5 j hj;rw[hu,add_plain,add_plain]at this;rw[fU];exact this
  .rename_i fs ht;simp only[Ba]at VE;obtain⟨xs,n,_,rfl,hl,hxl,hf⟩:=DataW.trod_struct ht hx;simp only[DataW.weights,ht]at hwt;obtain⟨vs,h1,h2,h3⟩:=uT (I:=I) (ow:=ow) (w:=w) (P:=P) (S:=iH P N) (cs:=cs) fs.toList 0 (by rw[hl];exact VE.1) λf hfm=>by
    obtain⟨i,hi⟩:=Kk hfm;have hi':fs[i]?=some f:=by simpa using hi
    have B':i<xs.length:=by rw[hxl];exact(uh.1 hi').1
    have h1:=hf i f hi';rw[Zq6 B']at h1;exact nv Wb N n f.type _ _ (fM.1 VE.2 f hfm) (λq hq=>hwt q (DataW.weights_mem_each (j:=i) (t:=f.type) (d:=(xs[i]'B').1) (by simp[hi]) (by simp[B']) q hq)) h1
   exact⟨vs,h1,by simpa using h2,by simpa using h3⟩
  .cases VE
def nu(P:Program)(t:TypeId)(vs:List V):V:=if fS P t then .agg vs else vs.getD 0 .undef
def Ko(Wb:∀b,¬ow b){N:Nat}{t:TypeId}{v:Value}{d:DataW H}{p:List MemPlace}{r:Reach}{b0:Nat}(VE:zX P N t=true)(hwt:∀n∈d.weights P t,n<=reachBytes)(ZD:Value.okWide P w r b0 t v)(h:DataW.Trod enc P w base spare held t v d p):
 ∃vs,iH P N t vs/\E' I ow w (nu P t vs) v:=by
 obtain⟨fuel,hf⟩:=h;obtain⟨vs,h1,h2,h3⟩:=nv (I:=I) Wb N fuel t _ _ VE hwt hf;refine⟨vs,h1,?_⟩;cases N with
 |zero=>simp[iH]at h1
 |succ N'=>
  unfold iH at h1;have Wc:∀u:V,vs=[u]->v.cells=#[v]->fS P t=false->E' I ow w (nu P t vs) v:=by
   rintro u rfl hc ha;rw[hc]at h2;simp only[aq]at h2;obtain⟨x,xs,h4,h5,h6⟩:=h2;simp only[List.cons.injEq]at h4;simp only[nu,ha,gi,if_false];rw[h4.1];exact h5
  split at h1
  .rename_i ht;obtain⟨b,rfl⟩:=h1;obtain⟨x,rfl⟩:=okWide_bool ht ZD;exact Wc _ rfl rfl (by simp[fS,ht])
  .rename_i ht;obtain⟨b,rfl,_⟩:=h1;obtain⟨x,rfl⟩:=okWide_int ht ZD;exact Wc _ rfl rfl (by simp[fS,ht])
  .rename_i ht;obtain⟨b,rfl,_⟩:=h1;obtain⟨x,rfl⟩:=okWide_string ht ZD;exact Wc _ rfl rfl (by simp[fS,ht])
  .rename_i ht;obtain⟨b,rfl,_⟩:=h1;obtain⟨x,y,z,rfl⟩:=okWide_slice ht ZD;exact Wc _ rfl rfl (by simp[fS,ht])
  .rename_i ht;obtain⟨cs,rfl,_⟩:=okWide_struct ht ZD;simp only[nu,tJ ht,if_true,E'];exact⟨cs.toList,by simp,by simpa[Value.cells]using h2,by simpa[Value.cells]using h3⟩
  .exact h1.elim
def yM(P:Program)(N:Nat):List TypeId->List V->Prop
 |[],us=>us=[]
 |t::ts,us=>∃vs us',us=nu P t vs::us'/\iH P N t vs/\yM P N ts us'
def Ad(Wb:∀b,¬ow b){N:Nat}{r:Reach}{b0:Nat}:∀{ts:List TypeId} {vs:List Value} {ds:List (DataW H)} {p:List MemPlace},(∀t∈ts,zX P N t=true)->(∀n∈DataW.weightsEach P ts ds,n<=reachBytes)->
 (∀(j:Nat) t v,ts[j]?=some t->vs[j]?=some v->Value.okWide P w r b0 t v)->DataW.TrodAll enc P w base spare held ts vs ds p->∃us,yM P N ts us/\aq I ow w us vs
 |[],vs,ds,p,_,_,_,h=>by
  cases vs<;>cases ds<;>simp[DataW.TrodAll]at h;exact⟨[],rfl,by simp[aq]⟩
 |t::ts,vs,ds,p,VE,hwt,ZD,h=>by
  obtain⟨v,vs',d,ds',p',q,rfl,rfl,rfl,h1,h2⟩:=trodAll_cons h;simp only[DataW.weightsEach,ec]at hwt;obtain⟨cs,g1,g2⟩:=Ko (I:=I) (b0:=b0) Wb (VE t (by simp)) (λq hq=>hwt q (.inl hq)) (ZD 0 t v rfl rfl) h1;obtain⟨us,g3,g4⟩:=Ad (b0:=b0) Wb (λu hu=>VE u (by simp[hu])) (λq hq=>hwt q (.inr hq)) (λj u x hj hx=>ZD (j+1) u x (by simpa using hj) (by simpa using hx)) h2;exact⟨_::us,⟨cs,us,rfl,g1,g3⟩,by simp only[aq];exact⟨v,vs',rfl,g2,g4⟩⟩
def oX(hl:laidOutB P=true):∀{ts:List TypeId} {vs:List Value} {ds:List (DataW H)} {p:List MemPlace} {W W':World} {sp:Nat->Bool},(∀t∈ts,P.readableRec t=true/\t<P.types.size)->
 DataW.TrodAll enc P W 0 (λ_=>true) true ts vs ds p->Below W.heap.size W W'->(∀x∈p,x.block<W.heap.size)->(∀x∈p,sp x.block=true)->DataW.TrodAll enc P W' 0 sp true ts vs ds p
 |[],vs,ds,p,W,W',sp,_,h,_,_,_=>by
  cases vs<;>cases ds<;>simp[DataW.TrodAll]at h|-;exact h
 |t::ts,vs,ds,p,W,W',sp,ht,h,hb,B',hsp=>by
  obtain⟨v,vs',d,ds',p',q,rfl,rfl,rfl,h1,h2⟩:=trodAll_cons h;refine⟨p',q,WideElems.Trod_stays hl (ht t (by simp)).1 (ht t (by simp)).2 h1 (λx hx=>hb.same (B' x (by simp[hx]))) (λx hx=>hsp x (by simp[hx])),?_,rfl⟩;exact oX hl (λu hu=>ht u (by simp[hu])) h2 hb (λx hx=>B' x (by simp[hx])) (λx hx=>hsp x (by simp[hx]))
end
def xi{H:Type}{enc:TypeId×Value->H}{P:Program}{f:Func}{s:ChangeSpec}{apart fresh handsOn again:Bool}{W W':World}{args:Array Value}{v:Value}{ds gs:List (DataW H)}{before pa pv:List MemPlace}
 (hW:DataW.Whole enc P f.params.toList s.vars apart W args.toList ds gs before)
 (hres:∀(b:Nat) (sp:Nat->Bool) (hd:Bool),DataW.TrodAll enc P W' b sp hd f.resultTypes.toList (v.resultList f.resultTypes.size) (s.fn H (ds++gs)).results [])
 (WK:∀sp:Nat->Bool,(∀p∈before,sp p.block=true)->DataW.TrodAll enc P W' 0 sp true f.params.toList args.toList (s.fn H (ds++gs)).args pa)
 (hvars:∀sp:Nat->Bool,(∀p∈before,sp p.block=true)->DataW.TrodVars enc P W' sp s.vars (s.fn H (ds++gs)).vars pv)
 (hps:before=pa++pv)(hb:Below W.heap.size W W')
 (VE:∀(j:Nat) (t:TypeId) (r:Value),f.resultTypes[j]?=some t->(v.resultList f.resultTypes.size)[j]?=some r->Value.okWide P W' .any 0 t r):
 s.post enc P f apart fresh handsOn again W args v W':=by
 have B':∀p∈before,p.block<W.heap.size:=λp hp=>hW.lt p hp;have hold:∀p∈before,(λb=>decide (b<W.heap.size)) p.block=true:=λp hp=>by simpa using B' p hp
 refine⟨ds,gs,before,[],pa,pv,hW,hres _ _ _,WK _ hold,hvars _ hold,World.keptBut_mono (λp hp=>⟨hp,?_⟩) (hb.frame (·∈before)),λ_=>?_⟩
 .rw[hps,ec]at hp;exact Or.inr hp
 .obtain⟨_,_,_,_,_,hz,hn⟩:=hW;refine⟨VE,_,_,([]++pa)++pv,⟨[]++pa,pv,trodAll_append (WK _ (λ_ _=>rfl)) (hres _ _ _),hvars _ (λ_ _=>rfl),rfl,?_,?_⟩,?_⟩
  .intro b off hp;have hin:MemPlace.cell b off∈before:=by rw[hps];simpa using hp
   rw[hb.frozen (B' _ hin)];exact hz b off hin
  .intro ha;have:=hn ha;rw[hps]at this;simpa using this
  .intro p hp _;rw[hps];simpa using hp
def Gt{H:Type}{enc:TypeId×Value->H}{P:Program}{f:Func}{i:FuncId}{s:ChangeSpec}{N:Nat}(YE:P.funcs[i]?=some f)(hl:laidOutB P=true)
 (hts:f.params.toList.all (λt=>zX P N t&&(P.readableRec t&&decide (t<P.types.size)))=true)(hvars:s.vars=[]){tb:TypeId}(hres:f.resultTypes=#[tb])(htb:P.underlying tb=some .bool)
 (hfn:∀ds,ds.length=f.params.size->s.fn H ds=⟨[.lit (.bool true)],ds,[]⟩)
 (hlaw:∀us,yM P N f.params.toList us->aL P i us (.bool true))
 {apart fresh handsOn again:Bool}{W:World}{base:Nat}{args:Array Value}{ds gs:List (DataW H)}{before:List MemPlace}
 (ZD:∀(j:Nat) t v,f.params[j]?=some t->args[j]?=some v->Value.okWide P W .any base t v)
 (hW:DataW.Whole enc P f.params.toList s.vars apart W args.toList ds gs before)(hvt:s.plain.varTypes P=[])
 (Xr:(DataW.weightsEach P (f.params.toList++s.plain.varTypes P) (ds++gs)).all (·<=reachBytes)=true)(hO:Pm W):
 Calls P i args W λe W'=>∃v,e=.returned v/\s.post enc P f apart fresh handsOn again W args v W':=by
 have hW':=hW;obtain⟨p,q,hA,hV,rfl,hfz,WQ⟩:=hW;have hts':=fM.1 hts;simp only[Ba,X7]at hts';rw[hvars]at hV;have hnoV:gs=[]/\q=[]:=by
  cases gs with
  |nil=>exact⟨rfl,by simpa[DataW.TrodVars]using hV⟩
  |cons g gs=>simp[DataW.TrodVars]at hV
 obtain⟨rfl,rfl⟩:=hnoV;have Wb:∀b,¬aE (λ_=>Pl.dI) fW b:=λb ⟨_,_,_,_,h,_⟩=>by simp[fW]at h
 obtain⟨us,YO,XJ⟩:=Ad (I:=λ_=>Pl.dI) (ow:=aE (λ_=>Pl.dI) fW) (b0:=base) (r:=.any) Wb (λt ht=>(hts' t ht).1)
  (by rw[hvt,jt,jt]at Xr;intro n hn;simpa using fM.1 Xr n hn) (λj t v hj hv=>ZD j t v (by simpa using hj) (by simpa using hv)) hA
 have Yo:Sat W (aE (λ_=>Pl.dI) fW) (λ_=>Pl.dI) fW W:=
  ⟨Wa _,rfl,rfl,rfl,λ_ _ _=>rfl,⟨0,λ_ _=>rfl⟩,λ_ _ _ _ _ _ _ _ _ h=>by simp[fW]at h,λ_ _ h=>by simp[fW]at h,λb hb=>(Wb b hb).elim,⟨W,hO,Wa _,λi _=>⟨Wb i,rfl⟩⟩⟩
 have W5:=(hlaw us YO fW).2 (λ_=>Pl.dI) W args.toList Yo XJ;rw[Array.toArray_toList]at W5;refine W5.mono ?_;rintro e W' ⟨r,Z',Y',val,rfl,⟨rfl,rfl⟩,_,VW,hr⟩;simp only[E']at hr;subst hr;have hbel:Below W.heap.size W W':=⟨VW.os,VW.tape,VW.output,VW.size,λk hk=>VW.same k hk (Wb k)⟩
 have hlen:ds.length=f.params.size:=by
  have key:∀{ts:List TypeId} {vs:List Value} {ds:List (DataW H)} {p:List MemPlace},DataW.TrodAll enc P W 0 (λ_=>true) true ts vs ds p->ds.length=ts.length:=by
   intro ts
   induction ts with
   |nil=>intro vs ds p h;cases vs<;>cases ds<;>simp[DataW.TrodAll]at h|-
   |cons t ts ih=>
    intro vs ds p h;obtain⟨_,_,_,_,_,_,_,rfl,_,_,h2⟩:=trodAll_cons h;simp[ih h2]
  simpa using key hA
 have hfn':=hfn ds hlen;refine⟨.bool true,rfl,xi (pa:=p) (pv:=[]) hW' ?_ ?_ ?_ rfl hbel ?_⟩
 .intro b sp hd;rw[jt,hfn',hres];exact⟨[],[],shut_bool htb _,rfl,rfl⟩
 .intro sp hsp;rw[jt,hfn'];refine oX hl (λt ht=>(hts' t ht).2) hA hbel (λx hx=>by simpa using hW'.lt x (by simpa using hx)) (λx hx=>hsp x (by simpa using hx))
 .intro sp _;rw[jt,hfn',hvars];rfl
 .exact ok_one hres rfl (okWide_bool_mk htb _)
open Go.Proofs
def uw{α:Type}{f:α->V}{p:α->Prop}:∀{rows:List V},(∀r∈rows,∃x,r=f x/\p x)->∃l:List α,rows=l.map f/\∀x∈l,p x
 |[],_=>⟨[],rfl,by simp⟩
 |r::rs,h=>by
  obtain⟨x,rfl,hx⟩:=h r (by simp);obtain⟨l,rfl,hl⟩:=uw λq hq=>h q (List.mem_cons_of_mem _ hq);exact⟨x::l,rfl,by simpa using⟨hx,hl⟩⟩
def inI(m:Int):Prop:=-9223372036854775808<=m/\m<=9223372036854775807
def Xh.inI(s:Xh):Prop:=Vc.inI s.top/\Vc.inI s.V0/\Vc.inI s.VJ/\Vc.inI s.T'/\Vc.inI s.Wf/\Vc.inI s.VK/\Vc.inI s.VY/\Vc.inI s.head/\Vc.inI s.before/\Vc.inI s.after/\Vc.inI s.inside/\Vc.inI s.clear
def Nd.real(x:Nd):Prop:=(Vc.inI x.kind/\Vc.inI x.size/\x.st.inI/\Vc.inI x.line/\Vc.inI x.space/\Vc.inI x.side/\Vc.inI x.w/\Vc.inI x.h)/\x.words.length<=17592186043904/\∀n∈x.words,Vc.inI n
section
variable {P:Program} {n:Nat} {t:TypeId} {vs:List V}
def IQ{k:IntKind}(ht:P.underlying t=some (.int k))(h:iH P (n+1) t vs):∃m,vs=[.int k m]/\(Lit.int k m).wf=true:=by
 simpa only[iH,ht]using h
def pA{e:TypeId}(ht:P.underlying t=some (.slice e))(h:iH P (n+1) t vs):∃rows,vs=[.sl (P.cellsOf e) rows]/\rows.length*P.bytesOf e<=reachBytes/\∀r∈rows,∃cs,iH P n e cs/\r=rowOf (fS P e) cs:=by
 simpa only[iH,ht]using h
def j4{fs:Array Field}(ht:P.underlying t=some (.struct fs))(h:iH P (n+1) t vs):rq (iH P n) fs.toList vs:=by
 simpa only[iH,ht]using h
end
def La:prog.cellsOf 3=1:=by kernel_rfl
def Gw:prog.cellsOf 48=20:=by kernel_rfl
def LX:fS prog 3=false:=by kernel_rfl
def Mr:fS prog 22=false:=by kernel_rfl
def MT:fS prog 48=true:=by kernel_rfl
def Ky:prog.bytesOf 3=8:=by kernel_rfl
def G6:prog.bytesOf 48=176:=by kernel_rfl
def cu{n:Nat}{vs:List V}(h:iH prog (n+1) 3 vs):∃m,vs=[vI m]/\inI m:=by
 obtain⟨m,h,hw⟩:=IQ underlying3 h;exact⟨m,h,by simp[Lit.wf,IntKind.min,IntKind.max,IntKind.signed,IntKind.bits]at hw;unfold inI;omega⟩
def G7{n:Nat}{vs:List V}(h:iH prog (n+2) 46 vs):∃l,vs=[bb l]/\l.length<=17592186043904/\∀n∈l,inI n:=by
 obtain⟨rows,rfl,hl,h⟩:=pA underlying46 h;obtain⟨l,rfl,hp⟩:=uw (f:=vI) (p:=inI) λr hr=>by
  obtain⟨cs,hc,rfl⟩:=h r hr;obtain⟨m,rfl,hm⟩:=cu hc;exact⟨m,by rw[LX];rfl,hm⟩
 rw[Ky]at hl;simp only[cO,reachBytes]at hl;exact⟨l,by rw[La];rfl,by omega,hp⟩
def Ga{n:Nat}{vs:List V}(h:iH prog (n+2) 45 vs):∃s:Xh,vs=s.cells/\s.inI:=by
 replace h:=j4 underlying45 h;simp only[rq]at h;obtain⟨_,_,rfl,h1,_,_,rfl,h2,_,_,rfl,h3,_,_,rfl,h4,_,_,rfl,h5,_,_,rfl,h6,_,_,rfl,h7,_,_,rfl,h8,_,_,rfl,h9,_,_,rfl,h10,_,_,rfl,h11,_,_,rfl,h12,rfl⟩:=h;obtain⟨m1,rfl,g1⟩:=cu h1;obtain⟨m2,rfl,g2⟩:=cu h2;obtain⟨m3,rfl,g3⟩:=cu h3;obtain⟨m4,rfl,g4⟩:=cu h4;obtain⟨m5,rfl,g5⟩:=cu h5;obtain⟨m6,rfl,g6⟩:=cu h6;obtain⟨m7,rfl,g7⟩:=cu h7;obtain⟨m8,rfl,g8⟩:=cu h8;obtain⟨m9,rfl,g9⟩:=cu h9;obtain⟨m10,rfl,g10⟩:=cu h10;obtain⟨m11,rfl,g11⟩:=cu h11;obtain⟨m12,rfl,g12⟩:=cu h12;exact⟨⟨m1,m2,m3,m4,m5,m6,m7,m8,m9,m10,m11,m12⟩,rfl,g1,g2,g3,g4,g5,g6,g7,g8,g9,g10,g11,g12⟩
def G9{n:Nat}{vs:List V}(h:iH prog (n+3) 48 vs):∃x:Nd,vs=x.cells/\x.real:=by
 replace h:=j4 underlying48 h;simp only[rq]at h;obtain⟨_,_,rfl,h1,_,_,rfl,h2,_,_,rfl,h3,_,_,rfl,h4,_,_,rfl,h5,_,_,rfl,h6,_,_,rfl,h7,_,_,rfl,h8,_,_,rfl,h9,rfl⟩:=h;obtain⟨m1,rfl,g1⟩:=cu h1;obtain⟨m2,rfl,g2⟩:=cu h2;obtain⟨s,rfl,g3⟩:=Ga h3;obtain⟨m4,rfl,g4⟩:=cu h4;obtain⟨m5,rfl,g5⟩:=cu h5;obtain⟨ws,rfl,g6,g6'⟩:=G7 h6;obtain⟨m7,rfl,g7⟩:=cu h7;obtain⟨m8,rfl,g8⟩:=cu h8;obtain⟨m9,rfl,g9⟩:=cu h9;exact⟨⟨m1,m2,s,m4,m5,ws,m7,m8,m9⟩,rfl,⟨g1,g2,g3,g4,g5,g7,g8,g9⟩,g6,g6'⟩
def FQ{n:Nat}{vs:List V}(h:iH prog (n+4) 22 vs):∃l,vs=[aF l]/\l.length<=800000000000/\∀x∈l,x.real:=by
 obtain⟨rows,rfl,hl,h⟩:=pA underlying22 h;obtain⟨l,rfl,hp⟩:=uw (f:=gm) (p:=Nd.real) λr hr=>by
  obtain⟨cs,hc,rfl⟩:=h r hr;obtain⟨x,rfl,hx⟩:=G9 hc;exact⟨x,by rw[MT];rfl,hx⟩
 rw[G6]at hl;simp only[cO,reachBytes]at hl;exact⟨l,by rw[Gw];rfl,by omega,hp⟩
def FU{n:Nat}{vs:List V}(h:iH prog (n+4) 22 vs):∃l,nu prog 22 vs=aF l/\l.length<=800000000000/\∀x∈l,x.real:=by
 obtain⟨l,rfl,h1,h2⟩:=FQ h;exact⟨l,by unfold nu;rw[Mr];rfl,h1,h2⟩
open Go.Proofs
def nM(l:List Nd):∀(m a e:Nat),e-a<m->e<=l.length->bS l a e=true->∀k,a<=k->(h:k<e)->(h2:k<l.length)->bS l (k+1) (k+l[k].size.toNat)=true
 |0,_,_,h,_,_=>by omega
 |m+1,a,e,hm,he,hr=>by
  intro k hk hke h2;have hae:a<e:=by omega
  have ha:a<l.length:=by omega
  rw[bS,dif_pos hae]at hr;have hga:l[a]?=some l[a]:=by simp[ha]
  rw[hga]at hr;simp only at hr;split at hr
  .rename_i hx;simp only[Ba]at hr;obtain⟨⟨h3,h4⟩,h5⟩:=hr;by_cases hka:k=a
   .subst hka;exact h4
   .by_cases hin:k<a+l[a].size.toNat
    .exact nM l m (a+1) (a+l[a].size.toNat) (by omega) (by omega) h4 k (by omega) hin h2
    .exact nM l m (a+l[a].size.toNat) e (by omega) he h5 k (by omega) hke h2
  .cases hr
def Wr(x:Nd):Int:=if x.kind=1 then x.st.top+x.st.V0+x.st.VJ+x.st.T'+x.st.head else if x.kind=2 then x.line*x.words.length else x.h
def pof(x:Nd):Int:=if x.kind=1 then 0 else if x.kind=2 then x.words.length else 1
def eY:List Nd->Int
 |[]=>0
 |x::l=>Wr x+eY l
def lL:List Nd->Int
 |[]=>0
 |x::l=>pof x+lL l
def B2(a b:List Nd):eY (a++b)=eY a+eY b:=by
 induction a with
 |nil=>simp[eY]
 |cons x a ih=>simp only[List.cons_append,eY,ih];omega
def Ak(a b:List Nd):lL (a++b)=lL a+lL b:=by
 induction a with
 |nil=>simp[lL]
 |cons x a ih=>simp only[List.cons_append,lL,ih];omega
def wa{x:Nd}(h:x.ok=true):0<=Wr x:=by
 obtain⟨p1,p2,p3,p4,p5,p6⟩:=jH h;unfold Wr;split
 .rename_i hk;obtain⟨q1,q2,q3,q4,q5⟩:=p6 hk;omega
 .split
  .exact Int.mul_nonneg p2 (by omega)
  .exact p4
def Aj{l:List Nd}(h:l.all Nd.ok=true):0<=eY l:=by
 induction l with
 |nil=>simp[eY]
 |cons x l ih=>
  simp only[mV,Ba]at h;have:=wa h.1;have:=ih h.2;simp only[eY];omega
def dm(l:List Nd):Nat->Int
 |0=>0
 |i+1=>match l[i]? with
  |some x=>if x.kind=1 then max (dm l i) (fc l i (i+1))else dm l i
  |none=>dm l i
def GY{l:List Nd}{i:Nat}{x:Nd}{s:Sm}(hx:x.ok=true)(hs:0<=s.VF/\s.VF<=1099511627777):(mU l i x s).VF=min (s.VF+Wr x) 1099511627777/\(mU l i x s).pieces=s.pieces+pof x/\
 (mU l i x s).depth=(if x.kind=1 then max s.depth (fc l i (i+1))else s.depth)/\(mU l i x s).nodes=s.nodes:=by
 obtain⟨p1,p2,p3,p4,p5,p6⟩:=jH hx;unfold mU Wr pof;by_cases hk:x.kind=1
 .obtain⟨q1,q2,q3,q4,q5⟩:=p6 hk;simp only[hk,if_true,ku];refine⟨by omega,by omega,trivial,trivial⟩
 .by_cases Xf:x.kind=2
  .rw[aD hk,av Xf,aD hk,av Xf,aD hk,av Xf,aD hk];simp only[];refine⟨zN hs p2 _,trivial,trivial,trivial⟩
  .rw[aD hk,aD Xf,aD hk,aD Xf,aD hk,aD Xf,aD hk];exact⟨rfl,rfl,rfl,rfl⟩
def wA(l:List Nd)(VE:l.all Nd.ok=true):∀i,i<=l.length->(iI l ⟨0,0,l.length,0⟩ i)=⟨dm l i,lL (l.take i),l.length,min (eY (l.take i)) 1099511627777⟩
 |0,_=>by simp[iI,dm,lL,eY];omega
 |i+1,hi=>by
  have ih:=wA l VE i (by omega);have hg:l[i]?=some l[i]:=by simp[show i<l.length by omega]
  have hx:=fM.1 VE _ (Ws (show i<l.length by omega));have ht:l.take (i+1)=l.take i++[l[i]]:=XH (by omega);have hn:0<=eY (l.take i):=Aj (fM.2 λx hx=>fM.1 VE x (rQ hx));have hh:=wa hx;simp only[iI,hg,ih];obtain⟨g1,g2,g3,g4⟩:=GY (l:=l) (i:=i) (s:=⟨dm l i,lL (l.take i),l.length,min (eY (l.take i)) 1099511627777⟩) hx ⟨by simp only;omega,by simp only;omega⟩;generalize mU l i l[i] ⟨dm l i,lL (l.take i),l.length,min (eY (l.take i)) 1099511627777⟩=r at*;obtain⟨r1,r2,r3,r4⟩:=r;simp only at g1 g2 g3 g4;subst g1 g2 g3 g4;simp only[dm,hg,ht,Ak,B2,lL,eY,Sm.mk.injEq,Int.add_zero,true_and];omega
open Go.Proofs
def V.flat:V->Bool
 |.agg vs=>vs.all V.lone
 |v=>v.lone
def V.DP:V->Bool
 |.VG vs=>vs.all V.flat
 |v=>v.flat
def aq.lone{I Y':Mu}{ow XC:Nat->Prop}{w w':World}:∀{vs:List V} {l:List Value},vs.all V.lone=true->aq I ow w vs l->aq Y' XC w' vs l
 |[],l,_,h=>by simpa[aq]using h
 |v::vs,l,hv,h=>by
  simp only[mV,Ba]at hv;simp only[aq]at h|-;obtain⟨x,xs,rfl,h1,h2⟩:=h;exact⟨x,xs,rfl,E'.lone hv.1 h1,aq.lone hv.2 h2⟩
def E'.flat{I Y':Mu}{ow XC:Nat->Prop}{w w':World}{v:V}{x:Value}(hv:v.flat=true)(h:E' I ow w v x):E' Y' XC w' v x:=by
 cases v<;>try exact E'.lone hv h
 rename_i vs;simp only[E']at h|-;obtain⟨VI,rfl,h1,h2⟩:=h;exact⟨VI,rfl,aq.lone hv h1,h2⟩
def aq.flat{I Y':Mu}{ow XC:Nat->Prop}{w w':World}:∀{vs:List V} {l:List Value},vs.all V.flat=true->aq I ow w vs l->aq Y' XC w' vs l
 |[],l,_,h=>by simpa[aq]using h
 |v::vs,l,hv,h=>by
  simp only[mV,Ba]at hv;simp only[aq]at h|-;obtain⟨x,xs,rfl,h1,h2⟩:=h;exact⟨x,xs,rfl,E'.flat hv.1 h1,aq.flat hv.2 h2⟩
def E'.DP{I Y':Mu}{ow XC:Nat->Prop}{w w':World}{v:V}{x:Value}(hv:v.DP=true)(h:E' I ow w v x):E' Y' XC w' v x:=by
 cases v<;>try exact E'.flat hv h
 rename_i vs;simp only[E']at h|-;obtain⟨VI,rfl,h1⟩:=h;exact⟨VI,rfl,aq.flat hv h1⟩
def aL.ue{P:Program}{f:FuncId}{args args':List V}{v:V}{U:ad}(hw:WkL U fW args args')(h:aL P f args' v)(hv:v.DP=true):
 au P f args U λr Z'=>r=v/\Z'=U:=by
 refine⟨(h fW).1,?_⟩;intro I w VI hs hr;have Wm:Sat w (aE I fW) I fW w:=by
  have:=hs.drop (eu U);exact⟨Wa _,rfl,rfl,rfl,λ_ _ _=>rfl,this.fin,this.inj,this.obj,λb hb _=>hb,this.lU⟩
 refine((h fW).2 I w VI Wm (WkL.all hs hw hr)).mono ?_;rintro e w' ⟨r,Z',Y',val,rfl,⟨rfl,rfl⟩,hle,VW,XJ⟩;have Wb:∀b,¬aE I fW b:=λb ⟨_,_,_,_,h,_⟩=>by simp[fW]at h
 have Xa:∀b,b<w.heap.size->w'.heap[b]?=w.heap[b]?:=λb hb=>VW.same b hb (Wb b);have W3:∀id o,U id=some o->Y' id=I id:=λid o ho=>hle id (λe=>by
  have:=hs.obj id o ho;rw[e]at this;exact this)
 have hown:∀b,aE Y' U b->aE I U b:=λb ⟨id,o,sz,cap,h1,h2⟩=>⟨id,o,sz,cap,h1,W3 id o h1▸h2⟩
 have hk:di (aE I U) (aE Y' U) w w':=λb hb hn=>⟨λho=>hn (hown b ho),Xa b hb⟩
 refine⟨_,U,Y',val,rfl,⟨rfl,rfl⟩,hle,?_,E'.DP hv XJ⟩;refine⟨VW.size,VW.os,VW.tape,VW.output,λb hb _=>Xa b hb,VW.fin,?_,?_,λb hb _=>hown b hb,hs.Za⟩
 .intro id Xn o o' b sz cap XP W2 h1 h2 h3 h4;exact hs.inj id Xn o o' b sz cap XP W2 h1 h2 (W3 id o h1▸h3) (W3 Xn o' h2▸h4)
 .intro id o ho;rw[W3 id o ho];refine(hs.obj id o ho).mono hle hk VW.size λb sz cap hp=>Xa b ?_;exact aE.lt hs ⟨id,o,sz,cap,ho,hp⟩
open Go.Proofs
def cA{l:List Nd}{a e:Nat}(he:e<=l.length)(h:bS l a e=true){k:Nat}(h1:a<=k)(h2:k<e):(k:Int)+VM l k<=e/\1<=VM l k:=by
 have:=iY l (e-a+1) a e (by omega) he h k h1 h2 (by omega);rw[iB (by omega)];omega
def df{l:List Nd}{a e:Nat}(he:e<=l.length)(h:bS l a e=true)(hae:a<e):bS l (a+(VM l a).toNat) e=true/\bS l (a+1) (a+(VM l a).toNat)=true:=by
 have ha:a<l.length:=by omega
 rw[bS,dif_pos hae]at h;simp only[Zq6 ha]at h;rw[iB ha];split at h
 .simp only[Ba]at h;exact⟨h.2,h.1.2⟩
 .cases h
def x8{l:List Nd}{b:Nat}(hb:b<l.length):∀k,k<=b->(∀i,i<k->(i:Int)+VM l i<=b)->l1 l b k=-1
 |0,_,_=>rfl
 |k+1,hk,h=>by
  rw[l1,aD,x8 hb k (by omega) (λi hi=>h i (by omega))];have:=h k (by omega);simp only[cB,Ba,X7,not_and];intro _ _ _;simp;omega
def Dx{l:List Nd}{b p:Nat}(hb:b<l.length)(hpb:(b:Int)<p+VM l p):∀k,p<k->k<=b->(∀i,p<i->i<k->(i:Int)+VM l i<=b)->l1 l b k=p
 |0,h,_,_=>by omega
 |k+1,h,hk,hh=>by
  by_cases e:k=p
  .subst e;rw[l1,av];simp only[cB,Ba,X7,mO];simp;omega
  .rw[l1,aD,Dx hb hpb k (by omega) (by omega) (λi h1 h2=>hh i h1 (by omega))];have:=hh k (by omega) (by omega);simp only[cB,Ba,X7,not_and];intro _ _ _;simp;omega
def Mw(l:List Nd)(p:Int)(a e:Nat):Prop:=(p=-1/\a=0)\/∃q:Nat,p=q/\a=q+1/\(e:Int)=q+VM l q
open Go.Proofs
def Cm(l:List Nd)(hl:ep l)(hb:Wg l=true):aL prog 128 [aF l] (.agg [aF l]):=λU=>by
 refine Us.q ?_;refine mS 3 ?_;simp only[go_sem,seval,OM];refine aA λid2 Z1 s1 a2 f2=>?_;simp only[go_sem,seval,a2];refine pS rfl (EE l hl _) ?_;simp only[go_sem,seval,hb,a2,aF];refine ak.pure (s1.az f2) rfl
def MV(l:List Nd)(a:Int):aL prog 226 [aF l,vI a] (.bool (mO l a)):=λU=>by
 refine SA.q ?_;refine mS 6 ?_;simp only[go_sem,seval,ax,aB,Qp,bU];refine And.intro (λh=>?_) (λh=>?_)
 .refine ak.same ?_;simp[mO];omega
 .refine ak.same ?_;simp[mO];omega
def yp(l:List Nd)(hl:ep l)(hb:Wg l=true)(a:Nat)(ha:a<l.length):aL prog 227 [aF l,vI a] (vI (dh l a)):=λU=>by
 have hl1:=hl.1;refine SV.q ?_;refine mS 6 ?_;simp only[go_sem,seval,ax,aB,RQ];refine⟨ae,?_⟩;refine ai.loop (λm st=>∃(k:Nat),k<=a/\m=k/\dh l a=l1 l a k/\st.U=U/\st.s 0=aF l/\st.s 1=vI a/\st.s 5=vI ((k:Int)-1)) a ?_ ?_
 .exact⟨a,by omega,rfl,rfl,rfl,rfl,rfl,rfl⟩
 .rintro m ⟨s,Z'⟩ ⟨k,hk,rfl,heq,V7,h0,h1,h5⟩;simp only at V7 h0 h1 h5;subst V7;refine mS 6 ?_;simp only[go_sem,seval,ax,aB,h0,h1,h5];refine And.intro (λh=>?_) (λh=>?_)
  .obtain⟨k,rfl⟩:∃j,m=j+1:=⟨m-1,by omega⟩
   have e1:((k+1:Nat):Int)-1=k:=by omega
   have B':k<l.length:=by omega
   have Xr:=rA hb B';have hse:=iB B';have hx:=fi (U:=Z') B';simp only[go_sem,seval,ax,aB,e1,hx,Nd.cells,h0,h1,h5];rw[<-hse];refine⟨ae,And.intro (λhc=>?_) (λhc=>?_)⟩
   .refine ak.same ?_;rw[heq,l1,av];simp only[cB,Ba,X7,mO];simp;omega
   .refine⟨ae,_,?_,k,by omega,rfl,?_,rfl⟩
    .omega
    .rw[heq,l1,aD];simp only[cB,Ba,X7,mO];simp;omega
  .have hk0:m=0:=by omega
   subst hk0;refine ak.same ?_;rw[heq];rfl
end Go.Vc
