/- Part 6 of the library of this proof. -/
import Derived.Test.YtdaelobhgmdoeaaGreatW5
import Derived.WalkKit
import Derived.ProofKit
import Derived.Deep.Slices
import Derived.ChangeArms
import Derived.WideKeyArgs
import Derived.Carry
import Derived.SizedLaws
set_option linter.all false
set_option maxHeartbeats 8000000
set_option maxRecDepth 100000
namespace Go.Vc
open Go.ChangeShapes Go.WideShapes Go.RowKit Go.Deep
def wO(P:Program)(total:Nat):Nat->List Field->Bool
 |off,[]=>off==total
 |off,f::fs=>f.offset==off&&wO P total (off+P.cellsOf f.type) fs
def Bt(P:Program):Nat->TypeId->Bool
 |0,_=>false
 |n+1,t=>match P.underlying t with
  |some .bool|some (.int _)|some .string=>true
  |some (.slice e)=>Bt P n e&&P.cellsOf e != 0
  |some (.struct fs)=>wO P (P.cellsOf t) 0 fs.toList&&fs.toList.all λf=>Bt P n f.type
  |_=>false
def rowOf(agg:Bool)(cs:List V):V:=if agg then .agg cs else cs.getD 0 .undef
def uv(S:TypeId->List V->Prop):List Field->List V->Prop
 |[],vs=>vs=[]
 |f::fs,vs=>∃a b,vs=a++b/\S f.type a/\uv S fs b
def gO(P:Program):Nat->TypeId->List V->Prop
 |0,_,_=>False
 |n+1,t,vs=>match P.underlying t with
  |some .bool=>∃b,vs=[.bool b]
  |some (.int k)=>∃m,vs=[.int k m]/\(Lit.int k m).wf=true
  |some .string=>∃s:List UInt8,vs=[.str s]/\s.length<=reachBytes
  |some (.slice e)=>∃rows,vs=[.sl (P.cellsOf e) rows]/\rows.length*P.bytesOf e<=reachBytes/\∀r∈rows,∃cs,gO P n e cs/\r=rowOf (eM P e) cs
  |some (.struct fs)=>uv (gO P n) fs.toList vs
  |_=>False
def Ft{α:Type}{Pr:Nat->α->Prop}:∀n,(∀i,i<n->∃r,Pr i r)->∃rows:List α,rows.length=n/\∀i r,rows[i]?=some r->Pr i r
 |0,_=>⟨[],rfl,λi r h=>by simp at h⟩
 |n+1,h=>by
  obtain⟨rows,h1,h2⟩:=Ft n λi hi=>h i (by omega);obtain⟨r,hr⟩:=h n (by omega);refine⟨rows++[r],by simp[h1],λi x hx=>?_⟩;rw[Rj]at hx;split at hx
  .exact h2 i x hx
  .rename_i hi;have:i-rows.length=0:=by
    rcases Nat.eq_zero_or_pos (i-rows.length)with h0|h0
    .exact h0
    .rw[qY (by simp;omega)]at hx;cases hx
   rw[this]at hx;simp at hx;subst hx;have:i=n:=by omega
   subst this;exact hr
def wJ{I:Mu}{ow:Nat->Prop}{w:World}{b off sz:Nat}:∀(rows:List V) (k:Nat),(∀i r,rows[i]?=some r->r.cells.length=sz/\aM I ow w r.cells b (off+(k+i)*sz))->aS I ow w rows b (off+k*sz) sz
 |[],_,_=>by simp[aS]
 |r::rs,k,h=>by
  have h0:=h 0 r rfl;simp only[aS];refine⟨h0.1,by rw[dL];simpa using h0.2,?_⟩;have e:off+k*sz+sz=off+(k+1)*sz:=by rw[Nat.add_mul];omega
  rw[e];refine wJ rs (k+1) λi x hx=>?_;have:=h (i+1) x (by simpa using hx);rw[show k+1+i=k+(i+1) by omega];exact this
section
variable {H:Type} {enc:TypeId×Value->H} {P:Program} {w:World} {base:Nat} {spare:Nat->Bool} {held:Bool} {I:Mu} {ow:Nat->Prop}
def Jr(P:Program)(I:Mu)(ow:Nat->Prop)(w:World)(N:Nat)(t:TypeId)(cs:List Value):Prop:=
 ∃vs,gO P N t vs/\al I ow w vs cs/\∀u∈cs,u.oneCell'=true
def wC{S:TypeId->List V->Prop}{cs:List Value}:∀(fs:List Field) (off:Nat),wO P cs.length off fs=true->
 (∀f∈fs,∃vs,S f.type vs/\al I ow w vs ((cs.drop f.offset).take (P.cellsOf f.type))/\∀u∈(cs.drop f.offset).take (P.cellsOf f.type),u.oneCell'=true)->
 ∃vs,uv S fs vs/\al I ow w vs (cs.drop off)/\∀u∈cs.drop off,u.oneCell'=true
 |[],off,hc,_=>by
  simp only[wO,beq_iff_eq]at hc;refine⟨[],rfl,?_,?_⟩
  .rw[Aw (by omega)];simp[al]
  .rw[Aw (by omega)];simp
 |f::fs,off,hc,h=>by
  simp only[wO,Ba,beq_iff_eq]at hc;obtain⟨a,h1,h2,h3⟩:=h f (by simp);obtain⟨b,h4,h5,h6⟩:=wC fs (off+P.cellsOf f.type) hc.2 λg hg=>h g (by simp[hg]);rw[hc.1]at h2 h3;have e:cs.drop off=(cs.drop off).take (P.cellsOf f.type)++cs.drop (off+P.cellsOf f.type):=by
   rw[<-List.drop_drop,uQ]
  refine⟨a++b,⟨a,b,rfl,h1,h4⟩,?_,?_⟩
  .rw[e];exact h2.append h5
  .rw[e];intro u hu;rcases db.1 hu with hu|hu
   .exact h3 u hu
   .exact h6 u hu
def rZ{v:V}{x:Value}(h:E' I ow w v x):al I ow w [v] [x]:=by simp only[al];exact⟨x,[],rfl,h,rfl⟩
def tX{t:TypeId}{fs:Array Field}(h:P.underlying t=some (.struct fs)):eM P t=true:=by simp[eM,h]
def nJ{e:TypeId}{d:DataW H}:∀{l:List (DataW H)},d∈l->∀n∈d.weights P e,n∈DataW.weightsAll P e l
 |[],h,_,_=>by simp at h
 |x::l,h,n,hn=>by
  simp only[DataW.weightsAll,db];rcases cm.1 h with rfl|h
  .exact .inl hn
  .exact .inr (nJ h n hn)
def oU(YE:∀b,¬ow b):∀(N:Nat) (fuel:Nat) (t:TypeId) (cs:List Value) (x:DataW H×List MemPlace),Bt P N t=true->(∀n∈x.1.weights P t,n<=reachBytes)->DataW.trod enc P w base spare held fuel t cs=some x->
 Jr P I ow w N t cs
 |0,_,_,_,_,h,_,_=>by simp[Bt]at h
 |N+1,fuel,t,cs,x,M',hwt,hx=>by
  have hok':=M';unfold Bt at M';unfold Jr;simp only[gO];split at M'
  .rename_i ht;obtain⟨b,rfl,_⟩:=DataW.trod_bool ht hx;exact⟨[.bool b],⟨b,rfl⟩,rZ (by simp[E']),by simp[Value.oneCell']⟩
  .rename_i k ht;obtain⟨m,rfl,_,hw⟩:=DataW.trod_int ht hx;exact⟨[.int k m],⟨m,rfl,hw⟩,rZ (by simp[E']),by simp[Value.oneCell']⟩
  .rename_i ht;obtain⟨s,rfl,rfl,hw⟩:=DataW.trod_string ht hx;exact⟨[.str s.data.toList],⟨_,rfl,hwt _ (by simp[DataW.weights])⟩,rZ (by simp[E']),by simp[Value.oneCell']⟩
  .rename_i e ht;simp only[Ba,bne_iff_ne,ne_eq]at M';rcases open_slice ht hx with⟨rfl,_⟩|⟨a,len,cap,m,n,D,Pl,rfl,hb,hl,hm,hmm,rfl,hi⟩
   .exact⟨[.sl (P.cellsOf e) []],⟨[],rfl,by simp,by simp⟩,rZ (by simp only[E'];exact⟨none,0,rfl,by simp,.inl trivial⟩),by simp[Value.oneCell']⟩
   .have hlm:len<=m:=by rw[hmm];split<;>omega
    simp only[DataW.weights,ht]at hwt;have hlen:len*P.bytesOf e<=reachBytes:=by
     have:=hwt _ (List.mem_cons_self ..);simp only[de,List.length_range]at this;exact jE (Nat.mul_le_mul_right _ (by omega)) this
    have hel:∀i,i<len->∃r:V,(∃cs,gO P N e cs/\r=rowOf (eM P e) cs)/\r.cells.length=P.cellsOf e/\∃YG,al I ow w r.cells YG/\(∀u∈YG,u.oneCell'=true)/\YG.length=P.cellsOf e/\
     ∀j,j<P.cellsOf e->w.cell? ((a.add (i*P.cellsOf e)).add j)=YG[j]?:=by
     intro i hi';obtain⟨YG,h1,h2⟩:=hi i (by omega);obtain⟨_,Zj,hat⟩:=World.cells?_some h1;obtain⟨vs,h3,h4,h5⟩:=oU YE N n e YG _ M'.1 (λq hq=>hwt q (List.mem_cons_of_mem _ (List.mem_append_left _ (nJ (gl.2 ⟨i,by simpa using hi',rfl⟩) q hq)))) h2;have hvl:vs.length=P.cellsOf e:=by rw[<-Zj,h4.length]
     have hcells:(rowOf (eM P e) vs).cells=vs:=by
      unfold rowOf;split
      .rfl
      .rename_i hna;cases N with
       |zero=>simp[gO]at h3
       |succ N'=>
        unfold gO at h3;split at h3
        .obtain⟨b,rfl⟩:=h3;rfl
        .obtain⟨b,rfl,_⟩:=h3;rfl
        .obtain⟨b,rfl,_⟩:=h3;rfl
        .obtain⟨b,rfl,_⟩:=h3;rfl
        .rename_i hs;exact absurd (tX hs) hna
        .exact h3.elim
     exact⟨rowOf (eM P e) vs,⟨vs,h3,rfl⟩,by rw[hcells,hvl],YG,by rw[hcells];exact h4,h5,Zj,hat⟩
    obtain⟨rows,hr1,hr2⟩:=Ft len hel;refine⟨[.sl (P.cellsOf e) rows],⟨rows,rfl,by rw[hr1];exact hlen,λr hr=>?_⟩,rZ ?_,by simp[Value.oneCell']⟩
    .obtain⟨i,hi'⟩:=Fe hr;exact(hr2 i r hi').1
    .simp only[E'];refine⟨some a,cap,by rw[hr1],by omega,?_⟩;by_cases h0:len=0
     .left;exact vx (by omega)
     .right;have hfirst:∃r,rows[0]?=some r:=⟨rows[0]'(by omega),by simp⟩
      obtain⟨r0,hr0⟩:=hfirst;obtain⟨_,_,cs0,_,_,hcl0,hat0⟩:=hr2 0 r0 hr0;have hc0:=hat0 0 (by omega);rw[Zq6 (by omega)]at hc0;have hspot:a.spot=none:=by
       have:=World.cell?_spot hc0;simpa[Addr.add]using this
      obtain⟨b,off,spot⟩:=a;subst hspot;refine⟨b,off,rfl,YE b,by omega,?_⟩;have:=wJ (I:=I) (ow:=ow) (w:=w) (b:=b) (off:=off) (sz:=P.cellsOf e) rows 0 λi r hri=>?_
      .simpa using this
      .obtain⟨_,h1,YG,h2,h3,h4,h5⟩:=hr2 i r hri;refine⟨h1,ly h2 h3 λj u hu=>?_⟩;have hj:j<P.cellsOf e:=by rw[<-h4];exact(jj.1 hu).1
       have:=h5 j hj;rw[hu,add_plain,add_plain]at this;rw[jc];exact this
  .rename_i fs ht;simp only[Ba]at M';obtain⟨xs,n,_,rfl,hl,hxl,hf⟩:=DataW.trod_struct ht hx;simp only[DataW.weights,ht]at hwt;obtain⟨vs,h1,h2,h3⟩:=wC (I:=I) (ow:=ow) (w:=w) (P:=P) (S:=gO P N) (cs:=cs) fs.toList 0 (by rw[hl];exact M'.1) λf hfm=>by
    obtain⟨i,hi⟩:=Fe hfm;have hi':fs[i]?=some f:=by simpa using hi
    have L':i<xs.length:=by rw[hxl];exact(nP.1 hi').1
    have h1:=hf i f hi';rw[Zq6 L']at h1;exact oU YE N n f.type _ _ (ed.1 M'.2 f hfm) (λq hq=>hwt q (DataW.weights_mem_each (j:=i) (t:=f.type) (d:=(xs[i]'L').1) (by simp[hi]) (by simp[L']) q hq)) h1
   exact⟨vs,h1,by simpa using h2,by simpa using h3⟩
  .cases M'
def nK(P:Program)(t:TypeId)(vs:List V):V:=if eM P t then .agg vs else vs.getD 0 .undef
def Mf(YE:∀b,¬ow b){N:Nat}{t:TypeId}{v:Value}{d:DataW H}{p:List MemPlace}{r:Reach}{b0:Nat}(M':Bt P N t=true)(hwt:∀n∈d.weights P t,n<=reachBytes)(hval:Value.okWide P w r b0 t v)(h:DataW.Trod enc P w base spare held t v d p):
 ∃vs,gO P N t vs/\E' I ow w (nK P t vs) v:=by
 obtain⟨fuel,hf⟩:=h;obtain⟨vs,h1,h2,h3⟩:=oU (I:=I) YE N fuel t _ _ M' hwt hf;refine⟨vs,h1,?_⟩;cases N with
 |zero=>simp[gO]at h1
 |succ N'=>
  unfold gO at h1;have hone:∀u:V,vs=[u]->v.cells=#[v]->eM P t=false->E' I ow w (nK P t vs) v:=by
   rintro u rfl hc ha;rw[hc]at h2;simp only[al]at h2;obtain⟨x,xs,h4,h5,h6⟩:=h2;simp only[List.cons.injEq]at h4;simp only[nK,ha,eT,if_false];rw[h4.1];exact h5
  split at h1
  .rename_i ht;obtain⟨b,rfl⟩:=h1;obtain⟨x,rfl⟩:=okWide_bool ht hval;exact hone _ rfl rfl (by simp[eM,ht])
  .rename_i ht;obtain⟨b,rfl,_⟩:=h1;obtain⟨x,rfl⟩:=okWide_int ht hval;exact hone _ rfl rfl (by simp[eM,ht])
  .rename_i ht;obtain⟨b,rfl,_⟩:=h1;obtain⟨x,rfl⟩:=okWide_string ht hval;exact hone _ rfl rfl (by simp[eM,ht])
  .rename_i ht;obtain⟨b,rfl,_⟩:=h1;obtain⟨x,y,z,rfl⟩:=okWide_slice ht hval;exact hone _ rfl rfl (by simp[eM,ht])
  .rename_i ht;obtain⟨cs,rfl,_⟩:=okWide_struct ht hval;simp only[nK,tX ht,if_true,E'];exact⟨cs.toList,by simp,by simpa[Value.cells]using h2,by simpa[Value.cells]using h3⟩
  .exact h1.elim
def AF(P:Program)(N:Nat):List TypeId->List V->Prop
 |[],us=>us=[]
 |t::ts,us=>∃vs us',us=nK P t vs::us'/\gO P N t vs/\AF P N ts us'
def B1(YE:∀b,¬ow b){N:Nat}{r:Reach}{b0:Nat}:∀{ts:List TypeId} {vs:List Value} {ds:List (DataW H)} {p:List MemPlace},(∀t∈ts,Bt P N t=true)->(∀n∈DataW.weightsEach P ts ds,n<=reachBytes)->
 (∀(j:Nat) t v,ts[j]?=some t->vs[j]?=some v->Value.okWide P w r b0 t v)->DataW.TrodAll enc P w base spare held ts vs ds p->∃us,AF P N ts us/\al I ow w us vs
 |[],vs,ds,p,_,_,_,h=>by
  cases vs<;>cases ds<;>simp[DataW.TrodAll]at h;exact⟨[],rfl,by simp[al]⟩
 |t::ts,vs,ds,p,M',hwt,hval,h=>by
  obtain⟨v,vs',d,ds',p',q,rfl,rfl,rfl,h1,h2⟩:=trodAll_cons h;simp only[DataW.weightsEach,db]at hwt;obtain⟨cs,g1,g2⟩:=Mf (I:=I) (b0:=b0) YE (M' t (by simp)) (λq hq=>hwt q (.inl hq)) (hval 0 t v rfl rfl) h1;obtain⟨us,g3,g4⟩:=B1 (b0:=b0) YE (λu hu=>M' u (by simp[hu])) (λq hq=>hwt q (.inr hq)) (λj u x hj hx=>hval (j+1) u x (by simpa using hj) (by simpa using hx)) h2;exact⟨_::us,⟨cs,us,rfl,g1,g3⟩,by simp only[al];exact⟨v,vs',rfl,g2,g4⟩⟩
def pW(hl:laidOutB P=true):∀{ts:List TypeId} {vs:List Value} {ds:List (DataW H)} {p:List MemPlace} {W W':World} {sp:Nat->Bool},(∀t∈ts,P.readableRec t=true/\t<P.types.size)->
 DataW.TrodAll enc P W 0 (λ_=>true) true ts vs ds p->Below W.heap.size W W'->(∀x∈p,x.block<W.heap.size)->(∀x∈p,sp x.block=true)->DataW.TrodAll enc P W' 0 sp true ts vs ds p
 |[],vs,ds,p,W,W',sp,_,h,_,_,_=>by
  cases vs<;>cases ds<;>simp[DataW.TrodAll]at h|-;exact h
 |t::ts,vs,ds,p,W,W',sp,ht,h,hb,L',hsp=>by
  obtain⟨v,vs',d,ds',p',q,rfl,rfl,rfl,h1,h2⟩:=trodAll_cons h;refine⟨p',q,WideElems.Trod_stays hl (ht t (by simp)).1 (ht t (by simp)).2 h1 (λx hx=>hb.same (L' x (by simp[hx]))) (λx hx=>hsp x (by simp[hx])),?_,rfl⟩;exact pW hl (λu hu=>ht u (by simp[hu])) h2 hb (λx hx=>L' x (by simp[hx])) (λx hx=>hsp x (by simp[hx]))
end
def xW{H:Type}{enc:TypeId×Value->H}{P:Program}{f:Func}{s:ChangeSpec}{apart fresh handsOn again:Bool}{W W':World}{args:Array Value}{v:Value}{ds gs:List (DataW H)}{before pa pv:List MemPlace}
 (hW:DataW.Whole enc P f.params.toList s.vars apart W args.toList ds gs before)
 (hres:∀(b:Nat) (sp:Nat->Bool) (hd:Bool),DataW.TrodAll enc P W' b sp hd f.resultTypes.toList (v.resultList f.resultTypes.size) (s.fn H (ds++gs)).results [])
 (YN:∀sp:Nat->Bool,(∀p∈before,sp p.block=true)->DataW.TrodAll enc P W' 0 sp true f.params.toList args.toList (s.fn H (ds++gs)).args pa)
 (hvars:∀sp:Nat->Bool,(∀p∈before,sp p.block=true)->DataW.TrodVars enc P W' sp s.vars (s.fn H (ds++gs)).vars pv)
 (hps:before=pa++pv)(hb:Below W.heap.size W W')
 (M':∀(j:Nat) (t:TypeId) (r:Value),f.resultTypes[j]?=some t->(v.resultList f.resultTypes.size)[j]?=some r->Value.okWide P W' .any 0 t r):
 s.post enc P f apart fresh handsOn again W args v W':=by
 have L':∀p∈before,p.block<W.heap.size:=λp hp=>hW.lt p hp;have hold:∀p∈before,(λb=>decide (b<W.heap.size)) p.block=true:=λp hp=>by simpa using L' p hp
 refine⟨ds,gs,before,[],pa,pv,hW,hres _ _ _,YN _ hold,hvars _ hold,World.keptBut_mono (λp hp=>⟨hp,?_⟩) (hb.frame (·∈before)),λ_=>?_⟩
 .rw[hps,db]at hp;exact Or.inr hp
 .obtain⟨_,_,_,_,_,hz,hn⟩:=hW;refine⟨M',_,_,([]++pa)++pv,⟨[]++pa,pv,trodAll_append (YN _ (λ_ _=>rfl)) (hres _ _ _),hvars _ (λ_ _=>rfl),rfl,?_,?_⟩,?_⟩
  .intro b off hp;have hin:MemPlace.cell b off∈before:=by rw[hps];simpa using hp
   rw[hb.frozen (L' _ hin)];exact hz b off hin
  .intro ha;have:=hn ha;rw[hps]at this;simpa using this
  .intro p hp _;rw[hps];simpa using hp
def Ku{H:Type}{enc:TypeId×Value->H}{P:Program}{f:Func}{i:FuncId}{s:ChangeSpec}{N:Nat}(hfs:P.funcs[i]?=some f)(hl:laidOutB P=true)
 (hts:f.params.toList.all (λt=>Bt P N t&&(P.readableRec t&&decide (t<P.types.size)))=true)(hvars:s.vars=[]){tb:TypeId}(hres:f.resultTypes=#[tb])(htb:P.underlying tb=some .bool)
 (hfn:∀ds,ds.length=f.params.size->s.fn H ds=⟨[.lit (.bool true)],ds,[]⟩)
 (hlaw:∀us,AF P N f.params.toList us->aJ P i us (.bool true))
 {apart fresh handsOn again:Bool}{W:World}{base:Nat}{args:Array Value}{ds gs:List (DataW H)}{before:List MemPlace}
 (hval:∀(j:Nat) t v,f.params[j]?=some t->args[j]?=some v->Value.okWide P W .any base t v)
 (hW:DataW.Whole enc P f.params.toList s.vars apart W args.toList ds gs before)(hvt:s.plain.varTypes P=[])
 (hsz:(DataW.weightsEach P (f.params.toList++s.plain.varTypes P) (ds++gs)).all (·<=reachBytes)=true)(hO:UH W):
 Calls P i args W λe W'=>∃v,e=.returned v/\s.post enc P f apart fresh handsOn again W args v W':=by
 have hW':=hW;obtain⟨p,q,hA,hV,rfl,hfz,hnd⟩:=hW;have hts':=ed.1 hts;simp only[Ba,Zq9]at hts';rw[hvars]at hV;have hnoV:gs=[]/\q=[]:=by
  cases gs with
  |nil=>exact⟨rfl,by simpa[DataW.TrodVars]using hV⟩
  |cons g gs=>simp[DataW.TrodVars]at hV
 obtain⟨rfl,rfl⟩:=hnoV;have YE:∀b,¬aA (λ_=>Pl.dp) iN b:=λb ⟨_,_,_,_,h,_⟩=>by simp[iN]at h
 obtain⟨us,hsh,hrep⟩:=B1 (I:=λ_=>Pl.dp) (ow:=aA (λ_=>Pl.dp) iN) (b0:=base) (r:=.any) YE (λt ht=>(hts' t ht).1)
  (by rw[hvt,lO,lO]at hsz;intro n hn;simpa using ed.1 hsz n hn) (λj t v hj hv=>hval j t v (by simpa using hj) (by simpa using hv)) hA
 have hsat:Sat W (aA (λ_=>Pl.dp) iN) (λ_=>Pl.dp) iN W:=
  ⟨YY _,rfl,rfl,rfl,λ_ _ _=>rfl,⟨0,λ_ _=>rfl⟩,λ_ _ _ _ _ _ _ _ _ h=>by simp[iN]at h,λ_ _ h=>by simp[iN]at h,λb hb=>(YE b hb).elim,⟨W,hO,YY _,λi _=>⟨YE i,rfl⟩⟩⟩
 have Zp:=(hlaw us hsh iN).2 (λ_=>Pl.dp) W args.toList hsat hrep;rw[Array.toArray_toList]at Zp;refine Zp.mono ?_;rintro e W' ⟨r,Z',Y',val,rfl,⟨rfl,rfl⟩,_,Yk,hr⟩;simp only[E']at hr;subst hr;have hbel:Below W.heap.size W W':=⟨Yk.os,Yk.tape,Yk.output,Yk.size,λk hk=>Yk.same k hk (YE k)⟩
 have hlen:ds.length=f.params.size:=by
  have key:∀{ts:List TypeId} {vs:List Value} {ds:List (DataW H)} {p:List MemPlace},DataW.TrodAll enc P W 0 (λ_=>true) true ts vs ds p->ds.length=ts.length:=by
   intro ts
   induction ts with
   |nil=>intro vs ds p h;cases vs<;>cases ds<;>simp[DataW.TrodAll]at h|-
   |cons t ts ih=>
    intro vs ds p h;obtain⟨_,_,_,_,_,_,_,rfl,_,_,h2⟩:=trodAll_cons h;simp[ih h2]
  simpa using key hA
 have hfn':=hfn ds hlen;refine⟨.bool true,rfl,xW (pa:=p) (pv:=[]) hW' ?_ ?_ ?_ rfl hbel ?_⟩
 .intro b sp hd;rw[lO,hfn',hres];exact⟨[],[],shut_bool htb _,rfl,rfl⟩
 .intro sp hsp;rw[lO,hfn'];refine pW hl (λt ht=>(hts' t ht).2) hA hbel (λx hx=>by simpa using hW'.lt x (by simpa using hx)) (λx hx=>hsp x (by simpa using hx))
 .intro sp _;rw[lO,hfn',hvars];rfl
 .exact ok_one hres rfl (okWide_bool_mk htb _)
open Go.Proofs Go.Proofs.Tryz
def rK{α:Type}{f:α->V}{p:α->Prop}:∀{rows:List V},(∀r∈rows,∃x,r=f x/\p x)->∃l:List α,rows=l.map f/\∀x∈l,p x
 |[],_=>⟨[],rfl,by simp⟩
 |r::rs,h=>by
  obtain⟨x,rfl,hx⟩:=h r (by simp);obtain⟨l,rfl,hl⟩:=rK λq hq=>h q (List.mem_cons_of_mem _ hq);exact⟨x::l,rfl,by simpa using⟨hx,hl⟩⟩
def inI(m:Int):Prop:=-9223372036854775808<=m/\m<=9223372036854775807
def Sty.inI(s:Sty):Prop:=Vc.inI s.top/\Vc.inI s.YB/\Vc.inI s.Yp/\Vc.inI s.Yj/\Vc.inI s.Zv/\Vc.inI s.YV/\Vc.inI s.Zh/\Vc.inI s.head/\Vc.inI s.before/\Vc.inI s.after/\Vc.inI s.inside/\Vc.inI s.clear
def Nd.real(x:Nd):Prop:=(Vc.inI x.kind/\Vc.inI x.size/\x.st.inI/\Vc.inI x.line/\Vc.inI x.space/\Vc.inI x.side/\Vc.inI x.w/\Vc.inI x.h)/\x.words.length<=17592186043904/\∀n∈x.words,Vc.inI n
section
variable {P:Program} {n:Nat} {t:TypeId} {vs:List V}
def Kv{k:IntKind}(ht:P.underlying t=some (.int k))(h:gO P (n+1) t vs):∃m,vs=[.int k m]/\(Lit.int k m).wf=true:=by
 simpa only[gO,ht]using h
def mL{e:TypeId}(ht:P.underlying t=some (.slice e))(h:gO P (n+1) t vs):∃rows,vs=[.sl (P.cellsOf e) rows]/\rows.length*P.bytesOf e<=reachBytes/\∀r∈rows,∃cs,gO P n e cs/\r=rowOf (eM P e) cs:=by
 simpa only[gO,ht]using h
def lu{fs:Array Field}(ht:P.underlying t=some (.struct fs))(h:gO P (n+1) t vs):uv (gO P n) fs.toList vs:=by
 simpa only[gO,ht]using h
end
def NG:prog.cellsOf 3=1:=by kernel_rfl
def Kh:prog.cellsOf 59=20:=by kernel_rfl
def OQ:eM prog 3=false:=by kernel_rfl
def Sa:eM prog 22=false:=by kernel_rfl
def PI:eM prog 59=true:=by kernel_rfl
def NJ:prog.bytesOf 3=8:=by kernel_rfl
def Is:prog.bytesOf 59=176:=by kernel_rfl
def bM{n:Nat}{vs:List V}(h:gO prog (n+1) 3 vs):∃m,vs=[vI m]/\inI m:=by
 obtain⟨m,h,hw⟩:=Kv underlying3 h;exact⟨m,h,by simp[Lit.wf,IntKind.min,IntKind.max,IntKind.signed,IntKind.bits]at hw;unfold inI;omega⟩
def Iu{n:Nat}{vs:List V}(h:gO prog (n+2) 57 vs):∃l,vs=[bh l]/\l.length<=17592186043904/\∀n∈l,inI n:=by
 obtain⟨rows,rfl,hl,h⟩:=mL underlying57 h;obtain⟨l,rfl,hp⟩:=rK (f:=vI) (p:=inI) λr hr=>by
  obtain⟨cs,hc,rfl⟩:=h r hr;obtain⟨m,rfl,hm⟩:=bM hc;exact⟨m,by rw[OQ];rfl,hm⟩
 rw[NJ]at hl;simp only[de,reachBytes]at hl;exact⟨l,by rw[NG];rfl,by omega,hp⟩
def HE{n:Nat}{vs:List V}(h:gO prog (n+2) 56 vs):∃s:Sty,vs=s.cells/\s.inI:=by
 replace h:=lu underlying56 h;simp only[uv]at h;obtain⟨_,_,rfl,h1,_,_,rfl,h2,_,_,rfl,h3,_,_,rfl,h4,_,_,rfl,h5,_,_,rfl,h6,_,_,rfl,h7,_,_,rfl,h8,_,_,rfl,h9,_,_,rfl,h10,_,_,rfl,h11,_,_,rfl,h12,rfl⟩:=h;obtain⟨m1,rfl,g1⟩:=bM h1;obtain⟨m2,rfl,g2⟩:=bM h2;obtain⟨m3,rfl,g3⟩:=bM h3;obtain⟨m4,rfl,g4⟩:=bM h4;obtain⟨m5,rfl,g5⟩:=bM h5;obtain⟨m6,rfl,g6⟩:=bM h6;obtain⟨m7,rfl,g7⟩:=bM h7;obtain⟨m8,rfl,g8⟩:=bM h8;obtain⟨m9,rfl,g9⟩:=bM h9;obtain⟨m10,rfl,g10⟩:=bM h10;obtain⟨m11,rfl,g11⟩:=bM h11;obtain⟨m12,rfl,g12⟩:=bM h12;exact⟨⟨m1,m2,m3,m4,m5,m6,m7,m8,m9,m10,m11,m12⟩,rfl,g1,g2,g3,g4,g5,g6,g7,g8,g9,g10,g11,g12⟩
def J0{n:Nat}{vs:List V}(h:gO prog (n+3) 59 vs):∃x:Nd,vs=x.cells/\x.real:=by
 replace h:=lu underlying59 h;simp only[uv]at h;obtain⟨_,_,rfl,h1,_,_,rfl,h2,_,_,rfl,h3,_,_,rfl,h4,_,_,rfl,h5,_,_,rfl,h6,_,_,rfl,h7,_,_,rfl,h8,_,_,rfl,h9,rfl⟩:=h;obtain⟨m1,rfl,g1⟩:=bM h1;obtain⟨m2,rfl,g2⟩:=bM h2;obtain⟨s,rfl,g3⟩:=HE h3;obtain⟨m4,rfl,g4⟩:=bM h4;obtain⟨m5,rfl,g5⟩:=bM h5;obtain⟨ws,rfl,g6,g6'⟩:=Iu h6;obtain⟨m7,rfl,g7⟩:=bM h7;obtain⟨m8,rfl,g8⟩:=bM h8;obtain⟨m9,rfl,g9⟩:=bM h9;exact⟨⟨m1,m2,s,m4,m5,ws,m7,m8,m9⟩,rfl,⟨g1,g2,g3,g4,g5,g7,g8,g9⟩,g6,g6'⟩
def GQ{n:Nat}{vs:List V}(h:gO prog (n+4) 22 vs):∃l,vs=[aI l]/\l.length<=800000000000/\∀x∈l,x.real:=by
 obtain⟨rows,rfl,hl,h⟩:=mL underlying22 h;obtain⟨l,rfl,hp⟩:=rK (f:=jD) (p:=Nd.real) λr hr=>by
  obtain⟨cs,hc,rfl⟩:=h r hr;obtain⟨x,rfl,hx⟩:=J0 hc;exact⟨x,by rw[PI];rfl,hx⟩
 rw[Is]at hl;simp only[de,reachBytes]at hl;exact⟨l,by rw[Kh];rfl,by omega,hp⟩
def HV{n:Nat}{vs:List V}(h:gO prog (n+4) 22 vs):∃l,nK prog 22 vs=aI l/\l.length<=800000000000/\∀x∈l,x.real:=by
 obtain⟨l,rfl,h1,h2⟩:=GQ h;exact⟨l,by unfold nK;rw[Sa];rfl,h1,h2⟩
open Go.Proofs Go.Proofs.Tryz
def oJ(l:List Nd):∀(m a e:Nat),e-a<m->e<=l.length->bQ l a e=true->∀k,a<=k->(h:k<e)->(h2:k<l.length)->bQ l (k+1) (k+l[k].size.toNat)=true
 |0,_,_,h,_,_=>by omega
 |m+1,a,e,hm,he,hr=>by
  intro k hk hke h2;have hae:a<e:=by omega
  have ha:a<l.length:=by omega
  rw[bQ,dif_pos hae]at hr;have hga:l[a]?=some l[a]:=by simp[ha]
  rw[hga]at hr;simp only at hr;split at hr
  .rename_i hx;simp only[Ba]at hr;obtain⟨⟨h3,h4⟩,h5⟩:=hr;by_cases hka:k=a
   .subst hka;exact h4
   .by_cases hin:k<a+l[a].size.toNat
    .exact oJ l m (a+1) (a+l[a].size.toNat) (by omega) (by omega) h4 k (by omega) hin h2
    .exact oJ l m (a+l[a].size.toNat) e (by omega) he h5 k (by omega) hke h2
  .cases hr
def ZY(x:Nd):Int:=if x.kind=1 then x.st.top+x.st.YB+x.st.Yp+x.st.Yj+x.st.head else if x.kind=2 then x.line*x.words.length else x.h
def pof(x:Nd):Int:=if x.kind=1 then 0 else if x.kind=2 then x.words.length else 1
def jT:List Nd->Int
 |[]=>0
 |x::l=>ZY x+jT l
def lP:List Nd->Int
 |[]=>0
 |x::l=>pof x+lP l
def B5(a b:List Nd):jT (a++b)=jT a+jT b:=by
 induction a with
 |nil=>simp[jT]
 |cons x a ih=>simp only[List.cons_append,jT,ih];omega
def C6(a b:List Nd):lP (a++b)=lP a+lP b:=by
 induction a with
 |nil=>simp[lP]
 |cons x a ih=>simp only[List.cons_append,lP,ih];omega
def wM{x:Nd}(h:x.ok=true):0<=ZY x:=by
 obtain⟨p1,p2,p3,p4,p5,p6⟩:=kY h;unfold ZY;split
 .rename_i hk;obtain⟨q1,q2,q3,q4,q5⟩:=p6 hk;omega
 .split
  .exact Int.mul_nonneg p2 (by omega)
  .exact p4
def B6{l:List Nd}(h:l.all Nd.ok=true):0<=jT l:=by
 induction l with
 |nil=>simp[jT]
 |cons x l ih=>
  simp only[ja,Ba]at h;have:=wM h.1;have:=ih h.2;simp only[jT];omega
def dm(l:List Nd):Nat->Int
 |0=>0
 |i+1=>match l[i]? with
  |some x=>if x.kind=1 then max (dm l i) (jq l i (i+1))else dm l i
  |none=>dm l i
def Iz{l:List Nd}{i:Nat}{x:Nd}{s:Sm}(hx:x.ok=true)(hs:0<=s.Yg/\s.Yg<=1099511627777):(qt l i x s).Yg=min (s.Yg+ZY x) 1099511627777/\(qt l i x s).pieces=s.pieces+pof x/\
 (qt l i x s).depth=(if x.kind=1 then max s.depth (jq l i (i+1))else s.depth)/\(qt l i x s).nodes=s.nodes:=by
 obtain⟨p1,p2,p3,p4,p5,p6⟩:=kY hx;unfold qt ZY pof;by_cases hk:x.kind=1
 .obtain⟨q1,q2,q3,q4,q5⟩:=p6 hk;simp only[hk,if_true,kM];refine⟨by omega,by omega,trivial,trivial⟩
 .by_cases hk2:x.kind=2
  .rw[av hk,ar hk2,av hk,ar hk2,av hk,ar hk2,av hk];simp only[];refine⟨uW hs p2 _,trivial,trivial,trivial⟩
  .rw[av hk,av hk2,av hk,av hk2,av hk,av hk2,av hk];exact⟨rfl,rfl,rfl,rfl⟩
def xB(l:List Nd)(M':l.all Nd.ok=true):∀i,i<=l.length->(gX l ⟨0,0,l.length,0⟩ i)=⟨dm l i,lP (l.take i),l.length,min (jT (l.take i)) 1099511627777⟩
 |0,_=>by simp[gX,dm,lP,jT];omega
 |i+1,hi=>by
  have ih:=xB l M' i (by omega);have hg:l[i]?=some l[i]:=by simp[show i<l.length by omega]
  have hx:=ed.1 M' _ (Zw (show i<l.length by omega));have ht:l.take (i+1)=l.take i++[l[i]]:=Zq0 (by omega);have hn:0<=jT (l.take i):=B6 (ed.2 λx hx=>ed.1 M' x (rq hx));have hh:=wM hx;simp only[gX,hg,ih];obtain⟨g1,g2,g3,g4⟩:=Iz (l:=l) (i:=i) (s:=⟨dm l i,lP (l.take i),l.length,min (jT (l.take i)) 1099511627777⟩) hx ⟨by simp only;omega,by simp only;omega⟩;generalize qt l i l[i] ⟨dm l i,lP (l.take i),l.length,min (jT (l.take i)) 1099511627777⟩=r at*;obtain⟨r1,r2,r3,r4⟩:=r;simp only at g1 g2 g3 g4;subst g1 g2 g3 g4;simp only[dm,hg,ht,C6,B5,lP,jT,Sm.mk.injEq,Int.add_zero,true_and];omega
open Go.Proofs Go.Proofs.Tryz
def V.flat:V->Bool
 |.agg vs=>vs.all V.lone
 |v=>v.lone
def V.FV:V->Bool
 |.P' vs=>vs.all V.flat
 |v=>v.flat
def al.lone{I Y':Mu}{ow ow':Nat->Prop}{w w':World}:∀{vs:List V} {l:List Value},vs.all V.lone=true->al I ow w vs l->al Y' ow' w' vs l
 |[],l,_,h=>by simpa[al]using h
 |v::vs,l,hv,h=>by
  simp only[ja,Ba]at hv;simp only[al]at h|-;obtain⟨x,xs,rfl,h1,h2⟩:=h;exact⟨x,xs,rfl,E'.lone hv.1 h1,al.lone hv.2 h2⟩
def E'.flat{I Y':Mu}{ow ow':Nat->Prop}{w w':World}{v:V}{x:Value}(hv:v.flat=true)(h:E' I ow w v x):E' Y' ow' w' v x:=by
 cases v<;>try exact E'.lone hv h
 rename_i vs;simp only[E']at h|-;obtain⟨Yl,rfl,h1,h2⟩:=h;exact⟨Yl,rfl,al.lone hv h1,h2⟩
def al.flat{I Y':Mu}{ow ow':Nat->Prop}{w w':World}:∀{vs:List V} {l:List Value},vs.all V.flat=true->al I ow w vs l->al Y' ow' w' vs l
 |[],l,_,h=>by simpa[al]using h
 |v::vs,l,hv,h=>by
  simp only[ja,Ba]at hv;simp only[al]at h|-;obtain⟨x,xs,rfl,h1,h2⟩:=h;exact⟨x,xs,rfl,E'.flat hv.1 h1,al.flat hv.2 h2⟩
def E'.FV{I Y':Mu}{ow ow':Nat->Prop}{w w':World}{v:V}{x:Value}(hv:v.FV=true)(h:E' I ow w v x):E' Y' ow' w' v x:=by
 cases v<;>try exact E'.flat hv h
 rename_i vs;simp only[E']at h|-;obtain⟨Yl,rfl,h1⟩:=h;exact⟨Yl,rfl,al.flat hv h1⟩
def aJ.Cu{P:Program}{f:FuncId}{args args':List V}{v:V}{U:af}(hw:WkL U iN args args')(h:aJ P f args' v)(hv:v.FV=true):
 au P f args U λr Z'=>r=v/\Z'=U:=by
 refine⟨(h iN).1,?_⟩;intro I w Yl hs hr;have YT:Sat w (aA I iN) I iN w:=by
  have:=hs.drop (mc U);exact⟨YY _,rfl,rfl,rfl,λ_ _ _=>rfl,this.fin,this.inj,this.obj,λb hb _=>hb,this.oq⟩
 refine((h iN).2 I w Yl YT (WkL.all hs hw hr)).mono ?_;rintro e w' ⟨r,Z',Y',val,rfl,⟨rfl,rfl⟩,hle,Yk,hrep⟩;have YE:∀b,¬aA I iN b:=λb ⟨_,_,_,_,h,_⟩=>by simp[iN]at h
 have hsame:∀b,b<w.heap.size->w'.heap[b]?=w.heap[b]?:=λb hb=>Yk.same b hb (YE b);have hborn:∀id o,U id=some o->Y' id=I id:=λid o ho=>hle id (λe=>by
  have:=hs.obj id o ho;rw[e]at this;exact this)
 have hown:∀b,aA Y' U b->aA I U b:=λb ⟨id,o,sz,cap,h1,h2⟩=>⟨id,o,sz,cap,h1,hborn id o h1▸h2⟩
 have hk:cF (aA I U) (aA Y' U) w w':=λb hb hn=>⟨λho=>hn (hown b ho),hsame b hb⟩
 refine⟨_,U,Y',val,rfl,⟨rfl,rfl⟩,hle,?_,E'.FV hv hrep⟩;refine⟨Yk.size,Yk.os,Yk.tape,Yk.output,λb hb _=>hsame b hb,Yk.fin,?_,?_,λb hb _=>hown b hb,hs.glob⟩
 .intro id ZL o o' b sz cap sz' cap' h1 h2 h3 h4;exact hs.inj id ZL o o' b sz cap sz' cap' h1 h2 (hborn id o h1▸h3) (hborn ZL o' h2▸h4)
 .intro id o ho;rw[hborn id o ho];refine(hs.obj id o ho).mono hle hk Yk.size λb sz cap hp=>hsame b ?_;exact aA.lt hs ⟨id,o,sz,cap,ho,hp⟩
open Go.Proofs Go.Proofs.Tryz
def cG{l:List Nd}{a e:Nat}(he:e<=l.length)(h:bQ l a e=true){k:Nat}(h1:a<=k)(h2:k<e):(k:Int)+YW l k<=e/\1<=YW l k:=by
 have:=jg l (e-a+1) a e (by omega) he h k h1 h2 (by omega);rw[mZ (by omega)];omega
def du{l:List Nd}{a e:Nat}(he:e<=l.length)(h:bQ l a e=true)(hae:a<e):bQ l (a+(YW l a).toNat) e=true/\bQ l (a+1) (a+(YW l a).toNat)=true:=by
 have ha:a<l.length:=by omega
 rw[bQ,dif_pos hae]at h;simp only[Zq6 ha]at h;rw[mZ ha];split at h
 .simp only[Ba]at h;exact⟨h.2,h.1.2⟩
 .cases h
open Go.Proofs Go.Proofs.Tryz
def EE(l:List Nd)(hl:dV l)(hb:Zk l=true):aJ prog 161 [aI l] (.agg [aI l]):=λU=>by
 refine WW.r (by simp[Pe]) ?_;refine ab.mix 3 ?_;apply sR;simp only[go_sem,seval,Pe];refine ad λid2 Z1 s1 a2 f2=>?_;simp only[go_sem,seval];refine ab.ay rfl rfl rfl (FZ l hl _) ?_;apply sR;simp only[go_sem,seval,hb,a2,aI];refine ak.pure (s1.ax f2) rfl
def Q1(l:List Nd)(a:Int):aJ prog 261 [aI l,vI a] (.bool (x9 l a)):=λU=>by
 refine Ww.r (by simp[O2]) ?_;refine ab.mix 6 ?_;apply sR;simp only[go_sem,seval,O2,eW];refine And.intro (λh=>?_) (λh=>?_)
 .refine ak.same ?_;simp[x9];omega
 .refine ak.same ?_;simp[x9];omega
def yV(l:List Nd)(hl:dV l)(hb:Zk l=true)(a:Nat)(ha:a<l.length):aJ prog 262 [aI l,vI a] (vI (er l a)):=λU=>by
 have hl1:=hl.1;refine Xv.r (by simp[Sn]) ?_;refine ab.mix 6 ?_;apply sR;simp only[go_sem,seval,Sn];refine⟨ai,?_⟩;refine ab.loop (λm st=>∃(k:Nat),k<=a/\m=k/\er l a=uF l a k/\st.U=U/\st.s 0=aI l/\st.s 1=vI a/\st.s 5=vI ((k:Int)-1)) a ?_ ?_
 .exact⟨a,by omega,rfl,rfl,rfl,rfl,rfl,rfl⟩
 .rintro m ⟨s,Z'⟩ ⟨k,hk,rfl,heq,YK,h0,h1,h5⟩;simp only at YK h0 h1 h5;subst YK;refine ab.mix 6 ?_;apply sR;simp only[go_sem,seval,h0,h1,h5];refine And.intro (λh=>?_) (λh=>?_)
  .obtain⟨k,rfl⟩:∃j,m=j+1:=⟨m-1,by omega⟩
   have e1:((k+1:Nat):Int)-1=k:=by omega
   have L':k<l.length:=by omega
   have hsz:=tt hb L';have hse:=mZ L';have hx:=oN (U:=Z') L';simp only[go_sem,seval,e1,hx,Nd.cells,h0,h1,h5];rw[<-hse];refine⟨ai,And.intro (λhc=>?_) (λhc=>?_)⟩
   .refine ak.same ?_;rw[heq,uF,ar];simp only[iC,Ba,Zq9,x9];simp;omega
   .refine⟨ai,_,?_,k,by omega,rfl,?_,rfl⟩
    .omega
    .rw[heq,uF,av];simp only[iC,Ba,Zq9,x9];simp;omega
  .have hk0:m=0:=by omega
   subst hk0;refine ak.same ?_;rw[heq];rfl
end Go.Vc
