/- Part 6 of the library of this proof. -/
import Derived.Test.YtdaelobhgmdoeaaGreatW5
import Derived.WalkKit
import Derived.ProofKit
import Derived.Deep.Slices
import Derived.ChangeArms
import Derived.WideKeyArgs
import Derived.Carry
import Derived.SizedLaws
set_option linter.all false
set_option maxHeartbeats 8000000
set_option maxRecDepth 100000
namespace Go.Vc
open Go.ChangeShapes Go.WideShapes Go.RowKit Go.Deep
def tY(P:Program)(total:Nat):Nat->List Field->Bool
 |off,[]=>off==total
 |off,f::fs=>f.offset==off&&tY P total (off+P.cellsOf f.type) fs
def zX(P:Program):Nat->TypeId->Bool
 |0,_=>false
 |n+1,t=>match P.underlying t with
  |some .bool|some (.int _)|some .string=>true
  |some (.slice e)=>zX P n e&&P.cellsOf e != 0
  |some (.struct fs)=>tY P (P.cellsOf t) 0 fs.toList&&fs.toList.all λf=>zX P n f.type
  |_=>false
def rowOf(agg:Bool)(cs:List V):V:=if agg then .agg cs else cs.getD 0 .undef
def we(S:TypeId->List V->Prop):List Field->List V->Prop
 |[],vs=>vs=[]
 |f::fs,vs=>∃a b,vs=a++b/\S f.type a/\we S fs b
def iy(P:Program):Nat->TypeId->List V->Prop
 |0,_,_=>False
 |n+1,t,vs=>match P.underlying t with
  |some .bool=>∃b,vs=[.bool b]
  |some (.int k)=>∃m,vs=[.int k m]/\(Lit.int k m).wf=true
  |some .string=>∃s:List UInt8,vs=[.str s]/\s.length<=reachBytes
  |some (.slice e)=>∃rows,vs=[.sl (P.cellsOf e) rows]/\rows.length*P.bytesOf e<=reachBytes/\∀r∈rows,∃cs,iy P n e cs/\r=rowOf (fm P e) cs
  |some (.struct fs)=>we (iy P n) fs.toList vs
  |_=>False
def Cl{α:Type}{Pr:Nat->α->Prop}:∀n,(∀i,i<n->∃r,Pr i r)->∃rows:List α,rows.length=n/\∀i r,rows[i]?=some r->Pr i r
 |0,_=>⟨[],rfl,λi r h=>by simp at h⟩
 |n+1,h=>by
  obtain⟨rows,h1,h2⟩:=Cl n λi hi=>h i (by omega);obtain⟨r,hr⟩:=h n (by omega);refine⟨rows++[r],by simp[h1],λi x hx=>?_⟩;rw[List.getElem?_append]at hx;split at hx
  .exact h2 i x hx
  .rename_i hi;have:i-rows.length=0:=by
    rcases Nat.eq_zero_or_pos (i-rows.length)with h0|h0
    .exact h0
    .rw[List.getElem?_eq_none (by simp;omega)]at hx;cases hx
   rw[this]at hx;simp at hx;subst hx;have:i=n:=by omega
   subst this;exact hr
def tj{I:Mu}{ow:Nat->Prop}{w:World}{b off sz:Nat}:∀(rows:List V) (k:Nat),(∀i r,rows[i]?=some r->r.cells.length=sz/\aU I ow w r.cells b (off+(k+i)*sz))->aY I ow w rows b (off+k*sz) sz
 |[],_,_=>by simp[aY]
 |r::rs,k,h=>by
  have h0:=h 0 r rfl;simp only[aY];refine⟨h0.1,by rw[ed];simpa using h0.2,?_⟩;have e:off+k*sz+sz=off+(k+1)*sz:=by rw[Nat.add_mul];omega
  rw[e];refine tj rs (k+1) λi x hx=>?_;have:=h (i+1) x (by simpa using hx);rw[show k+1+i=k+(i+1) by omega];exact this
section
variable {H:Type} {enc:TypeId×Value->H} {P:Program} {w:World} {base:Nat} {spare:Nat->Bool} {held:Bool} {I:Mu} {ow:Nat->Prop}
def GD(P:Program)(I:Mu)(ow:Nat->Prop)(w:World)(N:Nat)(t:TypeId)(cs:List Value):Prop:=
 ∃vs,iy P N t vs/\aA I ow w vs cs/\∀u∈cs,u.oneCell'=true
def tW{S:TypeId->List V->Prop}{cs:List Value}:∀(fs:List Field) (off:Nat),tY P cs.length off fs=true->
 (∀f∈fs,∃vs,S f.type vs/\aA I ow w vs ((cs.drop f.offset).take (P.cellsOf f.type))/\∀u∈(cs.drop f.offset).take (P.cellsOf f.type),u.oneCell'=true)->
 ∃vs,we S fs vs/\aA I ow w vs (cs.drop off)/\∀u∈cs.drop off,u.oneCell'=true
 |[],off,hc,_=>by
  simp only[tY,beq_iff_eq]at hc;refine⟨[],rfl,?_,?_⟩
  .rw[List.drop_eq_nil_of_le (by omega)];simp[aA]
  .rw[List.drop_eq_nil_of_le (by omega)];simp
 |f::fs,off,hc,h=>by
  simp only[tY,Ba,beq_iff_eq]at hc;obtain⟨a,h1,h2,h3⟩:=h f (by simp);obtain⟨b,h4,h5,h6⟩:=tW fs (off+P.cellsOf f.type) hc.2 λg hg=>h g (by simp[hg]);rw[hc.1]at h2 h3;have e:cs.drop off=(cs.drop off).take (P.cellsOf f.type)++cs.drop (off+P.cellsOf f.type):=by
   rw[<-List.drop_drop,List.take_append_drop]
  refine⟨a++b,⟨a,b,rfl,h1,h4⟩,?_,?_⟩
  .rw[e];exact h2.append h5
  .rw[e];intro u hu;rcases List.mem_append.1 hu with hu|hu
   .exact h3 u hu
   .exact h6 u hu
def oI{v:V}{x:Value}(h:E' I ow w v x):aA I ow w [v] [x]:=by simp only[aA];exact⟨x,[],rfl,h,rfl⟩
def qT{t:TypeId}{fs:Array Field}(h:P.underlying t=some (.struct fs)):fm P t=true:=by simp[fm,h]
def lU{e:TypeId}{d:DataW H}:∀{l:List (DataW H)},d∈l->∀n∈d.weights P e,n∈DataW.weightsAll P e l
 |[],h,_,_=>by simp at h
 |x::l,h,n,hn=>by
  simp only[DataW.weightsAll,List.mem_append];rcases List.mem_cons.1 h with rfl|h
  .exact .inl hn
  .exact .inr (lU h n hn)
def lL(R7:∀b,¬ow b):∀(N:Nat) (fuel:Nat) (t:TypeId) (cs:List Value) (x:DataW H×List MemPlace),zX P N t=true->(∀n∈x.1.weights P t,n<=reachBytes)->DataW.trod enc P w base spare held fuel t cs=some x->
 GD P I ow w N t cs
 |0,_,_,_,_,h,_,_=>by simp[zX]at h
 |N+1,fuel,t,cs,x,RC,ZV,hx=>by
  have hok':=RC;unfold zX at RC;unfold GD;simp only[iy];split at RC
  .rename_i ht;obtain⟨b,rfl,_⟩:=DataW.trod_bool ht hx;exact⟨[.bool b],⟨b,rfl⟩,oI (by simp[E']),by simp[Value.oneCell']⟩
  .rename_i k ht;obtain⟨m,rfl,_,hw⟩:=DataW.trod_int ht hx;exact⟨[.int k m],⟨m,rfl,hw⟩,oI (by simp[E']),by simp[Value.oneCell']⟩
  .rename_i ht;obtain⟨s,rfl,rfl,hw⟩:=DataW.trod_string ht hx;exact⟨[.str s.data.toList],⟨_,rfl,ZV _ (by simp[DataW.weights])⟩,oI (by simp[E']),by simp[Value.oneCell']⟩
  .rename_i e ht;simp only[Ba,bne_iff_ne,ne_eq]at RC;rcases open_slice ht hx with⟨rfl,_⟩|⟨a,len,cap,m,n,D,Pl,rfl,hb,hl,hm,hmm,rfl,hi⟩
   .exact⟨[.sl (P.cellsOf e) []],⟨[],rfl,by simp,by simp⟩,oI (by simp only[E'];exact⟨none,0,rfl,by simp,.inl trivial⟩),by simp[Value.oneCell']⟩
   .have WT:len<=m:=by rw[hmm];split<;>omega
    simp only[DataW.weights,ht]at ZV;have hlen:len*P.bytesOf e<=reachBytes:=by
     have:=ZV _ (List.mem_cons_self ..);simp only[List.length_map,List.length_range]at this;exact Nat.le_trans (Nat.mul_le_mul_right _ (by omega)) this
    have Vq:∀i,i<len->∃r:V,(∃cs,iy P N e cs/\r=rowOf (fm P e) cs)/\r.cells.length=P.cellsOf e/\∃SV,aA I ow w r.cells SV/\(∀u∈SV,u.oneCell'=true)/\SV.length=P.cellsOf e/\
     ∀j,j<P.cellsOf e->w.cell? ((a.add (i*P.cellsOf e)).add j)=SV[j]?:=by
     intro i W5;obtain⟨SV,h1,h2⟩:=hi i (by omega);obtain⟨_,SJ,S1⟩:=World.cells?_some h1;obtain⟨vs,h3,h4,h5⟩:=lL R7 N n e SV _ RC.1 (λq hq=>ZV q (List.mem_cons_of_mem _ (List.mem_append_left _ (lU (List.mem_map.2 ⟨i,by simpa using W5,rfl⟩) q hq)))) h2;have hvl:vs.length=P.cellsOf e:=by rw[<-SJ,h4.length]
     have VY:(rowOf (fm P e) vs).cells=vs:=by
      unfold rowOf;split
      .rfl
      .rename_i hna;cases N with
       |zero=>simp[iy]at h3
       |succ N'=>
        unfold iy at h3;split at h3
        .obtain⟨b,rfl⟩:=h3;rfl
        .obtain⟨b,rfl,_⟩:=h3;rfl
        .obtain⟨b,rfl,_⟩:=h3;rfl
        .obtain⟨b,rfl,_⟩:=h3;rfl
        .rename_i hs;exact absurd (qT hs) hna
        .exact h3.elim
     exact⟨rowOf (fm P e) vs,⟨vs,h3,rfl⟩,by rw[VY,hvl],SV,by rw[VY];exact h4,h5,SJ,S1⟩
    obtain⟨rows,hr1,hr2⟩:=Cl len Vq;refine⟨[.sl (P.cellsOf e) rows],⟨rows,rfl,by rw[hr1];exact hlen,λr hr=>?_⟩,oI ?_,by simp[Value.oneCell']⟩
    .obtain⟨i,W5⟩:=List.getElem?_of_mem hr;exact(hr2 i r W5).1
    .simp only[E'];refine⟨some a,cap,by rw[hr1],by omega,?_⟩;by_cases h0:len=0
     .left;exact List.eq_nil_of_length_eq_zero (by omega)
     .right;have Xc:∃r,rows[0]?=some r:=⟨rows[0]'(by omega),by simp⟩
      obtain⟨r0,hr0⟩:=Xc;obtain⟨_,_,cs0,_,_,hcl0,hat0⟩:=hr2 0 r0 hr0;have Vh:=hat0 0 (by omega);rw[List.getElem?_eq_getElem (by omega)]at Vh;have hspot:a.spot=none:=by
       have:=World.cell?_spot Vh;simpa[Addr.add]using this
      obtain⟨b,off,spot⟩:=a;subst hspot;refine⟨b,off,rfl,R7 b,by omega,?_⟩;have:=tj (I:=I) (ow:=ow) (w:=w) (b:=b) (off:=off) (sz:=P.cellsOf e) rows 0 λi r hri=>?_
      .simpa using this
      .obtain⟨_,h1,SV,h2,h3,h4,h5⟩:=hr2 i r hri;refine⟨h1,j0 h2 h3 λj u hu=>?_⟩;have hj:j<P.cellsOf e:=by rw[<-h4];exact(List.getElem?_eq_some_iff.1 hu).1
       have:=h5 j hj;rw[hu,add_plain,add_plain]at this;rw[Nat.zero_add];exact this
  .rename_i fs ht;simp only[Ba]at RC;obtain⟨xs,n,_,rfl,hl,hxl,hf⟩:=DataW.trod_struct ht hx;simp only[DataW.weights,ht]at ZV;obtain⟨vs,h1,h2,h3⟩:=tW (I:=I) (ow:=ow) (w:=w) (P:=P) (S:=iy P N) (cs:=cs) fs.toList 0 (by rw[hl];exact RC.1) λf hfm=>by
    obtain⟨i,hi⟩:=List.getElem?_of_mem hfm;have W5:fs[i]?=some f:=by simpa using hi
    have H':i<xs.length:=by rw[hxl];exact(Array.getElem?_eq_some_iff.1 W5).1
    have h1:=hf i f W5;rw[List.getElem?_eq_getElem H']at h1;exact lL R7 N n f.type _ _ (List.all_eq_true.1 RC.2 f hfm) (λq hq=>ZV q (DataW.weights_mem_each (j:=i) (t:=f.type) (d:=(xs[i]'H').1) (by simp[hi]) (by simp[H']) q hq)) h1
   exact⟨vs,h1,by simpa using h2,by simpa using h3⟩
  .cases RC
def oF(P:Program)(t:TypeId)(vs:List V):V:=if fm P t then .agg vs else vs.getD 0 .undef
def Ie(R7:∀b,¬ow b){N:Nat}{t:TypeId}{v:Value}{d:DataW H}{p:List MemPlace}{r:Reach}{b0:Nat}(RC:zX P N t=true)(ZV:∀n∈d.weights P t,n<=reachBytes)(UN:Value.okWide P w r b0 t v)(h:DataW.Trod enc P w base spare held t v d p):
 ∃vs,iy P N t vs/\E' I ow w (oF P t vs) v:=by
 obtain⟨fuel,hf⟩:=h;obtain⟨vs,h1,h2,h3⟩:=lL (I:=I) R7 N fuel t _ _ RC ZV hf;refine⟨vs,h1,?_⟩;cases N with
 |zero=>simp[iy]at h1
 |succ N'=>
  unfold iy at h1;have SZ:∀u:V,vs=[u]->v.cells=#[v]->fm P t=false->E' I ow w (oF P t vs) v:=by
   rintro u rfl hc ha;rw[hc]at h2;simp only[aA]at h2;obtain⟨x,xs,h4,h5,h6⟩:=h2;simp only[List.cons.injEq]at h4;simp only[oF,ha,Bool.false_eq_true,if_false];rw[h4.1];exact h5
  split at h1
  .rename_i ht;obtain⟨b,rfl⟩:=h1;obtain⟨x,rfl⟩:=okWide_bool ht UN;exact SZ _ rfl rfl (by simp[fm,ht])
  .rename_i ht;obtain⟨b,rfl,_⟩:=h1;obtain⟨x,rfl⟩:=okWide_int ht UN;exact SZ _ rfl rfl (by simp[fm,ht])
  .rename_i ht;obtain⟨b,rfl,_⟩:=h1;obtain⟨x,rfl⟩:=okWide_string ht UN;exact SZ _ rfl rfl (by simp[fm,ht])
  .rename_i ht;obtain⟨b,rfl,_⟩:=h1;obtain⟨x,y,z,rfl⟩:=okWide_slice ht UN;exact SZ _ rfl rfl (by simp[fm,ht])
  .rename_i ht;obtain⟨cs,rfl,_⟩:=okWide_struct ht UN;simp only[oF,qT ht,if_true,E'];exact⟨cs.toList,by simp,by simpa[Value.cells]using h2,by simpa[Value.cells]using h3⟩
  .exact h1.elim
def xd(P:Program)(N:Nat):List TypeId->List V->Prop
 |[],us=>us=[]
 |t::ts,us=>∃vs us',us=oF P t vs::us'/\iy P N t vs/\xd P N ts us'
def yd(R7:∀b,¬ow b){N:Nat}{r:Reach}{b0:Nat}:∀{ts:List TypeId} {vs:List Value} {ds:List (DataW H)} {p:List MemPlace},(∀t∈ts,zX P N t=true)->(∀n∈DataW.weightsEach P ts ds,n<=reachBytes)->
 (∀(j:Nat) t v,ts[j]?=some t->vs[j]?=some v->Value.okWide P w r b0 t v)->DataW.TrodAll enc P w base spare held ts vs ds p->∃us,xd P N ts us/\aA I ow w us vs
 |[],vs,ds,p,_,_,_,h=>by
  cases vs<;>cases ds<;>simp[DataW.TrodAll]at h;exact⟨[],rfl,by simp[aA]⟩
 |t::ts,vs,ds,p,RC,ZV,UN,h=>by
  obtain⟨v,vs',d,ds',p',q,rfl,rfl,rfl,h1,h2⟩:=trodAll_cons h;simp only[DataW.weightsEach,List.mem_append]at ZV;obtain⟨cs,g1,g2⟩:=Ie (I:=I) (b0:=b0) R7 (RC t (by simp)) (λq hq=>ZV q (.inl hq)) (UN 0 t v rfl rfl) h1;obtain⟨us,g3,g4⟩:=yd (b0:=b0) R7 (λu hu=>RC u (by simp[hu])) (λq hq=>ZV q (.inr hq)) (λj u x hj hx=>UN (j+1) u x (by simpa using hj) (by simpa using hx)) h2;exact⟨_::us,⟨cs,us,rfl,g1,g3⟩,by simp only[aA];exact⟨v,vs',rfl,g2,g4⟩⟩
def nj(hl:laidOutB P=true):∀{ts:List TypeId} {vs:List Value} {ds:List (DataW H)} {p:List MemPlace} {W W':World} {sp:Nat->Bool},(∀t∈ts,P.readableRec t=true/\t<P.types.size)->
 DataW.TrodAll enc P W 0 (λ_=>true) true ts vs ds p->Below W.heap.size W W'->(∀x∈p,x.block<W.heap.size)->(∀x∈p,sp x.block=true)->DataW.TrodAll enc P W' 0 sp true ts vs ds p
 |[],vs,ds,p,W,W',sp,_,h,_,_,_=>by
  cases vs<;>cases ds<;>simp[DataW.TrodAll]at h|-;exact h
 |t::ts,vs,ds,p,W,W',sp,ht,h,hb,H',hsp=>by
  obtain⟨v,vs',d,ds',p',q,rfl,rfl,rfl,h1,h2⟩:=trodAll_cons h;refine⟨p',q,WideElems.Trod_stays hl (ht t (by simp)).1 (ht t (by simp)).2 h1 (λx hx=>hb.same (H' x (by simp[hx]))) (λx hx=>hsp x (by simp[hx])),?_,rfl⟩;exact nj hl (λu hu=>ht u (by simp[hu])) h2 hb (λx hx=>H' x (by simp[hx])) (λx hx=>hsp x (by simp[hx]))
end
def uJ{H:Type}{enc:TypeId×Value->H}{P:Program}{f:Func}{s:ChangeSpec}{apart fresh handsOn again:Bool}{W W':World}{args:Array Value}{v:Value}{ds gs:List (DataW H)}{before pa pv:List MemPlace}
 (hW:DataW.Whole enc P f.params.toList s.vars apart W args.toList ds gs before)
 (Wy:∀(b:Nat) (sp:Nat->Bool) (hd:Bool),DataW.TrodAll enc P W' b sp hd f.resultTypes.toList (v.resultList f.resultTypes.size) (s.fn H (ds++gs)).results [])
 (Sp:∀sp:Nat->Bool,(∀p∈before,sp p.block=true)->DataW.TrodAll enc P W' 0 sp true f.params.toList args.toList (s.fn H (ds++gs)).args pa)
 (XQ:∀sp:Nat->Bool,(∀p∈before,sp p.block=true)->DataW.TrodVars enc P W' sp s.vars (s.fn H (ds++gs)).vars pv)
 (VS:before=pa++pv)(hb:Below W.heap.size W W')
 (RC:∀(j:Nat) (t:TypeId) (r:Value),f.resultTypes[j]?=some t->(v.resultList f.resultTypes.size)[j]?=some r->Value.okWide P W' .any 0 t r):
 s.post enc P f apart fresh handsOn again W args v W':=by
 have H':∀p∈before,p.block<W.heap.size:=λp hp=>hW.lt p hp;have hold:∀p∈before,(λb=>decide (b<W.heap.size)) p.block=true:=λp hp=>by simpa using H' p hp
 refine⟨ds,gs,before,[],pa,pv,hW,Wy _ _ _,Sp _ hold,XQ _ hold,World.keptBut_mono (λp hp=>⟨hp,?_⟩) (hb.frame (·∈before)),λ_=>?_⟩
 .rw[VS,List.mem_append]at hp;exact Or.inr hp
 .obtain⟨_,_,_,_,_,hz,hn⟩:=hW;refine⟨RC,_,_,([]++pa)++pv,⟨[]++pa,pv,trodAll_append (Sp _ (λ_ _=>rfl)) (Wy _ _ _),XQ _ (λ_ _=>rfl),rfl,?_,?_⟩,?_⟩
  .intro b off hp;have X9:MemPlace.cell b off∈before:=by rw[VS];simpa using hp
   rw[hb.frozen (H' _ X9)];exact hz b off X9
  .intro ha;have:=hn ha;rw[VS]at this;simpa using this
  .intro p hp _;rw[VS];simpa using hp
def F3{H:Type}{enc:TypeId×Value->H}{P:Program}{f:Func}{i:FuncId}{s:ChangeSpec}{N:Nat}(TH:P.funcs[i]?=some f)(hl:laidOutB P=true)
 (Wd:f.params.toList.all (λt=>zX P N t&&(P.readableRec t&&decide (t<P.types.size)))=true)(XQ:s.vars=[]){tb:TypeId}(Wy:f.resultTypes=#[tb])(htb:P.underlying tb=some .bool)
 (hfn:∀ds,ds.length=f.params.size->s.fn H ds=⟨[.lit (.bool true)],ds,[]⟩)
 (hlaw:∀us,xd P N f.params.toList us->aV P i us (.bool true))
 {apart fresh handsOn again:Bool}{W:World}{base:Nat}{args:Array Value}{ds gs:List (DataW H)}{before:List MemPlace}
 (UN:∀(j:Nat) t v,f.params[j]?=some t->args[j]?=some v->Value.okWide P W .any base t v)
 (hW:DataW.Whole enc P f.params.toList s.vars apart W args.toList ds gs before)(hvt:s.plain.varTypes P=[])
 (TF:(DataW.weightsEach P (f.params.toList++s.plain.varTypes P) (ds++gs)).all (·<=reachBytes)=true)(hO:NY W):
 Calls P i args W λe W'=>∃v,e=.returned v/\s.post enc P f apart fresh handsOn again W args v W':=by
 have hW':=hW;obtain⟨p,q,hA,hV,rfl,hfz,Tm⟩:=hW;have hts':=List.all_eq_true.1 Wd;simp only[Ba,decide_eq_true_eq]at hts';rw[XQ]at hV;have hnoV:gs=[]/\q=[]:=by
  cases gs with
  |nil=>exact⟨rfl,by simpa[DataW.TrodVars]using hV⟩
  |cons g gs=>simp[DataW.TrodVars]at hV
 obtain⟨rfl,rfl⟩:=hnoV;have R7:∀b,¬aG (λ_=>Pl.dN) jV b:=λb ⟨_,_,_,_,h,_⟩=>by simp[jV]at h
 obtain⟨us,U7,UL⟩:=yd (I:=λ_=>Pl.dN) (ow:=aG (λ_=>Pl.dN) jV) (b0:=base) (r:=.any) R7 (λt ht=>(hts' t ht).1)
  (by rw[hvt,List.append_nil,List.append_nil]at TF;intro n hn;simpa using List.all_eq_true.1 TF n hn) (λj t v hj hv=>UN j t v (by simpa using hj) (by simpa using hv)) hA
 have TT:Sat W (aG (λ_=>Pl.dN) jV) (λ_=>Pl.dN) jV W:=
  ⟨Nat.le_refl _,rfl,rfl,rfl,λ_ _ _=>rfl,⟨0,λ_ _=>rfl⟩,λ_ _ _ _ _ _ _ _ _ h=>by simp[jV]at h,λ_ _ h=>by simp[jV]at h,λb hb=>(R7 b hb).elim,⟨W,hO,Nat.le_refl _,λi _=>⟨R7 i,rfl⟩⟩⟩
 have Tg:=(hlaw us U7 jV).2 (λ_=>Pl.dN) W args.toList TT UL;rw[Array.toArray_toList]at Tg;refine Tg.mono ?_;rintro e W' ⟨r,Z',Y',val,rfl,⟨rfl,rfl⟩,_,RP,hr⟩;simp only[E']at hr;subst hr;have hbel:Below W.heap.size W W':=⟨RP.os,RP.tape,RP.output,RP.size,λk hk=>RP.same k hk (R7 k)⟩
 have hlen:ds.length=f.params.size:=by
  have key:∀{ts:List TypeId} {vs:List Value} {ds:List (DataW H)} {p:List MemPlace},DataW.TrodAll enc P W 0 (λ_=>true) true ts vs ds p->ds.length=ts.length:=by
   intro ts
   induction ts with
   |nil=>intro vs ds p h;cases vs<;>cases ds<;>simp[DataW.TrodAll]at h|-
   |cons t ts ih=>
    intro vs ds p h;obtain⟨_,_,_,_,_,_,_,rfl,_,_,h2⟩:=trodAll_cons h;simp[ih h2]
  simpa using key hA
 have hfn':=hfn ds hlen;refine⟨.bool true,rfl,uJ (pa:=p) (pv:=[]) hW' ?_ ?_ ?_ rfl hbel ?_⟩
 .intro b sp hd;rw[List.append_nil,hfn',Wy];exact⟨[],[],shut_bool htb _,rfl,rfl⟩
 .intro sp hsp;rw[List.append_nil,hfn'];refine nj hl (λt ht=>(hts' t ht).2) hA hbel (λx hx=>by simpa using hW'.lt x (by simpa using hx)) (λx hx=>hsp x (by simpa using hx))
 .intro sp _;rw[List.append_nil,hfn',XQ];rfl
 .exact ok_one Wy rfl (okWide_bool_mk htb _)
open Go.Proofs Go.Proofs.Tryz
def wF{α:Type}{f:α->V}{p:α->Prop}:∀{rows:List V},(∀r∈rows,∃x,r=f x/\p x)->∃l:List α,rows=l.map f/\∀x∈l,p x
 |[],_=>⟨[],rfl,by simp⟩
 |r::rs,h=>by
  obtain⟨x,rfl,hx⟩:=h r (by simp);obtain⟨l,rfl,hl⟩:=wF λq hq=>h q (List.mem_cons_of_mem _ hq);exact⟨x::l,rfl,by simpa using⟨hx,hl⟩⟩
def Vm(m:Int):Prop:=-9223372036854775808<=m/\m<=9223372036854775807
def SW.Vm(s:SW):Prop:=Vc.Vm s.top/\Vc.Vm s.RT/\Vc.Vm s.RI/\Vc.Vm s.Rx/\Vc.Vm s.Sv/\Vc.Vm s.R8/\Vc.Vm s.Sh/\Vc.Vm s.head/\Vc.Vm s.before/\Vc.Vm s.after/\Vc.Vm s.inside/\Vc.Vm s.clear
def Nd.real(x:Nd):Prop:=(Vc.Vm x.kind/\Vc.Vm x.size/\x.st.Vm/\Vc.Vm x.line/\Vc.Vm x.space/\Vc.Vm x.side/\Vc.Vm x.w/\Vc.Vm x.h)/\x.words.length<=17592186043904/\∀n∈x.words,Vc.Vm n
section
variable {P:Program} {n:Nat} {t:TypeId} {vs:List V}
def Fk{k:IntKind}(ht:P.underlying t=some (.int k))(h:iy P (n+1) t vs):∃m,vs=[.int k m]/\(Lit.int k m).wf=true:=by
 simpa only[iy,ht]using h
def sc{e:TypeId}(ht:P.underlying t=some (.slice e))(h:iy P (n+1) t vs):∃rows,vs=[.sl (P.cellsOf e) rows]/\rows.length*P.bytesOf e<=reachBytes/\∀r∈rows,∃cs,iy P n e cs/\r=rowOf (fm P e) cs:=by
 simpa only[iy,ht]using h
def qW{fs:Array Field}(ht:P.underlying t=some (.struct fs))(h:iy P (n+1) t vs):we (iy P n) fs.toList vs:=by
 simpa only[iy,ht]using h
end
def IE:prog.cellsOf 3=1:=by kernel_rfl
def Ee:prog.cellsOf 59=20:=by kernel_rfl
def IQ:fm prog 3=false:=by kernel_rfl
def JS:fm prog 22=false:=by kernel_rfl
def LZ:fm prog 59=true:=by kernel_rfl
def Hl:prog.bytesOf 3=8:=by kernel_rfl
def Gd:prog.bytesOf 59=176:=by kernel_rfl
def dx{n:Nat}{vs:List V}(h:iy prog (n+1) 3 vs):∃m,vs=[vI m]/\Vm m:=by
 obtain⟨m,h,hw⟩:=Fk underlying3 h;exact⟨m,h,by simp[Lit.wf,IntKind.min,IntKind.max,IntKind.signed,IntKind.bits]at hw;unfold Vm;omega⟩
def ET{n:Nat}{vs:List V}(h:iy prog (n+2) 57 vs):∃l,vs=[bn l]/\l.length<=17592186043904/\∀n∈l,Vm n:=by
 obtain⟨rows,rfl,hl,h⟩:=sc underlying57 h;obtain⟨l,rfl,hp⟩:=wF (f:=vI) (p:=Vm) λr hr=>by
  obtain⟨cs,hc,rfl⟩:=h r hr;obtain⟨m,rfl,hm⟩:=dx hc;exact⟨m,by rw[IQ];rfl,hm⟩
 rw[Hl]at hl;simp only[List.length_map,reachBytes]at hl;exact⟨l,by rw[IE];rfl,by omega,hp⟩
def D9{n:Nat}{vs:List V}(h:iy prog (n+2) 56 vs):∃s:SW,vs=s.cells/\s.Vm:=by
 replace h:=qW underlying56 h;simp only[we]at h;obtain⟨_,_,rfl,h1,_,_,rfl,h2,_,_,rfl,h3,_,_,rfl,h4,_,_,rfl,h5,_,_,rfl,h6,_,_,rfl,h7,_,_,rfl,h8,_,_,rfl,h9,_,_,rfl,Wh,_,_,rfl,VQ,_,_,rfl,h12,rfl⟩:=h;obtain⟨m1,rfl,g1⟩:=dx h1;obtain⟨m2,rfl,g2⟩:=dx h2;obtain⟨m3,rfl,g3⟩:=dx h3;obtain⟨m4,rfl,g4⟩:=dx h4;obtain⟨m5,rfl,g5⟩:=dx h5;obtain⟨m6,rfl,g6⟩:=dx h6;obtain⟨m7,rfl,g7⟩:=dx h7;obtain⟨m8,rfl,g8⟩:=dx h8;obtain⟨m9,rfl,g9⟩:=dx h9;obtain⟨m10,rfl,g10⟩:=dx Wh;obtain⟨m11,rfl,g11⟩:=dx VQ;obtain⟨m12,rfl,g12⟩:=dx h12;exact⟨⟨m1,m2,m3,m4,m5,m6,m7,m8,m9,m10,m11,m12⟩,rfl,g1,g2,g3,g4,g5,g6,g7,g8,g9,g10,g11,g12⟩
def E9{n:Nat}{vs:List V}(h:iy prog (n+3) 59 vs):∃x:Nd,vs=x.cells/\x.real:=by
 replace h:=qW underlying59 h;simp only[we]at h;obtain⟨_,_,rfl,h1,_,_,rfl,h2,_,_,rfl,h3,_,_,rfl,h4,_,_,rfl,h5,_,_,rfl,h6,_,_,rfl,h7,_,_,rfl,h8,_,_,rfl,h9,rfl⟩:=h;obtain⟨m1,rfl,g1⟩:=dx h1;obtain⟨m2,rfl,g2⟩:=dx h2;obtain⟨s,rfl,g3⟩:=D9 h3;obtain⟨m4,rfl,g4⟩:=dx h4;obtain⟨m5,rfl,g5⟩:=dx h5;obtain⟨ws,rfl,g6,g6'⟩:=ET h6;obtain⟨m7,rfl,g7⟩:=dx h7;obtain⟨m8,rfl,g8⟩:=dx h8;obtain⟨m9,rfl,g9⟩:=dx h9;exact⟨⟨m1,m2,s,m4,m5,ws,m7,m8,m9⟩,rfl,⟨g1,g2,g3,g4,g5,g7,g8,g9⟩,g6,g6'⟩
def DZ{n:Nat}{vs:List V}(h:iy prog (n+4) 22 vs):∃l,vs=[aK l]/\l.length<=800000000000/\∀x∈l,x.real:=by
 obtain⟨rows,rfl,hl,h⟩:=sc underlying22 h;obtain⟨l,rfl,hp⟩:=wF (f:=iz) (p:=Nd.real) λr hr=>by
  obtain⟨cs,hc,rfl⟩:=h r hr;obtain⟨x,rfl,hx⟩:=E9 hc;exact⟨x,by rw[LZ];rfl,hx⟩
 rw[Gd]at hl;simp only[List.length_map,reachBytes]at hl;exact⟨l,by rw[Ee];rfl,by omega,hp⟩
def ph{n:Nat}{vs:List V}(h:iy prog (n+4) 22 vs):∃l,oF prog 22 vs=aK l/\l.length<=800000000000/\∀x∈l,x.real:=by
 obtain⟨l,rfl,h1,h2⟩:=DZ h;exact⟨l,by unfold oF;rw[JS];rfl,h1,h2⟩
open Go.Proofs Go.Proofs.Tryz
def mo(l:List Nd):∀(m a e:Nat),e-a<m->e<=l.length->cq l a e=true->∀k,a<=k->(h:k<e)->(h2:k<l.length)->cq l (k+1) (k+l[k].size.toNat)=true
 |0,_,_,h,_,_=>by omega
 |m+1,a,e,hm,he,hr=>by
  intro k hk hke h2;have Xa:a<e:=by omega
  have ha:a<l.length:=by omega
  rw[cq,dif_pos Xa]at hr;have hga:l[a]?=some l[a]:=by simp[ha]
  rw[hga]at hr;simp only at hr;split at hr
  .rename_i hx;simp only[Ba]at hr;obtain⟨⟨h3,h4⟩,h5⟩:=hr;by_cases hka:k=a
   .subst hka;exact h4
   .by_cases X9:k<a+l[a].size.toNat
    .exact mo l m (a+1) (a+l[a].size.toNat) (by omega) (by omega) h4 k (by omega) X9 h2
    .exact mo l m (a+l[a].size.toNat) e (by omega) he h5 k (by omega) hke h2
  .cases hr
def SS(x:Nd):Int:=if x.kind=1 then x.st.top+x.st.RT+x.st.RI+x.st.Rx+x.st.head else if x.kind=2 then x.line*x.words.length else x.h
def pof(x:Nd):Int:=if x.kind=1 then 0 else if x.kind=2 then x.words.length else 1
def jk:List Nd->Int
 |[]=>0
 |x::l=>SS x+jk l
def kv:List Nd->Int
 |[]=>0
 |x::l=>pof x+kv l
def AB(a b:List Nd):jk (a++b)=jk a+jk b:=by
 induction a with
 |nil=>simp[jk]
 |cons x a ih=>simp only[List.cons_append,jk,ih];omega
def yX(a b:List Nd):kv (a++b)=kv a+kv b:=by
 induction a with
 |nil=>simp[kv]
 |cons x a ih=>simp only[List.cons_append,kv,ih];omega
def sI{x:Nd}(h:x.ok=true):0<=SS x:=by
 obtain⟨p1,p2,p3,p4,p5,p6⟩:=jG h;unfold SS;split
 .rename_i hk;obtain⟨q1,q2,q3,q4,q5⟩:=p6 hk;omega
 .split
  .exact Int.mul_nonneg p2 (by omega)
  .exact p4
def zd{l:List Nd}(h:l.all Nd.ok=true):0<=jk l:=by
 induction l with
 |nil=>simp[jk]
 |cons x l ih=>
  simp only[List.all_cons,Ba]at h;have:=sI h.1;have:=ih h.2;simp only[jk];omega
def dm(l:List Nd):Nat->Int
 |0=>0
 |i+1=>match l[i]? with
  |some x=>if x.kind=1 then max (dm l i) (iI l i (i+1))else dm l i
  |none=>dm l i
def FU{l:List Nd}{i:Nat}{x:Nd}{s:Sm}(hx:x.ok=true)(hs:0<=s.O'/\s.O'<=1099511627777):(nN l i x s).O'=min (s.O'+SS x) 1099511627777/\(nN l i x s).pieces=s.pieces+pof x/\
 (nN l i x s).depth=(if x.kind=1 then max s.depth (iI l i (i+1))else s.depth)/\(nN l i x s).nodes=s.nodes:=by
 obtain⟨p1,p2,p3,p4,p5,p6⟩:=jG hx;unfold nN SS pof;by_cases hk:x.kind=1
 .obtain⟨q1,q2,q3,q4,q5⟩:=p6 hk;simp only[hk,if_true,jz];refine⟨by omega,by omega,trivial,trivial⟩
 .by_cases UK:x.kind=2
  .rw[if_neg hk,if_pos UK,if_neg hk,if_pos UK,if_neg hk,if_pos UK,if_neg hk];simp only[];refine⟨rT hs p2 _,trivial,trivial,trivial⟩
  .rw[if_neg hk,if_neg UK,if_neg hk,if_neg UK,if_neg hk,if_neg UK,if_neg hk];exact⟨rfl,rfl,rfl,rfl⟩
def uv(l:List Nd)(RC:l.all Nd.ok=true):∀i,i<=l.length->(gM l ⟨0,0,l.length,0⟩ i)=⟨dm l i,kv (l.take i),l.length,min (jk (l.take i)) 1099511627777⟩
 |0,_=>by simp[gM,dm,kv,jk];omega
 |i+1,hi=>by
  have ih:=uv l RC i (by omega);have hg:l[i]?=some l[i]:=by simp[show i<l.length by omega]
  have hx:=List.all_eq_true.1 RC _ (List.getElem_mem (show i<l.length by omega));have ht:l.take (i+1)=l.take i++[l[i]]:=List.take_succ_eq_append_getElem (by omega);have hn:0<=jk (l.take i):=zd (List.all_eq_true.2 λx hx=>List.all_eq_true.1 RC x (List.mem_of_mem_take hx));have hh:=sI hx;simp only[gM,hg,ih];obtain⟨g1,g2,g3,g4⟩:=FU (l:=l) (i:=i) (s:=⟨dm l i,kv (l.take i),l.length,min (jk (l.take i)) 1099511627777⟩) hx ⟨by simp only;omega,by simp only;omega⟩;generalize nN l i l[i] ⟨dm l i,kv (l.take i),l.length,min (jk (l.take i)) 1099511627777⟩=r at*;obtain⟨r1,r2,r3,r4⟩:=r;simp only at g1 g2 g3 g4;subst g1 g2 g3 g4;simp only[dm,hg,ht,yX,AB,kv,jk,Sm.mk.injEq,Int.add_zero,true_and];omega
open Go.Proofs Go.Proofs.Tryz
def V.flat:V->Bool
 |.agg vs=>vs.all V.lone
 |v=>v.lone
def V.Cn:V->Bool
 |.RB vs=>vs.all V.flat
 |v=>v.flat
def aA.lone{I Y':Mu}{ow T9:Nat->Prop}{w w':World}:∀{vs:List V} {l:List Value},vs.all V.lone=true->aA I ow w vs l->aA Y' T9 w' vs l
 |[],l,_,h=>by simpa[aA]using h
 |v::vs,l,hv,h=>by
  simp only[List.all_cons,Ba]at hv;simp only[aA]at h|-;obtain⟨x,xs,rfl,h1,h2⟩:=h;exact⟨x,xs,rfl,E'.lone hv.1 h1,aA.lone hv.2 h2⟩
def E'.flat{I Y':Mu}{ow T9:Nat->Prop}{w w':World}{v:V}{x:Value}(hv:v.flat=true)(h:E' I ow w v x):E' Y' T9 w' v x:=by
 cases v<;>try exact E'.lone hv h
 rename_i vs;simp only[E']at h|-;obtain⟨RF,rfl,h1,h2⟩:=h;exact⟨RF,rfl,aA.lone hv h1,h2⟩
def aA.flat{I Y':Mu}{ow T9:Nat->Prop}{w w':World}:∀{vs:List V} {l:List Value},vs.all V.flat=true->aA I ow w vs l->aA Y' T9 w' vs l
 |[],l,_,h=>by simpa[aA]using h
 |v::vs,l,hv,h=>by
  simp only[List.all_cons,Ba]at hv;simp only[aA]at h|-;obtain⟨x,xs,rfl,h1,h2⟩:=h;exact⟨x,xs,rfl,E'.flat hv.1 h1,aA.flat hv.2 h2⟩
def E'.Cn{I Y':Mu}{ow T9:Nat->Prop}{w w':World}{v:V}{x:Value}(hv:v.Cn=true)(h:E' I ow w v x):E' Y' T9 w' v x:=by
 cases v<;>try exact E'.flat hv h
 rename_i vs;simp only[E']at h|-;obtain⟨RF,rfl,h1⟩:=h;exact⟨RF,rfl,aA.flat hv h1⟩
def aV.uP{P:Program}{f:FuncId}{args args':List V}{v:V}{U:ai}(hw:ZP U jV args args')(h:aV P f args' v)(hv:v.Cn=true):
 aD P f args U λr Z'=>r=v/\Z'=U:=by
 refine⟨(h jV).1,?_⟩;intro I w RF hs hr;have Sj:Sat w (aG I jV) I jV w:=by
  have:=hs.drop (oV U);exact⟨Nat.le_refl _,rfl,rfl,rfl,λ_ _ _=>rfl,this.fin,this.inj,this.obj,λb hb _=>hb,this.oQ⟩
 refine((h jV).2 I w RF Sj (ZP.all hs hw hr)).mono ?_;rintro e w' ⟨r,Z',Y',val,rfl,⟨rfl,rfl⟩,hle,RP,UL⟩;have R7:∀b,¬aG I jV b:=λb ⟨_,_,_,_,h,_⟩=>by simp[jV]at h
 have TQ:∀b,b<w.heap.size->w'.heap[b]?=w.heap[b]?:=λb hb=>RP.same b hb (R7 b);have UP:∀id o,U id=some o->Y' id=I id:=λid o ho=>hle id (λe=>by
  have:=hs.obj id o ho;rw[e]at this;exact this)
 have hown:∀b,aG Y' U b->aG I U b:=λb ⟨id,o,sz,cap,h1,h2⟩=>⟨id,o,sz,cap,h1,UP id o h1▸h2⟩
 have hk:db (aG I U) (aG Y' U) w w':=λb hb hn=>⟨λho=>hn (hown b ho),TQ b hb⟩
 refine⟨_,U,Y',val,rfl,⟨rfl,rfl⟩,hle,?_,E'.Cn hv UL⟩;refine⟨RP.size,RP.os,RP.tape,RP.output,λb hb _=>TQ b hb,RP.fin,?_,?_,λb hb _=>hown b hb,hs.UW⟩
 .intro id Tx o o' b sz cap UC Tc h1 h2 h3 h4;exact hs.inj id Tx o o' b sz cap UC Tc h1 h2 (UP id o h1▸h3) (UP Tx o' h2▸h4)
 .intro id o ho;rw[UP id o ho];refine(hs.obj id o ho).mono hle hk RP.size λb sz cap hp=>TQ b ?_;exact aG.lt hs ⟨id,o,sz,cap,ho,hp⟩
open Go.Proofs Go.Proofs.Tryz
def dt{l:List Nd}{a e:Nat}(he:e<=l.length)(h:cq l a e=true){k:Nat}(h1:a<=k)(h2:k<e):(k:Int)+Sa l k<=e/\1<=Sa l k:=by
 have:=iC l (e-a+1) a e (by omega) he h k h1 h2 (by omega);rw[lf (by omega)];omega
def ej{l:List Nd}{a e:Nat}(he:e<=l.length)(h:cq l a e=true)(Xa:a<e):cq l (a+(Sa l a).toNat) e=true/\cq l (a+1) (a+(Sa l a).toNat)=true:=by
 have ha:a<l.length:=by omega
 rw[cq,dif_pos Xa]at h;simp only[List.getElem?_eq_getElem ha]at h;rw[lf ha];split at h
 .simp only[Ba]at h;exact⟨h.2,h.1.2⟩
 .cases h
open Go.Proofs Go.Proofs.Tryz
def Bo(l:List Nd)(hl:dH l)(hb:So l=true):aV prog 161 [aK l] (.agg [aK l]):=λU=>by
 refine Qg.r (by simp[MW]) ?_;refine ad.mix 3 ?_;apply sR;simp only[go_sem,seval,MW];refine af λWC Z1 s1 a2 f2=>?_;simp only[go_sem,seval,a2];refine ad.aB rfl rfl rfl (BN l hl _) ?_;apply sR;simp only[go_sem,seval,hb,a2,aK];refine ay.pure (s1.aE f2) rfl
def Lb(l:List Nd)(a:Int):aV prog 261 [aK l,vI a] (.bool (uS l a)):=λU=>by
 refine O6.r (by simp[JB]) ?_;refine ad.mix 6 ?_;apply sR;simp only[go_sem,seval,aO,aP,JB,fj];refine And.intro (λh=>?_) (λh=>?_)
 .refine ay.same ?_;simp[uS];omega
 .refine ay.same ?_;simp[uS];omega
def uX(l:List Nd)(hl:dH l)(hb:So l=true)(a:Nat)(ha:a<l.length):aV prog 262 [aK l,vI a] (vI (eQ l a)):=λU=>by
 have hl1:=hl.1;refine PW.r (by simp[Lc]) ?_;refine ad.mix 6 ?_;apply sR;simp only[go_sem,seval,aO,aP,Lc];refine⟨ao (by omega) (by omega),?_⟩;refine ad.loop (λm st=>∃(k:Nat),k<=a/\m=k/\eQ l a=rC l a k/\st.U=U/\st.s 0=aK l/\st.s 1=vI a/\st.s 5=vI ((k:Int)-1)) a ?_ ?_
 .exact⟨a,by omega,rfl,rfl,rfl,rfl,rfl,rfl⟩
 .rintro m ⟨s,Z'⟩ ⟨k,hk,rfl,heq,R3,h0,h1,h5⟩;simp only at R3 h0 h1 h5;subst R3;refine ad.mix 6 ?_;apply sR;simp only[go_sem,seval,aO,aP,h0,h1,h5];refine And.intro (λh=>?_) (λh=>?_)
  .obtain⟨k,rfl⟩:∃j,m=j+1:=⟨m-1,by omega⟩
   have e1:((k+1:Nat):Int)-1=k:=by omega
   have H':k<l.length:=by omega
   have TF:=pO hb H';have hse:=lf H';have hx:=lY (U:=Z') H';simp only[go_sem,seval,aO,aP,e1,hx,Nd.cells,h0,h1,h5];rw[<-hse];refine⟨ao (by omega) (by omega),And.intro (λhc=>?_) (λhc=>?_)⟩
   .refine ay.same ?_;rw[heq,rC,if_pos];simp only[gU,Ba,decide_eq_true_eq,uS];simp;omega
   .refine⟨ao (by omega) (by omega),_,?_,k,by omega,rfl,?_,rfl⟩
    .omega
    .rw[heq,rC,if_neg];simp only[gU,Ba,decide_eq_true_eq,uS];simp;omega
  .have Vi:m=0:=by omega
   subst Vi;refine ay.same ?_;rw[heq];rfl
end Go.Vc
