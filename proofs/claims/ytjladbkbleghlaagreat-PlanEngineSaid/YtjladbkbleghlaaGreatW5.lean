/- Part 5 of the library of this proof. -/
import Derived.Test.YtjladbkbleghlaaGreatW4
import Derived.WalkKit
import Derived.ProofKit
import Derived.Deep.Slices
import Derived.ChangeArms
import Derived.WideKeyArgs
import Derived.Carry
import Derived.SizedLaws
set_option linter.all false
set_option maxHeartbeats 8000000
set_option maxRecDepth 100000
namespace Go.Vc
open Go.ChangeShapes Go.WideShapes Go.RowKit Go.Deep
def tQ(P:Program)(total:Nat):Nat->List Field->Bool
 |off,[]=>off==total
 |off,f::fs=>f.offset==off&&tQ P total (off+P.cellsOf f.type) fs
def Bb(P:Program):Nat->TypeId->Bool
 |0,_=>false
 |n+1,t=>match P.underlying t with
  |some .bool|some (.int _)|some .string=>true
  |some (.slice e)=>Bb P n e&&P.cellsOf e != 0
  |some (.struct fs)=>tQ P (P.cellsOf t) 0 fs.toList&&fs.toList.all λf=>Bb P n f.type
  |_=>false
def rowOf(agg:Bool)(cs:List V):V:=if agg then .agg cs else cs.getD 0 .undef
def wB(S:TypeId->List V->Prop):List Field->List V->Prop
 |[],vs=>vs=[]
 |f::fs,vs=>∃a b,vs=a++b/\S f.type a/\wB S fs b
def jo(P:Program):Nat->TypeId->List V->Prop
 |0,_,_=>False
 |n+1,t,vs=>match P.underlying t with
  |some .bool=>∃b,vs=[.bool b]
  |some (.int k)=>∃m,vs=[.int k m]/\(Lit.int k m).wf=true
  |some .string=>∃s:List UInt8,vs=[.str s]/\s.length<=reachBytes
  |some (.slice e)=>∃rows,vs=[.sl (P.cellsOf e) rows]/\rows.length*P.bytesOf e<=reachBytes/\∀r∈rows,∃cs,jo P n e cs/\r=rowOf (fH P e) cs
  |some (.struct fs)=>wB (jo P n) fs.toList vs
  |_=>False
def CV{α:Type}{Pr:Nat->α->Prop}:∀n,(∀i,i<n->∃r,Pr i r)->∃rows:List α,rows.length=n/\∀i r,rows[i]?=some r->Pr i r
 |0,_=>⟨[],rfl,λi r h=>by simp at h⟩
 |n+1,h=>by
  obtain⟨rows,h1,h2⟩:=CV n λi hi=>h i (by omega);obtain⟨r,hr⟩:=h n (by omega);refine⟨rows++[r],by simp[h1],λi x hx=>?_⟩;rw[Lh]at hx;split at hx
  .exact h2 i x hx
  .rename_i hi;have:i-rows.length=0:=by
    rcases Nat.eq_zero_or_pos (i-rows.length)with h0|h0
    .exact h0
    .rw[rC (by simp;omega)]at hx;cases hx
   rw[this]at hx;simp at hx;subst hx;have:i=n:=by omega
   subst this;exact hr
def uR{I:Mu}{ow:Nat->Prop}{w:World}{b off sz:Nat}:∀(rows:List V) (k:Nat),(∀i r,rows[i]?=some r->r.cells.length=sz/\aW I ow w r.cells b (off+(k+i)*sz))->bg I ow w rows b (off+k*sz) sz
 |[],_,_=>by simp[bg]
 |r::rs,k,h=>by
  have h0:=h 0 r rfl;simp only[bg];refine⟨h0.1,by rw[eh];simpa using h0.2,?_⟩;have e:off+k*sz+sz=off+(k+1)*sz:=by rw[Nat.add_mul];omega
  rw[e];refine uR rs (k+1) λi x hx=>?_;have:=h (i+1) x (by simpa using hx);rw[show k+1+i=k+(i+1) by omega];exact this
section
variable {H:Type} {enc:TypeId×Value->H} {P:Program} {w:World} {base:Nat} {spare:Nat->Bool} {held:Bool} {I:Mu} {ow:Nat->Prop}
def GH(P:Program)(I:Mu)(ow:Nat->Prop)(w:World)(N:Nat)(t:TypeId)(cs:List Value):Prop:=
 ∃vs,jo P N t vs/\ax I ow w vs cs/\∀u∈cs,u.oneCell'=true
def uU{S:TypeId->List V->Prop}{cs:List Value}:∀(fs:List Field) (off:Nat),tQ P cs.length off fs=true->
 (∀f∈fs,∃vs,S f.type vs/\ax I ow w vs ((cs.drop f.offset).take (P.cellsOf f.type))/\∀u∈(cs.drop f.offset).take (P.cellsOf f.type),u.oneCell'=true)->
 ∃vs,wB S fs vs/\ax I ow w vs (cs.drop off)/\∀u∈cs.drop off,u.oneCell'=true
 |[],off,hc,_=>by
  simp only[tQ,beq_iff_eq]at hc;refine⟨[],rfl,?_,?_⟩
  .rw[E6 (by omega)];simp[ax]
  .rw[E6 (by omega)];simp
 |f::fs,off,hc,h=>by
  simp only[tQ,Ba,beq_iff_eq]at hc;obtain⟨a,h1,h2,h3⟩:=h f (by simp);obtain⟨b,h4,h5,h6⟩:=uU fs (off+P.cellsOf f.type) hc.2 λg hg=>h g (by simp[hg]);rw[hc.1]at h2 h3;have e:cs.drop off=(cs.drop off).take (P.cellsOf f.type)++cs.drop (off+P.cellsOf f.type):=by
   rw[<-List.drop_drop,ua]
  refine⟨a++b,⟨a,b,rfl,h1,h4⟩,?_,?_⟩
  .rw[e];exact h2.append h5
  .rw[e];intro u hu;rcases ei.1 hu with hu|hu
   .exact h3 u hu
   .exact h6 u hu
def pH{v:V}{x:Value}(h:E' I ow w v x):ax I ow w [v] [x]:=by simp only[ax];exact⟨x,[],rfl,h,rfl⟩
def sE{t:TypeId}{fs:Array Field}(h:P.underlying t=some (.struct fs)):fH P t=true:=by simp[fH,h]
def mO{e:TypeId}{d:DataW H}:∀{l:List (DataW H)},d∈l->∀n∈d.weights P e,n∈DataW.weightsAll P e l
 |[],h,_,_=>by simp at h
 |x::l,h,n,hn=>by
  simp only[DataW.weightsAll,ei];rcases dc.1 h with rfl|h
  .exact .inl hn
  .exact .inr (mO h n hn)
def nB(Qr:∀b,¬ow b):∀(N:Nat) (fuel:Nat) (t:TypeId) (cs:List Value) (x:DataW H×List MemPlace),Bb P N t=true->(∀n∈x.1.weights P t,n<=reachBytes)->DataW.trod enc P w base spare held fuel t cs=some x->
 GH P I ow w N t cs
 |0,_,_,_,_,h,_,_=>by simp[Bb]at h
 |N+1,fuel,t,cs,x,P5,Yj,hx=>by
  have hok':=P5;unfold Bb at P5;unfold GH;simp only[jo];split at P5
  .rename_i ht;obtain⟨b,rfl,_⟩:=DataW.trod_bool ht hx;exact⟨[.bool b],⟨b,rfl⟩,pH (by simp[E']),by simp[Value.oneCell']⟩
  .rename_i k ht;obtain⟨m,rfl,_,hw⟩:=DataW.trod_int ht hx;exact⟨[.int k m],⟨m,rfl,hw⟩,pH (by simp[E']),by simp[Value.oneCell']⟩
  .rename_i ht;obtain⟨s,rfl,rfl,hw⟩:=DataW.trod_string ht hx;exact⟨[.str s.data.toList],⟨_,rfl,Yj _ (by simp[DataW.weights])⟩,pH (by simp[E']),by simp[Value.oneCell']⟩
  .rename_i e ht;simp only[Ba,bne_iff_ne,ne_eq]at P5;rcases open_slice ht hx with⟨rfl,_⟩|⟨a,len,cap,m,n,D,Pl,rfl,hb,hl,hm,hmm,rfl,hi⟩
   .exact⟨[.sl (P.cellsOf e) []],⟨[],rfl,by simp,by simp⟩,pH (by simp only[E'];exact⟨none,0,rfl,by simp,.inl trivial⟩),by simp[Value.oneCell']⟩
   .have Vf:len<=m:=by rw[hmm];split<;>omega
    simp only[DataW.weights,ht]at Yj;have hlen:len*P.bytesOf e<=reachBytes:=by
     have:=Yj _ (List.mem_cons_self ..);simp only[du,List.length_range]at this;exact mq (Nat.mul_le_mul_right _ (by omega)) this
    have TR:∀i,i<len->∃r:V,(∃cs,jo P N e cs/\r=rowOf (fH P e) cs)/\r.cells.length=P.cellsOf e/\∃cs',ax I ow w r.cells cs'/\(∀u∈cs',u.oneCell'=true)/\cs'.length=P.cellsOf e/\
     ∀j,j<P.cellsOf e->w.cell? ((a.add (i*P.cellsOf e)).add j)=cs'[j]?:=by
     intro i XQ;obtain⟨cs',h1,h2⟩:=hi i (by omega);obtain⟨_,QG,RG⟩:=World.cells?_some h1;obtain⟨vs,h3,h4,h5⟩:=nB Qr N n e cs' _ P5.1 (λq hq=>Yj q (List.mem_cons_of_mem _ (List.mem_append_left _ (mO (fM.2 ⟨i,by simpa using XQ,rfl⟩) q hq)))) h2;have YA:vs.length=P.cellsOf e:=by rw[<-QG,h4.length]
     have Uw:(rowOf (fH P e) vs).cells=vs:=by
      unfold rowOf;split
      .rfl
      .rename_i hna;cases N with
       |zero=>simp[jo]at h3
       |succ N'=>
        unfold jo at h3;split at h3
        .obtain⟨b,rfl⟩:=h3;rfl
        .obtain⟨b,rfl,_⟩:=h3;rfl
        .obtain⟨b,rfl,_⟩:=h3;rfl
        .obtain⟨b,rfl,_⟩:=h3;rfl
        .rename_i hs;exact absurd (sE hs) hna
        .exact h3.elim
     exact⟨rowOf (fH P e) vs,⟨vs,h3,rfl⟩,by rw[Uw,YA],cs',by rw[Uw];exact h4,h5,QG,RG⟩
    obtain⟨rows,hr1,hr2⟩:=CV len TR;refine⟨[.sl (P.cellsOf e) rows],⟨rows,rfl,by rw[hr1];exact hlen,λr hr=>?_⟩,pH ?_,by simp[Value.oneCell']⟩
    .obtain⟨i,XQ⟩:=GO hr;exact(hr2 i r XQ).1
    .simp only[E'];refine⟨some a,cap,by rw[hr1],by omega,?_⟩;by_cases h0:len=0
     .left;exact qK (by omega)
     .right;have VD:∃r,rows[0]?=some r:=⟨rows[0]'(by omega),by simp⟩
      obtain⟨r0,hr0⟩:=VD;obtain⟨_,_,cs0,_,_,hcl0,hat0⟩:=hr2 0 r0 hr0;have Th:=hat0 0 (by omega);rw[Tq (by omega)]at Th;have hspot:a.spot=none:=by
       have:=World.cell?_spot Th;simpa[Addr.add]using this
      obtain⟨b,off,spot⟩:=a;subst hspot;refine⟨b,off,rfl,Qr b,by omega,?_⟩;have:=uR (I:=I) (ow:=ow) (w:=w) (b:=b) (off:=off) (sz:=P.cellsOf e) rows 0 λi r hri=>?_
      .simpa using this
      .obtain⟨_,h1,cs',h2,h3,h4,h5⟩:=hr2 i r hri;refine⟨h1,lj h2 h3 λj u hu=>?_⟩;have hj:j<P.cellsOf e:=by rw[<-h4];exact(nY.1 hu).1
       have:=h5 j hj;rw[hu,add_plain,add_plain]at this;rw[kI];exact this
  .rename_i fs ht;simp only[Ba]at P5;obtain⟨xs,n,_,rfl,hl,ZT,hf⟩:=DataW.trod_struct ht hx;simp only[DataW.weights,ht]at Yj;obtain⟨vs,h1,h2,h3⟩:=uU (I:=I) (ow:=ow) (w:=w) (P:=P) (S:=jo P N) (cs:=cs) fs.toList 0 (by rw[hl];exact P5.1) λf hfm=>by
    obtain⟨i,hi⟩:=GO hfm;have XQ:fs[i]?=some f:=by simpa using hi
    have H':i<xs.length:=by rw[ZT];exact(mT.1 XQ).1
    have h1:=hf i f XQ;rw[Tq H']at h1;exact nB Qr N n f.type _ _ (fv.1 P5.2 f hfm) (λq hq=>Yj q (DataW.weights_mem_each (j:=i) (t:=f.type) (d:=(xs[i]'H').1) (by simp[hi]) (by simp[H']) q hq)) h1
   exact⟨vs,h1,by simpa using h2,by simpa using h3⟩
  .cases P5
def pZ(P:Program)(t:TypeId)(vs:List V):V:=if fH P t then .agg vs else vs.getD 0 .undef
def Hz(Qr:∀b,¬ow b){N:Nat}{t:TypeId}{v:Value}{d:DataW H}{p:List MemPlace}{r:Reach}{b0:Nat}(P5:Bb P N t=true)(Yj:∀n∈d.weights P t,n<=reachBytes)(Ud:Value.okWide P w r b0 t v)(h:DataW.Trod enc P w base spare held t v d p):
 ∃vs,jo P N t vs/\E' I ow w (pZ P t vs) v:=by
 obtain⟨fuel,hf⟩:=h;obtain⟨vs,h1,h2,h3⟩:=nB (I:=I) Qr N fuel t _ _ P5 Yj hf;refine⟨vs,h1,?_⟩;cases N with
 |zero=>simp[jo]at h1
 |succ N'=>
  unfold jo at h1;have Rb:∀u:V,vs=[u]->v.cells=#[v]->fH P t=false->E' I ow w (pZ P t vs) v:=by
   rintro u rfl hc ha;rw[hc]at h2;simp only[ax]at h2;obtain⟨x,xs,h4,h5,h6⟩:=h2;simp only[List.cons.injEq]at h4;simp only[pZ,ha,jz,if_false];rw[h4.1];exact h5
  split at h1
  .rename_i ht;obtain⟨b,rfl⟩:=h1;obtain⟨x,rfl⟩:=okWide_bool ht Ud;exact Rb _ rfl rfl (by simp[fH,ht])
  .rename_i ht;obtain⟨b,rfl,_⟩:=h1;obtain⟨x,rfl⟩:=okWide_int ht Ud;exact Rb _ rfl rfl (by simp[fH,ht])
  .rename_i ht;obtain⟨b,rfl,_⟩:=h1;obtain⟨x,rfl⟩:=okWide_string ht Ud;exact Rb _ rfl rfl (by simp[fH,ht])
  .rename_i ht;obtain⟨b,rfl,_⟩:=h1;obtain⟨x,y,z,rfl⟩:=okWide_slice ht Ud;exact Rb _ rfl rfl (by simp[fH,ht])
  .rename_i ht;obtain⟨cs,rfl,_⟩:=okWide_struct ht Ud;simp only[pZ,sE ht,if_true,E'];exact⟨cs.toList,by simp,by simpa[Value.cells]using h2,by simpa[Value.cells]using h3⟩
  .exact h1.elim
def yr(P:Program)(N:Nat):List TypeId->List V->Prop
 |[],us=>us=[]
 |t::ts,us=>∃vs us',us=pZ P t vs::us'/\jo P N t vs/\yr P N ts us'
def A0(Qr:∀b,¬ow b){N:Nat}{r:Reach}{b0:Nat}:∀{ts:List TypeId} {vs:List Value} {ds:List (DataW H)} {p:List MemPlace},(∀t∈ts,Bb P N t=true)->(∀n∈DataW.weightsEach P ts ds,n<=reachBytes)->
 (∀(j:Nat) t v,ts[j]?=some t->vs[j]?=some v->Value.okWide P w r b0 t v)->DataW.TrodAll enc P w base spare held ts vs ds p->∃us,yr P N ts us/\ax I ow w us vs
 |[],vs,ds,p,_,_,_,h=>by
  cases vs<;>cases ds<;>simp[DataW.TrodAll]at h;exact⟨[],rfl,by simp[ax]⟩
 |t::ts,vs,ds,p,P5,Yj,Ud,h=>by
  obtain⟨v,vs',d,ds',p',q,rfl,rfl,rfl,h1,h2⟩:=trodAll_cons h;simp only[DataW.weightsEach,ei]at Yj;obtain⟨cs,g1,g2⟩:=Hz (I:=I) (b0:=b0) Qr (P5 t (by simp)) (λq hq=>Yj q (.inl hq)) (Ud 0 t v rfl rfl) h1;obtain⟨us,g3,g4⟩:=A0 (b0:=b0) Qr (λu hu=>P5 u (by simp[hu])) (λq hq=>Yj q (.inr hq)) (λj u x hj hx=>Ud (j+1) u x (by simpa using hj) (by simpa using hx)) h2;exact⟨_::us,⟨cs,us,rfl,g1,g3⟩,by simp only[ax];exact⟨v,vs',rfl,g2,g4⟩⟩
def oz(hl:laidOutB P=true):∀{ts:List TypeId} {vs:List Value} {ds:List (DataW H)} {p:List MemPlace} {W W':World} {sp:Nat->Bool},(∀t∈ts,P.readableRec t=true/\t<P.types.size)->
 DataW.TrodAll enc P W 0 (λ_=>true) true ts vs ds p->Below W.heap.size W W'->(∀x∈p,x.block<W.heap.size)->(∀x∈p,sp x.block=true)->DataW.TrodAll enc P W' 0 sp true ts vs ds p
 |[],vs,ds,p,W,W',sp,_,h,_,_,_=>by
  cases vs<;>cases ds<;>simp[DataW.TrodAll]at h|-;exact h
 |t::ts,vs,ds,p,W,W',sp,ht,h,hb,H',Ue=>by
  obtain⟨v,vs',d,ds',p',q,rfl,rfl,rfl,h1,h2⟩:=trodAll_cons h;refine⟨p',q,WideElems.Trod_stays hl (ht t (by simp)).1 (ht t (by simp)).2 h1 (λx hx=>hb.same (H' x (by simp[hx]))) (λx hx=>Ue x (by simp[hx])),?_,rfl⟩;exact oz hl (λu hu=>ht u (by simp[hu])) h2 hb (λx hx=>H' x (by simp[hx])) (λx hx=>Ue x (by simp[hx]))
end
def wa{H:Type}{enc:TypeId×Value->H}{P:Program}{f:Func}{s:ChangeSpec}{apart fresh handsOn again:Bool}{W W':World}{args:Array Value}{v:Value}{ds gs:List (DataW H)}{before pa pv:List MemPlace}
 (hW:DataW.Whole enc P f.params.toList s.vars apart W args.toList ds gs before)
 (UX:∀(b:Nat) (sp:Nat->Bool) (hd:Bool),DataW.TrodAll enc P W' b sp hd f.resultTypes.toList (v.resultList f.resultTypes.size) (s.fn H (ds++gs)).results [])
 (QM:∀sp:Nat->Bool,(∀p∈before,sp p.block=true)->DataW.TrodAll enc P W' 0 sp true f.params.toList args.toList (s.fn H (ds++gs)).args pa)
 (Wf:∀sp:Nat->Bool,(∀p∈before,sp p.block=true)->DataW.TrodVars enc P W' sp s.vars (s.fn H (ds++gs)).vars pv)
 (Uq:before=pa++pv)(hb:Below W.heap.size W W')
 (P5:∀(j:Nat) (t:TypeId) (r:Value),f.resultTypes[j]?=some t->(v.resultList f.resultTypes.size)[j]?=some r->Value.okWide P W' .any 0 t r):
 s.post enc P f apart fresh handsOn again W args v W':=by
 have H':∀p∈before,p.block<W.heap.size:=λp hp=>hW.lt p hp;have hold:∀p∈before,(λb=>decide (b<W.heap.size)) p.block=true:=λp hp=>by simpa using H' p hp
 refine⟨ds,gs,before,[],pa,pv,hW,UX _ _ _,QM _ hold,Wf _ hold,World.keptBut_mono (λp hp=>⟨hp,?_⟩) (hb.frame (·∈before)),λ_=>?_⟩
 .rw[Uq,ei]at hp;exact Or.inr hp
 .obtain⟨_,_,_,_,_,hz,hn⟩:=hW;refine⟨P5,_,_,([]++pa)++pv,⟨[]++pa,pv,trodAll_append (QM _ (λ_ _=>rfl)) (UX _ _ _),Wf _ (λ_ _=>rfl),rfl,?_,?_⟩,?_⟩
  .intro b off hp;have Vx:MemPlace.cell b off∈before:=by rw[Uq];simpa using hp
   rw[hb.frozen (H' _ Vx)];exact hz b off Vx
  .intro ha;have:=hn ha;rw[Uq]at this;simpa using this
  .intro p hp _;rw[Uq];simpa using hp
def F0{H:Type}{enc:TypeId×Value->H}{P:Program}{f:Func}{i:FuncId}{s:ChangeSpec}{N:Nat}(RP:P.funcs[i]?=some f)(hl:laidOutB P=true)
 (UL:f.params.toList.all (λt=>Bb P N t&&(P.readableRec t&&decide (t<P.types.size)))=true)(Wf:s.vars=[]){tb:TypeId}(UX:f.resultTypes=#[tb])(htb:P.underlying tb=some .bool)
 (hfn:∀ds,ds.length=f.params.size->s.fn H ds=⟨[.lit (.bool true)],ds,[]⟩)
 (Uf:∀us,yr P N f.params.toList us->bb P i us (.bool true))
 {apart fresh handsOn again:Bool}{W:World}{base:Nat}{args:Array Value}{ds gs:List (DataW H)}{before:List MemPlace}
 (Ud:∀(j:Nat) t v,f.params[j]?=some t->args[j]?=some v->Value.okWide P W .any base t v)
 (hW:DataW.Whole enc P f.params.toList s.vars apart W args.toList ds gs before)(hvt:s.plain.varTypes P=[])
 (RS:(DataW.weightsEach P (f.params.toList++s.plain.varTypes P) (ds++gs)).all (·<=reachBytes)=true)(hO:Nc W):
 Calls P i args W λe W'=>∃v,e=.returned v/\s.post enc P f apart fresh handsOn again W args v W':=by
 have hW':=hW;obtain⟨p,q,hA,hV,rfl,hfz,Rh⟩:=hW;have hts':=fv.1 UL;simp only[Ba,Sp]at hts';rw[Wf]at hV;have hnoV:gs=[]/\q=[]:=by
  cases gs with
  |nil=>exact⟨rfl,by simpa[DataW.TrodVars]using hV⟩
  |cons g gs=>simp[DataW.TrodVars]at hV
 obtain⟨rfl,rfl⟩:=hnoV;have Qr:∀b,¬aI (λ_=>Pl.dQ) lB b:=λb ⟨_,_,_,_,h,_⟩=>by simp[lB]at h
 obtain⟨us,SZ,Rc⟩:=A0 (I:=λ_=>Pl.dQ) (ow:=aI (λ_=>Pl.dQ) lB) (b0:=base) (r:=.any) Qr (λt ht=>(hts' t ht).1)
  (by rw[hvt,kL,kL]at RS;intro n hn;simpa using fv.1 RS n hn) (λj t v hj hv=>Ud j t v (by simpa using hj) (by simpa using hv)) hA
 have RZ:Sat W (aI (λ_=>Pl.dQ) lB) (λ_=>Pl.dQ) lB W:=
  ⟨Qt _,rfl,rfl,rfl,λ_ _ _=>rfl,⟨0,λ_ _=>rfl⟩,λ_ _ _ _ _ _ _ _ _ h=>by simp[lB]at h,λ_ _ h=>by simp[lB]at h,λb hb=>(Qr b hb).elim,⟨W,hO,Qt _,λi _=>⟨Qr i,rfl⟩⟩⟩
 have Rq:=(Uf us SZ lB).2 (λ_=>Pl.dQ) W args.toList RZ Rc;rw[Array.toArray_toList]at Rq;refine Rq.mono ?_;rintro e W' ⟨r,Z',Y',val,rfl,⟨rfl,rfl⟩,_,PZ,hr⟩;simp only[E']at hr;subst hr;have hbel:Below W.heap.size W W':=⟨PZ.os,PZ.tape,PZ.output,PZ.size,λk hk=>PZ.same k hk (Qr k)⟩
 have hlen:ds.length=f.params.size:=by
  have key:∀{ts:List TypeId} {vs:List Value} {ds:List (DataW H)} {p:List MemPlace},DataW.TrodAll enc P W 0 (λ_=>true) true ts vs ds p->ds.length=ts.length:=by
   intro ts
   induction ts with
   |nil=>intro vs ds p h;cases vs<;>cases ds<;>simp[DataW.TrodAll]at h|-
   |cons t ts ih=>
    intro vs ds p h;obtain⟨_,_,_,_,_,_,_,rfl,_,_,h2⟩:=trodAll_cons h;simp[ih h2]
  simpa using key hA
 have hfn':=hfn ds hlen;refine⟨.bool true,rfl,wa (pa:=p) (pv:=[]) hW' ?_ ?_ ?_ rfl hbel ?_⟩
 .intro b sp hd;rw[kL,hfn',UX];exact⟨[],[],shut_bool htb _,rfl,rfl⟩
 .intro sp Ue;rw[kL,hfn'];refine oz hl (λt ht=>(hts' t ht).2) hA hbel (λx hx=>by simpa using hW'.lt x (by simpa using hx)) (λx hx=>Ue x (by simpa using hx))
 .intro sp _;rw[kL,hfn',Wf];rfl
 .exact ok_one UX rfl (okWide_bool_mk htb _)
open Go.Proofs Go.Proofs.Tryz
def ye{α:Type}{f:α->V}{p:α->Prop}:∀{rows:List V},(∀r∈rows,∃x,r=f x/\p x)->∃l:List α,rows=l.map f/\∀x∈l,p x
 |[],_=>⟨[],rfl,by simp⟩
 |r::rs,h=>by
  obtain⟨x,rfl,hx⟩:=h r (by simp);obtain⟨l,rfl,hl⟩:=ye λq hq=>h q (List.mem_cons_of_mem _ hq);exact⟨x::l,rfl,by simpa using⟨hx,hl⟩⟩
def TL(m:Int):Prop:=-9223372036854775808<=m/\m<=9223372036854775807
def Ru.TL(s:Ru):Prop:=Vc.TL s.top/\Vc.TL s.P8/\Vc.TL s.PS/\Vc.TL s.PG/\Vc.TL s.QE/\Vc.TL s.Qk/\Vc.TL s.Qw/\Vc.TL s.head/\Vc.TL s.before/\Vc.TL s.after/\Vc.TL s.inside/\Vc.TL s.clear
def Nd.real(x:Nd):Prop:=(Vc.TL x.kind/\Vc.TL x.size/\x.st.TL/\Vc.TL x.line/\Vc.TL x.space/\Vc.TL x.side/\Vc.TL x.w/\Vc.TL x.h)/\x.words.length<=17592186043904/\∀n∈x.words,Vc.TL n
section
variable {P:Program} {n:Nat} {t:TypeId} {vs:List V}
def F8{k:IntKind}(ht:P.underlying t=some (.int k))(h:jo P (n+1) t vs):∃m,vs=[.int k m]/\(Lit.int k m).wf=true:=by
 simpa only[jo,ht]using h
def uF{e:TypeId}(ht:P.underlying t=some (.slice e))(h:jo P (n+1) t vs):∃rows,vs=[.sl (P.cellsOf e) rows]/\rows.length*P.bytesOf e<=reachBytes/\∀r∈rows,∃cs,jo P n e cs/\r=rowOf (fH P e) cs:=by
 simpa only[jo,ht]using h
def rS{fs:Array Field}(ht:P.underlying t=some (.struct fs))(h:jo P (n+1) t vs):wB (jo P n) fs.toList vs:=by
 simpa only[jo,ht]using h
end
def ID:prog.cellsOf 3=1:=by kernel_rfl
def FF:prog.cellsOf 51=20:=by kernel_rfl
def I3:fH prog 3=false:=by kernel_rfl
def Ls:fH prog 22=false:=by kernel_rfl
def KQ:fH prog 51=true:=by kernel_rfl
def H5:prog.bytesOf 3=8:=by kernel_rfl
def Gy:prog.bytesOf 51=176:=by kernel_rfl
def dJ{n:Nat}{vs:List V}(h:jo prog (n+1) 3 vs):∃m,vs=[vI m]/\TL m:=by
 obtain⟨m,h,hw⟩:=F8 underlying3 h;exact⟨m,h,by simp[Lit.wf,IntKind.min,IntKind.max,IntKind.signed,IntKind.bits]at hw;unfold TL;omega⟩
def Gt{n:Nat}{vs:List V}(h:jo prog (n+2) 23 vs):∃l,vs=[bD l]/\l.length<=17592186043904/\∀n∈l,TL n:=by
 obtain⟨rows,rfl,hl,h⟩:=uF underlying23 h;obtain⟨l,rfl,hp⟩:=ye (f:=vI) (p:=TL) λr hr=>by
  obtain⟨cs,hc,rfl⟩:=h r hr;obtain⟨m,rfl,hm⟩:=dJ hc;exact⟨m,by rw[I3];rfl,hm⟩
 rw[H5]at hl;simp only[du,reachBytes]at hl;exact⟨l,by rw[ID];rfl,by omega,hp⟩
def Df{n:Nat}{vs:List V}(h:jo prog (n+2) 49 vs):∃s:Ru,vs=s.cells/\s.TL:=by
 replace h:=rS underlying49 h;simp only[wB]at h;obtain⟨_,_,rfl,h1,_,_,rfl,h2,_,_,rfl,h3,_,_,rfl,h4,_,_,rfl,h5,_,_,rfl,h6,_,_,rfl,h7,_,_,rfl,h8,_,_,rfl,h9,_,_,rfl,VB,_,_,rfl,Up,_,_,rfl,h12,rfl⟩:=h;obtain⟨m1,rfl,g1⟩:=dJ h1;obtain⟨m2,rfl,g2⟩:=dJ h2;obtain⟨m3,rfl,g3⟩:=dJ h3;obtain⟨m4,rfl,g4⟩:=dJ h4;obtain⟨m5,rfl,g5⟩:=dJ h5;obtain⟨m6,rfl,g6⟩:=dJ h6;obtain⟨m7,rfl,g7⟩:=dJ h7;obtain⟨m8,rfl,g8⟩:=dJ h8;obtain⟨m9,rfl,g9⟩:=dJ h9;obtain⟨m10,rfl,g10⟩:=dJ VB;obtain⟨m11,rfl,g11⟩:=dJ Up;obtain⟨Yk,rfl,g12⟩:=dJ h12;exact⟨⟨m1,m2,m3,m4,m5,m6,m7,m8,m9,m10,m11,Yk⟩,rfl,g1,g2,g3,g4,g5,g6,g7,g8,g9,g10,g11,g12⟩
def Gv{n:Nat}{vs:List V}(h:jo prog (n+3) 51 vs):∃x:Nd,vs=x.cells/\x.real:=by
 replace h:=rS underlying51 h;simp only[wB]at h;obtain⟨_,_,rfl,h1,_,_,rfl,h2,_,_,rfl,h3,_,_,rfl,h4,_,_,rfl,h5,_,_,rfl,h6,_,_,rfl,h7,_,_,rfl,h8,_,_,rfl,h9,rfl⟩:=h;obtain⟨m1,rfl,g1⟩:=dJ h1;obtain⟨m2,rfl,g2⟩:=dJ h2;obtain⟨s,rfl,g3⟩:=Df h3;obtain⟨m4,rfl,g4⟩:=dJ h4;obtain⟨m5,rfl,g5⟩:=dJ h5;obtain⟨ws,rfl,g6,g6'⟩:=Gt h6;obtain⟨m7,rfl,g7⟩:=dJ h7;obtain⟨m8,rfl,g8⟩:=dJ h8;obtain⟨m9,rfl,g9⟩:=dJ h9;exact⟨⟨m1,m2,s,m4,m5,ws,m7,m8,m9⟩,rfl,⟨g1,g2,g3,g4,g5,g7,g8,g9⟩,g6,g6'⟩
def DZ{n:Nat}{vs:List V}(h:jo prog (n+4) 22 vs):∃l,vs=[aQ l]/\l.length<=800000000000/\∀x∈l,x.real:=by
 obtain⟨rows,rfl,hl,h⟩:=uF underlying22 h;obtain⟨l,rfl,hp⟩:=ye (f:=ji) (p:=Nd.real) λr hr=>by
  obtain⟨cs,hc,rfl⟩:=h r hr;obtain⟨x,rfl,hx⟩:=Gv hc;exact⟨x,by rw[KQ];rfl,hx⟩
 rw[Gy]at hl;simp only[du,reachBytes]at hl;exact⟨l,by rw[FF];rfl,by omega,hp⟩
def DE{n:Nat}{vs:List V}(h:jo prog (n+4) 22 vs):∃l,pZ prog 22 vs=aQ l/\l.length<=800000000000/\∀x∈l,x.real:=by
 obtain⟨l,rfl,h1,h2⟩:=DZ h;exact⟨l,by unfold pZ;rw[Ls];rfl,h1,h2⟩
open Go.Proofs Go.Proofs.Tryz
section
variable {P:Program} {n:Nat} {st:St} {Q:St->Prop} {k:List It}
def Go.bZ{i:aK}{l:List aK}{fx:VX}{xs:List VX}{f:FuncId}{caps:List V}{v:V}(hw:bB st.s i.g=some true)(ho:i.op=.call fx xs)
 (hf:fx.ev st.s=.fn f caps)(hc:bb P f (xs.map (·.ev st.s)++caps) v)(h:Go P n (.d l k) ⟨aZ st.s i.dst v,st.U⟩ Q):Go P n (.d (i::l) k) st Q:=by
 refine oT hw ?_;rw[ho];exact⟨f,caps,v,hf,λZ1 _=>hc Z1,h⟩
end
def lU{U:ag}{id:Nat}{o:Ob}(h:U id=some o):C' U id o=U:=by
 funext i;simp only[C'];split
 .rename_i e;rw[e,h]
 .rfl
def Bq(n:Int):Prop:=-1152921504606846976<=n/\n<=1152921504606846976
def rm(n:Int):bb prog 52 [vI n] (.bool (decide (1<=n/\n<=1099511627776))):=λU=>by
 refine e52.r (by simp[c52]) ?_;apply sR;simp only[go_sem,seval,c52];refine And.intro (λh=>?_) (λh=>?_)
 .exact av.same (by congr 1;exact decide_eq_decide.2 (by omega))
 .exact av.same (by congr 1;exact(Rv (by omega)).symm)
def dS(n:Int):Int:=max (-1099511627776) (min n 1099511627776)
def y9(n:Int):bb prog 90 [vI n] (vI (dS n)):=λU=>by
 refine e90.r (by simp[c90]) ?_;apply sR;simp only[go_sem,seval,c90];exact av.same (by congr 1;unfold dS;split<;>split<;>omega)
structure QN where
 (a b:Int)
deriving DecidableEq
def bh(s:QN):V:=.agg [vI s.a,vI s.b]
def tk(s:QN):bb prog 203 [bh s] (.bool (decide (s.b<=s.a))):=λU=>by
 refine Pb.r (by simp[Lk]) ?_;apply sR;simp only[go_sem,seval,Lk,bh];refine ad λi1 Z1 s1 a1 f1=>?_;simp only[go_sem,seval,a1];exact av.pure s1 rfl
def kE(s:QN):Int:=if s.b<=s.a then 0 else s.b-s.a
def RB(n:Int):Prop:=-2305843009213693952<=n/\n<=2305843009213693952
def En(s:QN)(ha:RB s.a)(hb:RB s.b):bb prog 183 [bh s] (vI (kE s)):=λU=>by
 obtain⟨h1,h2⟩:=ha;obtain⟨h3,h4⟩:=hb;refine OZ.r (by simp[Ms]) ?_;apply sR;simp only[go_sem,seval,Ms,bh];refine ad λi1 Z1 s1 a1 f1=>?_;simp only[go_sem,seval,a1];refine ae.aC rfl rfl rfl (tk ⟨_,_⟩ _) ?_;apply sR;simp only[go_sem,seval,a1];unfold kE;refine And.intro (λh=>?_) (λh=>?_)
 .rw[aE h];exact av.pure s1 rfl
 .rw[aH h];exact⟨ar,av.pure s1 rfl⟩
open Go.Proofs Go.Proofs.Tryz
def pe(a b:QN):QN:=if a.b<=a.a\/b.b<=b.a\/min a.b b.b<=max a.a b.a then⟨0,0⟩else⟨max a.a b.a,min a.b b.b⟩
def dy(a b:Int):(if b>a then b else a)=max a b:=by split<;>omega
def fo(a b:Int):(if b<a then b else a)=min a b:=by split<;>omega
def Mw(x y:QN):bb prog 215 [bh x,bh y] (bh (pe x y)):=λU=>by
 refine Pa.r (by simp[La]) ?_;have hs:=aa.refl U;refine ae.mix 6 ?_;apply sR;simp only[go_sem,seval,La,bh];refine ad λi2 Z2 s2 a2 f2=>?_;have z2:=hs.none f2;replace hs:=hs.trans s2;simp only[go_sem,seval,a2];refine ad λi3 Z3 s3 a3 f3=>?_;have n23:=al a2 f3;replace a2:=s3 _ _ a2;have z3:=hs.none f3;replace hs:=hs.trans s3;simp only[go_sem,seval,a3,a2];refine ad λi4 Z4 s4 a4 f4=>?_;have n24:=al a2 f4;replace a2:=s4 _ _ a2;have XU:=al a3 f4;replace a3:=s4 _ _ a3;have z4:=hs.none f4;replace hs:=hs.trans s4;simp only[go_sem,seval,a4,a3,a2];refine ad λi5 Z5 s5 a5 f5=>?_;have YS:=al a2 f5;replace a2:=s5 _ _ a2;have Vg:=al a3 f5;replace a3:=s5 _ _ a3;have Rr:=al a4 f5;replace a4:=s5 _ _ a4;have z5:=hs.none f5;replace hs:=hs.trans s5;simp only[go_sem,seval,a5,a4,a3,a2,dy,fo,ab YS,ab Vg,ab Rr];generalize RC:C' _ i5 _=Y5;replace a5:=(congrFun RC i5).symm.trans af;replace a2:=((congrFun RC i2).symm.trans (ab YS)).trans a2;replace a3:=((congrFun RC i3).symm.trans (ab Vg)).trans a3;replace a4:=((congrFun RC i4).symm.trans (ab Rr)).trans a4;replace hs:=Eq.subst (motive:=aa _) RC (hs.aD z5);clear RC;refine ae.aC rfl rfl rfl (tk ⟨_,_⟩ _) ?_;unfold pe;by_cases h1:x.b<=x.a
 .rw[aE (.inl h1),Rt h1];apply sR;simp only[go_sem,seval,a4,a5];exact av.pure (hs.aD z4) rfl
 rw[Rv h1];apply sR;simp only[go_sem,seval,a3,a5,a4];refine ae.aC rfl rfl rfl (tk ⟨_,_⟩ _) ?_;by_cases h2:y.b<=y.a
 .rw[aE (.inr (.inl h2)),Rt h2];apply sR;simp only[go_sem,seval,a4,a5];exact av.pure (hs.aD z4) rfl
 rw[Rv h2];apply sR;simp only[go_sem,seval,a3,a5,a4];refine ae.aC rfl rfl rfl (tk ⟨_,_⟩ _) ?_;by_cases h3:min x.b y.b<=max x.a y.a
 .rw[aE (.inr (.inr h3)),Rt h3];apply sR;simp only[go_sem,seval,a4,a5];exact av.pure (hs.aD z4) rfl
 .rw[aH (by omega),Rv h3];apply sR;simp only[go_sem,seval,a4,a5];exact av.pure (hs.aD z4) rfl
def HR(x y:QN):bb prog 212 [bh x,bh y] (.bool (decide (pe x y=⟨0,0⟩))):=λU=>by
 refine Pj.r (by simp[Jm]) ?_;have hs:=aa.refl U;refine ae.mix 5 ?_;apply sR;simp only[go_sem,seval,Jm,bh];refine ad λi2 Z2 s2 a2 f2=>?_;have z2:=hs.none f2;replace hs:=hs.trans s2;simp only[go_sem,seval,a2];refine ad λi3 Z3 s3 a3 f3=>?_;have n23:=al a2 f3;replace a2:=s3 _ _ a2;have z3:=hs.none f3;replace hs:=hs.trans s3;simp only[go_sem,seval,a3,a2];refine ae.aC rfl rfl rfl (Mw ⟨_,_⟩ ⟨_,_⟩ _) ?_;have e:(⟨x.a,x.b⟩:QN)=x:=rfl;have e':(⟨y.a,y.b⟩:QN)=y:=rfl;rw[e,e'];generalize pe x y=m;obtain⟨u,v⟩:=m;apply sR;simp only[go_sem,seval,bh];refine av.pure hs ?_;by_cases h1:u=0<;>by_cases h2:v=0<;>simp[h1,h2]
structure Rct where
 (x y w h:Int)
deriving DecidableEq
def Hl(r:Rct):V:=.agg [vI r.x,vI r.y,vI r.w,vI r.h]
def BZ(r:Rct)(h1:Bq r.y)(h2:Bq r.h):bb prog 168 [Hl r] (bh ⟨r.y,r.y+r.h⟩):=λU=>by
 obtain⟨g1,g2⟩:=h1;obtain⟨g3,g4⟩:=h2;refine Ox.r (by simp[Ko]) ?_;have hs:=aa.refl U;apply sR;simp only[go_sem,seval,Ko,Hl];refine ad λi1 Z1 s1 a1 f1=>?_;have z1:=hs.none f1;replace hs:=hs.trans s1;simp only[go_sem,seval,a1];refine ad λi2 Z2 s2 a2 f2=>?_;have ZU:=al a1 f2;replace a1:=s2 _ _ a1;have z2:=hs.none f2;replace hs:=hs.trans s2;simp only[go_sem,seval,a2,a1];exact⟨ar,av.pure (hs.aD z2) rfl⟩
def Fi(r:Rct)(h1:Bq r.x)(h2:Bq r.w):bb prog 205 [Hl r] (bh ⟨r.x,r.x+r.w⟩):=λU=>by
 obtain⟨g1,g2⟩:=h1;obtain⟨g3,g4⟩:=h2;refine OQ.r (by simp[Lq]) ?_;have hs:=aa.refl U;apply sR;simp only[go_sem,seval,Lq,Hl];refine ad λi1 Z1 s1 a1 f1=>?_;have z1:=hs.none f1;replace hs:=hs.trans s1;simp only[go_sem,seval,a1];refine ad λi2 Z2 s2 a2 f2=>?_;have ZU:=al a1 f2;replace a1:=s2 _ _ a1;have z2:=hs.none f2;replace hs:=hs.trans s2;simp only[go_sem,seval,a2,a1];exact⟨ar,av.pure (hs.aD z2) rfl⟩
structure Pn where
 (y m:Int)
deriving DecidableEq
def ir(p:Pn):V:=.agg [vI p.y,vI p.m]
def DM(p:Pn)(h1:Bq p.y)(h2:Bq p.m):bb prog 121 [ir p] (vI (p.y+p.m)):=λU=>by
 obtain⟨g1,g2⟩:=h1;obtain⟨g3,g4⟩:=h2;refine OR.r (by simp[JO]) ?_;have hs:=aa.refl U;apply sR;simp only[go_sem,seval,JO,ir];refine ad λi1 Z1 s1 a1 f1=>?_;have z1:=hs.none f1;replace hs:=hs.trans s1;simp only[go_sem,seval,a1];exact⟨ar,av.pure hs rfl⟩
def JU(p:Pn)(y h:Int)(h1:Bq y)(h2:Bq h):bb prog 162 [ir p,vI y,vI h] (ir ⟨y+h,0⟩):=λU=>by
 obtain⟨g1,g2⟩:=h1;obtain⟨g3,g4⟩:=h2;refine N6.r (by simp[K6]) ?_;have hs:=aa.refl U;apply sR;simp only[go_sem,seval,K6,ir];refine ad λi1 Z1 s1 a1 f1=>?_;have z1:=hs.none f1;replace hs:=hs.trans s1;simp only[go_sem,seval,a1];refine ad λi2 Z2 s2 a2 f2=>?_;have ZU:=al a1 f2;replace a1:=s2 _ _ a1;have z2:=hs.none f2;replace hs:=hs.trans s2;simp only[go_sem,seval,a2,a1];exact⟨ar,av.pure (hs.aD z2) rfl⟩
def jT(p:Pn)(low:Int):Pn:=if low>p.y+p.m then⟨low,0⟩else p
def Fh(p:Pn)(low:Int)(h1:Bq p.y)(h2:Bq p.m):bb prog 137 [ir p,vI low] (ir (jT p low)):=λU=>by
 refine Py.r (by simp[KD]) ?_;have hs:=aa.refl U;refine ae.mix 5 ?_;apply sR;simp only[go_sem,seval,KD,ir];refine ad λi2 Z2 s2 a2 f2=>?_;have z2:=hs.none f2;replace hs:=hs.trans s2;simp only[go_sem,seval,a2];refine ad λi4 Z4 s4 a4 f4=>?_;have n24:=al a2 f4;replace a2:=s4 _ _ a2;have z4:=hs.none f4;replace hs:=hs.trans s4;simp only[go_sem,seval,a4,a2];refine ae.aC rfl rfl rfl (DM ⟨_,_⟩ h1 h2 _) ?_;unfold jT;by_cases h:low>p.y+p.m
 .have q:(low>p.y+p.m)=True:=PK h;rw[aE h];apply sR;simp only[go_sem,seval,a4,a2,q];exact av.pure (hs.aD z4) rfl
 .have q:(low>p.y+p.m)=False:=PF h;rw[aH h];apply sR;simp only[go_sem,seval,a4,a2,q];exact av.pure (hs.aD z4) rfl
def Cn(y m n:Int){U:ag}{id:Nat}(M':U id=some ⟨266,2,[.agg [vI y,vI m]]⟩):aB prog 159 [.ptr id 0 0,vI n] U λr Z'=>r=.PN []/\Z'=C' U id ⟨266,2,[.agg [vI y,vI (max m n)]]⟩:=by
 refine Nw.r (by simp[J9]) ?_;apply sR;simp only[go_sem,seval,J9,M',dy];exact⟨_,_,aa.refl _,Wk.refl (aa.refl _) _,rfl,rfl⟩
def IX(y m n:Int)(hy:Bq y)(hm:Bq m)(hn:Bq n){U:ag}{id:Nat}(M':U id=some ⟨266,2,[.agg [vI y,vI m]]⟩):aB prog 160 [.ptr id 0 0,vI n] U λr Z'=>r=.PN []/\Z'=C' U id ⟨266,2,[.agg [vI (if n>0 then y+m+n else y),vI (if n>0 then 0 else m)]]⟩:=by
 obtain⟨g1,g2⟩:=hy;obtain⟨g3,g4⟩:=hm;obtain⟨g5,g6⟩:=hn;refine Ny.r (by simp[Ht]) ?_;by_cases h:n>0
 .have q:(n>0)=True:=PK h;rw[aE h,aE h];apply sR;simp only[go_sem,seval,Ht,M',q];exact⟨ar,ar,_,_,aa.refl _,Wk.refl (aa.refl _) _,rfl,rfl⟩
 .have q:(n>0)=False:=PF h;rw[aH h,aH h];apply sR;simp only[go_sem,seval,Ht,M',q];exact⟨_,_,aa.refl _,Wk.refl (aa.refl _) _,rfl,(by funext i;simp only[C'];split<;>simp_all)⟩
open Go.Proofs Go.Proofs.Tryz
structure PI where
 (node side anchor x y w h:Int)
deriving DecidableEq
def aX(f:PI):V:=.agg [vI f.node,vI f.side,vI f.anchor,vI f.x,vI f.y,vI f.w,vI f.h]
def aS(l:List PI):V:=.sl 7 (l.map aX)
def i0(f:PI):V:=.agg [vI f.node,vI f.side,vI f.anchor,vI f.x,vI f.y,vI f.w,vI f.h,vI f.x,vI f.y,vI f.w,vI f.h]
def PI.ok(f:PI):Prop:=Bq f.x/\Bq f.y/\Bq f.w/\Bq f.h
def kP{U:ag}{l:List PI}{i:Nat}(h:i<l.length):bS U 7 (aS l) (.int .i64 i)=some (.rp (aX l[i])):=by simp[aS,bS,h]
def fP(l:List PI):dR false (aS l)=some (.int .i64 l.length):=by simp[aS,dR]
def I9(f:PI):bb prog 167 [aX f] (i0 f):=λU=>by
 refine OO.r (by simp[JV]) ?_;have hs:=aa.refl U;apply sR;simp only[go_sem,seval,JV,aX];refine ad λi1 Z1 s1 a1 f1=>?_;have z1:=hs.none f1;replace hs:=hs.trans s1;simp only[go_sem,seval,a1];refine ad λi2 Z2 s2 a2 f2=>?_;have ZU:=al a1 f2;replace a1:=s2 _ _ a1;have z2:=hs.none f2;replace hs:=hs.trans s2;simp only[go_sem,seval,a2,a1];exact av.pure (hs.aD z2) rfl
def Aw(f:PI)(hf:f.ok):bb prog 147 [i0 f] (vI (f.y+f.h)):=λU=>by
 refine Nv.r (by simp[JT]) ?_;have hs:=aa.refl U;apply sR;simp only[go_sem,seval,JT,i0];refine ad λi1 Z1 s1 a1 f1=>?_;have z1:=hs.none f1;replace hs:=hs.trans s1;simp only[go_sem,seval,a1];refine ae.aC rfl rfl rfl (BZ ⟨_,_,_,_⟩ hf.2.1 hf.2.2.2 _) ?_;apply sR;simp only[go_sem,seval,bh];exact av.pure hs rfl
def je(y high:Int)(f:PI):Bool:=!decide (pe ⟨f.y,f.y+f.h⟩ ⟨y,y+max high 1⟩=⟨0,0⟩)
def H3(f:PI)(y high:Int)(hf:f.ok)(hy:RB y)(hh:Bq high):bb prog 204 [i0 f,vI y,vI high] (.bool (je y high f)):=λU=>by
 obtain⟨g1,g2⟩:=hy;obtain⟨g3,g4⟩:=hh;refine N1.r (by simp[JM]) ?_;have hs:=aa.refl U;refine ae.mix 7 ?_;apply sR;simp only[go_sem,seval,JM,i0];refine ad λi3 Z3 s3 a3 f3=>?_;have z3:=hs.none f3;replace hs:=hs.trans s3;simp only[go_sem,seval,a3];refine ae.aC rfl rfl rfl (BZ ⟨_,_,_,_⟩ hf.2.1 hf.2.2.2 _) ?_;apply sR;simp only[go_sem,seval,dy];refine⟨ar,?_⟩;refine ae.aC rfl rfl rfl (HR ⟨_,_⟩ ⟨_,_⟩ _) ?_;apply sR;simp only[go_sem,seval];rw[show max high 1=max 1 high by omega];exact av.pure hs (by simp[je,Int.max_comm])
def kM(f:PI)(s:QN):QN:=if f.side=1 then⟨max s.a (f.x+f.w),s.b⟩else⟨s.a,min s.b f.x⟩
def Jb(f:PI)(s:QN)(hf:f.ok):bb prog 186 [i0 f,bh s] (bh (kM f s)):=λU=>by
 refine NJ.r (by simp[J0]) ?_;have hs:=aa.refl U;refine ae.mix 6 ?_;apply sR;simp only[go_sem,seval,J0,i0,bh];refine ad λi2 Z2 s2 a2 f2=>?_;have z2:=hs.none f2;replace hs:=hs.trans s2;simp only[go_sem,seval,a2];refine ad λi3 Z3 s3 a3 f3=>?_;have n23:=al a2 f3;replace a2:=s3 _ _ a2;have z3:=hs.none f3;replace hs:=hs.trans s3;simp only[go_sem,seval,a3,a2];refine ad λi4 Z4 s4 a4 f4=>?_;have n24:=al a2 f4;replace a2:=s4 _ _ a2;have XU:=al a3 f4;replace a3:=s4 _ _ a3;have z4:=hs.none f4;replace hs:=hs.trans s4;simp only[go_sem,seval,a4,a3,a2];refine ae.aC rfl rfl rfl (Fi ⟨_,_,_,_⟩ hf.1 hf.2.2.1 _) ?_;apply sR;simp only[go_sem,seval,bh];refine ad λi5 Z5 s5 a5 f5=>?_;have YS:=al a2 f5;replace a2:=s5 _ _ a2;have Vg:=al a3 f5;replace a3:=s5 _ _ a3;have Rr:=al a4 f5;replace a4:=s5 _ _ a4;have z5:=hs.none f5;replace hs:=hs.trans s5;unfold kM;by_cases h:f.side=1
 .have q:(f.side=1)=True:=PK h;rw[aE h];simp only[go_sem,seval,a5,a4,a3,a2,q,dy,fo,ab YS,ab Vg,ab Rr,ab XU.symm,ab Vg.symm,ab n24,ab XU,ab Rr.symm];exact av.pure (((hs.aD z5).aD z3).aD z4) rfl
 .have q:(f.side=1)=False:=PF h;rw[aH h];simp only[go_sem,seval,a5,a4,a3,a2,q,dy,fo,ab YS,ab Vg,ab Rr,ab XU.symm,ab Vg.symm,ab n24,ab XU,ab Rr.symm];exact av.pure (((hs.aD z5).aD z3).aD z4) rfl
open Go.Proofs Go.Proofs.Tryz
def Be{α:Type}(p:α->Bool)(l:List α){i:Nat}(h:i<l.length):(l.take (i+1)).filter p=(l.take i).filter p++if p l[i]then[l[i]]else[]:=by
 rw[Tp h,List.filter_append];cases hp:p l[i]<;>simp[hp]
def IY(l:List PI)(y high:Int)(hl:l.length<=1000000)(P5:∀f∈l,f.ok)(hy:RB y)(hh:Bq high)(g:FuncId)(caps:List V)(τ:List PI->ag->Prop)
 (hJ:∀pre U Z',τ pre U->aa U Z'->τ pre Z')
 (hg:∀pre f U,f∈l->τ pre U->aB prog g (i0 f::caps) U λr Z'=>r=.PN []/\τ (pre++[f]) Z'){U:ag}(h0:τ [] U):
 aB prog 184 [aS l,vI y,vI high,.fn g caps] U λr Z'=>r=.PN []/\τ (l.filter (je y high)) Z':=by
 refine NT.r (by simp[Lt]) ?_;refine ae.mix 14 ?_;apply sR;simp only[go_sem,seval,Lt,fP];refine ae.loop (λm st=>∃i:Nat,i<=l.length/\m=l.length-i/\τ ((l.take i).filter (je y high)) st.U/\st.s 1=vI y/\st.s 2=vI high/\st.s 3=.fn g caps/\st.s 11=aS l/\st.s 12=vI l.length/\st.s 13=vI i) l.length ?_ ?_
 .exact⟨0,by omega,rfl,h0,rfl,rfl,rfl,rfl,rfl,rfl⟩
 .rintro m ⟨s,Z'⟩ ⟨i,hi,rfl,hj,k1,k2,k3,ZV,RW,Ur⟩;simp only at hj k1 k2 k3 ZV RW Ur;refine ae.mix 14 ?_;by_cases H':i<l.length
  .have q:((i:Int)<l.length)=True:=PK;have VE:=λU=>kP (U:=U) H';have S1:=QL H';have hfok:=P5 _ S1;have QF:=Be (je y high) l H';generalize l[i]=f at*;have hs:=aa.refl Z';apply sR;simp only[go_sem,seval,k1,k2,k3,ZV,RW,Ur,q,VE,aX];refine ad λi9 Z9 s9 a9 f9=>?_;have z9:=hs.none f9;replace hs:=hs.trans s9;simp only[go_sem,seval,a9,k1,k2,k3,ZV,RW,Ur];generalize Qv:C' _ i9 _=Y9;replace a9:=(congrFun Qv i9).symm.trans af;replace hs:=Eq.subst (motive:=aa _) Qv (hs.aD z9);clear Qv;refine ae.aC rfl rfl rfl (I9 f _) ?_;apply sR;simp only[go_sem,seval,i0];refine ad λQb UP Re P0 f10=>?_;have VF:=al a9 f10;replace a9:=Re _ _ a9;have SS:=hs.none f10;replace hs:=hs.trans Re;simp only[go_sem,seval,P0,k1,k2,k3,ZV,RW,Ur];generalize Qs:C' _ Qb _=Y10;replace P0:=(congrFun Qs Qb).symm.trans af;replace a9:=((congrFun Qs i9).symm.trans (ab VF)).trans a9;replace hs:=Eq.subst (motive:=aa _) Qs (hs.aD SS);clear Qs;refine ae.aC rfl rfl rfl (H3 f y high hfok hy hh _) ?_;cases hm:je y high f
   .rw[hm]at QF;apply sR;simp only[go_sem,seval,k1,k2,k3,ZV,RW,Ur];refine⟨ar,_,by omega,i+1,by omega,rfl,?_,by simp[k1,k2,k3,ZV,RW]⟩;rw[QF];simpa using hJ _ _ _ hj hs
   .rw[hm]at QF;apply sR;simp only[go_sem,seval,P0,k1,k2,k3,ZV,RW,Ur];refine ae.call rfl rfl rfl (hg _ f _ S1 (hJ _ _ _ hj hs)) ?_;rintro r Z2 ⟨rfl,hj2⟩;apply sR;simp only[go_sem,seval,k1,k2,k3,ZV,RW,Ur];refine⟨ar,_,by omega,i+1,by omega,rfl,?_,by simp[k1,k2,k3,ZV,RW]⟩;rw[QF];simpa using hj2
  .have q:((i:Int)<l.length)=False:=PF;apply sR;simp only[go_sem,seval,k1,k2,k3,ZV,RW,Ur,q];obtain rfl:i=l.length:=by omega
   rw[jK]at hj;exact⟨_,_,aa.refl _,Wk.refl (aa.refl _) _,rfl,hj⟩
def ef(l:List PI)(y high:Int)(s:QN):QN:=(l.filter (je y high)).foldl (λs f=>kM f s) s
def MM{id:Nat}(f:PI)(s:QN)(hf:f.ok){U:ag}(M':U id=some ⟨239,2,[bh s]⟩):aB prog 206 [i0 f,.ptr id 0 0] U λr Z'=>r=.PN []/\∃Z1,aa U Z1/\Z'=C' Z1 id ⟨239,2,[bh (kM f s)]⟩:=by
 refine N0.r (by simp[Km]) ?_;have hs:=aa.refl U;have a1:=M';rw[bh]at a1;apply sR;simp only[go_sem,seval,Km,i0];refine ad λi2 Z2 s2 a2 f2=>?_;have n2:=al a1 f2;replace a1:=s2 _ _ a1;simp only[go_sem,seval,a2,a1];refine ae.aC rfl rfl rfl (Jb f s hf _) ?_;apply sR;simp only[go_sem,seval,a1,bh];exact⟨_,_,aa.refl _,Wk.refl (aa.refl _) _,rfl,Z2,s2,rfl⟩
def Cx(l:List PI)(y high:Int)(s:QN)(hl:l.length<=1000000)(P5:∀f∈l,f.ok)(hy:RB y)(hh:Bq high):bb prog 187 [aS l,vI y,vI high,bh s] (bh (ef l y high s)):=λU=>by
 refine OV.r (by simp[Jy]) ?_;have hs:=aa.refl U;refine ae.mix 10 ?_;apply sR;simp only[go_sem,seval,Jy,bh];refine ad λi7 Z7 s7 a7 f7=>?_;have z7:=hs.none f7;replace hs:=hs.trans s7;simp only[go_sem,seval,a7];refine ad λi8 Z8 s8 a8 f8=>?_;have Wg:=al a7 f8;replace a7:=s8 _ _ a7;have z8:=hs.none f8;replace hs:=hs.trans s8;simp only[go_sem,seval,a8,a7];refine ad λi9 Z9 s9 a9 f9=>?_;have VS:=al a7 f9;replace a7:=s9 _ _ a7;have WD:=al a8 f9;replace a8:=s9 _ _ a8;have z9:=hs.none f9;replace hs:=hs.trans s9;simp only[go_sem,seval,a9,a8,a7,ab VS,ab WD];generalize Qv:C' _ i9 _=Y9;replace a9:=(congrFun Qv i9).symm.trans af;replace a7:=((congrFun Qv i7).symm.trans (ab VS)).trans a7;replace a8:=((congrFun Qv i8).symm.trans (ab WD)).trans a8;replace hs:=Eq.subst (motive:=aa _) Qv (hs.aD z9);clear Qv;refine ae.call rfl rfl rfl (IY l y high hl P5 hy hh 206 [.ptr i9 0 0] (λpre J=>J i9=some ⟨239,2,[bh (pre.foldl (λs f=>kM f s) s)]⟩/\J i8=some ⟨239,2,[.agg [vI 0,vI 0]]⟩/\aa U J) ?_ ?_ ⟨a9,a8,hs⟩) ?_
 .rintro pre J X' ⟨h1,h2,h4⟩ h5;exact⟨h5 _ _ h1,h5 _ _ h2,h4.trans h5⟩
 .rintro pre f J hf ⟨h1,h2,h4⟩;refine(MM f _ (P5 f hf) h1).mono ?_;rintro r X' ⟨rfl,Y1,h5,rfl⟩;refine⟨rfl,?_,by rw[ab WD];exact h5 _ _ h2,(h4.trans h5).aD z9⟩;rw[af,wc];rfl
 .rintro r J ⟨rfl,h1,h2,h4⟩;have Yf:bh (List.foldl (λs f=>kM f s) s (List.filter (je y high) l))=.agg [vI (ef l y high s).a,vI (ef l y high s).b]:=rfl;rw[Yf]at h1;apply sR;simp only[go_sem,seval,h1,h2];exact av.pure (h4.aD z8) rfl
open Go.Proofs Go.Proofs.Tryz
def kA(s:QN)(a:Int×Bool)(f:PI):Int×Bool:=if kM f s=s\/(a.2=true/\f.y+f.h>=a.1)then a else(f.y+f.h,true)
def gX(l:List PI)(y high:Int)(s:QN):Int×Bool:=(l.filter (je y high)).foldl (kA s) (0,false)
def Hf{i1 i2 i3:Nat}(f:PI)(s:QN)(a:Int×Bool)(hf:f.ok)(h12:i1≠i2)(h13:i1≠i3)(h23:i2≠i3){U:ag}(q1:U i1=some ⟨239,2,[bh s]⟩)(q2:U i2=some ⟨4,1,[.bool a.2]⟩)(q3:U i3=some ⟨3,1,[vI a.1]⟩):
 aB prog 185 [i0 f,.ptr i1 0 0,.ptr i2 0 0,.ptr i3 0 0] U λr Z'=>r=.PN []/\∃Z1,aa U Z1/\Z'=C' (C' Z1 i3 ⟨3,1,[vI (kA s a f).1]⟩) i2 ⟨4,1,[.bool (kA s a f).2]⟩:=by
 refine NB.r (by simp[L3]) ?_;refine ae.mix 5 ?_;obtain⟨u,v⟩:=a;simp only at q2 q3;apply sR;simp only[go_sem,seval,L3,i0];refine ad λi4 Z4 s4 a4 f4=>?_;have n1:=al q1 f4;have n2:=al q2 f4;have n3:=al q3 f4;replace q1:=s4 _ _ q1;replace q2:=s4 _ _ q2;replace q3:=s4 _ _ q3;have Ug:=Jb f s hf;have hbot:=Aw f hf;obtain⟨s1,s2⟩:=s;rw[bh]at q1;simp only[go_sem,seval,a4,q1,q2,q3];refine Go.bZ rfl rfl rfl Ug ?_;unfold kA;generalize kM f ⟨s1,s2⟩=c;obtain⟨c1,c2⟩:=c;have same:∀Z':ag,Z'=Z4->C' (C' Z' i3 ⟨3,1,[vI u]⟩) i2 ⟨4,1,[.bool v]⟩=Z4:=λZ' e=>by
  subst e;rw[lU q3,lU q2]
 by_cases hc:c1=s1/\c2=s2
 .obtain⟨rfl,rfl⟩:=hc;apply sG;simp only[go_sem,seval,q1,bh];refine⟨_,_,aa.refl _,Wk.refl (aa.refl _) _,rfl,Z4,s4,?_⟩;rw[aE (by simp),same _ rfl]
 .have hd:(decide (c1=s1)&&decide (c2=s2))=false:=by
   by_cases h1:c1=s1<;>by_cases h2:c2=s2<;>simp_all
  have P':¬(⟨c1,c2⟩:QN)=⟨s1,s2⟩:=by simpa using hc
  cases v
  .rw[aH (by simp[P'])];apply sG;simp only[go_sem,seval,q1,q2,a4,bh,hd];refine ae.aC rfl rfl rfl (hbot _) ?_;apply sR;simp only[go_sem,seval,q2,q3,ab h23,a4];exact⟨_,_,aa.refl _,Wk.refl (aa.refl _) _,rfl,Z4,s4,rfl⟩
  .apply sG;simp only[go_sem,seval,q1,q2,a4,bh,hd];refine Go.bZ rfl rfl rfl hbot ?_;by_cases hb:f.y+f.h>=u
   .have q:(f.y+f.h>=u)=True:=PK hb;apply sG;simp only[go_sem,seval,q3,q];refine⟨_,_,aa.refl _,Wk.refl (aa.refl _) _,rfl,Z4,s4,?_⟩;rw[aE (.inr (by first|exact hb|exact⟨rfl,hb⟩|simp[hb])),same _ rfl]
   .have q:(f.y+f.h>=u)=False:=PF hb;rw[aH (by simp[P'];omega)];apply sG;simp only[go_sem,seval,q3,a4,q];refine ae.aC rfl rfl rfl (hbot _) ?_;apply sR;simp only[go_sem,seval,q2,q3,ab h23,a4];exact⟨_,_,aa.refl _,Wk.refl (aa.refl _) _,rfl,Z4,s4,rfl⟩
def Fu(l:List PI)(y high:Int)(s:QN)(hl:l.length<=1000000)(P5:∀f∈l,f.ok)(hy:RB y)(hh:Bq high):bb prog 164 [aS l,vI y,vI high,bh s] (.PN [vI (gX l y high s).1,.bool (gX l y high s).2]):=λU=>by
 refine N5.r (by simp[Ma]) ?_;have hs:=aa.refl U;refine ae.mix 12 ?_;apply sR;simp only[go_sem,seval,Ma,bh];refine ad λi7 Z7 s7 a7 f7=>?_;have z7:=hs.none f7;replace hs:=hs.trans s7;simp only[go_sem,seval,a7];refine ad λQb UP Re P0 f10=>?_;have UZ:=al a7 f10;replace a7:=Re _ _ a7;have SS:=hs.none f10;replace hs:=hs.trans Re;simp only[go_sem,seval,P0,a7];refine ad λRi Xx Tk SA f11=>?_;have n711:=al a7 f11;replace a7:=Tk _ _ a7;have Q2:=al P0 f11;replace P0:=Tk _ _ P0;have W5:=hs.none f11;replace hs:=hs.trans Tk;simp only[go_sem,seval,SA,P0,a7,ab n711,ab Q2,ab UZ,ab Q2.symm];rw[wT Q2,lU SA,lU P0];refine ae.call rfl rfl rfl (IY l y high hl P5 hy hh 185 [.ptr i7 0 0,.ptr Ri 0 0,.ptr Qb 0 0] (λpre J=>J i7=some ⟨239,2,[bh s]⟩/\J Ri=some ⟨4,1,[.bool (pre.foldl (kA s) (0,false)).2]⟩/\
  J Qb=some ⟨3,1,[vI (pre.foldl (kA s) (0,false)).1]⟩/\aa U J) ?_ ?_ ⟨a7,SA,P0,hs⟩) ?_
 .rintro pre J X' ⟨h1,h2,h3,h4⟩ h5;exact⟨h5 _ _ h1,h5 _ _ h2,h5 _ _ h3,h4.trans h5⟩
 .rintro pre f J hf ⟨h1,h2,h3,h4⟩;refine(Hf f s _ (P5 f hf) n711 UZ Q2.symm h1 h2 h3).mono ?_;rintro r X' ⟨rfl,Y1,h5,rfl⟩;refine⟨rfl,?_,?_,?_,((h4.trans h5).aD SS).aD W5⟩
  .rw[ab n711,ab UZ];exact h5 _ _ h1
  .rw[af,wc];rfl
  .rw[ab Q2,af,wc];rfl
 .rintro r J ⟨rfl,h1,h2,h3,h4⟩;apply sR;simp only[go_sem,seval,h2,h3];exact av.pure h4 rfl
def uk(tell:PI->Int×Bool)(a:Int×Bool)(f:PI):Int×Bool:=if(tell f).2=true/\(a.2=false\/(tell f).1>a.1)then((tell f).1,true)else a
def ek(tell:PI->Int×Bool)(l:List PI):Int×Bool:=l.foldl (uk tell) (0,false)
def ES(l:List PI)(hl:l.length<=1000000)(g:FuncId)(caps:List V)(tell:PI->Int×Bool)(μ:ag->Prop)(hI:∀U Z',μ U->aa U Z'->μ Z')
 (hg:∀f U,f∈l->μ U->aB prog g (i0 f::caps) U λr Z'=>r=.PN [vI (tell f).1,.bool (tell f).2]/\Z'=U){U:ag}(h0:μ U):
 aB prog 145 [aS l,.fn g caps] U λr Z'=>r=.PN [vI (ek tell l).1,.bool (ek tell l).2]/\Z'=U:=by
 refine NO.r (by simp[Jz]) ?_;refine ae.mix 15 ?_;apply sR;simp only[go_sem,seval,Jz,fP];refine ae.loop (λm st=>∃i:Nat,i<=l.length/\m=l.length-i/\aa U st.U/\st.s 1=.fn g caps/\st.s 6=vI (ek tell (l.take i)).1/\st.s 7=.bool (ek tell (l.take i)).2/\st.s 12=aS l/\st.s 13=vI l.length/\st.s 14=vI i) l.length ?_ ?_
 .exact⟨0,by omega,rfl,aa.refl _,rfl,rfl,rfl,rfl,rfl,rfl⟩
 .rintro m ⟨s,Z'⟩ ⟨i,hi,rfl,hs,k1,k6,k7,RW,Ur,k14⟩;simp only at hs k1 k6 k7 RW Ur k14;refine ae.mix 15 ?_;by_cases H':i<l.length
  .have q:((i:Int)<l.length)=True:=PK;have VE:=λU=>kP (U:=U) H';have S1:=QL H';have QF:ek tell (l.take (i+1))=uk tell (ek tell (l.take i)) l[i]:=by
    rw[Tp H',ek,wc];rfl
   generalize l[i]=f at*;generalize ek tell (l.take i)=a at*;obtain⟨u,v⟩:=a;simp only at k6 k7;apply sR;simp only[go_sem,seval,k1,k6,k7,RW,Ur,k14,q,VE,aX];refine ad λi9 Z9 s9 a9 f9=>?_;have z9:=hs.none f9;replace hs:=hs.trans s9;simp only[go_sem,seval,a9,k1,k6,k7,RW,Ur,k14];generalize Qv:C' _ i9 _=Y9;replace a9:=(congrFun Qv i9).symm.trans af;replace hs:=Eq.subst (motive:=aa _) Qv (hs.aD z9);clear Qv;refine ae.aC rfl rfl rfl (I9 f _) ?_;apply sR;simp only[go_sem,seval,k1,k6,k7,RW,Ur,k14];refine ae.aC rfl rfl rfl (hg f _ S1 (hI _ _ h0 hs)) ?_;have r1:PY .i64 ((i:Int)+1):=ar;unfold uk at QF;generalize tell f=t at*;obtain⟨x,is⟩:=t;simp only at QF;cases is
   .rw[aH (by simp)]at QF;apply sR;simp only[go_sem,seval,k1,k6,k7,RW,Ur,k14,r1];exact⟨_,by omega,i+1,by omega,rfl,hs,by simp[k1,k6,k7,RW,Ur,QF]⟩
   .cases v
    .rw[aE (by simp)]at QF;apply sR;simp only[go_sem,seval,k1,k6,k7,RW,Ur,k14,r1];exact⟨_,by omega,i+1,by omega,rfl,hs,by simp[k1,RW,Ur,QF]⟩
    .by_cases hb:x>u
     .have q2:(x>u)=True:=PK hb;rw[aE ⟨rfl,.inr hb⟩]at QF;apply sR;simp only[go_sem,seval,k1,k6,k7,RW,Ur,k14,r1,q2];exact⟨_,by omega,i+1,by omega,rfl,hs,by simp[k1,RW,Ur,QF]⟩
     .have q2:(x>u)=False:=PF hb;rw[aH (by simp[hb])]at QF;apply sR;simp only[go_sem,seval,k1,k6,k7,RW,Ur,k14,r1,q2];exact⟨_,by omega,i+1,by omega,rfl,hs,by simp[k1,k6,k7,RW,Ur,QF]⟩
  .have q:((i:Int)<l.length)=False:=PF;obtain rfl:i=l.length:=by omega
   rw[jK]at k6 k7;apply sR;simp only[go_sem,seval,k1,k6,k7,RW,Ur,k14,q];exact av.pure hs rfl
def OJ(a b:Int):Int:=IntKind.i64.wrap (BitVec.ofInt IntKind.i64.bits a &&& BitVec.ofInt IntKind.i64.bits b).toNat
def mH(Sj:Int)(f:PI):Int×Bool:=(f.y+f.h,decide (OJ f.side Sj≠0))
def Ky{i:Nat}(f:PI)(Sj:Int)(hf:f.ok){U:ag}(q:U i=some ⟨3,1,[vI Sj]⟩):aB prog 146 [i0 f,.ptr i 0 0] U λr Z'=>r=.PN [vI (mH Sj f).1,.bool (mH Sj f).2]/\Z'=U:=by
 refine PD.r (by simp[Lp]) ?_;refine ae.mix 5 ?_;have hs:=aa.refl U;apply sR;simp only[go_sem,seval,Lp,i0];refine ad λi2 Z2 s2 a2 f2=>?_;have z2:=hs.none f2;replace hs:=hs.trans s2;replace q:=s2 _ _ q;simp only[go_sem,seval,a2,q];refine Go.bZ rfl rfl rfl (Aw f hf) ?_;apply sG;simp only[go_sem,seval,a2,q];exact av.pure hs rfl
def yV(l:List PI)(Sj:Int)(hl:l.length<=1000000)(P5:∀f∈l,f.ok):bb prog 122 [aS l,vI Sj] (.PN [vI (ek (mH Sj) l).1,.bool (ek (mH Sj) l).2]):=λU=>by
 refine NW.r (by simp[Kh]) ?_;refine ae.mix 6 ?_;have hs:=aa.refl U;apply sR;simp only[go_sem,seval,Kh];refine ad λi3 Z3 s3 a3 f3=>?_;have z3:=hs.none f3;replace hs:=hs.trans s3;simp only[go_sem,seval,a3];refine ae.aC rfl rfl rfl (ES l hl 146 [.ptr i3 0 0] (mH Sj) (λJ=>J i3=some ⟨3,1,[vI Sj]⟩) (λ_ _ h h'=>h' _ _ h) (λf J hf h=>Ky f Sj (P5 f hf) h) a3) ?_;apply sR;simp only[go_sem,seval];exact av.pure hs rfl
def uK(f:PI):Int×Bool:=(f.y,true)
def Lx(f:PI)(hf:f.ok):bb prog 207 [i0 f] (.PN [vI (uK f).1,.bool (uK f).2]):=λU=>by
 refine Ol.r (by simp[J3]) ?_;refine ae.mix 4 ?_;have hs:=aa.refl U;apply sR;simp only[go_sem,seval,J3,i0];refine ad λi1 Z1 s1 a1 f1=>?_;have z1:=hs.none f1;replace hs:=hs.trans s1;simp only[go_sem,seval,a1];refine ae.aC rfl rfl rfl (BZ ⟨_,_,_,_⟩ hf.2.1 hf.2.2.2 _) ?_;apply sR;simp only[go_sem,seval,bh];exact av.pure hs rfl
def MA(l:List PI)(hl:l.length<=1000000)(P5:∀f∈l,f.ok):bb prog 188 [aS l] (.PN [vI (ek uK l).1,.bool (ek uK l).2]):=λU=>by
 refine OT.r (by simp[LJ]) ?_;refine ae.mix 4 ?_;apply sR;simp only[go_sem,seval,LJ];refine ae.aC rfl rfl rfl (ES l hl 207 [] uK (λ_=>True) (λ_ _ h _=>h) (λf J hf _=>Lx f (P5 f hf) J) trivial) ?_;apply sR;simp only[go_sem,seval];exact av.same rfl
end Go.Vc
