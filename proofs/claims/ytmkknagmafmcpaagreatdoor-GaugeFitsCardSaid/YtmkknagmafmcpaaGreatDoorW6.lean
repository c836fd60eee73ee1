/- Part 6 of the library of this proof. -/
import Derived.Test.YtmkknagmafmcpaaGreatDoorW5
import Derived.WalkKit
import Derived.ProofKit
import Derived.Deep.Slices
import Derived.ChangeArms
import Derived.WideKeyArgs
import Derived.Carry
import Derived.SizedLaws
set_option linter.all false
set_option maxHeartbeats 8000000
set_option maxRecDepth 100000
open Go.Proofs.Tryz
namespace Go.Vc
open Go.ChangeShapes Go.WideShapes Go.RowKit Go.Deep
def tv(P:Program)(total:Nat):Nat->List Field->Bool
 |off,[]=>off==total
 |off,f::fs=>f.offset==off&&tv P total (off+P.cellsOf f.type) fs
def AF(P:Program):Nat->TypeId->Bool
 |0,_=>false
 |n+1,t=>match P.underlying t with
  |some .bool|some (.int _)|some .string=>true
  |some (.slice e)=>AF P n e&&P.cellsOf e != 0
  |some (.struct fs)=>tv P (P.cellsOf t) 0 fs.toList&&fs.toList.all λf=>AF P n f.type
  |_=>false
def rowOf(agg:Bool)(cs:List V):V:=if agg then .agg cs else cs.getD 0 .undef
def wT(S:TypeId->List V->Prop):List Field->List V->Prop
 |[],vs=>vs=[]
 |f::fs,vs=>∃a b,vs=a++b/\S f.type a/\wT S fs b
def iJ(P:Program):Nat->TypeId->List V->Prop
 |0,_,_=>False
 |n+1,t,vs=>match P.underlying t with
  |some .bool=>∃b,vs=[.bool b]
  |some (.int k)=>∃m,vs=[.int k m]/\(Lit.int k m).wf=true
  |some .string=>∃s:List UInt8,vs=[.str s]/\s.length<=reachBytes
  |some (.slice e)=>∃rows,vs=[.sl (P.cellsOf e) rows]/\rows.length*P.bytesOf e<=reachBytes/\∀r∈rows,∃cs,iJ P n e cs/\r=rowOf (fg P e) cs
  |some (.struct fs)=>wT (iJ P n) fs.toList vs
  |_=>False
def CN{α:Type}{Pr:Nat->α->Prop}:∀n,(∀i,i<n->∃r,Pr i r)->∃rows:List α,rows.length=n/\∀i r,rows[i]?=some r->Pr i r
 |0,_=>⟨[],rfl,λi r h=>by simp at h⟩
 |n+1,h=>by
  obtain⟨rows,h1,h2⟩:=CN n λi hi=>h i (by omega);obtain⟨r,hr⟩:=h n (by omega);refine⟨rows++[r],by simp[h1],λi x hx=>?_⟩;rw[KD]at hx;split at hx
  .exact h2 i x hx
  .rename_i hi;have:i-rows.length=0:=by
    rcases Nat.eq_zero_or_pos (i-rows.length)with h0|h0
    .exact h0
    .rw[nF (by simp;omega)]at hx;cases hx
   rw[this]at hx;simp at hx;subst hx;have:i=n:=by omega
   subst this;exact hr
def sF{I:Mu}{ow:Nat->Prop}{w:World}{b off sz:Nat}:∀(rows:List V) (k:Nat),(∀i r,rows[i]?=some r->r.cells.length=sz/\aQ I ow w r.cells b (off+(k+i)*sz))->aX I ow w rows b (off+k*sz) sz
 |[],_,_=>by simp[aX]
 |r::rs,k,h=>by
  have h0:=h 0 r rfl;simp only[aX];refine⟨h0.1,by rw[dR];simpa using h0.2,?_⟩;have e:off+k*sz+sz=off+(k+1)*sz:=by rw[Nat.add_mul];omega
  rw[e];refine sF rs (k+1) λi x hx=>?_;have:=h (i+1) x (by simpa using hx);rw[show k+1+i=k+(i+1) by omega];exact this
section
variable {H:Type} {enc:TypeId×Value->H} {P:Program} {w:World} {base:Nat} {spare:Nat->Bool} {held:Bool} {I:Mu} {ow:Nat->Prop}
def EA(P:Program)(I:Mu)(ow:Nat->Prop)(w:World)(N:Nat)(t:TypeId)(cs:List Value):Prop:=
 ∃vs,iJ P N t vs/\aq I ow w vs cs/\∀u∈cs,u.oneCell'=true
def uR{S:TypeId->List V->Prop}{cs:List Value}:∀(fs:List Field) (off:Nat),tv P cs.length off fs=true->
 (∀f∈fs,∃vs,S f.type vs/\aq I ow w vs ((cs.drop f.offset).take (P.cellsOf f.type))/\∀u∈(cs.drop f.offset).take (P.cellsOf f.type),u.oneCell'=true)->
 ∃vs,wT S fs vs/\aq I ow w vs (cs.drop off)/\∀u∈cs.drop off,u.oneCell'=true
 |[],off,hc,_=>by
  simp only[tv,beq_iff_eq]at hc;refine⟨[],rfl,?_,?_⟩
  .rw[Dv (by omega)];simp[aq]
  .rw[Dv (by omega)];simp
 |f::fs,off,hc,h=>by
  simp only[tv,Ba,beq_iff_eq]at hc;obtain⟨a,h1,h2,h3⟩:=h f (by simp);obtain⟨b,h4,h5,h6⟩:=uR fs (off+P.cellsOf f.type) hc.2 λg hg=>h g (by simp[hg]);rw[hc.1]at h2 h3;have e:cs.drop off=(cs.drop off).take (P.cellsOf f.type)++cs.drop (off+P.cellsOf f.type):=by
   rw[<-List.drop_drop,nG]
  refine⟨a++b,⟨a,b,rfl,h1,h4⟩,?_,?_⟩
  .rw[e];exact h2.append h5
  .rw[e];intro u hu;rcases dM.1 hu with hu|hu
   .exact h3 u hu
   .exact h6 u hu
def oY{v:V}{x:Value}(h:A' I ow w v x):aq I ow w [v] [x]:=by simp only[aq];exact⟨x,[],rfl,h,rfl⟩
def rE{t:TypeId}{fs:Array Field}(h:P.underlying t=some (.struct fs)):fg P t=true:=by simp[fg,h]
def l4{e:TypeId}{d:DataW H}:∀{l:List (DataW H)},d∈l->∀n∈d.weights P e,n∈DataW.weightsAll P e l
 |[],h,_,_=>by simp at h
 |x::l,h,n,hn=>by
  simp only[DataW.weightsAll,dM];rcases cD.1 h with rfl|h
  .exact .inl hn
  .exact .inr (l4 h n hn)
def mS(Qf:∀b,¬ow b):∀(N:Nat) (fuel:Nat) (t:TypeId) (cs:List Value) (x:DataW H×List MemPlace),AF P N t=true->(∀n∈x.1.weights P t,n<=reachBytes)->DataW.trod enc P w base spare held fuel t cs=some x->
 EA P I ow w N t cs
 |0,_,_,_,_,h,_,_=>by simp[AF]at h
 |N+1,fuel,t,cs,x,P4,Yl,hx=>by
  have hok':=P4;unfold AF at P4;unfold EA;simp only[iJ];split at P4
  .rename_i ht;obtain⟨b,rfl,_⟩:=DataW.trod_bool ht hx;exact⟨[.bool b],⟨b,rfl⟩,oY (by simp[A']),by simp[Value.oneCell']⟩
  .rename_i k ht;obtain⟨m,rfl,_,hw⟩:=DataW.trod_int ht hx;exact⟨[.int k m],⟨m,rfl,hw⟩,oY (by simp[A']),by simp[Value.oneCell']⟩
  .rename_i ht;obtain⟨s,rfl,rfl,hw⟩:=DataW.trod_string ht hx;exact⟨[.str s.data.toList],⟨_,rfl,Yl _ (by simp[DataW.weights])⟩,oY (by simp[A']),by simp[Value.oneCell']⟩
  .rename_i e ht;simp only[Ba,bne_iff_ne,ne_eq]at P4;rcases open_slice ht hx with⟨rfl,_⟩|⟨a,len,cap,m,n,D,Pl,rfl,hb,hl,hm,hmm,rfl,hi⟩
   .exact⟨[.sl (P.cellsOf e) []],⟨[],rfl,by simp,by simp⟩,oY (by simp only[A'];exact⟨none,0,rfl,by simp,.inl trivial⟩),by simp[Value.oneCell']⟩
   .have UN:len<=m:=by rw[hmm];split<;>omega
    simp only[DataW.weights,ht]at Yl;have hlen:len*P.bytesOf e<=reachBytes:=by
     have:=Yl _ (List.mem_cons_self ..);simp only[cL,List.length_range]at this;exact iq (Nat.mul_le_mul_right _ (by omega)) this
    have TY:∀i,i<len->∃r:V,(∃cs,iJ P N e cs/\r=rowOf (fg P e) cs)/\r.cells.length=P.cellsOf e/\∃cs',aq I ow w r.cells cs'/\(∀u∈cs',u.oneCell'=true)/\cs'.length=P.cellsOf e/\
     ∀j,j<P.cellsOf e->w.cell? ((a.add (i*P.cellsOf e)).add j)=cs'[j]?:=by
     intro i Yg;obtain⟨cs',h1,h2⟩:=hi i (by omega);obtain⟨_,QT,RF⟩:=World.cells?_some h1;obtain⟨vs,h3,h4,h5⟩:=mS Qf N n e cs' _ P4.1 (λq hq=>Yl q (List.mem_cons_of_mem _ (List.mem_append_left _ (l4 (eI.2 ⟨i,by simpa using Yg,rfl⟩) q hq)))) h2;have Yw:vs.length=P.cellsOf e:=by rw[<-QT,h4.length]
     have Ut:(rowOf (fg P e) vs).cells=vs:=by
      unfold rowOf;split
      .rfl
      .rename_i hna;cases N with
       |zero=>simp[iJ]at h3
       |succ N'=>
        unfold iJ at h3;split at h3
        .obtain⟨b,rfl⟩:=h3;rfl
        .obtain⟨b,rfl,_⟩:=h3;rfl
        .obtain⟨b,rfl,_⟩:=h3;rfl
        .obtain⟨b,rfl,_⟩:=h3;rfl
        .rename_i hs;exact absurd (rE hs) hna
        .exact h3.elim
     exact⟨rowOf (fg P e) vs,⟨vs,h3,rfl⟩,by rw[Ut,Yw],cs',by rw[Ut];exact h4,h5,QT,RF⟩
    obtain⟨rows,YL,VA⟩:=CN len TY;refine⟨[.sl (P.cellsOf e) rows],⟨rows,rfl,by rw[YL];exact hlen,λr hr=>?_⟩,oY ?_,by simp[Value.oneCell']⟩
    .obtain⟨i,Yg⟩:=IY hr;exact(VA i r Yg).1
    .simp only[A'];refine⟨some a,cap,by rw[YL],by omega,?_⟩;by_cases h0:len=0
     .left;exact rO (by omega)
     .right;have Vq:∃r,rows[0]?=some r:=⟨rows[0]'(by omega),by simp⟩
      obtain⟨r0,hr0⟩:=Vq;obtain⟨_,_,cs0,_,_,hcl0,hat0⟩:=VA 0 r0 hr0;have TJ:=hat0 0 (by omega);rw[SQ (by omega)]at TJ;have hspot:a.spot=none:=by
       have:=World.cell?_spot TJ;simpa[Addr.add]using this
      obtain⟨b,off,spot⟩:=a;subst hspot;refine⟨b,off,rfl,Qf b,by omega,?_⟩;have:=sF (I:=I) (ow:=ow) (w:=w) (b:=b) (off:=off) (sz:=P.cellsOf e) rows 0 λi r hri=>?_
      .simpa using this
      .obtain⟨_,h1,cs',h2,h3,h4,h5⟩:=VA i r hri;refine⟨h1,j7 h2 h3 λj u hu=>?_⟩;have hj:j<P.cellsOf e:=by rw[<-h4];exact(mL.1 hu).1
       have:=h5 j hj;rw[hu,add_plain,add_plain]at this;rw[gY];exact this
  .rename_i fs ht;simp only[Ba]at P4;obtain⟨xs,n,_,rfl,hl,ZU,hf⟩:=DataW.trod_struct ht hx;simp only[DataW.weights,ht]at Yl;obtain⟨vs,h1,h2,h3⟩:=uR (I:=I) (ow:=ow) (w:=w) (P:=P) (S:=iJ P N) (cs:=cs) fs.toList 0 (by rw[hl];exact P4.1) λf hfm=>by
    obtain⟨i,hi⟩:=IY hfm;have Yg:fs[i]?=some f:=by simpa using hi
    have C':i<xs.length:=by rw[ZU];exact(qk.1 Yg).1
    have h1:=hf i f Yg;rw[SQ C']at h1;exact mS Qf N n f.type _ _ (eQ.1 P4.2 f hfm) (λq hq=>Yl q (DataW.weights_mem_each (j:=i) (t:=f.type) (d:=(xs[i]'C').1) (by simp[hi]) (by simp[C']) q hq)) h1
   exact⟨vs,h1,by simpa using h2,by simpa using h3⟩
  .cases P4
def tc(P:Program)(t:TypeId)(vs:List V):V:=if fg P t then .agg vs else vs.getD 0 .undef
def IT(Qf:∀b,¬ow b){N:Nat}{t:TypeId}{v:Value}{d:DataW H}{p:List MemPlace}{r:Reach}{b0:Nat}(P4:AF P N t=true)(Yl:∀n∈d.weights P t,n<=reachBytes)(Ui:Value.okWide P w r b0 t v)(h:DataW.Trod enc P w base spare held t v d p):
 ∃vs,iJ P N t vs/\A' I ow w (tc P t vs) v:=by
 obtain⟨fuel,hf⟩:=h;obtain⟨vs,h1,h2,h3⟩:=mS (I:=I) Qf N fuel t _ _ P4 Yl hf;refine⟨vs,h1,?_⟩;cases N with
 |zero=>simp[iJ]at h1
 |succ N'=>
  unfold iJ at h1;have Re:∀u:V,vs=[u]->v.cells=#[v]->fg P t=false->A' I ow w (tc P t vs) v:=by
   rintro u rfl hc ha;rw[hc]at h2;simp only[aq]at h2;obtain⟨x,xs,h4,h5,h6⟩:=h2;simp only[List.cons.injEq]at h4;simp only[tc,ha,gj,if_false];rw[h4.1];exact h5
  split at h1
  .rename_i ht;obtain⟨b,rfl⟩:=h1;obtain⟨x,rfl⟩:=okWide_bool ht Ui;exact Re _ rfl rfl (by simp[fg,ht])
  .rename_i ht;obtain⟨b,rfl,_⟩:=h1;obtain⟨x,rfl⟩:=okWide_int ht Ui;exact Re _ rfl rfl (by simp[fg,ht])
  .rename_i ht;obtain⟨b,rfl,_⟩:=h1;obtain⟨x,rfl⟩:=okWide_string ht Ui;exact Re _ rfl rfl (by simp[fg,ht])
  .rename_i ht;obtain⟨b,rfl,_⟩:=h1;obtain⟨x,y,z,rfl⟩:=okWide_slice ht Ui;exact Re _ rfl rfl (by simp[fg,ht])
  .rename_i ht;obtain⟨cs,rfl,_⟩:=okWide_struct ht Ui;simp only[tc,rE ht,if_true,A'];exact⟨cs.toList,by simp,by simpa[Value.cells]using h2,by simpa[Value.cells]using h3⟩
  .exact h1.elim
def xY(P:Program)(N:Nat):List TypeId->List V->Prop
 |[],us=>us=[]
 |t::ts,us=>∃vs us',us=tc P t vs::us'/\iJ P N t vs/\xY P N ts us'
def zA(Qf:∀b,¬ow b){N:Nat}{r:Reach}{b0:Nat}:∀{ts:List TypeId} {vs:List Value} {ds:List (DataW H)} {p:List MemPlace},(∀t∈ts,AF P N t=true)->(∀n∈DataW.weightsEach P ts ds,n<=reachBytes)->
 (∀(j:Nat) t v,ts[j]?=some t->vs[j]?=some v->Value.okWide P w r b0 t v)->DataW.TrodAll enc P w base spare held ts vs ds p->∃us,xY P N ts us/\aq I ow w us vs
 |[],vs,ds,p,_,_,_,h=>by
  cases vs<;>cases ds<;>simp[DataW.TrodAll]at h;exact⟨[],rfl,by simp[aq]⟩
 |t::ts,vs,ds,p,P4,Yl,Ui,h=>by
  obtain⟨v,vs',d,ds',p',q,rfl,rfl,rfl,h1,h2⟩:=trodAll_cons h;simp only[DataW.weightsEach,dM]at Yl;obtain⟨cs,g1,g2⟩:=IT (I:=I) (b0:=b0) Qf (P4 t (by simp)) (λq hq=>Yl q (.inl hq)) (Ui 0 t v rfl rfl) h1;obtain⟨us,g3,g4⟩:=zA (b0:=b0) Qf (λu hu=>P4 u (by simp[hu])) (λq hq=>Yl q (.inr hq)) (λj u x hj hx=>Ui (j+1) u x (by simpa using hj) (by simpa using hx)) h2;exact⟨_::us,⟨cs,us,rfl,g1,g3⟩,by simp only[aq];exact⟨v,vs',rfl,g2,g4⟩⟩
def nS(hl:laidOutB P=true):∀{ts:List TypeId} {vs:List Value} {ds:List (DataW H)} {p:List MemPlace} {W W':World} {sp:Nat->Bool},(∀t∈ts,P.readableRec t=true/\t<P.types.size)->
 DataW.TrodAll enc P W 0 (λ_=>true) true ts vs ds p->Below W.heap.size W W'->(∀x∈p,x.block<W.heap.size)->(∀x∈p,sp x.block=true)->DataW.TrodAll enc P W' 0 sp true ts vs ds p
 |[],vs,ds,p,W,W',sp,_,h,_,_,_=>by
  cases vs<;>cases ds<;>simp[DataW.TrodAll]at h|-;exact h
 |t::ts,vs,ds,p,W,W',sp,ht,h,hb,C',VD=>by
  obtain⟨v,vs',d,ds',p',q,rfl,rfl,rfl,h1,h2⟩:=trodAll_cons h;refine⟨p',q,WideElems.Trod_stays hl (ht t (by simp)).1 (ht t (by simp)).2 h1 (λx hx=>hb.same (C' x (by simp[hx]))) (λx hx=>VD x (by simp[hx])),?_,rfl⟩;exact nS hl (λu hu=>ht u (by simp[hu])) h2 hb (λx hx=>C' x (by simp[hx])) (λx hx=>VD x (by simp[hx]))
end
def vv{H:Type}{enc:TypeId×Value->H}{P:Program}{f:Func}{s:ChangeSpec}{apart fresh handsOn again:Bool}{W W':World}{args:Array Value}{v:Value}{ds gs:List (DataW H)}{before pa pv:List MemPlace}
 (hW:DataW.Whole enc P f.params.toList s.vars apart W args.toList ds gs before)
 (UW:∀(b:Nat) (sp:Nat->Bool) (hd:Bool),DataW.TrodAll enc P W' b sp hd f.resultTypes.toList (v.resultList f.resultTypes.size) (s.fn H (ds++gs)).results [])
 (QB:∀sp:Nat->Bool,(∀p∈before,sp p.block=true)->DataW.TrodAll enc P W' 0 sp true f.params.toList args.toList (s.fn H (ds++gs)).args pa)
 (V6:∀sp:Nat->Bool,(∀p∈before,sp p.block=true)->DataW.TrodVars enc P W' sp s.vars (s.fn H (ds++gs)).vars pv)
 (TD:before=pa++pv)(hb:Below W.heap.size W W')
 (P4:∀(j:Nat) (t:TypeId) (r:Value),f.resultTypes[j]?=some t->(v.resultList f.resultTypes.size)[j]?=some r->Value.okWide P W' .any 0 t r):
 s.post enc P f apart fresh handsOn again W args v W':=by
 have C':∀p∈before,p.block<W.heap.size:=λp hp=>hW.lt p hp;have hold:∀p∈before,(λb=>decide (b<W.heap.size)) p.block=true:=λp hp=>by simpa using C' p hp
 refine⟨ds,gs,before,[],pa,pv,hW,UW _ _ _,QB _ hold,V6 _ hold,World.keptBut_mono (λp hp=>⟨hp,?_⟩) (hb.frame (·∈before)),λ_=>?_⟩
 .rw[TD,dM]at hp;exact Or.inr hp
 .obtain⟨_,_,_,_,_,hz,hn⟩:=hW;refine⟨P4,_,_,([]++pa)++pv,⟨[]++pa,pv,trodAll_append (QB _ (λ_ _=>rfl)) (UW _ _ _),V6 _ (λ_ _=>rfl),rfl,?_,?_⟩,?_⟩
  .intro b off hp;have U6:MemPlace.cell b off∈before:=by rw[TD];simpa using hp
   rw[hb.frozen (C' _ U6)];exact hz b off U6
  .intro ha;have:=hn ha;rw[TD]at this;simpa using this
  .intro p hp _;rw[TD];simpa using hp
def FT{H:Type}{enc:TypeId×Value->H}{P:Program}{f:Func}{i:FuncId}{s:ChangeSpec}{N:Nat}(Rr:P.funcs[i]?=some f)(hl:laidOutB P=true)
 (Um:f.params.toList.all (λt=>AF P N t&&(P.readableRec t&&decide (t<P.types.size)))=true)(V6:s.vars=[]){tb:TypeId}(UW:f.resultTypes=#[tb])(htb:P.underlying tb=some .bool)
 (ZV:∀ds,ds.length=f.params.size->s.fn H ds=⟨[.lit (.bool true)],ds,[]⟩)
 (WV:∀us,xY P N f.params.toList us->aP P i us (.bool true))
 {apart fresh handsOn again:Bool}{W:World}{base:Nat}{args:Array Value}{ds gs:List (DataW H)}{before:List MemPlace}
 (Ui:∀(j:Nat) t v,f.params[j]?=some t->args[j]?=some v->Value.okWide P W .any base t v)
 (hW:DataW.Whole enc P f.params.toList s.vars apart W args.toList ds gs before)(hvt:s.plain.varTypes P=[])
 (RM:(DataW.weightsEach P (f.params.toList++s.plain.varTypes P) (ds++gs)).all (·<=reachBytes)=true)(hO:Ai W):
 Calls P i args W λe W'=>∃v,e=.returned v/\s.post enc P f apart fresh handsOn again W args v W':=by
 have hW':=hW;obtain⟨p,q,hA,hV,rfl,hfz,Q8⟩:=hW;have hts':=eQ.1 Um;simp only[Ba,SX]at hts';rw[V6]at hV;have hnoV:gs=[]/\q=[]:=by
  cases gs with
  |nil=>exact⟨rfl,by simpa[DataW.TrodVars]using hV⟩
  |cons g gs=>simp[DataW.TrodVars]at hV
 obtain⟨rfl,rfl⟩:=hnoV;have Qf:∀b,¬aB (λ_=>Pl.dv) fe b:=λb ⟨_,_,_,_,h,_⟩=>by simp[fe]at h
 obtain⟨us,Tp,QR⟩:=zA (I:=λ_=>Pl.dv) (ow:=aB (λ_=>Pl.dv) fe) (b0:=base) (r:=.any) Qf (λt ht=>(hts' t ht).1)
  (by rw[hvt,kj,kj]at RM;intro n hn;simpa using eQ.1 RM n hn) (λj t v hj hv=>Ui j t v (by simpa using hj) (by simpa using hv)) hA
 have RT:Sat W (aB (λ_=>Pl.dv) fe) (λ_=>Pl.dv) fe W:=
  ⟨Qh _,rfl,rfl,rfl,λ_ _ _=>rfl,⟨0,λ_ _=>rfl⟩,λ_ _ _ _ _ _ _ _ _ h=>by simp[fe]at h,λ_ _ h=>by simp[fe]at h,λb hb=>(Qf b hb).elim,⟨W,hO,Qh _,λi _=>⟨Qf i,rfl⟩⟩⟩
 have Rk:=(WV us Tp fe).2 (λ_=>Pl.dv) W args.toList RT QR;rw[Array.toArray_toList]at Rk;refine Rk.mono ?_;rintro e W' ⟨r,Z',Y',val,rfl,⟨rfl,rfl⟩,_,PW,hr⟩;simp only[A']at hr;subst hr;have hbel:Below W.heap.size W W':=⟨PW.os,PW.tape,PW.output,PW.size,λk hk=>PW.same k hk (Qf k)⟩
 have hlen:ds.length=f.params.size:=by
  have key:∀{ts:List TypeId} {vs:List Value} {ds:List (DataW H)} {p:List MemPlace},DataW.TrodAll enc P W 0 (λ_=>true) true ts vs ds p->ds.length=ts.length:=by
   intro ts
   induction ts with
   |nil=>intro vs ds p h;cases vs<;>cases ds<;>simp[DataW.TrodAll]at h|-
   |cons t ts ih=>
    intro vs ds p h;obtain⟨_,_,_,_,_,_,_,rfl,_,_,h2⟩:=trodAll_cons h;simp[ih h2]
  simpa using key hA
 have hfn':=ZV ds hlen;refine⟨.bool true,rfl,vv (pa:=p) (pv:=[]) hW' ?_ ?_ ?_ rfl hbel ?_⟩
 .intro b sp hd;rw[kj,hfn',UW];exact⟨[],[],shut_bool htb _,rfl,rfl⟩
 .intro sp VD;rw[kj,hfn'];refine nS hl (λt ht=>(hts' t ht).2) hA hbel (λx hx=>by simpa using hW'.lt x (by simpa using hx)) (λx hx=>VD x (by simpa using hx))
 .intro sp _;rw[kj,hfn',V6];rfl
 .exact ok_one UW rfl (okWide_bool_mk htb _)
open Go.Proofs
def xc{α:Type}{f:α->V}{p:α->Prop}:∀{rows:List V},(∀r∈rows,∃x,r=f x/\p x)->∃l:List α,rows=l.map f/\∀x∈l,p x
 |[],_=>⟨[],rfl,by simp⟩
 |r::rs,h=>by
  obtain⟨x,rfl,hx⟩:=h r (by simp);obtain⟨l,rfl,hl⟩:=xc λq hq=>h q (List.mem_cons_of_mem _ hq);exact⟨x::l,rfl,by simpa using⟨hx,hl⟩⟩
def TQ(m:Int):Prop:=-9223372036854775808<=m/\m<=9223372036854775807
def Rn.TQ(s:Rn):Prop:=Vc.TQ s.top/\Vc.TQ s.P0/\Vc.TQ s.PQ/\Vc.TQ s.H'/\Vc.TQ s.QC/\Vc.TQ s.Qd/\Vc.TQ s.Qm/\Vc.TQ s.head/\Vc.TQ s.before/\Vc.TQ s.after/\Vc.TQ s.inside/\Vc.TQ s.clear
def Nd.real(x:Nd):Prop:=(Vc.TQ x.kind/\Vc.TQ x.size/\x.st.TQ/\Vc.TQ x.line/\Vc.TQ x.space/\Vc.TQ x.side/\Vc.TQ x.w/\Vc.TQ x.h)/\x.words.length<=17592186043904/\∀n∈x.words,Vc.TQ n
section
variable {P:Program} {n:Nat} {t:TypeId} {vs:List V}
def Fv{k:IntKind}(ht:P.underlying t=some (.int k))(h:iJ P (n+1) t vs):∃m,vs=[.int k m]/\(Lit.int k m).wf=true:=by
 simpa only[iJ,ht]using h
def tD{e:TypeId}(ht:P.underlying t=some (.slice e))(h:iJ P (n+1) t vs):∃rows,vs=[.sl (P.cellsOf e) rows]/\rows.length*P.bytesOf e<=reachBytes/\∀r∈rows,∃cs,iJ P n e cs/\r=rowOf (fg P e) cs:=by
 simpa only[iJ,ht]using h
def qO{fs:Array Field}(ht:P.underlying t=some (.struct fs))(h:iJ P (n+1) t vs):wT (iJ P n) fs.toList vs:=by
 simpa only[iJ,ht]using h
end
def HB:prog.cellsOf 3=1:=by kernel_rfl
def Fk:prog.cellsOf 27=20:=by kernel_rfl
def MR:fg prog 3=false:=by kernel_rfl
def KY:fg prog 22=false:=by kernel_rfl
def K8:fg prog 27=true:=by kernel_rfl
def Ii:prog.bytesOf 3=8:=by kernel_rfl
def GH:prog.bytesOf 27=176:=by kernel_rfl
def dc{n:Nat}{vs:List V}(h:iJ prog (n+1) 3 vs):∃m,vs=[vI m]/\TQ m:=by
 obtain⟨m,h,hw⟩:=Fv underlying3 h;exact⟨m,h,by simp[Lit.wf,IntKind.min,IntKind.max,IntKind.signed,IntKind.bits]at hw;unfold TQ;omega⟩
def Gu{n:Nat}{vs:List V}(h:iJ prog (n+2) 25 vs):∃l,vs=[encI l]/\l.length<=17592186043904/\∀n∈l,TQ n:=by
 obtain⟨rows,rfl,hl,h⟩:=tD underlying25 h;obtain⟨l,rfl,hp⟩:=xc (f:=vI) (p:=TQ) λr hr=>by
  obtain⟨cs,hc,rfl⟩:=h r hr;obtain⟨m,rfl,hm⟩:=dc hc;exact⟨m,by rw[MR];rfl,hm⟩
 rw[Ii]at hl;simp only[cL,reachBytes]at hl;exact⟨l,by rw[HB];rfl,by omega,hp⟩
def DL{n:Nat}{vs:List V}(h:iJ prog (n+2) 24 vs):∃s:Rn,vs=s.cells/\s.TQ:=by
 replace h:=qO underlying24 h;simp only[wT]at h;obtain⟨_,_,rfl,h1,_,_,rfl,h2,_,_,rfl,h3,_,_,rfl,h4,_,_,rfl,h5,_,_,rfl,h6,_,_,rfl,h7,_,_,rfl,h8,_,_,rfl,h9,_,_,rfl,To,_,_,rfl,Uo,_,_,rfl,h12,rfl⟩:=h;obtain⟨m1,rfl,g1⟩:=dc h1;obtain⟨m2,rfl,g2⟩:=dc h2;obtain⟨m3,rfl,g3⟩:=dc h3;obtain⟨m4,rfl,g4⟩:=dc h4;obtain⟨m5,rfl,g5⟩:=dc h5;obtain⟨m6,rfl,g6⟩:=dc h6;obtain⟨m7,rfl,g7⟩:=dc h7;obtain⟨m8,rfl,g8⟩:=dc h8;obtain⟨m9,rfl,g9⟩:=dc h9;obtain⟨m10,rfl,g10⟩:=dc To;obtain⟨m11,rfl,g11⟩:=dc Uo;obtain⟨m12,rfl,g12⟩:=dc h12;exact⟨⟨m1,m2,m3,m4,m5,m6,m7,m8,m9,m10,m11,m12⟩,rfl,g1,g2,g3,g4,g5,g6,g7,g8,g9,g10,g11,g12⟩
def G1{n:Nat}{vs:List V}(h:iJ prog (n+3) 27 vs):∃x:Nd,vs=x.cells/\x.real:=by
 replace h:=qO underlying27 h;simp only[wT]at h;obtain⟨_,_,rfl,h1,_,_,rfl,h2,_,_,rfl,h3,_,_,rfl,h4,_,_,rfl,h5,_,_,rfl,h6,_,_,rfl,h7,_,_,rfl,h8,_,_,rfl,h9,rfl⟩:=h;obtain⟨m1,rfl,g1⟩:=dc h1;obtain⟨m2,rfl,g2⟩:=dc h2;obtain⟨s,rfl,g3⟩:=DL h3;obtain⟨m4,rfl,g4⟩:=dc h4;obtain⟨m5,rfl,g5⟩:=dc h5;obtain⟨ws,rfl,g6,g6'⟩:=Gu h6;obtain⟨m7,rfl,g7⟩:=dc h7;obtain⟨m8,rfl,g8⟩:=dc h8;obtain⟨m9,rfl,g9⟩:=dc h9;exact⟨⟨m1,m2,s,m4,m5,ws,m7,m8,m9⟩,rfl,⟨g1,g2,g3,g4,g5,g7,g8,g9⟩,g6,g6'⟩
def Ei{n:Nat}{vs:List V}(h:iJ prog (n+4) 22 vs):∃l,vs=[aM l]/\l.length<=800000000000/\∀x∈l,x.real:=by
 obtain⟨rows,rfl,hl,h⟩:=tD underlying22 h;obtain⟨l,rfl,hp⟩:=xc (f:=iE) (p:=Nd.real) λr hr=>by
  obtain⟨cs,hc,rfl⟩:=h r hr;obtain⟨x,rfl,hx⟩:=G1 hc;exact⟨x,by rw[K8];rfl,hx⟩
 rw[GH]at hl;simp only[cL,reachBytes]at hl;exact⟨l,by rw[Fk];rfl,by omega,hp⟩
def Dk{n:Nat}{vs:List V}(h:iJ prog (n+4) 22 vs):∃l,tc prog 22 vs=aM l/\l.length<=800000000000/\∀x∈l,x.real:=by
 obtain⟨l,rfl,h1,h2⟩:=Ei h;exact⟨l,by unfold tc;rw[KY];rfl,h1,h2⟩
end Go.Vc
