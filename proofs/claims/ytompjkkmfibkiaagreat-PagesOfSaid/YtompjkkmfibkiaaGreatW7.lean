import Derived.Test.YtompjkkmfibkiaaGreatW6
import Derived.WalkKit
import Derived.ProofKit
import Derived.Deep.Slices
import Derived.ChangeArms
import Derived.WideKeyArgs
import Derived.Carry
import Derived.SizedLaws
set_option linter.all false
set_option maxHeartbeats 8000000
set_option maxRecDepth 100000
open Go.Proofs.Tryz
namespace Go.Vc
open Go.ChangeShapes Go.WideShapes Go.RowKit Go.Deep
def wW(P:Program)(total:Nat):Nat->List Field->Bool
 |off,[]=>off==total
 |off,f::fs=>f.offset==off&&wW P total (off+P.cellsOf f.type) fs
def Cu(P:Program):Nat->TypeId->Bool
 |0,_=>false
 |n+1,t=>match P.underlying t with
  |some .bool|some (.int _)|some .string=>true
  |some (.slice e)=>Cu P n e&&P.cellsOf e != 0
  |some (.struct fs)=>wW P (P.cellsOf t) 0 fs.toList&&fs.toList.all λf=>Cu P n f.type
  |_=>false
def rowOf(agg:Bool)(cs:List V):V:=if agg then .agg cs else cs.getD 0 .undef
def yq(S:TypeId->List V->Prop):List Field->List V->Prop
 |[],vs=>vs=[]
 |f::fs,vs=>∃a b,vs=a++b/\S f.type a/\yq S fs b
def jC(P:Program):Nat->TypeId->List V->Prop
 |0,_,_=>False
 |n+1,t,vs=>match P.underlying t with
  |some .bool=>∃b,vs=[.bool b]
  |some (.int k)=>∃m,vs=[.int k m]/\(Lit.int k m).wf=true
  |some .string=>∃s:List UInt8,vs=[.str s]/\s.length<=reachBytes
  |some (.slice e)=>∃rows,vs=[.sl (P.cellsOf e) rows]/\rows.length*P.bytesOf e<=reachBytes/\∀r∈rows,∃cs,jC P n e cs/\r=rowOf (fZ P e) cs
  |some (.struct fs)=>yq (jC P n) fs.toList vs
  |_=>False
def Fc{α:Type}{Pr:Nat->α->Prop}:∀n,(∀i,i<n->∃r,Pr i r)->∃rows:List α,rows.length=n/\∀i r,rows[i]?=some r->Pr i r
 |0,_=>⟨[],rfl,λi r h=>by simp at h⟩
 |n+1,h=>by
  obtain⟨rows,h1,h2⟩:=Fc n λi hi=>h i (by omega);obtain⟨r,hr⟩:=h n (by omega);refine⟨rows++[r],by simp[h1],λi x hx=>?_⟩;rw[NC]at hx;split at hx
  .exact h2 i x hx
  .rename_i hi;have:i-rows.length=0:=by
    rcases Nat.eq_zero_or_pos (i-rows.length)with h0|h0
    .exact h0
    .rw[xi (by simp;omega)]at hx;cases hx
   rw[this]at hx;simp at hx;subst hx;have:i=n:=by omega
   subst this;exact hr
def wD{I:Mu}{ow:Nat->Prop}{w:World}{b off sz:Nat}:∀(rows:List V) (k:Nat),(∀i r,rows[i]?=some r->r.cells.length=sz/\aK I ow w r.cells b (off+(k+i)*sz))->aW I ow w rows b (off+k*sz) sz
 |[],_,_=>by simp[aW]
 |r::rs,k,h=>by
  have h0:=h 0 r rfl;simp only[aW];refine⟨h0.1,by rw[eo];simpa using h0.2,?_⟩;have e:off+k*sz+sz=off+(k+1)*sz:=by rw[Nat.add_mul];omega
  rw[e];refine wD rs (k+1) λi x hx=>?_;have:=h (i+1) x (by simpa using hx);rw[show k+1+i=k+(i+1) by omega];exact this
section
variable {H:Type} {enc:TypeId×Value->H} {P:Program} {w:World} {base:Nat} {spare:Nat->Bool} {held:Bool} {I:Mu} {ow:Nat->Prop}
def Hr(P:Program)(I:Mu)(ow:Nat->Prop)(w:World)(N:Nat)(t:TypeId)(cs:List Value):Prop:=
 ∃vs,jC P N t vs/\ar I ow w vs cs/\∀u∈cs,u.oneCell'=true
def wR{S:TypeId->List V->Prop}{cs:List Value}:∀(fs:List Field) (off:Nat),wW P cs.length off fs=true->
 (∀f∈fs,∃vs,S f.type vs/\ar I ow w vs ((cs.drop f.offset).take (P.cellsOf f.type))/\∀u∈(cs.drop f.offset).take (P.cellsOf f.type),u.oneCell'=true)->
 ∃vs,yq S fs vs/\ar I ow w vs (cs.drop off)/\∀u∈cs.drop off,u.oneCell'=true
 |[],off,hc,_=>by
  simp only[wW,beq_iff_eq]at hc;refine⟨[],rfl,?_,?_⟩
  .rw[Mq (by omega)];simp[ar]
  .rw[Mq (by omega)];simp
 |f::fs,off,hc,h=>by
  simp only[wW,Ba,beq_iff_eq]at hc;obtain⟨a,h1,h2,h3⟩:=h f (by simp);obtain⟨b,h4,h5,h6⟩:=wR fs (off+P.cellsOf f.type) hc.2 λg hg=>h g (by simp[hg]);rw[hc.1]at h2 h3;have e:cs.drop off=(cs.drop off).take (P.cellsOf f.type)++cs.drop (off+P.cellsOf f.type):=by
   rw[<-List.drop_drop,rZ]
  refine⟨a++b,⟨a,b,rfl,h1,h4⟩,?_,?_⟩
  .rw[e];exact h2.append h5
  .rw[e];intro u hu;rcases dH.1 hu with hu|hu
   .exact h3 u hu
   .exact h6 u hu
def qZ{v:V}{x:Value}(h:G' I ow w v x):ar I ow w [v] [x]:=by simp only[ar];exact⟨x,[],rfl,h,rfl⟩
def tC{t:TypeId}{fs:Array Field}(h:P.underlying t=some (.struct fs)):fZ P t=true:=by simp[fZ,h]
def nt{e:TypeId}{d:DataW H}:∀{l:List (DataW H)},d∈l->∀n∈d.weights P e,n∈DataW.weightsAll P e l
 |[],h,_,_=>by simp at h
 |x::l,h,n,hn=>by
  simp only[DataW.weightsAll,dH];rcases dJ.1 h with rfl|h
  .exact .inl hn
  .exact .inr (nt h n hn)
def nj(Xa:∀b,¬ow b):∀(N:Nat) (fuel:Nat) (t:TypeId) (cs:List Value) (x:DataW H×List MemPlace),Cu P N t=true->(∀n∈x.1.weights P t,n<=reachBytes)->DataW.trod enc P w base spare held fuel t cs=some x->
 Hr P I ow w N t cs
 |0,_,_,_,_,h,_,_=>by simp[Cu]at h
 |N+1,fuel,t,cs,x,WB,hwt,hx=>by
  have hok':=WB;unfold Cu at WB;unfold Hr;simp only[jC];split at WB
  .rename_i ht;obtain⟨b,rfl,_⟩:=DataW.trod_bool ht hx;exact⟨[.bool b],⟨b,rfl⟩,qZ (by simp[G']),by simp[Value.oneCell']⟩
  .rename_i k ht;obtain⟨m,rfl,_,hw⟩:=DataW.trod_int ht hx;exact⟨[.int k m],⟨m,rfl,hw⟩,qZ (by simp[G']),by simp[Value.oneCell']⟩
  .rename_i ht;obtain⟨s,rfl,rfl,hw⟩:=DataW.trod_string ht hx;exact⟨[.str s.data.toList],⟨_,rfl,hwt _ (by simp[DataW.weights])⟩,qZ (by simp[G']),by simp[Value.oneCell']⟩
  .rename_i e ht;simp only[Ba,bne_iff_ne,ne_eq]at WB;rcases open_slice ht hx with⟨rfl,_⟩|⟨a,len,cap,m,n,D,Pl,rfl,hb,hl,hm,hmm,rfl,hi⟩
   .exact⟨[.sl (P.cellsOf e) []],⟨[],rfl,by simp,by simp⟩,qZ (by simp only[G'];exact⟨none,0,rfl,by simp,.inl trivial⟩),by simp[Value.oneCell']⟩
   .have Yd:len<=m:=by rw[hmm];split<;>omega
    simp only[DataW.weights,ht]at hwt;have hlen:len*P.bytesOf e<=reachBytes:=by
     have:=hwt _ (List.mem_cons_self ..);simp only[cJ,List.length_range]at this;exact jP (Nat.mul_le_mul_right _ (by omega)) this
    have hel:∀i,i<len->∃r:V,(∃cs,jC P N e cs/\r=rowOf (fZ P e) cs)/\r.cells.length=P.cellsOf e/\∃Yu,ar I ow w r.cells Yu/\(∀u∈Yu,u.oneCell'=true)/\Yu.length=P.cellsOf e/\
     ∀j,j<P.cellsOf e->w.cell? ((a.add (i*P.cellsOf e)).add j)=Yu[j]?:=by
     intro i hi';obtain⟨Yu,h1,h2⟩:=hi i (by omega);obtain⟨_,Yj,Yg⟩:=World.cells?_some h1;obtain⟨vs,h3,h4,h5⟩:=nj Xa N n e Yu _ WB.1 (λq hq=>hwt q (List.mem_cons_of_mem _ (List.mem_append_left _ (nt (gb.2 ⟨i,by simpa using hi',rfl⟩) q hq)))) h2;have hvl:vs.length=P.cellsOf e:=by rw[<-Yj,h4.length]
     have hcells:(rowOf (fZ P e) vs).cells=vs:=by
      unfold rowOf;split
      .rfl
      .rename_i hna;cases N with
       |zero=>simp[jC]at h3
       |succ N'=>
        unfold jC at h3;split at h3
        .obtain⟨b,rfl⟩:=h3;rfl
        .obtain⟨b,rfl,_⟩:=h3;rfl
        .obtain⟨b,rfl,_⟩:=h3;rfl
        .obtain⟨b,rfl,_⟩:=h3;rfl
        .rename_i hs;exact absurd (tC hs) hna
        .exact h3.elim
     exact⟨rowOf (fZ P e) vs,⟨vs,h3,rfl⟩,by rw[hcells,hvl],Yu,by rw[hcells];exact h4,h5,Yj,Yg⟩
    obtain⟨rows,hr1,hr2⟩:=Fc len hel;refine⟨[.sl (P.cellsOf e) rows],⟨rows,rfl,by rw[hr1];exact hlen,λr hr=>?_⟩,qZ ?_,by simp[Value.oneCell']⟩
    .obtain⟨i,hi'⟩:=Kr hr;exact(hr2 i r hi').1
    .simp only[G'];refine⟨some a,cap,by rw[hr1],by omega,?_⟩;by_cases h0:len=0
     .left;exact rf (by omega)
     .right;have hfirst:∃r,rows[0]?=some r:=⟨rows[0]'(by omega),by simp⟩
      obtain⟨r0,hr0⟩:=hfirst;obtain⟨_,_,cs0,_,_,hcl0,hat0⟩:=hr2 0 r0 hr0;have hc0:=hat0 0 (by omega);rw[Zq6 (by omega)]at hc0;have hspot:a.spot=none:=by
       have:=World.cell?_spot hc0;simpa[Addr.add]using this
      obtain⟨b,off,spot⟩:=a;subst hspot;refine⟨b,off,rfl,Xa b,by omega,?_⟩;have:=wD (I:=I) (ow:=ow) (w:=w) (b:=b) (off:=off) (sz:=P.cellsOf e) rows 0 λi r hri=>?_
      .simpa using this
      .obtain⟨_,h1,Yu,h2,h3,h4,h5⟩:=hr2 i r hri;refine⟨h1,lq h2 h3 λj u hu=>?_⟩;have hj:j<P.cellsOf e:=by rw[<-h4];exact(oR.1 hu).1
       have:=h5 j hj;rw[hu,add_plain,add_plain]at this;rw[kf];exact this
  .rename_i fs ht;simp only[Ba]at WB;obtain⟨xs,n,_,rfl,hl,hxl,hf⟩:=DataW.trod_struct ht hx;simp only[DataW.weights,ht]at hwt;obtain⟨vs,h1,h2,h3⟩:=wR (I:=I) (ow:=ow) (w:=w) (P:=P) (S:=jC P N) (cs:=cs) fs.toList 0 (by rw[hl];exact WB.1) λf hfm=>by
    obtain⟨i,hi⟩:=Kr hfm;have hi':fs[i]?=some f:=by simpa using hi
    have B':i<xs.length:=by rw[hxl];exact(tZ.1 hi').1
    have h1:=hf i f hi';rw[Zq6 B']at h1;exact nj Xa N n f.type _ _ (fC.1 WB.2 f hfm) (λq hq=>hwt q (DataW.weights_mem_each (j:=i) (t:=f.type) (d:=(xs[i]'B').1) (by simp[hi]) (by simp[B']) q hq)) h1
   exact⟨vs,h1,by simpa using h2,by simpa using h3⟩
  .cases WB
def qt(P:Program)(t:TypeId)(vs:List V):V:=if fZ P t then .agg vs else vs.getD 0 .undef
def J6(Xa:∀b,¬ow b){N:Nat}{t:TypeId}{v:Value}{d:DataW H}{p:List MemPlace}{r:Reach}{b0:Nat}(WB:Cu P N t=true)(hwt:∀n∈d.weights P t,n<=reachBytes)(hval:Value.okWide P w r b0 t v)(h:DataW.Trod enc P w base spare held t v d p):
 ∃vs,jC P N t vs/\G' I ow w (qt P t vs) v:=by
 obtain⟨fuel,hf⟩:=h;obtain⟨vs,h1,h2,h3⟩:=nj (I:=I) Xa N fuel t _ _ WB hwt hf;refine⟨vs,h1,?_⟩;cases N with
 |zero=>simp[jC]at h1
 |succ N'=>
  unfold jC at h1;have Xe:∀u:V,vs=[u]->v.cells=#[v]->fZ P t=false->G' I ow w (qt P t vs) v:=by
   rintro u rfl hc ha;rw[hc]at h2;simp only[ar]at h2;obtain⟨x,xs,h4,h5,h6⟩:=h2;simp only[List.cons.injEq]at h4;simp only[qt,ha,fO,if_false];rw[h4.1];exact h5
  split at h1
  .rename_i ht;obtain⟨b,rfl⟩:=h1;obtain⟨x,rfl⟩:=okWide_bool ht hval;exact Xe _ rfl rfl (by simp[fZ,ht])
  .rename_i ht;obtain⟨b,rfl,_⟩:=h1;obtain⟨x,rfl⟩:=okWide_int ht hval;exact Xe _ rfl rfl (by simp[fZ,ht])
  .rename_i ht;obtain⟨b,rfl,_⟩:=h1;obtain⟨x,rfl⟩:=okWide_string ht hval;exact Xe _ rfl rfl (by simp[fZ,ht])
  .rename_i ht;obtain⟨b,rfl,_⟩:=h1;obtain⟨x,y,z,rfl⟩:=okWide_slice ht hval;exact Xe _ rfl rfl (by simp[fZ,ht])
  .rename_i ht;obtain⟨cs,rfl,_⟩:=okWide_struct ht hval;simp only[qt,tC ht,if_true,G'];exact⟨cs.toList,by simp,by simpa[Value.cells]using h2,by simpa[Value.cells]using h3⟩
  .exact h1.elim
def zq(P:Program)(N:Nat):List TypeId->List V->Prop
 |[],us=>us=[]
 |t::ts,us=>∃vs us',us=qt P t vs::us'/\jC P N t vs/\zq P N ts us'
def Bf(Xa:∀b,¬ow b){N:Nat}{r:Reach}{b0:Nat}:∀{ts:List TypeId} {vs:List Value} {ds:List (DataW H)} {p:List MemPlace},(∀t∈ts,Cu P N t=true)->(∀n∈DataW.weightsEach P ts ds,n<=reachBytes)->
 (∀(j:Nat) t v,ts[j]?=some t->vs[j]?=some v->Value.okWide P w r b0 t v)->DataW.TrodAll enc P w base spare held ts vs ds p->∃us,zq P N ts us/\ar I ow w us vs
 |[],vs,ds,p,_,_,_,h=>by
  cases vs<;>cases ds<;>simp[DataW.TrodAll]at h;exact⟨[],rfl,by simp[ar]⟩
 |t::ts,vs,ds,p,WB,hwt,hval,h=>by
  obtain⟨v,vs',d,ds',p',q,rfl,rfl,rfl,h1,h2⟩:=trodAll_cons h;simp only[DataW.weightsEach,dH]at hwt;obtain⟨cs,g1,g2⟩:=J6 (I:=I) (b0:=b0) Xa (WB t (by simp)) (λq hq=>hwt q (.inl hq)) (hval 0 t v rfl rfl) h1;obtain⟨us,g3,g4⟩:=Bf (b0:=b0) Xa (λu hu=>WB u (by simp[hu])) (λq hq=>hwt q (.inr hq)) (λj u x hj hx=>hval (j+1) u x (by simpa using hj) (by simpa using hx)) h2;exact⟨_::us,⟨cs,us,rfl,g1,g3⟩,by simp only[ar];exact⟨v,vs',rfl,g2,g4⟩⟩
def oV(hl:laidOutB P=true):∀{ts:List TypeId} {vs:List Value} {ds:List (DataW H)} {p:List MemPlace} {W W':World} {sp:Nat->Bool},(∀t∈ts,P.readableRec t=true/\t<P.types.size)->
 DataW.TrodAll enc P W 0 (λ_=>true) true ts vs ds p->Below W.heap.size W W'->(∀x∈p,x.block<W.heap.size)->(∀x∈p,sp x.block=true)->DataW.TrodAll enc P W' 0 sp true ts vs ds p
 |[],vs,ds,p,W,W',sp,_,h,_,_,_=>by
  cases vs<;>cases ds<;>simp[DataW.TrodAll]at h|-;exact h
 |t::ts,vs,ds,p,W,W',sp,ht,h,hb,B',hsp=>by
  obtain⟨v,vs',d,ds',p',q,rfl,rfl,rfl,h1,h2⟩:=trodAll_cons h;refine⟨p',q,WideElems.Trod_stays hl (ht t (by simp)).1 (ht t (by simp)).2 h1 (λx hx=>hb.same (B' x (by simp[hx]))) (λx hx=>hsp x (by simp[hx])),?_,rfl⟩;exact oV hl (λu hu=>ht u (by simp[hu])) h2 hb (λx hx=>B' x (by simp[hx])) (λx hx=>hsp x (by simp[hx]))
end
def xH{H:Type}{enc:TypeId×Value->H}{P:Program}{f:Func}{s:ChangeSpec}{apart fresh handsOn again:Bool}{W W':World}{args:Array Value}{v:Value}{ds gs:List (DataW H)}{before pa pv:List MemPlace}
 (hW:DataW.Whole enc P f.params.toList s.vars apart W args.toList ds gs before)
 (hres:∀(b:Nat) (sp:Nat->Bool) (hd:Bool),DataW.TrodAll enc P W' b sp hd f.resultTypes.toList (v.resultList f.resultTypes.size) (s.fn H (ds++gs)).results [])
 (XE:∀sp:Nat->Bool,(∀p∈before,sp p.block=true)->DataW.TrodAll enc P W' 0 sp true f.params.toList args.toList (s.fn H (ds++gs)).args pa)
 (hvars:∀sp:Nat->Bool,(∀p∈before,sp p.block=true)->DataW.TrodVars enc P W' sp s.vars (s.fn H (ds++gs)).vars pv)
 (hps:before=pa++pv)(hb:Below W.heap.size W W')
 (WB:∀(j:Nat) (t:TypeId) (r:Value),f.resultTypes[j]?=some t->(v.resultList f.resultTypes.size)[j]?=some r->Value.okWide P W' .any 0 t r):
 s.post enc P f apart fresh handsOn again W args v W':=by
 have B':∀p∈before,p.block<W.heap.size:=λp hp=>hW.lt p hp;have hold:∀p∈before,(λb=>decide (b<W.heap.size)) p.block=true:=λp hp=>by simpa using B' p hp
 refine⟨ds,gs,before,[],pa,pv,hW,hres _ _ _,XE _ hold,hvars _ hold,World.keptBut_mono (λp hp=>⟨hp,?_⟩) (hb.frame (·∈before)),λ_=>?_⟩
 .rw[hps,dH]at hp;exact Or.inr hp
 .obtain⟨_,_,_,_,_,hz,hn⟩:=hW;refine⟨WB,_,_,([]++pa)++pv,⟨[]++pa,pv,trodAll_append (XE _ (λ_ _=>rfl)) (hres _ _ _),hvars _ (λ_ _=>rfl),rfl,?_,?_⟩,?_⟩
  .intro b off hp;have hin:MemPlace.cell b off∈before:=by rw[hps];simpa using hp
   rw[hb.frozen (B' _ hin)];exact hz b off hin
  .intro ha;have:=hn ha;rw[hps]at this;simpa using this
  .intro p hp _;rw[hps];simpa using hp
def Jc{H:Type}{enc:TypeId×Value->H}{P:Program}{f:Func}{i:FuncId}{s:ChangeSpec}{N:Nat}(hfs:P.funcs[i]?=some f)(hl:laidOutB P=true)
 (hts:f.params.toList.all (λt=>Cu P N t&&(P.readableRec t&&decide (t<P.types.size)))=true)(hvars:s.vars=[]){tb:TypeId}(hres:f.resultTypes=#[tb])(htb:P.underlying tb=some .bool)
 (hfn:∀ds,ds.length=f.params.size->s.fn H ds=⟨[.lit (.bool true)],ds,[]⟩)
 (hlaw:∀us,zq P N f.params.toList us->aE P i us (.bool true))
 {apart fresh handsOn again:Bool}{W:World}{base:Nat}{args:Array Value}{ds gs:List (DataW H)}{before:List MemPlace}
 (hval:∀(j:Nat) t v,f.params[j]?=some t->args[j]?=some v->Value.okWide P W .any base t v)
 (hW:DataW.Whole enc P f.params.toList s.vars apart W args.toList ds gs before)(hvt:s.plain.varTypes P=[])
 (Yh:(DataW.weightsEach P (f.params.toList++s.plain.varTypes P) (ds++gs)).all (·<=reachBytes)=true)(hO:RM W):
 Calls P i args W λe W'=>∃v,e=.returned v/\s.post enc P f apart fresh handsOn again W args v W':=by
 have hW':=hW;obtain⟨p,q,hA,hV,rfl,hfz,XO⟩:=hW;have hts':=fC.1 hts;simp only[Ba,YX]at hts';rw[hvars]at hV;have hnoV:gs=[]/\q=[]:=by
  cases gs with
  |nil=>exact⟨rfl,by simpa[DataW.TrodVars]using hV⟩
  |cons g gs=>simp[DataW.TrodVars]at hV
 obtain⟨rfl,rfl⟩:=hnoV;have Xa:∀b,¬aA (λ_=>Pl.dQ) lK b:=λb ⟨_,_,_,_,h,_⟩=>by simp[lK]at h
 obtain⟨us,ZR,ZF⟩:=Bf (I:=λ_=>Pl.dQ) (ow:=aA (λ_=>Pl.dQ) lK) (b0:=base) (r:=.any) Xa (λt ht=>(hts' t ht).1)
  (by rw[hvt,iN,iN]at Yh;intro n hn;simpa using fC.1 Yh n hn) (λj t v hj hv=>hval j t v (by simpa using hj) (by simpa using hv)) hA
 have Zp:Sat W (aA (λ_=>Pl.dQ) lK) (λ_=>Pl.dQ) lK W:=
  ⟨Xc _,rfl,rfl,rfl,λ_ _ _=>rfl,⟨0,λ_ _=>rfl⟩,λ_ _ _ _ _ _ _ _ _ h=>by simp[lK]at h,λ_ _ h=>by simp[lK]at h,λb hb=>(Xa b hb).elim,⟨W,hO,Xc _,λi _=>⟨Xa i,rfl⟩⟩⟩
 have XY:=(hlaw us ZR lK).2 (λ_=>Pl.dQ) W args.toList Zp ZF;rw[Array.toArray_toList]at XY;refine XY.mono ?_;rintro e W' ⟨r,Z',Y',val,rfl,⟨rfl,rfl⟩,_,W2,hr⟩;simp only[G']at hr;subst hr;have hbel:Below W.heap.size W W':=⟨W2.os,W2.tape,W2.output,W2.size,λk hk=>W2.same k hk (Xa k)⟩
 have hlen:ds.length=f.params.size:=by
  have key:∀{ts:List TypeId} {vs:List Value} {ds:List (DataW H)} {p:List MemPlace},DataW.TrodAll enc P W 0 (λ_=>true) true ts vs ds p->ds.length=ts.length:=by
   intro ts
   induction ts with
   |nil=>intro vs ds p h;cases vs<;>cases ds<;>simp[DataW.TrodAll]at h|-
   |cons t ts ih=>
    intro vs ds p h;obtain⟨_,_,_,_,_,_,_,rfl,_,_,h2⟩:=trodAll_cons h;simp[ih h2]
  simpa using key hA
 have hfn':=hfn ds hlen;refine⟨.bool true,rfl,xH (pa:=p) (pv:=[]) hW' ?_ ?_ ?_ rfl hbel ?_⟩
 .intro b sp hd;rw[iN,hfn',hres];exact⟨[],[],shut_bool htb _,rfl,rfl⟩
 .intro sp hsp;rw[iN,hfn'];refine oV hl (λt ht=>(hts' t ht).2) hA hbel (λx hx=>by simpa using hW'.lt x (by simpa using hx)) (λx hx=>hsp x (by simpa using hx))
 .intro sp _;rw[iN,hfn',hvars];rfl
 .exact ok_one hres rfl (okWide_bool_mk htb _)
open Go.Proofs
def zY{α:Type}{f:α->V}{p:α->Prop}:∀{rows:List V},(∀r∈rows,∃x,r=f x/\p x)->∃l:List α,rows=l.map f/\∀x∈l,p x
 |[],_=>⟨[],rfl,by simp⟩
 |r::rs,h=>by
  obtain⟨x,rfl,hx⟩:=h r (by simp);obtain⟨l,rfl,hl⟩:=zY λq hq=>h q (List.mem_cons_of_mem _ hq);exact⟨x::l,rfl,by simpa using⟨hx,hl⟩⟩
def inI(m:Int):Prop:=-9223372036854775808<=m/\m<=9223372036854775807
def Ye.inI(s:Ye):Prop:=Vc.inI s.top/\Vc.inI s.WV/\Vc.inI s.WD/\Vc.inI s.O'/\Vc.inI s.Xl/\Vc.inI s.WE/\Vc.inI s.WW/\Vc.inI s.head/\Vc.inI s.before/\Vc.inI s.after/\Vc.inI s.inside/\Vc.inI s.clear
def Nd.real(x:Nd):Prop:=(Vc.inI x.kind/\Vc.inI x.size/\x.st.inI/\Vc.inI x.line/\Vc.inI x.space/\Vc.inI x.side/\Vc.inI x.w/\Vc.inI x.h)/\x.words.length<=17592186043904/\∀n∈x.words,Vc.inI n
section
variable {P:Program} {n:Nat} {t:TypeId} {vs:List V}
def Hn{k:IntKind}(ht:P.underlying t=some (.int k))(h:jC P (n+1) t vs):∃m,vs=[.int k m]/\(Lit.int k m).wf=true:=by
 simpa only[jC,ht]using h
def vK{e:TypeId}(ht:P.underlying t=some (.slice e))(h:jC P (n+1) t vs):∃rows,vs=[.sl (P.cellsOf e) rows]/\rows.length*P.bytesOf e<=reachBytes/\∀r∈rows,∃cs,jC P n e cs/\r=rowOf (fZ P e) cs:=by
 simpa only[jC,ht]using h
def sJ{fs:Array Field}(ht:P.underlying t=some (.struct fs))(h:jC P (n+1) t vs):yq (jC P n) fs.toList vs:=by
 simpa only[jC,ht]using h
end
def KT:prog.cellsOf 3=1:=by kernel_rfl
def Hx:prog.cellsOf 48=20:=by kernel_rfl
def MJ:fZ prog 3=false:=by kernel_rfl
def OE:fZ prog 22=false:=by kernel_rfl
def OG:fZ prog 48=true:=by kernel_rfl
def K1:prog.bytesOf 3=8:=by kernel_rfl
def H0:prog.bytesOf 48=176:=by kernel_rfl
def dE{n:Nat}{vs:List V}(h:jC prog (n+1) 3 vs):∃m,vs=[vI m]/\inI m:=by
 obtain⟨m,h,hw⟩:=Hn underlying3 h;exact⟨m,h,by simp[Lit.wf,IntKind.min,IntKind.max,IntKind.signed,IntKind.bits]at hw;unfold inI;omega⟩
def I4{n:Nat}{vs:List V}(h:jC prog (n+2) 46 vs):∃l,vs=[aN l]/\l.length<=17592186043904/\∀n∈l,inI n:=by
 obtain⟨rows,rfl,hl,h⟩:=vK underlying46 h;obtain⟨l,rfl,hp⟩:=zY (f:=vI) (p:=inI) λr hr=>by
  obtain⟨cs,hc,rfl⟩:=h r hr;obtain⟨m,rfl,hm⟩:=dE hc;exact⟨m,by rw[MJ];rfl,hm⟩
 rw[K1]at hl;simp only[cJ,reachBytes]at hl;exact⟨l,by rw[KT];rfl,by omega,hp⟩
def Ft{n:Nat}{vs:List V}(h:jC prog (n+2) 45 vs):∃s:Ye,vs=s.cells/\s.inI:=by
 replace h:=sJ underlying45 h;simp only[yq]at h;obtain⟨_,_,rfl,h1,_,_,rfl,h2,_,_,rfl,h3,_,_,rfl,h4,_,_,rfl,h5,_,_,rfl,h6,_,_,rfl,h7,_,_,rfl,h8,_,_,rfl,h9,_,_,rfl,h10,_,_,rfl,h11,_,_,rfl,h12,rfl⟩:=h;obtain⟨m1,rfl,g1⟩:=dE h1;obtain⟨m2,rfl,g2⟩:=dE h2;obtain⟨m3,rfl,g3⟩:=dE h3;obtain⟨m4,rfl,g4⟩:=dE h4;obtain⟨m5,rfl,g5⟩:=dE h5;obtain⟨m6,rfl,g6⟩:=dE h6;obtain⟨m7,rfl,g7⟩:=dE h7;obtain⟨m8,rfl,g8⟩:=dE h8;obtain⟨m9,rfl,g9⟩:=dE h9;obtain⟨m10,rfl,g10⟩:=dE h10;obtain⟨m11,rfl,g11⟩:=dE h11;obtain⟨m12,rfl,g12⟩:=dE h12;exact⟨⟨m1,m2,m3,m4,m5,m6,m7,m8,m9,m10,m11,m12⟩,rfl,g1,g2,g3,g4,g5,g6,g7,g8,g9,g10,g11,g12⟩
def H6{n:Nat}{vs:List V}(h:jC prog (n+3) 48 vs):∃x:Nd,vs=x.cells/\x.real:=by
 replace h:=sJ underlying48 h;simp only[yq]at h;obtain⟨_,_,rfl,h1,_,_,rfl,h2,_,_,rfl,h3,_,_,rfl,h4,_,_,rfl,h5,_,_,rfl,h6,_,_,rfl,h7,_,_,rfl,h8,_,_,rfl,h9,rfl⟩:=h;obtain⟨m1,rfl,g1⟩:=dE h1;obtain⟨m2,rfl,g2⟩:=dE h2;obtain⟨s,rfl,g3⟩:=Ft h3;obtain⟨m4,rfl,g4⟩:=dE h4;obtain⟨m5,rfl,g5⟩:=dE h5;obtain⟨ws,rfl,g6,g6'⟩:=I4 h6;obtain⟨m7,rfl,g7⟩:=dE h7;obtain⟨m8,rfl,g8⟩:=dE h8;obtain⟨m9,rfl,g9⟩:=dE h9;exact⟨⟨m1,m2,s,m4,m5,ws,m7,m8,m9⟩,rfl,⟨g1,g2,g3,g4,g5,g7,g8,g9⟩,g6,g6'⟩
def GO{n:Nat}{vs:List V}(h:jC prog (n+4) 22 vs):∃l,vs=[ay l]/\l.length<=800000000000/\∀x∈l,x.real:=by
 obtain⟨rows,rfl,hl,h⟩:=vK underlying22 h;obtain⟨l,rfl,hp⟩:=zY (f:=dW) (p:=Nd.real) λr hr=>by
  obtain⟨cs,hc,rfl⟩:=h r hr;obtain⟨x,rfl,hx⟩:=H6 hc;exact⟨x,by rw[OG];rfl,hx⟩
 rw[H0]at hl;simp only[cJ,reachBytes]at hl;exact⟨l,by rw[Hx];rfl,by omega,hp⟩
def GV{n:Nat}{vs:List V}(h:jC prog (n+4) 22 vs):∃l,qt prog 22 vs=ay l/\l.length<=800000000000/\∀x∈l,x.real:=by
 obtain⟨l,rfl,h1,h2⟩:=GO h;exact⟨l,by unfold qt;rw[OE];rfl,h1,h2⟩
open Go.Proofs
def nO(l:List Nd):∀(m a e:Nat),e-a<m->e<=l.length->bG l a e=true->∀k,a<=k->(h:k<e)->(h2:k<l.length)->bG l (k+1) (k+l[k].size.toNat)=true
 |0,_,_,h,_,_=>by omega
 |m+1,a,e,hm,he,hr=>by
  intro k hk hke h2;have hae:a<e:=by omega
  have ha:a<l.length:=by omega
  rw[bG,dif_pos hae]at hr;have hga:l[a]?=some l[a]:=by simp[ha]
  rw[hga]at hr;simp only at hr;split at hr
  .rename_i hx;simp only[Ba]at hr;obtain⟨⟨h3,h4⟩,h5⟩:=hr;by_cases hka:k=a
   .subst hka;exact h4
   .by_cases hin:k<a+l[a].size.toNat
    .exact nO l m (a+1) (a+l[a].size.toNat) (by omega) (by omega) h4 k (by omega) hin h2
    .exact nO l m (a+l[a].size.toNat) e (by omega) he h5 k (by omega) hke h2
  .cases hr
def Xt(x:Nd):Int:=if x.kind=1 then x.st.top+x.st.WV+x.st.WD+x.st.O'+x.st.head else if x.kind=2 then x.line*x.words.length else x.h
def pof(x:Nd):Int:=if x.kind=1 then 0 else if x.kind=2 then x.words.length else 1
def eI:List Nd->Int
 |[]=>0
 |x::l=>Xt x+eI l
def lA:List Nd->Int
 |[]=>0
 |x::l=>pof x+lA l
def Cc(a b:List Nd):eI (a++b)=eI a+eI b:=by
 induction a with
 |nil=>simp[eI]
 |cons x a ih=>simp only[List.cons_append,eI,ih];omega
def B7(a b:List Nd):lA (a++b)=lA a+lA b:=by
 induction a with
 |nil=>simp[lA]
 |cons x a ih=>simp only[List.cons_append,lA,ih];omega
def wu{x:Nd}(h:x.ok=true):0<=Xt x:=by
 obtain⟨p1,p2,p3,p4,p5,p6⟩:=jv h;unfold Xt;split
 .rename_i hk;obtain⟨q1,q2,q3,q4,q5⟩:=p6 hk;omega
 .split
  .exact Int.mul_nonneg p2 (by omega)
  .exact p4
def Ca{l:List Nd}(h:l.all Nd.ok=true):0<=eI l:=by
 induction l with
 |nil=>simp[eI]
 |cons x l ih=>
  simp only[oS,Ba]at h;have:=wu h.1;have:=ih h.2;simp only[eI];omega
def dm(l:List Nd):Nat->Int
 |0=>0
 |i+1=>match l[i]? with
  |some x=>if x.kind=1 then max (dm l i) (eW l i (i+1))else dm l i
  |none=>dm l i
def JL{l:List Nd}{i:Nat}{x:Nd}{s:Sm}(hx:x.ok=true)(hs:0<=s.V'/\s.V'<=1099511627777):(mc l i x s).V'=min (s.V'+Xt x) 1099511627777/\(mc l i x s).pieces=s.pieces+pof x/\
 (mc l i x s).depth=(if x.kind=1 then max s.depth (eW l i (i+1))else s.depth)/\(mc l i x s).nodes=s.nodes:=by
 obtain⟨p1,p2,p3,p4,p5,p6⟩:=jv hx;unfold mc Xt pof;by_cases hk:x.kind=1
 .obtain⟨q1,q2,q3,q4,q5⟩:=p6 hk;simp only[hk,if_true,ji];refine⟨by omega,by omega,trivial,trivial⟩
 .by_cases Yf:x.kind=2
  .rw[au hk,ak Yf,au hk,ak Yf,au hk,ak Yf,au hk];simp only[];refine⟨um hs p2 _,trivial,trivial,trivial⟩
  .rw[au hk,au Yf,au hk,au Yf,au hk,au Yf,au hk];exact⟨rfl,rfl,rfl,rfl⟩
def wZ(l:List Nd)(WB:l.all Nd.ok=true):∀i,i<=l.length->(fL l ⟨0,0,l.length,0⟩ i)=⟨dm l i,lA (l.take i),l.length,min (eI (l.take i)) 1099511627777⟩
 |0,_=>by simp[fL,dm,lA,eI];omega
 |i+1,hi=>by
  have ih:=wZ l WB i (by omega);have hg:l[i]?=some l[i]:=by simp[show i<l.length by omega]
  have hx:=fC.1 WB _ (Xo (show i<l.length by omega));have ht:l.take (i+1)=l.take i++[l[i]]:=Yz (by omega);have hn:0<=eI (l.take i):=Ca (fC.2 λx hx=>fC.1 WB x (rB hx));have hh:=wu hx;simp only[fL,hg,ih];obtain⟨g1,g2,g3,g4⟩:=JL (l:=l) (i:=i) (s:=⟨dm l i,lA (l.take i),l.length,min (eI (l.take i)) 1099511627777⟩) hx ⟨by simp only;omega,by simp only;omega⟩;generalize mc l i l[i] ⟨dm l i,lA (l.take i),l.length,min (eI (l.take i)) 1099511627777⟩=r at*;obtain⟨r1,r2,r3,r4⟩:=r;simp only at g1 g2 g3 g4;subst g1 g2 g3 g4;simp only[dm,hg,ht,B7,Cc,lA,eI,Sm.mk.injEq,Int.add_zero,true_and];omega
open Go.Proofs
def V.flat:V->Bool
 |.agg vs=>vs.all V.lone
 |v=>v.lone
def V.D5:V->Bool
 |.WC vs=>vs.all V.flat
 |v=>v.flat
def ar.lone{I Y':Mu}{ow Zw:Nat->Prop}{w w':World}:∀{vs:List V} {l:List Value},vs.all V.lone=true->ar I ow w vs l->ar Y' Zw w' vs l
 |[],l,_,h=>by simpa[ar]using h
 |v::vs,l,hv,h=>by
  simp only[oS,Ba]at hv;simp only[ar]at h|-;obtain⟨x,xs,rfl,h1,h2⟩:=h;exact⟨x,xs,rfl,G'.lone hv.1 h1,ar.lone hv.2 h2⟩
def G'.flat{I Y':Mu}{ow Zw:Nat->Prop}{w w':World}{v:V}{x:Value}(hv:v.flat=true)(h:G' I ow w v x):G' Y' Zw w' v x:=by
 cases v<;>try exact G'.lone hv h
 rename_i vs;simp only[G']at h|-;obtain⟨WL,rfl,h1,h2⟩:=h;exact⟨WL,rfl,ar.lone hv h1,h2⟩
def ar.flat{I Y':Mu}{ow Zw:Nat->Prop}{w w':World}:∀{vs:List V} {l:List Value},vs.all V.flat=true->ar I ow w vs l->ar Y' Zw w' vs l
 |[],l,_,h=>by simpa[ar]using h
 |v::vs,l,hv,h=>by
  simp only[oS,Ba]at hv;simp only[ar]at h|-;obtain⟨x,xs,rfl,h1,h2⟩:=h;exact⟨x,xs,rfl,G'.flat hv.1 h1,ar.flat hv.2 h2⟩
def G'.D5{I Y':Mu}{ow Zw:Nat->Prop}{w w':World}{v:V}{x:Value}(hv:v.D5=true)(h:G' I ow w v x):G' Y' Zw w' v x:=by
 cases v<;>try exact G'.flat hv h
 rename_i vs;simp only[G']at h|-;obtain⟨WL,rfl,h1⟩:=h;exact⟨WL,rfl,ar.flat hv h1⟩
def aE.ud{P:Program}{f:FuncId}{args args':List V}{v:V}{U:ad}(hw:WkL U lK args args')(h:aE P f args' v)(hv:v.D5=true):
 av P f args U λr Z'=>r=v/\Z'=U:=by
 refine⟨(h lK).1,?_⟩;intro I w WL hs hr;have Xn:Sat w (aA I lK) I lK w:=by
  have:=hs.drop (qV U);exact⟨Xc _,rfl,rfl,rfl,λ_ _ _=>rfl,this.fin,this.inj,this.obj,λb hb _=>hb,this.qI⟩
 refine((h lK).2 I w WL Xn (WkL.all hs hw hr)).mono ?_;rintro e w' ⟨r,Z',Y',val,rfl,⟨rfl,rfl⟩,hle,W2,ZF⟩;have Xa:∀b,¬aA I lK b:=λb ⟨_,_,_,_,h,_⟩=>by simp[lK]at h
 have Zl:∀b,b<w.heap.size->w'.heap[b]?=w.heap[b]?:=λb hb=>W2.same b hb (Xa b);have hborn:∀id o,U id=some o->Y' id=I id:=λid o ho=>hle id (λe=>by
  have:=hs.obj id o ho;rw[e]at this;exact this)
 have hown:∀b,aA Y' U b->aA I U b:=λb ⟨id,o,sz,cap,h1,h2⟩=>⟨id,o,sz,cap,h1,hborn id o h1▸h2⟩
 have hk:dp (aA I U) (aA Y' U) w w':=λb hb hn=>⟨λho=>hn (hown b ho),Zl b hb⟩
 refine⟨_,U,Y',val,rfl,⟨rfl,rfl⟩,hle,?_,G'.D5 hv ZF⟩;refine⟨W2.size,W2.os,W2.tape,W2.output,λb hb _=>Zl b hb,W2.fin,?_,?_,λb hb _=>hown b hb,hs.glob⟩
 .intro id YT o o' b sz cap sz' YD h1 h2 h3 h4;exact hs.inj id YT o o' b sz cap sz' YD h1 h2 (hborn id o h1▸h3) (hborn YT o' h2▸h4)
 .intro id o ho;rw[hborn id o ho];refine(hs.obj id o ho).mono hle hk W2.size λb sz cap hp=>Zl b ?_;exact aA.lt hs ⟨id,o,sz,cap,ho,hp⟩
open Go.Proofs
def bV{l:List Nd}{a e:Nat}(he:e<=l.length)(h:bG l a e=true){k:Nat}(h1:a<=k)(h2:k<e):(k:Int)+WJ l k<=e/\1<=WJ l k:=by
 have:=ir l (e-a+1) a e (by omega) he h k h1 h2 (by omega);rw[gY (by omega)];omega
def cK{l:List Nd}{a e:Nat}(he:e<=l.length)(h:bG l a e=true)(hae:a<e):bG l (a+(WJ l a).toNat) e=true/\bG l (a+1) (a+(WJ l a).toNat)=true:=by
 have ha:a<l.length:=by omega
 rw[bG,dif_pos hae]at h;simp only[Zq6 ha]at h;rw[gY ha];split at h
 .simp only[Ba]at h;exact⟨h.2,h.1.2⟩
 .cases h
def yJ{l:List Nd}{b:Nat}(hb:b<l.length):∀k,k<=b->(∀i,i<k->(i:Int)+WJ l i<=b)->lS l b k=-1
 |0,_,_=>rfl
 |k+1,hk,h=>by
  rw[lS,au,yJ hb k (by omega) (λi hi=>h i (by omega))];have:=h k (by omega);simp only[cd,Ba,YX,not_and];intro _ _ _;simp;omega
def Es{l:List Nd}{b p:Nat}(hb:b<l.length)(hpb:(b:Int)<p+WJ l p):∀k,p<k->k<=b->(∀i,p<i->i<k->(i:Int)+WJ l i<=b)->lS l b k=p
 |0,h,_,_=>by omega
 |k+1,h,hk,hh=>by
  by_cases e:k=p
  .subst e;rw[lS,ak];simp only[cd,Ba,YX,mL];simp;omega
  .rw[lS,au,Es hb hpb k (by omega) (by omega) (λi h1 h2=>hh i h1 (by omega))];have:=hh k (by omega) (by omega);simp only[cd,Ba,YX,not_and];intro _ _ _;simp;omega
def OA(l:List Nd)(p:Int)(a e:Nat):Prop:=(p=-1/\a=0)\/∃q:Nat,p=q/\a=q+1/\(e:Int)=q+WJ l q
open Go.Proofs
def CY(l:List Nd)(hl:dz l)(hb:Xh l=true):aE prog 128 [ay l] (.agg [ay l]):=λU=>by
 refine V8.q ?_;refine mS 3 ?_;simp only[go_sem,seval,Qr];refine aj λid2 Z1 s1 a2 f2=>?_;simp only[go_sem,seval];refine pS rfl (EJ l hl _) ?_;simp only[go_sem,seval,hb,a2,ay];refine ai.pure (s1.ao f2) rfl
def Nz(l:List Nd)(a:Int):aE prog 226 [ay l,vI a] (.bool (mL l a)):=λU=>by
 refine Tv.q ?_;refine mS 6 ?_;simp only[go_sem,seval,PC,bK];refine And.intro (λh=>?_) (λh=>?_)
 .refine ai.same ?_;simp[mL];omega
 .refine ai.same ?_;simp[mL];omega
def yc(l:List Nd)(hl:dz l)(hb:Xh l=true)(a:Nat)(ha:a<l.length):aE prog 227 [ay l,vI a] (vI (db l a)):=λU=>by
 have hl1:=hl.1;refine Wd.q ?_;refine mS 6 ?_;simp only[go_sem,seval,SX];refine⟨ae,?_⟩;refine ag.loop (λm st=>∃(k:Nat),k<=a/\m=k/\db l a=lS l a k/\st.U=U/\st.s 0=ay l/\st.s 1=vI a/\st.s 5=vI ((k:Int)-1)) a ?_ ?_
 .exact⟨a,by omega,rfl,rfl,rfl,rfl,rfl,rfl⟩
 .rintro m ⟨s,Z'⟩ ⟨k,hk,rfl,heq,WY,h0,h1,h5⟩;simp only at WY h0 h1 h5;subst WY;refine mS 6 ?_;simp only[go_sem,seval,h0,h1,h5];refine And.intro (λh=>?_) (λh=>?_)
  .obtain⟨k,rfl⟩:∃j,m=j+1:=⟨m-1,by omega⟩
   have e1:((k+1:Nat):Int)-1=k:=by omega
   have B':k<l.length:=by omega
   have Yh:=rX hb B';have hse:=gY B';have hx:=da (U:=Z') B';simp only[go_sem,seval,e1,hx,Nd.cells,h0,h1,h5];rw[<-hse];refine⟨ae,And.intro (λhc=>?_) (λhc=>?_)⟩
   .refine ai.same ?_;rw[heq,lS,ak];simp only[cd,Ba,YX,mL];simp;omega
   .refine⟨ae,_,?_,k,by omega,rfl,?_,rfl⟩
    .omega
    .rw[heq,lS,au];simp only[cd,Ba,YX,mL];simp;omega
  .have hk0:m=0:=by omega
   subst hk0;refine ai.same ?_;rw[heq];rfl
end Go.Vc
