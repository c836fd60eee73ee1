import Derived.Test.YtinojdikhfbfbaaGreatW4
import Derived.WalkKit
import Derived.ProofKit
import Derived.Deep.Slices
import Derived.ChangeArms
import Derived.WideKeyArgs
import Derived.Carry
import Derived.SizedLaws
set_option linter.all false
set_option maxHeartbeats 8000000
set_option maxRecDepth 100000
open Go.Proofs.Tryz
namespace Go.Vc
open Go.ChangeShapes Go.WideShapes Go.RowKit Go.Deep
def ur(P:Program)(total:Nat):Nat->List Field->Bool
 |off,[]=>off==total
 |off,f::fs=>f.offset==off&&ur P total (off+P.cellsOf f.type) fs
def AV(P:Program):Nat->TypeId->Bool
 |0,_=>false
 |n+1,t=>match P.underlying t with
  |some .bool|some (.int _)|some .string=>true
  |some (.slice e)=>AV P n e&&P.cellsOf e != 0
  |some (.struct fs)=>ur P (P.cellsOf t) 0 fs.toList&&fs.toList.all λf=>AV P n f.type
  |_=>false
def rowOf(agg:Bool)(cs:List V):V:=if agg then .agg cs else cs.getD 0 .undef
def uF(S:TypeId->List V->Prop):List Field->List V->Prop
 |[],vs=>vs=[]
 |f::fs,vs=>∃a b,vs=a++b/\S f.type a/\uF S fs b
def iH(P:Program):Nat->TypeId->List V->Prop
 |0,_,_=>False
 |n+1,t,vs=>match P.underlying t with
  |some .bool=>∃b,vs=[.bool b]
  |some (.int k)=>∃m,vs=[.int k m]/\(Lit.int k m).wf=true
  |some .string=>∃s:List UInt8,vs=[.str s]/\s.length<=reachBytes
  |some (.slice e)=>∃rows,vs=[.sl (P.cellsOf e) rows]/\rows.length*P.bytesOf e<=reachBytes/\∀r∈rows,∃cs,iH P n e cs/\r=rowOf (fF P e) cs
  |some (.struct fs)=>uF (iH P n) fs.toList vs
  |_=>False
def Dj{α:Type}{Pr:Nat->α->Prop}:∀n,(∀i,i<n->∃r,Pr i r)->∃rows:List α,rows.length=n/\∀i r,rows[i]?=some r->Pr i r
 |0,_=>⟨[],rfl,λi r h=>by simp at h⟩
 |n+1,h=>by
  obtain⟨rows,h1,h2⟩:=Dj n λi hi=>h i (by omega);obtain⟨r,hr⟩:=h n (by omega);refine⟨rows++[r],by simp[h1],λi x hx=>?_⟩;rw[KS]at hx;split at hx
  .exact h2 i x hx
  .rename_i hi;have:i-rows.length=0:=by
    rcases Nat.eq_zero_or_pos (i-rows.length)with h0|h0
    .exact h0
    .rw[sW (by simp;omega)]at hx;cases hx
   rw[this]at hx;simp at hx;subst hx;have:i=n:=by omega
   subst this;exact hr
def vK{I:Mu}{ow:Nat->Prop}{w:World}{b off sz:Nat}:∀(rows:List V) (k:Nat),(∀i r,rows[i]?=some r->r.cells.length=sz/\aU I ow w r.cells b (off+(k+i)*sz))->aZ I ow w rows b (off+k*sz) sz
 |[],_,_=>by simp[aZ]
 |r::rs,k,h=>by
  have h0:=h 0 r rfl;simp only[aZ];refine⟨h0.1,by rw[dB];simpa using h0.2,?_⟩;have e:off+k*sz+sz=off+(k+1)*sz:=by rw[Nat.add_mul];omega
  rw[e];refine vK rs (k+1) λi x hx=>?_;have:=h (i+1) x (by simpa using hx);rw[show k+1+i=k+(i+1) by omega];exact this
section
variable {H:Type} {enc:TypeId×Value->H} {P:Program} {w:World} {base:Nat} {spare:Nat->Bool} {held:Bool} {I:Mu} {ow:Nat->Prop}
def FW(P:Program)(I:Mu)(ow:Nat->Prop)(w:World)(N:Nat)(t:TypeId)(cs:List Value):Prop:=
 ∃vs,iH P N t vs/\ax I ow w vs cs/\∀u∈cs,u.oneCell'=true
def tX{S:TypeId->List V->Prop}{cs:List Value}:∀(fs:List Field) (off:Nat),ur P cs.length off fs=true->
 (∀f∈fs,∃vs,S f.type vs/\ax I ow w vs ((cs.drop f.offset).take (P.cellsOf f.type))/\∀u∈(cs.drop f.offset).take (P.cellsOf f.type),u.oneCell'=true)->
 ∃vs,uF S fs vs/\ax I ow w vs (cs.drop off)/\∀u∈cs.drop off,u.oneCell'=true
 |[],off,hc,_=>by
  simp only[ur,beq_iff_eq]at hc;refine⟨[],rfl,?_,?_⟩
  .rw[ER (by omega)];simp[ax]
  .rw[ER (by omega)];simp
 |f::fs,off,hc,h=>by
  simp only[ur,Ba,beq_iff_eq]at hc;obtain⟨a,h1,h2,h3⟩:=h f (by simp);obtain⟨b,h4,h5,h6⟩:=tX fs (off+P.cellsOf f.type) hc.2 λg hg=>h g (by simp[hg]);rw[hc.1]at h2 h3;have e:cs.drop off=(cs.drop off).take (P.cellsOf f.type)++cs.drop (off+P.cellsOf f.type):=by
   rw[<-List.drop_drop,A8]
  refine⟨a++b,⟨a,b,rfl,h1,h4⟩,?_,?_⟩
  .rw[e];exact h2.append h5
  .rw[e];intro u hu;rcases fH.1 hu with hu|hu
   .exact h3 u hu
   .exact h6 u hu
def qe{v:V}{x:Value}(h:E' I ow w v x):ax I ow w [v] [x]:=by simp only[ax];exact⟨x,[],rfl,h,rfl⟩
def rK{t:TypeId}{fs:Array Field}(h:P.underlying t=some (.struct fs)):fF P t=true:=by simp[fF,h]
def nD{e:TypeId}{d:DataW H}:∀{l:List (DataW H)},d∈l->∀n∈d.weights P e,n∈DataW.weightsAll P e l
 |[],h,_,_=>by simp at h
 |x::l,h,n,hn=>by
  simp only[DataW.weightsAll,fH];rcases dZ.1 h with rfl|h
  .exact .inl hn
  .exact .inr (nD h n hn)
def nj(R9:∀b,¬ow b):∀(N:Nat) (fuel:Nat) (t:TypeId) (cs:List Value) (x:DataW H×List MemPlace),AV P N t=true->(∀n∈x.1.weights P t,n<=reachBytes)->DataW.trod enc P w base spare held fuel t cs=some x->
 FW P I ow w N t cs
 |0,_,_,_,_,h,_,_=>by simp[AV]at h
 |N+1,fuel,t,cs,x,RP,hwt,hx=>by
  have hok':=RP;unfold AV at RP;unfold FW;simp only[iH];split at RP
  .rename_i ht;obtain⟨b,rfl,_⟩:=DataW.trod_bool ht hx;exact⟨[.bool b],⟨b,rfl⟩,qe (by simp[E']),by simp[Value.oneCell']⟩
  .rename_i k ht;obtain⟨m,rfl,_,hw⟩:=DataW.trod_int ht hx;exact⟨[.int k m],⟨m,rfl,hw⟩,qe (by simp[E']),by simp[Value.oneCell']⟩
  .rename_i ht;obtain⟨s,rfl,rfl,hw⟩:=DataW.trod_string ht hx;exact⟨[.str s.data.toList],⟨_,rfl,hwt _ (by simp[DataW.weights])⟩,qe (by simp[E']),by simp[Value.oneCell']⟩
  .rename_i e ht;simp only[Ba,bne_iff_ne,ne_eq]at RP;rcases open_slice ht hx with⟨rfl,_⟩|⟨a,len,cap,m,n,D,Pl,rfl,hb,hl,hm,hmm,rfl,hi⟩
   .exact⟨[.sl (P.cellsOf e) []],⟨[],rfl,by simp,by simp⟩,qe (by simp only[E'];exact⟨none,0,rfl,by simp,.inl trivial⟩),by simp[Value.oneCell']⟩
   .have Uh:len<=m:=by rw[hmm];split<;>omega
    simp only[DataW.weights,ht]at hwt;have hlen:len*P.bytesOf e<=reachBytes:=by
     have:=hwt _ (List.mem_cons_self ..);simp only[dC,List.length_range]at this;exact l9 (Nat.mul_le_mul_right _ (by omega)) this
    have V5:∀i,i<len->∃r:V,(∃cs,iH P N e cs/\r=rowOf (fF P e) cs)/\r.cells.length=P.cellsOf e/\∃cs',ax I ow w r.cells cs'/\(∀u∈cs',u.oneCell'=true)/\cs'.length=P.cellsOf e/\
     ∀j,j<P.cellsOf e->w.cell? ((a.add (i*P.cellsOf e)).add j)=cs'[j]?:=by
     intro i YT;obtain⟨cs',h1,h2⟩:=hi i (by omega);obtain⟨_,SU,UK⟩:=World.cells?_some h1;obtain⟨vs,h3,h4,h5⟩:=nj R9 N n e cs' _ RP.1 (λq hq=>hwt q (List.mem_cons_of_mem _ (List.mem_append_left _ (nD (iD.2 ⟨i,by simpa using YT,rfl⟩) q hq)))) h2;have hvl:vs.length=P.cellsOf e:=by rw[<-SU,h4.length]
     have Ww:(rowOf (fF P e) vs).cells=vs:=by
      unfold rowOf;split
      .rfl
      .rename_i hna;cases N with
       |zero=>simp[iH]at h3
       |succ N'=>
        unfold iH at h3;split at h3
        .obtain⟨b,rfl⟩:=h3;rfl
        .obtain⟨b,rfl,_⟩:=h3;rfl
        .obtain⟨b,rfl,_⟩:=h3;rfl
        .obtain⟨b,rfl,_⟩:=h3;rfl
        .rename_i hs;exact absurd (rK hs) hna
        .exact h3.elim
     exact⟨rowOf (fF P e) vs,⟨vs,h3,rfl⟩,by rw[Ww,hvl],cs',by rw[Ww];exact h4,h5,SU,UK⟩
    obtain⟨rows,hr1,hr2⟩:=Dj len V5;refine⟨[.sl (P.cellsOf e) rows],⟨rows,rfl,by rw[hr1];exact hlen,λr hr=>?_⟩,qe ?_,by simp[Value.oneCell']⟩
    .obtain⟨i,YT⟩:=HN hr;exact(hr2 i r YT).1
    .simp only[E'];refine⟨some a,cap,by rw[hr1],by omega,?_⟩;by_cases h0:len=0
     .left;exact tc (by omega)
     .right;have hfirst:∃r,rows[0]?=some r:=⟨rows[0]'(by omega),by simp⟩
      obtain⟨r0,hr0⟩:=hfirst;obtain⟨_,_,cs0,_,_,hcl0,hat0⟩:=hr2 0 r0 hr0;have Vp:=hat0 0 (by omega);rw[VH (by omega)]at Vp;have hspot:a.spot=none:=by
       have:=World.cell?_spot Vp;simpa[Addr.add]using this
      obtain⟨b,off,spot⟩:=a;subst hspot;refine⟨b,off,rfl,R9 b,by omega,?_⟩;have:=vK (I:=I) (ow:=ow) (w:=w) (b:=b) (off:=off) (sz:=P.cellsOf e) rows 0 λi r hri=>?_
      .simpa using this
      .obtain⟨_,h1,cs',h2,h3,h4,h5⟩:=hr2 i r hri;refine⟨h1,lj h2 h3 λj u hu=>?_⟩;have hj:j<P.cellsOf e:=by rw[<-h4];exact(ri.1 hu).1
       have:=h5 j hj;rw[hu,add_plain,add_plain]at this;rw[lF];exact this
  .rename_i fs ht;simp only[Ba]at RP;obtain⟨xs,n,_,rfl,hl,hxl,hf⟩:=DataW.trod_struct ht hx;simp only[DataW.weights,ht]at hwt;obtain⟨vs,h1,h2,h3⟩:=tX (I:=I) (ow:=ow) (w:=w) (P:=P) (S:=iH P N) (cs:=cs) fs.toList 0 (by rw[hl];exact RP.1) λf hfm=>by
    obtain⟨i,hi⟩:=HN hfm;have YT:fs[i]?=some f:=by simpa using hi
    have u':i<xs.length:=by rw[hxl];exact(nz.1 YT).1
    have h1:=hf i f YT;rw[VH u']at h1;exact nj R9 N n f.type _ _ (fL.1 RP.2 f hfm) (λq hq=>hwt q (DataW.weights_mem_each (j:=i) (t:=f.type) (d:=(xs[i]'u').1) (by simp[hi]) (by simp[u']) q hq)) h1
   exact⟨vs,h1,by simpa using h2,by simpa using h3⟩
  .cases RP
def nC(P:Program)(t:TypeId)(vs:List V):V:=if fF P t then .agg vs else vs.getD 0 .undef
def HP(R9:∀b,¬ow b){N:Nat}{t:TypeId}{v:Value}{d:DataW H}{p:List MemPlace}{r:Reach}{b0:Nat}(RP:AV P N t=true)(hwt:∀n∈d.weights P t,n<=reachBytes)(Wi:Value.okWide P w r b0 t v)(h:DataW.Trod enc P w base spare held t v d p):
 ∃vs,iH P N t vs/\E' I ow w (nC P t vs) v:=by
 obtain⟨fuel,hf⟩:=h;obtain⟨vs,h1,h2,h3⟩:=nj (I:=I) R9 N fuel t _ _ RP hwt hf;refine⟨vs,h1,?_⟩;cases N with
 |zero=>simp[iH]at h1
 |succ N'=>
  unfold iH at h1;have Sb:∀u:V,vs=[u]->v.cells=#[v]->fF P t=false->E' I ow w (nC P t vs) v:=by
   rintro u rfl hc ha;rw[hc]at h2;simp only[ax]at h2;obtain⟨x,xs,h4,h5,h6⟩:=h2;simp only[List.cons.injEq]at h4;simp only[nC,ha,iP,if_false];rw[h4.1];exact h5
  split at h1
  .rename_i ht;obtain⟨b,rfl⟩:=h1;obtain⟨x,rfl⟩:=okWide_bool ht Wi;exact Sb _ rfl rfl (by simp[fF,ht])
  .rename_i ht;obtain⟨b,rfl,_⟩:=h1;obtain⟨x,rfl⟩:=okWide_int ht Wi;exact Sb _ rfl rfl (by simp[fF,ht])
  .rename_i ht;obtain⟨b,rfl,_⟩:=h1;obtain⟨x,rfl⟩:=okWide_string ht Wi;exact Sb _ rfl rfl (by simp[fF,ht])
  .rename_i ht;obtain⟨b,rfl,_⟩:=h1;obtain⟨x,y,z,rfl⟩:=okWide_slice ht Wi;exact Sb _ rfl rfl (by simp[fF,ht])
  .rename_i ht;obtain⟨cs,rfl,_⟩:=okWide_struct ht Wi;simp only[nC,rK ht,if_true,E'];exact⟨cs.toList,by simp,by simpa[Value.cells]using h2,by simpa[Value.cells]using h3⟩
  .exact h1.elim
def yr(P:Program)(N:Nat):List TypeId->List V->Prop
 |[],us=>us=[]
 |t::ts,us=>∃vs us',us=nC P t vs::us'/\iH P N t vs/\yr P N ts us'
def zn(R9:∀b,¬ow b){N:Nat}{r:Reach}{b0:Nat}:∀{ts:List TypeId} {vs:List Value} {ds:List (DataW H)} {p:List MemPlace},(∀t∈ts,AV P N t=true)->(∀n∈DataW.weightsEach P ts ds,n<=reachBytes)->
 (∀(j:Nat) t v,ts[j]?=some t->vs[j]?=some v->Value.okWide P w r b0 t v)->DataW.TrodAll enc P w base spare held ts vs ds p->∃us,yr P N ts us/\ax I ow w us vs
 |[],vs,ds,p,_,_,_,h=>by
  cases vs<;>cases ds<;>simp[DataW.TrodAll]at h;exact⟨[],rfl,by simp[ax]⟩
 |t::ts,vs,ds,p,RP,hwt,Wi,h=>by
  obtain⟨v,vs',d,ds',p',q,rfl,rfl,rfl,h1,h2⟩:=trodAll_cons h;simp only[DataW.weightsEach,fH]at hwt;obtain⟨cs,g1,g2⟩:=HP (I:=I) (b0:=b0) R9 (RP t (by simp)) (λq hq=>hwt q (.inl hq)) (Wi 0 t v rfl rfl) h1;obtain⟨us,g3,g4⟩:=zn (b0:=b0) R9 (λu hu=>RP u (by simp[hu])) (λq hq=>hwt q (.inr hq)) (λj u x hj hx=>Wi (j+1) u x (by simpa using hj) (by simpa using hx)) h2;exact⟨_::us,⟨cs,us,rfl,g1,g3⟩,by simp only[ax];exact⟨v,vs',rfl,g2,g4⟩⟩
def oI(hl:laidOutB P=true):∀{ts:List TypeId} {vs:List Value} {ds:List (DataW H)} {p:List MemPlace} {W W':World} {sp:Nat->Bool},(∀t∈ts,P.readableRec t=true/\t<P.types.size)->
 DataW.TrodAll enc P W 0 (λ_=>true) true ts vs ds p->Below W.heap.size W W'->(∀x∈p,x.block<W.heap.size)->(∀x∈p,sp x.block=true)->DataW.TrodAll enc P W' 0 sp true ts vs ds p
 |[],vs,ds,p,W,W',sp,_,h,_,_,_=>by
  cases vs<;>cases ds<;>simp[DataW.TrodAll]at h|-;exact h
 |t::ts,vs,ds,p,W,W',sp,ht,h,hb,u',Vq=>by
  obtain⟨v,vs',d,ds',p',q,rfl,rfl,rfl,h1,h2⟩:=trodAll_cons h;refine⟨p',q,WideElems.Trod_stays hl (ht t (by simp)).1 (ht t (by simp)).2 h1 (λx hx=>hb.same (u' x (by simp[hx]))) (λx hx=>Vq x (by simp[hx])),?_,rfl⟩;exact oI hl (λu hu=>ht u (by simp[hu])) h2 hb (λx hx=>u' x (by simp[hx])) (λx hx=>Vq x (by simp[hx]))
end
def vY{H:Type}{enc:TypeId×Value->H}{P:Program}{f:Func}{s:ChangeSpec}{apart fresh handsOn again:Bool}{W W':World}{args:Array Value}{v:Value}{ds gs:List (DataW H)}{before pa pv:List MemPlace}
 (hW:DataW.Whole enc P f.params.toList s.vars apart W args.toList ds gs before)
 (Wd:∀(b:Nat) (sp:Nat->Bool) (hd:Bool),DataW.TrodAll enc P W' b sp hd f.resultTypes.toList (v.resultList f.resultTypes.size) (s.fn H (ds++gs)).results [])
 (SS:∀sp:Nat->Bool,(∀p∈before,sp p.block=true)->DataW.TrodAll enc P W' 0 sp true f.params.toList args.toList (s.fn H (ds++gs)).args pa)
 (YD:∀sp:Nat->Bool,(∀p∈before,sp p.block=true)->DataW.TrodVars enc P W' sp s.vars (s.fn H (ds++gs)).vars pv)
 (hps:before=pa++pv)(hb:Below W.heap.size W W')
 (RP:∀(j:Nat) (t:TypeId) (r:Value),f.resultTypes[j]?=some t->(v.resultList f.resultTypes.size)[j]?=some r->Value.okWide P W' .any 0 t r):
 s.post enc P f apart fresh handsOn again W args v W':=by
 have u':∀p∈before,p.block<W.heap.size:=λp hp=>hW.lt p hp;have hold:∀p∈before,(λb=>decide (b<W.heap.size)) p.block=true:=λp hp=>by simpa using u' p hp
 refine⟨ds,gs,before,[],pa,pv,hW,Wd _ _ _,SS _ hold,YD _ hold,World.keptBut_mono (λp hp=>⟨hp,?_⟩) (hb.frame (·∈before)),λ_=>?_⟩
 .rw[hps,fH]at hp;exact Or.inr hp
 .obtain⟨_,_,_,_,_,hz,hn⟩:=hW;refine⟨RP,_,_,([]++pa)++pv,⟨[]++pa,pv,trodAll_append (SS _ (λ_ _=>rfl)) (Wd _ _ _),YD _ (λ_ _=>rfl),rfl,?_,?_⟩,?_⟩
  .intro b off hp;have Xp:MemPlace.cell b off∈before:=by rw[hps];simpa using hp
   rw[hb.frozen (u' _ Xp)];exact hz b off Xp
  .intro ha;have:=hn ha;rw[hps]at this;simpa using this
  .intro p hp _;rw[hps];simpa using hp
def GF{H:Type}{enc:TypeId×Value->H}{P:Program}{f:Func}{i:FuncId}{s:ChangeSpec}{N:Nat}(W4:P.funcs[i]?=some f)(hl:laidOutB P=true)
 (WR:f.params.toList.all (λt=>AV P N t&&(P.readableRec t&&decide (t<P.types.size)))=true)(YD:s.vars=[]){tb:TypeId}(Wd:f.resultTypes=#[tb])(htb:P.underlying tb=some .bool)
 (hfn:∀ds,ds.length=f.params.size->s.fn H ds=⟨[.lit (.bool true)],ds,[]⟩)
 (Wj:∀us,yr P N f.params.toList us->aV P i us (.bool true))
 {apart fresh handsOn again:Bool}{W:World}{base:Nat}{args:Array Value}{ds gs:List (DataW H)}{before:List MemPlace}
 (Wi:∀(j:Nat) t v,f.params[j]?=some t->args[j]?=some v->Value.okWide P W .any base t v)
 (hW:DataW.Whole enc P f.params.toList s.vars apart W args.toList ds gs before)(hvt:s.plain.varTypes P=[])
 (Tt:(DataW.weightsEach P (f.params.toList++s.plain.varTypes P) (ds++gs)).all (·<=reachBytes)=true)(hO:OA W):
 Calls P i args W λe W'=>∃v,e=.returned v/\s.post enc P f apart fresh handsOn again W args v W':=by
 have hW':=hW;obtain⟨p,q,hA,hV,rfl,hfz,SI⟩:=hW;have hts':=fL.1 WR;simp only[Ba,Uy]at hts';rw[YD]at hV;have hnoV:gs=[]/\q=[]:=by
  cases gs with
  |nil=>exact⟨rfl,by simpa[DataW.TrodVars]using hV⟩
  |cons g gs=>simp[DataW.TrodVars]at hV
 obtain⟨rfl,rfl⟩:=hnoV;have R9:∀b,¬aN (λ_=>Pl.dF) ic b:=λb ⟨_,_,_,_,h,_⟩=>by simp[ic]at h
 obtain⟨us,hsh,Tu⟩:=zn (I:=λ_=>Pl.dF) (ow:=aN (λ_=>Pl.dF) ic) (b0:=base) (r:=.any) R9 (λt ht=>(hts' t ht).1)
  (by rw[hvt,j6,j6]at Tt;intro n hn;simpa using fL.1 Tt n hn) (λj t v hj hv=>Wi j t v (by simpa using hj) (by simpa using hv)) hA
 have Ud:Sat W (aN (λ_=>Pl.dF) ic) (λ_=>Pl.dF) ic W:=
  ⟨Sf _,rfl,rfl,rfl,λ_ _ _=>rfl,⟨0,λ_ _=>rfl⟩,λ_ _ _ _ _ _ _ _ _ h=>by simp[ic]at h,λ_ _ h=>by simp[ic]at h,λb hb=>(R9 b hb).elim,⟨W,hO,Sf _,λi _=>⟨R9 i,rfl⟩⟩⟩
 have Uo:=(Wj us hsh ic).2 (λ_=>Pl.dF) W args.toList Ud Tu;rw[Array.toArray_toList]at Uo;refine Uo.mono ?_;rintro e W' ⟨r,Z',Y',val,rfl,⟨rfl,rfl⟩,_,RV,hr⟩;simp only[E']at hr;subst hr;have hbel:Below W.heap.size W W':=⟨RV.os,RV.tape,RV.output,RV.size,λk hk=>RV.same k hk (R9 k)⟩
 have hlen:ds.length=f.params.size:=by
  have key:∀{ts:List TypeId} {vs:List Value} {ds:List (DataW H)} {p:List MemPlace},DataW.TrodAll enc P W 0 (λ_=>true) true ts vs ds p->ds.length=ts.length:=by
   intro ts
   induction ts with
   |nil=>intro vs ds p h;cases vs<;>cases ds<;>simp[DataW.TrodAll]at h|-
   |cons t ts ih=>
    intro vs ds p h;obtain⟨_,_,_,_,_,_,_,rfl,_,_,h2⟩:=trodAll_cons h;simp[ih h2]
  simpa using key hA
 have hfn':=hfn ds hlen;refine⟨.bool true,rfl,vY (pa:=p) (pv:=[]) hW' ?_ ?_ ?_ rfl hbel ?_⟩
 .intro b sp hd;rw[j6,hfn',Wd];exact⟨[],[],shut_bool htb _,rfl,rfl⟩
 .intro sp Vq;rw[j6,hfn'];refine oI hl (λt ht=>(hts' t ht).2) hA hbel (λx hx=>by simpa using hW'.lt x (by simpa using hx)) (λx hx=>Vq x (by simpa using hx))
 .intro sp _;rw[j6,hfn',YD];rfl
 .exact ok_one Wd rfl (okWide_bool_mk htb _)
open Go.Proofs
def yD{α:Type}{f:α->V}{p:α->Prop}:∀{rows:List V},(∀r∈rows,∃x,r=f x/\p x)->∃l:List α,rows=l.map f/\∀x∈l,p x
 |[],_=>⟨[],rfl,by simp⟩
 |r::rs,h=>by
  obtain⟨x,rfl,hx⟩:=h r (by simp);obtain⟨l,rfl,hl⟩:=yD λq hq=>h q (List.mem_cons_of_mem _ hq);exact⟨x::l,rfl,by simpa using⟨hx,hl⟩⟩
def VS(m:Int):Prop:=-9223372036854775808<=m/\m<=9223372036854775807
def S1.VS(s:S1):Prop:=Vc.VS s.top/\Vc.VS s.RX/\Vc.VS s.RH/\Vc.VS s.O'/\Vc.VS s.Si/\Vc.VS s.RL/\Vc.VS s.RY/\Vc.VS s.head/\Vc.VS s.before/\Vc.VS s.after/\Vc.VS s.inside/\Vc.VS s.clear
def Nd.real(x:Nd):Prop:=(Vc.VS x.kind/\Vc.VS x.size/\x.st.VS/\Vc.VS x.line/\Vc.VS x.space/\Vc.VS x.side/\Vc.VS x.w/\Vc.VS x.h)/\x.words.length<=17592186043904/\∀n∈x.words,Vc.VS n
section
variable {P:Program} {n:Nat} {t:TypeId} {vs:List V}
def Gv{k:IntKind}(ht:P.underlying t=some (.int k))(h:iH P (n+1) t vs):∃m,vs=[.int k m]/\(Lit.int k m).wf=true:=by
 simpa only[iH,ht]using h
def tZ{e:TypeId}(ht:P.underlying t=some (.slice e))(h:iH P (n+1) t vs):∃rows,vs=[.sl (P.cellsOf e) rows]/\rows.length*P.bytesOf e<=reachBytes/\∀r∈rows,∃cs,iH P n e cs/\r=rowOf (fF P e) cs:=by
 simpa only[iH,ht]using h
def ny{fs:Array Field}(ht:P.underlying t=some (.struct fs))(h:iH P (n+1) t vs):uF (iH P n) fs.toList vs:=by
 simpa only[iH,ht]using h
end
def HX:prog.cellsOf 3=1:=by kernel_rfl
def Ex:prog.cellsOf 59=20:=by kernel_rfl
def Jt:fF prog 3=false:=by kernel_rfl
def Ku:fF prog 22=false:=by kernel_rfl
def JK:fF prog 59=true:=by kernel_rfl
def HE:prog.bytesOf 3=8:=by kernel_rfl
def FA:prog.bytesOf 59=176:=by kernel_rfl
def dk{n:Nat}{vs:List V}(h:iH prog (n+1) 3 vs):∃m,vs=[vI m]/\VS m:=by
 obtain⟨m,h,hw⟩:=Gv underlying3 h;exact⟨m,h,by simp[Lit.wf,IntKind.min,IntKind.max,IntKind.signed,IntKind.bits]at hw;unfold VS;omega⟩
def F0{n:Nat}{vs:List V}(h:iH prog (n+2) 57 vs):∃l,vs=[aX l]/\l.length<=17592186043904/\∀n∈l,VS n:=by
 obtain⟨rows,rfl,hl,h⟩:=tZ underlying57 h;obtain⟨l,rfl,hp⟩:=yD (f:=vI) (p:=VS) λr hr=>by
  obtain⟨cs,hc,rfl⟩:=h r hr;obtain⟨m,rfl,hm⟩:=dk hc;exact⟨m,by rw[Jt];rfl,hm⟩
 rw[HE]at hl;simp only[dC,reachBytes]at hl;exact⟨l,by rw[HX];rfl,by omega,hp⟩
def DB{n:Nat}{vs:List V}(h:iH prog (n+2) 56 vs):∃s:S1,vs=s.cells/\s.VS:=by
 replace h:=ny underlying56 h;simp only[uF]at h;obtain⟨_,_,rfl,h1,_,_,rfl,h2,_,_,rfl,h3,_,_,rfl,h4,_,_,rfl,h5,_,_,rfl,h6,_,_,rfl,h7,_,_,rfl,h8,_,_,rfl,h9,_,_,rfl,YV,_,_,rfl,WW,_,_,rfl,h12,rfl⟩:=h;obtain⟨m1,rfl,g1⟩:=dk h1;obtain⟨m2,rfl,g2⟩:=dk h2;obtain⟨m3,rfl,g3⟩:=dk h3;obtain⟨m4,rfl,g4⟩:=dk h4;obtain⟨m5,rfl,g5⟩:=dk h5;obtain⟨m6,rfl,g6⟩:=dk h6;obtain⟨m7,rfl,g7⟩:=dk h7;obtain⟨m8,rfl,g8⟩:=dk h8;obtain⟨m9,rfl,g9⟩:=dk h9;obtain⟨m10,rfl,g10⟩:=dk YV;obtain⟨m11,rfl,g11⟩:=dk WW;obtain⟨m12,rfl,g12⟩:=dk h12;exact⟨⟨m1,m2,m3,m4,m5,m6,m7,m8,m9,m10,m11,m12⟩,rfl,g1,g2,g3,g4,g5,g6,g7,g8,g9,g10,g11,g12⟩
def ED{n:Nat}{vs:List V}(h:iH prog (n+3) 59 vs):∃x:Nd,vs=x.cells/\x.real:=by
 replace h:=ny underlying59 h;simp only[uF]at h;obtain⟨_,_,rfl,h1,_,_,rfl,h2,_,_,rfl,h3,_,_,rfl,h4,_,_,rfl,h5,_,_,rfl,h6,_,_,rfl,h7,_,_,rfl,h8,_,_,rfl,h9,rfl⟩:=h;obtain⟨m1,rfl,g1⟩:=dk h1;obtain⟨m2,rfl,g2⟩:=dk h2;obtain⟨s,rfl,g3⟩:=DB h3;obtain⟨m4,rfl,g4⟩:=dk h4;obtain⟨m5,rfl,g5⟩:=dk h5;obtain⟨ws,rfl,g6,g6'⟩:=F0 h6;obtain⟨m7,rfl,g7⟩:=dk h7;obtain⟨m8,rfl,g8⟩:=dk h8;obtain⟨m9,rfl,g9⟩:=dk h9;exact⟨⟨m1,m2,s,m4,m5,ws,m7,m8,m9⟩,rfl,⟨g1,g2,g3,g4,g5,g7,g8,g9⟩,g6,g6'⟩
def DP{n:Nat}{vs:List V}(h:iH prog (n+4) 22 vs):∃l,vs=[aQ l]/\l.length<=800000000000/\∀x∈l,x.real:=by
 obtain⟨rows,rfl,hl,h⟩:=tZ underlying22 h;obtain⟨l,rfl,hp⟩:=yD (f:=gz) (p:=Nd.real) λr hr=>by
  obtain⟨cs,hc,rfl⟩:=h r hr;obtain⟨x,rfl,hx⟩:=ED hc;exact⟨x,by rw[JK];rfl,hx⟩
 rw[FA]at hl;simp only[dC,reachBytes]at hl;exact⟨l,by rw[Ex];rfl,by omega,hp⟩
def Dv{n:Nat}{vs:List V}(h:iH prog (n+4) 22 vs):∃l,nC prog 22 vs=aQ l/\l.length<=800000000000/\∀x∈l,x.real:=by
 obtain⟨l,rfl,h1,h2⟩:=DP h;exact⟨l,by unfold nC;rw[Ku];rfl,h1,h2⟩
open Go.Proofs
section
variable {P:Program} {n:Nat} {st:St} {Q:St->Prop} {k:List It}
def Go.Kf{i:aS}{l:List aS}{fx:VX}{xs:List VX}{f:FuncId}{caps:List V}{v:V}(hw:bn st.s i.g=some true)(ho:i.op=.call fx xs)
 (hf:fx.ev st.s=.fn f caps)(hc:aV P f (xs.map (·.ev st.s)++caps) v)(h:Go P n (.d l k) ⟨aY st.s i.dst v,st.U⟩ Q):Go P n (.d (i::l) k) st Q:=by
 refine o5 hw ?_;rw[ho];exact⟨f,caps,v,hf,λZ1 _=>hc Z1,h⟩
def pJ{P:Program}{n:Nat}{st:St}{Q:St->Prop}{k}{i:aS}{l:List aS}{fx:VX}{xs:List VX}{f:FuncId}{caps:List V}{v:V}(hw:(bn st.s i.g,i.op,fx.ev st.s)=(some true,.call fx xs,.fn f caps))(hc:aV P f (xs.map (·.ev st.s)++caps) v)(h:Go P n (.d l k) ⟨aY st.s i.dst v,st.U⟩ Q):Go P n (.d (i::l) k) st Q:=Go.Kf (congrArg (·.1) hw) (congrArg (·.2.1) hw) (congrArg (·.2.2) hw) hc h
end
def lG{U:ak}{id:Nat}{o:Ob}(h:U id=some o):C' U id o=U:=by
 funext i;simp only[C'];split
 .rename_i e;rw[e,h]
 .rfl
def Bq(n:Int):Prop:=-1152921504606846976<=n/\n<=1152921504606846976
def qD(n:Int):aV prog 74 [vI n] (.bool (decide (1<=n/\n<=1099511627776))):=λU=>by
 refine e74.q ?_;apply sR;simp only[go_sem,seval,c74];refine And.intro (λh=>?_) (λh=>?_)
 .exact az.same (by congr 1;exact decide_eq_decide.2 (by omega))
 .exact az.same (by congr 1;exact(Tw (by omega)).symm)
def dt(n:Int):Int:=max (-1099511627776) (min n 1099511627776)
def Ao(n:Int):aV prog 111 [vI n] (vI (dt n)):=λU=>by
 refine QA.q ?_;apply sR;simp only[go_sem,seval,MH];exact az.same (by congr 1;unfold dt;split<;>split<;>omega)
structure Sn where
 (a b:Int)
deriving DecidableEq
def aW(s:Sn):V:=.agg [vI s.a,vI s.b]
def tg(s:Sn):aV prog 241 [aW s] (.bool (decide (s.b<=s.a))):=λU=>by
 refine QW.q ?_;apply sR;simp only[go_sem,seval,MT,aW];refine aD λi1 Z1 s1 a1 f1=>?_;simp only[go_sem,seval,a1];exact az.pure s1 rfl
def fj(s:Sn):Int:=if s.b<=s.a then 0 else s.b-s.a
def SJ(n:Int):Prop:=-2305843009213693952<=n/\n<=2305843009213693952
def F5(s:Sn)(ha:SJ s.a)(hb:SJ s.b):aV prog 223 [aW s] (vI (fj s)):=λU=>by
 obtain⟨h1,h2⟩:=ha;obtain⟨h3,h4⟩:=hb;refine OZ.q ?_;apply sR;simp only[go_sem,seval,NZ,aW];refine aD λi1 Z1 s1 a1 f1=>?_;simp only[go_sem,seval,a1];refine pS rfl (tg ⟨_,_⟩ _) ?_;simp only[go_sem,seval,a1];unfold fj;refine And.intro (λh=>?_) (λh=>?_)
 .rw[aK h];exact az.pure s1 rfl
 .rw[aM h];exact⟨ao,az.pure s1 rfl⟩
open Go.Proofs
def nL(a b:Sn):Sn:=if a.b<=a.a\/b.b<=b.a\/min a.b b.b<=max a.a b.a then⟨0,0⟩else⟨max a.a b.a,min a.b b.b⟩
def bW(a b:Int):(if b>a then b else a)=max a b:=by split<;>omega
def eh(a b:Int):(if b<a then b else a)=min a b:=by split<;>omega
def JV(x y:Sn):aV prog 250 [aW x,aW y] (aW (nL x y)):=λU=>by
 refine QP.q ?_;have hs:=aa.refl U;refine mS 6 ?_;simp only[go_sem,seval,NH,aW];refine aG hs λi2 Z2 s2 a2 f2 z2 hs=>?_;simp only[go_sem,seval,a2];refine aG hs λi3 Z3 s3 a3 f3 z3 hs=>?_;obtain⟨n23,a2⟩:=RC a2 f3 s3;simp only[go_sem,seval,a3,a2];refine aG hs λi4 Z4 s4 a4 f4 z4 hs=>?_;obtain⟨YW,a2⟩:=RC a2 f4 s4;obtain⟨Ye,a3⟩:=RC a3 f4 s4;simp only[go_sem,seval,a4,a3,a2];refine aG hs λi5 Z5 s5 a5 f5 z5 hs=>?_;obtain⟨n25,a2⟩:=RC a2 f5 s5;obtain⟨YX,a3⟩:=RC a3 f5 s5;obtain⟨V6,a4⟩:=RC a4 f5 s5;simp only[go_sem,seval,a5,a4,a3,a2,bW,eh,ab n25,ab YX,ab V6];generalize TL:C' _ i5 _=Y5;replace a5:=SR TL;replace a2:=R6 TL n25 a2;replace a3:=R6 TL YX a3;replace a4:=R6 TL V6 a4;replace hs:=SL TL hs z5;refine pR rfl (tg ⟨_,_⟩ _) ?_;unfold nL;by_cases h1:x.b<=x.a
 .rw[aK (.inl h1),Tl h1];apply sR;simp only[go_sem,seval,a4,a5];exact az.pure (hs.aL z4) rfl
 rw[Tw h1];apply sR;simp only[go_sem,seval,a3,a5,a4];refine pR rfl (tg ⟨_,_⟩ _) ?_;by_cases h2:y.b<=y.a
 .rw[aK (.inr (.inl h2)),Tl h2];apply sR;simp only[go_sem,seval,a4,a5];exact az.pure (hs.aL z4) rfl
 rw[Tw h2];apply sR;simp only[go_sem,seval,a3,a5,a4];refine pR rfl (tg ⟨_,_⟩ _) ?_;by_cases h3:min x.b y.b<=max x.a y.a
 .rw[aK (.inr (.inr h3)),Tl h3];apply sR;simp only[go_sem,seval,a4,a5];exact az.pure (hs.aL z4) rfl
 .rw[aM (by omega),Tw h3];apply sR;simp only[go_sem,seval,a4,a5];exact az.pure (hs.aL z4) rfl
def IA(x y:Sn):aV prog 248 [aW x,aW y] (.bool (decide (nL x y=⟨0,0⟩))):=λU=>by
 refine Pa.q ?_;have hs:=aa.refl U;refine mS 5 ?_;simp only[go_sem,seval,LK,aW];refine aG hs λi2 Z2 s2 a2 f2 z2 hs=>?_;simp only[go_sem,seval,a2];refine aG hs λi3 Z3 s3 a3 f3 z3 hs=>?_;obtain⟨n23,a2⟩:=RC a2 f3 s3;simp only[go_sem,seval,a3,a2];refine pR rfl (JV ⟨_,_⟩ ⟨_,_⟩ _) ?_;have e:(⟨x.a,x.b⟩:Sn)=x:=rfl;have e':(⟨y.a,y.b⟩:Sn)=y:=rfl;rw[e,e'];generalize nL x y=m;obtain⟨u,v⟩:=m;apply sR;simp only[go_sem,seval,aW];refine az.pure hs ?_;by_cases h1:u=0<;>by_cases h2:v=0<;>simp[h1,h2]
structure Rct where
 (x y w h:Int)
deriving DecidableEq
def I6(r:Rct):V:=.agg [vI r.x,vI r.y,vI r.w,vI r.h]
def Ca(r:Rct)(h1:Bq r.y)(h2:Bq r.h):aV prog 210 [I6 r] (aW ⟨r.y,r.y+r.h⟩):=λU=>by
 obtain⟨g1,g2⟩:=h1;obtain⟨g3,g4⟩:=h2;refine Rj.q ?_;have hs:=aa.refl U;apply sR;simp only[go_sem,seval,MA,I6];refine aG hs λi1 Z1 s1 a1 f1 z1 hs=>?_;simp only[go_sem,seval,a1];refine aG hs λi2 Z2 s2 a2 f2 z2 hs=>?_;obtain⟨n12,a1⟩:=RC a1 f2 s2;simp only[go_sem,seval,a2,a1];exact⟨ao,az.pure (hs.aL z2) rfl⟩
def EU(r:Rct)(h1:Bq r.x)(h2:Bq r.w):aV prog 243 [I6 r] (aW ⟨r.x,r.x+r.w⟩):=λU=>by
 obtain⟨g1,g2⟩:=h1;obtain⟨g3,g4⟩:=h2;refine Pk.q ?_;have hs:=aa.refl U;apply sR;simp only[go_sem,seval,Nn,I6];refine aG hs λi1 Z1 s1 a1 f1 z1 hs=>?_;simp only[go_sem,seval,a1];refine aG hs λi2 Z2 s2 a2 f2 z2 hs=>?_;obtain⟨n12,a1⟩:=RC a1 f2 s2;simp only[go_sem,seval,a2,a1];exact⟨ao,az.pure (hs.aL z2) rfl⟩
structure Pn where
 (y m:Int)
deriving DecidableEq
def dd(p:Pn):V:=.agg [vI p.y,vI p.m]
def Ed(p:Pn)(h1:Bq p.y)(h2:Bq p.m):aV prog 148 [dd p] (vI (p.y+p.m)):=λU=>by
 obtain⟨g1,g2⟩:=h1;obtain⟨g3,g4⟩:=h2;refine PO.q ?_;have hs:=aa.refl U;apply sR;simp only[go_sem,seval,LG,dd];refine aG hs λi1 Z1 s1 a1 f1 z1 hs=>?_;simp only[go_sem,seval,a1];exact⟨ao,az.pure hs rfl⟩
def KW(p:Pn)(y h:Int)(h1:Bq y)(h2:Bq h):aV prog 204 [dd p,vI y,vI h] (dd ⟨y+h,0⟩):=λU=>by
 obtain⟨g1,g2⟩:=h1;obtain⟨g3,g4⟩:=h2;refine QI.q ?_;have hs:=aa.refl U;apply sR;simp only[go_sem,seval,NB,dd];refine aG hs λi1 Z1 s1 a1 f1 z1 hs=>?_;simp only[go_sem,seval,a1];refine aG hs λi2 Z2 s2 a2 f2 z2 hs=>?_;obtain⟨n12,a1⟩:=RC a1 f2 s2;simp only[go_sem,seval,a2,a1];exact⟨ao,az.pure (hs.aL z2) rfl⟩
def eC(p:Pn)(low:Int):Pn:=if low>p.y+p.m then⟨low,0⟩else p
def Gy(p:Pn)(low:Int)(h1:Bq p.y)(h2:Bq p.m):aV prog 171 [dd p,vI low] (dd (eC p low)):=λU=>by
 refine Rd.q ?_;have hs:=aa.refl U;refine mS 5 ?_;simp only[go_sem,seval,MQ,dd];refine aG hs λi2 Z2 s2 a2 f2 z2 hs=>?_;simp only[go_sem,seval,a2];refine aG hs λi4 Z4 s4 a4 f4 z4 hs=>?_;obtain⟨YW,a2⟩:=RC a2 f4 s4;simp only[go_sem,seval,a4,a2];refine pR rfl (Ed ⟨_,_⟩ h1 h2 _) ?_;unfold eC;by_cases h:low>p.y+p.m
 .have q:(low>p.y+p.m)=True:=RA h;rw[aK h];apply sR;simp only[go_sem,seval,a4,a2,q];exact az.pure (hs.aL z4) rfl
 .have q:(low>p.y+p.m)=False:=H' h;rw[aM h];apply sR;simp only[go_sem,seval,a4,a2,q];exact az.pure (hs.aL z4) rfl
def Ci(y m n:Int){U:ak}{id:Nat}(L':U id=some ⟨271,2,[.agg [vI y,vI m]]⟩):aB prog 201 [.ptr id 0 0,vI n] U λr Z'=>r=.RM []/\Z'=C' U id ⟨271,2,[.agg [vI y,vI (max m n)]]⟩:=by
 refine O5.q ?_;apply sR;simp only[go_sem,seval,N0,L',bW];exact SG ⟨rfl,rfl⟩
def Jl(y m n:Int)(hy:Bq y)(hm:Bq m)(hn:Bq n){U:ak}{id:Nat}(L':U id=some ⟨271,2,[.agg [vI y,vI m]]⟩):aB prog 202 [.ptr id 0 0,vI n] U λr Z'=>r=.RM []/\Z'=C' U id ⟨271,2,[.agg [vI (if n>0 then y+m+n else y),vI (if n>0 then 0 else m)]]⟩:=by
 obtain⟨g1,g2⟩:=hy;obtain⟨g3,g4⟩:=hm;obtain⟨g5,g6⟩:=hn;refine QB.q ?_;by_cases h:n>0
 .have q:(n>0)=True:=RA h;rw[aK h,aK h];apply sR;simp only[go_sem,seval,KJ,L',q];exact⟨ao,ao,_,_,aa.refl _,Wk.refl (aa.refl _) _,rfl,rfl⟩
 .have q:(n>0)=False:=H' h;rw[aM h,aM h];apply sR;simp only[go_sem,seval,KJ,L',q];exact SG ⟨rfl,(by funext i;simp only[C'];split<;>simp_all)⟩
open Go.Proofs
structure RS where
 (node side anchor x y w h:Int)
deriving DecidableEq
def bl(f:RS):V:=.agg [vI f.node,vI f.side,vI f.anchor,vI f.x,vI f.y,vI f.w,vI f.h]
def bg(l:List RS):V:=.sl 7 (l.map bl)
def jk(f:RS):V:=.agg [vI f.node,vI f.side,vI f.anchor,vI f.x,vI f.y,vI f.w,vI f.h,vI f.x,vI f.y,vI f.w,vI f.h]
def RS.ok(f:RS):Prop:=Bq f.x/\Bq f.y/\Bq f.w/\Bq f.h
def oe{U:ak}{l:List RS}{i:Nat}(h:i<l.length):bG U 7 (bg l) (.int .i64 i)=some (.rp (bl l[i])):=by simp[bg,bG,h]
def jF(l:List RS):ej false (bg l)=some (.int .i64 l.length):=by simp[bg,ej]
def JA(f:RS):aV prog 209 [bl f] (jk f):=λU=>by
 refine Qw.q ?_;have hs:=aa.refl U;apply sR;simp only[go_sem,seval,ND,bl];refine aG hs λi1 Z1 s1 a1 f1 z1 hs=>?_;simp only[go_sem,seval,a1];refine aG hs λi2 Z2 s2 a2 f2 z2 hs=>?_;obtain⟨n12,a1⟩:=RC a1 f2 s2;simp only[go_sem,seval,a2,a1];exact az.pure (hs.aL z2) rfl
def zB(f:RS)(hf:f.ok):aV prog 181 [jk f] (vI (f.y+f.h)):=λU=>by
 refine Ql.q ?_;have hs:=aa.refl U;apply sR;simp only[go_sem,seval,Mz,jk];refine aG hs λi1 Z1 s1 a1 f1 z1 hs=>?_;simp only[go_sem,seval,a1];refine pS rfl (Ca ⟨_,_,_,_⟩ hf.2.1 hf.2.2.2 _) ?_;simp only[go_sem,seval,aW];exact az.pure hs rfl
def ep(y high:Int)(f:RS):Bool:=!decide (nL ⟨f.y,f.y+f.h⟩ ⟨y,y+max high 1⟩=⟨0,0⟩)
def Iz(f:RS)(y high:Int)(hf:f.ok)(hy:SJ y)(hh:Bq high):aV prog 242 [jk f,vI y,vI high] (.bool (ep y high f)):=λU=>by
 obtain⟨g1,g2⟩:=hy;obtain⟨g3,g4⟩:=hh;refine Rh.q ?_;have hs:=aa.refl U;refine mS 7 ?_;simp only[go_sem,seval,L9,jk];refine aG hs λi3 Z3 s3 a3 f3 z3 hs=>?_;simp only[go_sem,seval,a3];refine pS rfl (Ca ⟨_,_,_,_⟩ hf.2.1 hf.2.2.2 _) ?_;simp only[go_sem,seval,bW];refine⟨ao,?_⟩;refine pS rfl (IA ⟨_,_⟩ ⟨_,_⟩ _) ?_;simp only[go_sem,seval];rw[show max high 1=max 1 high by omega];exact az.pure hs (by simp[ep,Int.max_comm])
def gI(f:RS)(s:Sn):Sn:=if f.side=1 then⟨max s.a (f.x+f.w),s.b⟩else⟨s.a,min s.b f.x⟩
def Jf(f:RS)(s:Sn)(hf:f.ok):aV prog 226 [jk f,aW s] (aW (gI f s)):=λU=>by
 refine OT.q ?_;have hs:=aa.refl U;refine mS 6 ?_;simp only[go_sem,seval,Nx,jk,aW];refine aG hs λi2 Z2 s2 a2 f2 z2 hs=>?_;simp only[go_sem,seval,a2];refine aG hs λi3 Z3 s3 a3 f3 z3 hs=>?_;obtain⟨n23,a2⟩:=RC a2 f3 s3;simp only[go_sem,seval,a3,a2];refine aG hs λi4 Z4 s4 a4 f4 z4 hs=>?_;obtain⟨YW,a2⟩:=RC a2 f4 s4;obtain⟨Ye,a3⟩:=RC a3 f4 s4;simp only[go_sem,seval,a4,a3,a2];refine pS rfl (EU ⟨_,_,_,_⟩ hf.1 hf.2.2.1 _) ?_;simp only[go_sem,seval,aW];refine aG hs λi5 Z5 s5 a5 f5 z5 hs=>?_;obtain⟨n25,a2⟩:=RC a2 f5 s5;obtain⟨YX,a3⟩:=RC a3 f5 s5;obtain⟨V6,a4⟩:=RC a4 f5 s5;unfold gI;by_cases h:f.side=1
 .have q:(f.side=1)=True:=RA h;rw[aK h];simp only[go_sem,seval,a5,a4,a3,a2,q,bW,eh,ab n25,ab YX,ab V6,ab Ye.symm,ab YX.symm,ab YW,ab Ye,ab V6.symm];exact az.pure (((hs.aL z5).aL z3).aL z4) rfl
 .have q:(f.side=1)=False:=H' h;rw[aM h];simp only[go_sem,seval,a5,a4,a3,a2,q,bW,eh,ab n25,ab YX,ab V6,ab Ye.symm,ab YX.symm,ab YW,ab Ye,ab V6.symm];exact az.pure (((hs.aL z5).aL z3).aL z4) rfl
open Go.Proofs
def nk{α:Type}(p:α->Bool)(l:List α){i:Nat}(h:i<l.length):(l.take (i+1)).filter p=(l.take i).filter p++if p l[i]then[l[i]]else[]:=by
 rw[U0 h,List.filter_append];cases hp:p l[i]<;>simp[hp]
def Jg(l:List RS)(y high:Int)(hl:l.length<=1000000)(RP:∀f∈l,f.ok)(hy:SJ y)(hh:Bq high)(g:FuncId)(caps:List V)(τ:List RS->ak->Prop)
 (hJ:∀pre U Z',τ pre U->aa U Z'->τ pre Z')
 (hg:∀pre f U,f∈l->τ pre U->aB prog g (jk f::caps) U λr Z'=>r=.RM []/\τ (pre++[f]) Z'){U:ak}(h0:τ [] U):
 aB prog 224 [bg l,vI y,vI high,.fn g caps] U λr Z'=>r=.RM []/\τ (l.filter (ep y high)) Z':=by
 refine QN.q ?_;refine mS 14 ?_;simp only[go_sem,seval,Mk,jF];refine aq.loop (λm st=>∃i:Nat,i<=l.length/\m=l.length-i/\τ ((l.take i).filter (ep y high)) st.U/\st.s 1=vI y/\st.s 2=vI high/\st.s 3=.fn g caps/\st.s 11=bg l/\st.s 12=vI l.length/\st.s 13=vI i) l.length ?_ ?_
 .exact⟨0,by omega,rfl,h0,rfl,rfl,rfl,rfl,rfl,rfl⟩
 .rintro m ⟨s,Z'⟩ ⟨i,hi,rfl,hj,k1,k2,k3,TB,SF,VI⟩;simp only at hj k1 k2 k3 TB SF VI;refine aq.mix 14 ?_;by_cases u':i<l.length
  .have q:=qT u';have SA:=λU=>oe (U:=U) u';have UT:=Sx u';have W8:=RP _ UT;have Sd:=nk (ep y high) l u';generalize l[i]=f at*;have hs:=aa.refl Z';apply sR;simp only[go_sem,seval,k1,k2,k3,TB,SF,VI,q,SA,bl];refine aG hs λi9 Y9 s9 a9 f9 z9 hs=>?_;simp only[go_sem,seval,a9,k1,k2,k3,TB,SF,VI];generalize Sy:C' _ i9 _=Z9;replace a9:=SR Sy;replace hs:=SL Sy hs z9;refine pS rfl (JA f _) ?_;simp only[go_sem,seval,jk];refine aG hs λi10 XP To RZ f10 Uq hs=>?_;obtain⟨UU,a9⟩:=RC a9 f10 To;simp only[go_sem,seval,RZ,k1,k2,k3,TB,SF,VI];generalize R5:C' _ i10 _=Y10;replace RZ:=SR R5;replace a9:=R6 R5 UU a9;replace hs:=SL R5 hs Uq;refine pR rfl (Iz f y high W8 hy hh _) ?_;cases hm:ep y high f
   .rw[hm]at Sd;apply sR;simp only[go_sem,seval,k1,k2,k3,TB,SF,VI];refine⟨ao,_,by omega,i+1,by omega,rfl,?_,by simp[k1,k2,k3,TB,SF]⟩;rw[Sd];simpa using hJ _ _ _ hj hs
   .rw[hm]at Sd;apply sR;simp only[go_sem,seval,RZ,k1,k2,k3,TB,SF,VI];refine Tx rfl (hg _ f _ UT (hJ _ _ _ hj hs)) ?_;rintro r Z2 ⟨rfl,hj2⟩;apply sR;simp only[go_sem,seval,k1,k2,k3,TB,SF,VI];refine⟨ao,_,by omega,i+1,by omega,rfl,?_,by simp[k1,k2,k3,TB,SF]⟩;rw[Sd];simpa using hj2
  .have q:=qF u';apply sR;simp only[go_sem,seval,k1,k2,k3,TB,SF,VI,q];obtain rfl:i=l.length:=by omega
   rw[ik]at hj;exact SG ⟨rfl,hj⟩
def bM(l:List RS)(y high:Int)(s:Sn):Sn:=(l.filter (ep y high)).foldl (λs f=>gI f s) s
def MB{id:Nat}(f:RS)(s:Sn)(hf:f.ok){U:ak}(L':U id=some ⟨195,2,[aW s]⟩):aB prog 244 [jk f,.ptr id 0 0] U λr Z'=>r=.RM []/\∃Z1,aa U Z1/\Z'=C' Z1 id ⟨195,2,[aW (gI f s)]⟩:=by
 refine PI.q ?_;have hs:=aa.refl U;have a1:=L';rw[aW]at a1;apply sR;simp only[go_sem,seval,Om,jk];refine aD λi2 Z2 s2 a2 f2=>?_;obtain⟨n2,a1⟩:=RC a1 f2 s2;simp only[go_sem,seval,a2,a1];refine pS rfl (Jf f s hf _) ?_;simp only[go_sem,seval,a1,aW];exact SG ⟨rfl,Z2,s2,rfl⟩
def CZ(l:List RS)(y high:Int)(s:Sn)(hl:l.length<=1000000)(RP:∀f∈l,f.ok)(hy:SJ y)(hh:Bq high):aV prog 227 [bg l,vI y,vI high,aW s] (aW (bM l y high s)):=λU=>by
 refine Pm.q ?_;have hs:=aa.refl U;refine mS 10 ?_;simp only[go_sem,seval,Oa,aW];refine aG hs λi7 Z7 s7 a7 f7 z7 hs=>?_;simp only[go_sem,seval,a7];refine aG hs λi8 Z8 s8 a8 f8 z8 hs=>?_;obtain⟨VA,a7⟩:=RC a7 f8 s8;simp only[go_sem,seval,a8,a7];refine aG hs λi9 Y9 s9 a9 f9 z9 hs=>?_;obtain⟨WX,a7⟩:=RC a7 f9 s9;obtain⟨n89,a8⟩:=RC a8 f9 s9;simp only[go_sem,seval,a9,a8,a7,ab WX,ab n89];generalize Sy:C' _ i9 _=Z9;replace a9:=SR Sy;replace a7:=R6 Sy WX a7;replace a8:=R6 Sy n89 a8;replace hs:=SL Sy hs z9;refine Tx rfl (Jg l y high hl RP hy hh 244 [.ptr i9 0 0] (λpre J=>J i9=some ⟨195,2,[aW (pre.foldl (λs f=>gI f s) s)]⟩/\J i8=some ⟨195,2,[.agg [vI 0,vI 0]]⟩/\aa U J) ?_ ?_ ⟨a9,a8,hs⟩) ?_
 .rintro pre J X' ⟨h1,h2,h4⟩ h5;exact⟨h5 _ _ h1,h5 _ _ h2,h4.trans h5⟩
 .rintro pre f J hf ⟨h1,h2,h4⟩;refine(MB f _ (RP f hf) h1).mono ?_;rintro r X' ⟨rfl,X1,h5,rfl⟩;refine⟨rfl,?_,by rw[ab n89];exact h5 _ _ h2,(h4.trans h5).aL z9⟩;rw[av,nT];rfl
 .rintro r J ⟨rfl,h1,h2,h4⟩;have Xo:aW (List.foldl (λs f=>gI f s) s (List.filter (ep y high) l))=.agg [vI (bM l y high s).a,vI (bM l y high s).b]:=rfl;rw[Xo]at h1;apply sR;simp only[go_sem,seval,h1,h2];exact az.pure (h4.aL z8) rfl
open Go.Proofs
def iN(s:Sn)(a:Int×Bool)(f:RS):Int×Bool:=if gI f s=s\/(a.2=true/\f.y+f.h>=a.1)then a else(f.y+f.h,true)
def cz(l:List RS)(y high:Int)(s:Sn):Int×Bool:=(l.filter (ep y high)).foldl (iN s) (0,false)
def HF{i1 i2 i3:Nat}(f:RS)(s:Sn)(a:Int×Bool)(hf:f.ok)(h12:i1≠i2)(h13:i1≠i3)(h23:i2≠i3){U:ak}(q1:U i1=some ⟨195,2,[aW s]⟩)(q2:U i2=some ⟨4,1,[.bool a.2]⟩)(q3:U i3=some ⟨3,1,[vI a.1]⟩):
 aB prog 225 [jk f,.ptr i1 0 0,.ptr i2 0 0,.ptr i3 0 0] U λr Z'=>r=.RM []/\∃Z1,aa U Z1/\Z'=C' (C' Z1 i3 ⟨3,1,[vI (iN s a f).1]⟩) i2 ⟨4,1,[.bool (iN s a f).2]⟩:=by
 refine P9.q ?_;refine aq.mix 5 ?_;obtain⟨u,v⟩:=a;simp only at q2 q3;apply sR;simp only[go_sem,seval,Mi,jk];refine aD λi4 Z4 s4 a4 f4=>?_;have n1:=bb q1 f4;have n2:=bb q2 f4;have n3:=bb q3 f4;replace q1:=s4 _ _ q1;replace q2:=s4 _ _ q2;replace q3:=s4 _ _ q3;have W9:=Jf f s hf;have hbot:=zB f hf;obtain⟨s1,s2⟩:=s;rw[aW]at q1;simp only[go_sem,seval,a4,q1,q2,q3];refine pJ rfl W9 ?_;unfold iN;generalize gI f ⟨s1,s2⟩=c;obtain⟨c1,c2⟩:=c;have same:∀Z':ak,Z'=Z4->C' (C' Z' i3 ⟨3,1,[vI u]⟩) i2 ⟨4,1,[.bool v]⟩=Z4:=λZ' e=>by
  subst e;rw[lG q3,lG q2]
 by_cases hc:c1=s1/\c2=s2
 .obtain⟨rfl,rfl⟩:=hc;apply sG;simp only[go_sem,seval,q1,aW];refine SG ⟨rfl,Z4,s4,?_⟩;rw[aK (by simp),same _ rfl]
 .have hd:(decide (c1=s1)&&decide (c2=s2))=false:=by
   by_cases h1:c1=s1<;>by_cases h2:c2=s2<;>simp_all
  have RU:¬(⟨c1,c2⟩:Sn)=⟨s1,s2⟩:=by simpa using hc
  cases v
  .rw[aM (by simp[RU])];apply sG;simp only[go_sem,seval,q1,q2,a4,aW,hd];refine pS rfl (hbot _) ?_;simp only[go_sem,seval,q2,q3,ab h23,a4];exact SG ⟨rfl,Z4,s4,rfl⟩
  .apply sG;simp only[go_sem,seval,q1,q2,a4,aW,hd];refine pJ rfl hbot ?_;by_cases hb:f.y+f.h>=u
   .have q:(f.y+f.h>=u)=True:=RA hb;apply sG;simp only[go_sem,seval,q3,q];refine SG ⟨rfl,Z4,s4,?_⟩;rw[aK (.inr (by first|exact hb|exact⟨rfl,hb⟩|simp[hb])),same _ rfl]
   .have q:(f.y+f.h>=u)=False:=H' hb;rw[aM (by simp[RU];omega)];apply sG;simp only[go_sem,seval,q3,a4,q];refine pS rfl (hbot _) ?_;simp only[go_sem,seval,q2,q3,ab h23,a4];exact SG ⟨rfl,Z4,s4,rfl⟩
def Fm(l:List RS)(y high:Int)(s:Sn)(hl:l.length<=1000000)(RP:∀f∈l,f.ok)(hy:SJ y)(hh:Bq high):aV prog 206 [bg l,vI y,vI high,aW s] (.RM [vI (cz l y high s).1,.bool (cz l y high s).2]):=λU=>by
 refine O3.q ?_;have hs:=aa.refl U;refine mS 12 ?_;simp only[go_sem,seval,NP,aW];refine aG hs λi7 Z7 s7 a7 f7 z7 hs=>?_;simp only[go_sem,seval,a7];refine aG hs λi10 XP To RZ f10 Uq hs=>?_;obtain⟨Ta,a7⟩:=RC a7 f10 To;simp only[go_sem,seval,RZ,a7];refine aG hs λi11 Yf Vb Ug f11 YE hs=>?_;obtain⟨n711,a7⟩:=RC a7 f11 Vb;obtain⟨TR,RZ⟩:=RC RZ f11 Vb;simp only[go_sem,seval,Ug,RZ,a7,ab n711,ab TR,ab Ta,ab TR.symm];rw[wT TR,lG Ug,lG RZ];refine Tx rfl (Jg l y high hl RP hy hh 225 [.ptr i7 0 0,.ptr i11 0 0,.ptr i10 0 0] (λpre J=>J i7=some ⟨195,2,[aW s]⟩/\J i11=some ⟨4,1,[.bool (pre.foldl (iN s) (0,false)).2]⟩/\
  J i10=some ⟨3,1,[vI (pre.foldl (iN s) (0,false)).1]⟩/\aa U J) ?_ ?_ ⟨a7,Ug,RZ,hs⟩) ?_
 .rintro pre J X' ⟨h1,h2,h3,h4⟩ h5;exact⟨h5 _ _ h1,h5 _ _ h2,h5 _ _ h3,h4.trans h5⟩
 .rintro pre f J hf ⟨h1,h2,h3,h4⟩;refine(HF f s _ (RP f hf) n711 Ta TR.symm h1 h2 h3).mono ?_;rintro r X' ⟨rfl,X1,h5,rfl⟩;refine⟨rfl,?_,?_,?_,((h4.trans h5).aL Uq).aL YE⟩
  .rw[ab n711,ab Ta];exact h5 _ _ h1
  .rw[av,nT];rfl
  .rw[ab TR,av,nT];rfl
 .rintro r J ⟨rfl,h1,h2,h3,h4⟩;apply sR;simp only[go_sem,seval,h2,h3];exact az.pure h4 rfl
def gU(tell:RS->Int×Bool)(a:Int×Bool)(f:RS):Int×Bool:=if(tell f).2=true/\(a.2=false\/(tell f).1>a.1)then((tell f).1,true)else a
def cu(tell:RS->Int×Bool)(l:List RS):Int×Bool:=l.foldl (gU tell) (0,false)
def GU(l:List RS)(hl:l.length<=1000000)(g:FuncId)(caps:List V)(tell:RS->Int×Bool)(μ:ak->Prop)(hI:∀U Z',μ U->aa U Z'->μ Z')
 (hg:∀f U,f∈l->μ U->aB prog g (jk f::caps) U λr Z'=>r=.RM [vI (tell f).1,.bool (tell f).2]/\Z'=U){U:ak}(h0:μ U):
 aB prog 179 [bg l,.fn g caps] U λr Z'=>r=.RM [vI (cu tell l).1,.bool (cu tell l).2]/\Z'=U:=by
 refine OX.q ?_;refine mS 15 ?_;simp only[go_sem,seval,Ng,jF];refine aq.loop (λm st=>∃i:Nat,i<=l.length/\m=l.length-i/\aa U st.U/\st.s 1=.fn g caps/\st.s 6=vI (cu tell (l.take i)).1/\st.s 7=.bool (cu tell (l.take i)).2/\st.s 12=bg l/\st.s 13=vI l.length/\st.s 14=vI i) l.length ?_ ?_
 .exact⟨0,by omega,rfl,aa.refl _,rfl,rfl,rfl,rfl,rfl,rfl⟩
 .rintro m ⟨s,Z'⟩ ⟨i,hi,rfl,hs,k1,k6,k7,SF,VI,Vr⟩;simp only at hs k1 k6 k7 SF VI Vr;refine aq.mix 15 ?_;by_cases u':i<l.length
  .have q:=qT u';have SA:=λU=>oe (U:=U) u';have UT:=Sx u';have Sd:cu tell (l.take (i+1))=gU tell (cu tell (l.take i)) l[i]:=by
    rw[U0 u',cu,nT];rfl
   generalize l[i]=f at*;generalize cu tell (l.take i)=a at*;obtain⟨u,v⟩:=a;simp only at k6 k7;apply sR;simp only[go_sem,seval,k1,k6,k7,SF,VI,Vr,q,SA,bl];refine aG hs λi9 Y9 s9 a9 f9 z9 hs=>?_;simp only[go_sem,seval,a9,k1,k6,k7,SF,VI,Vr];generalize Sy:C' _ i9 _=Z9;replace a9:=SR Sy;replace hs:=SL Sy hs z9;refine pS rfl (JA f _) ?_;simp only[go_sem,seval,k1,k6,k7,SF,VI,Vr];refine pR rfl (hg f _ UT (hI _ _ h0 hs)) ?_;have r1:=rI i;unfold gU at Sd;generalize tell f=t at*;obtain⟨x,is⟩:=t;simp only at Sd;cases is
   .rw[aM (by simp)]at Sd;apply sR;simp only[go_sem,seval,k1,k6,k7,SF,VI,Vr,r1];exact⟨_,by omega,i+1,by omega,rfl,hs,by simp[k1,k6,k7,SF,VI,Sd]⟩
   .cases v
    .rw[aK (by simp)]at Sd;apply sR;simp only[go_sem,seval,k1,k6,k7,SF,VI,Vr,r1];exact⟨_,by omega,i+1,by omega,rfl,hs,by simp[k1,SF,VI,Sd]⟩
    .by_cases hb:x>u
     .have q2:(x>u)=True:=RA hb;rw[aK ⟨rfl,.inr hb⟩]at Sd;apply sR;simp only[go_sem,seval,k1,k6,k7,SF,VI,Vr,r1,q2];exact⟨_,by omega,i+1,by omega,rfl,hs,by simp[k1,SF,VI,Sd]⟩
     .have q2:(x>u)=False:=H' hb;rw[aM (by simp[hb])]at Sd;apply sR;simp only[go_sem,seval,k1,k6,k7,SF,VI,Vr,r1,q2];exact⟨_,by omega,i+1,by omega,rfl,hs,by simp[k1,k6,k7,SF,VI,Sd]⟩
  .have q:=qF u';obtain rfl:i=l.length:=by omega
   rw[ik]at k6 k7;apply sR;simp only[go_sem,seval,k1,k6,k7,SF,VI,Vr,q];exact az.pure hs rfl
def Kz(a b:Int):Int:=IntKind.i64.wrap (BitVec.ofInt IntKind.i64.bits a &&& BitVec.ofInt IntKind.i64.bits b).toNat
def fI(SN:Int)(f:RS):Int×Bool:=(f.y+f.h,decide (Kz f.side SN≠0))
def KB{i:Nat}(f:RS)(SN:Int)(hf:f.ok){U:ak}(q:U i=some ⟨3,1,[vI SN]⟩):aB prog 180 [jk f,.ptr i 0 0] U λr Z'=>r=.RM [vI (fI SN f).1,.bool (fI SN f).2]/\Z'=U:=by
 refine P0.q ?_;refine aq.mix 5 ?_;have hs:=aa.refl U;apply sR;simp only[go_sem,seval,Mx,jk];refine aG hs λi2 Z2 s2 a2 f2 z2 hs=>?_;replace q:=s2 _ _ q;simp only[go_sem,seval,a2,q];refine pJ rfl (zB f hf) ?_;apply sG;simp only[go_sem,seval,a2,q];exact az.pure hs rfl
def zi(l:List RS)(SN:Int)(hl:l.length<=1000000)(RP:∀f∈l,f.ok):aV prog 149 [bg l,vI SN] (.RM [vI (cu (fI SN) l).1,.bool (cu (fI SN) l).2]):=λU=>by
 refine Pe.q ?_;refine aq.mix 6 ?_;have hs:=aa.refl U;apply sR;simp only[go_sem,seval,OL];refine aG hs λi3 Z3 s3 a3 f3 z3 hs=>?_;simp only[go_sem,seval,a3];refine pS rfl (GU l hl 180 [.ptr i3 0 0] (fI SN) (λJ=>J i3=some ⟨3,1,[vI SN]⟩) (λ_ _ h h'=>h' _ _ h) (λf J hf h=>KB f SN (RP f hf) h) a3) ?_;simp only[go_sem,seval];exact az.pure hs rfl
def kR(f:RS):Int×Bool:=(f.y,true)
def Ki(f:RS)(hf:f.ok):aV prog 245 [jk f] (.RM [vI (kR f).1,.bool (kR f).2]):=λU=>by
 refine Ro.q ?_;refine aq.mix 4 ?_;have hs:=aa.refl U;apply sR;simp only[go_sem,seval,Ou,jk];refine aG hs λi1 Z1 s1 a1 f1 z1 hs=>?_;simp only[go_sem,seval,a1];refine pS rfl (Ca ⟨_,_,_,_⟩ hf.2.1 hf.2.2.2 _) ?_;simp only[go_sem,seval,aW];exact az.pure hs rfl
def Nh(l:List RS)(hl:l.length<=1000000)(RP:∀f∈l,f.ok):aV prog 228 [bg l] (.RM [vI (cu kR l).1,.bool (cu kR l).2]):=λU=>by
 refine Rr.q ?_;refine mS 4 ?_;simp only[go_sem,seval,LW];refine pS rfl (GU l hl 245 [] kR (λ_=>True) (λ_ _ h _=>h) (λf J hf _=>Ki f (RP f hf) J) trivial) ?_;simp only[go_sem,seval];exact az.same rfl
end Go.Vc
