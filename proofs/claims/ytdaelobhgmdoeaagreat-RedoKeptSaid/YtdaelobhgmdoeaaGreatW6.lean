/- Part 6 of the library of this proof. -/
import Derived.Test.YtdaelobhgmdoeaaGreatW5
import Derived.WalkKit
import Derived.ProofKit
import Derived.Deep.Slices
import Derived.ChangeArms
import Derived.WideKeyArgs
import Derived.Carry
import Derived.SizedLaws
set_option linter.all false
set_option maxHeartbeats 8000000
set_option maxRecDepth 100000
namespace Go.Vc
open Go.ChangeShapes Go.WideShapes Go.RowKit Go.Deep
def xj(P:Program)(total:Nat):Nat->List Field->Bool
 |off,[]=>off==total
 |off,f::fs=>f.offset==off&&xj P total (off+P.cellsOf f.type) fs
def Bj(P:Program):Nat->TypeId->Bool
 |0,_=>false
 |n+1,t=>match P.underlying t with
  |some .bool|some (.int _)|some .string=>true
  |some (.slice e)=>Bj P n e&&P.cellsOf e != 0
  |some (.struct fs)=>xj P (P.cellsOf t) 0 fs.toList&&fs.toList.all λf=>Bj P n f.type
  |_=>false
def rowOf(agg:Bool)(cs:List V):V:=if agg then .agg cs else cs.getD 0 .undef
def zx(S:TypeId->List V->Prop):List Field->List V->Prop
 |[],vs=>vs=[]
 |f::fs,vs=>∃a b,vs=a++b/\S f.type a/\zx S fs b
def jg(P:Program):Nat->TypeId->List V->Prop
 |0,_,_=>False
 |n+1,t,vs=>match P.underlying t with
  |some .bool=>∃b,vs=[.bool b]
  |some (.int k)=>∃m,vs=[.int k m]/\(Lit.int k m).wf=true
  |some .string=>∃s:List UInt8,vs=[.str s]/\s.length<=reachBytes
  |some (.slice e)=>∃rows,vs=[.sl (P.cellsOf e) rows]/\rows.length*P.bytesOf e<=reachBytes/\∀r∈rows,∃cs,jg P n e cs/\r=rowOf (fw P e) cs
  |some (.struct fs)=>zx (jg P n) fs.toList vs
  |_=>False
def FT{α:Type}{Pr:Nat->α->Prop}:∀n,(∀i,i<n->∃r,Pr i r)->∃rows:List α,rows.length=n/\∀i r,rows[i]?=some r->Pr i r
 |0,_=>⟨[],rfl,λi r h=>by simp at h⟩
 |n+1,h=>by
  obtain⟨rows,h1,h2⟩:=FT n λi hi=>h i (by omega);obtain⟨r,hr⟩:=h n (by omega);refine⟨rows++[r],by simp[h1],λi x hx=>?_⟩;rw[Q7]at hx;split at hx
  .exact h2 i x hx
  .rename_i hi;have:i-rows.length=0:=by
    rcases Nat.eq_zero_or_pos (i-rows.length)with h0|h0
    .exact h0
    .rw[oE (by simp;omega)]at hx;cases hx
   rw[this]at hx;simp at hx;subst hx;have:i=n:=by omega
   subst this;exact hr
def w8{I:Mu}{ow:Nat->Prop}{w:World}{b off sz:Nat}:∀(rows:List V) (k:Nat),(∀i r,rows[i]?=some r->r.cells.length=sz/\aO I ow w r.cells b (off+(k+i)*sz))->aT I ow w rows b (off+k*sz) sz
 |[],_,_=>by simp[aT]
 |r::rs,k,h=>by
  have h0:=h 0 r rfl;simp only[aT];refine⟨h0.1,by rw[dT];simpa using h0.2,?_⟩;have e:off+k*sz+sz=off+(k+1)*sz:=by rw[Nat.add_mul];omega
  rw[e];refine w8 rs (k+1) λi x hx=>?_;have:=h (i+1) x (by simpa using hx);rw[show k+1+i=k+(i+1) by omega];exact this
section
variable {H:Type} {enc:TypeId×Value->H} {P:Program} {w:World} {base:Nat} {spare:Nat->Bool} {held:Bool} {I:Mu} {ow:Nat->Prop}
def IW(P:Program)(I:Mu)(ow:Nat->Prop)(w:World)(N:Nat)(t:TypeId)(cs:List Value):Prop:=
 ∃vs,jg P N t vs/\ar I ow w vs cs/\∀u∈cs,u.oneCell'=true
def vY{S:TypeId->List V->Prop}{cs:List Value}:∀(fs:List Field) (off:Nat),xj P cs.length off fs=true->
 (∀f∈fs,∃vs,S f.type vs/\ar I ow w vs ((cs.drop f.offset).take (P.cellsOf f.type))/\∀u∈(cs.drop f.offset).take (P.cellsOf f.type),u.oneCell'=true)->
 ∃vs,zx S fs vs/\ar I ow w vs (cs.drop off)/\∀u∈cs.drop off,u.oneCell'=true
 |[],off,hc,_=>by
  simp only[xj,beq_iff_eq]at hc;refine⟨[],rfl,?_,?_⟩
  .rw[xF (by omega)];simp[ar]
  .rw[xF (by omega)];simp
 |f::fs,off,hc,h=>by
  simp only[xj,Ba,beq_iff_eq]at hc;obtain⟨a,h1,h2,h3⟩:=h f (by simp);obtain⟨b,h4,h5,h6⟩:=vY fs (off+P.cellsOf f.type) hc.2 λg hg=>h g (by simp[hg]);rw[hc.1]at h2 h3;have e:cs.drop off=(cs.drop off).take (P.cellsOf f.type)++cs.drop (off+P.cellsOf f.type):=by
   rw[<-List.drop_drop,uR]
  refine⟨a++b,⟨a,b,rfl,h1,h4⟩,?_,?_⟩
  .rw[e];exact h2.append h5
  .rw[e];intro u hu;rcases dD.1 hu with hu|hu
   .exact h3 u hu
   .exact h6 u hu
def rK{v:V}{x:Value}(h:E' I ow w v x):ar I ow w [v] [x]:=by simp only[ar];exact⟨x,[],rfl,h,rfl⟩
def uA{t:TypeId}{fs:Array Field}(h:P.underlying t=some (.struct fs)):fw P t=true:=by simp[fw,h]
def nI{e:TypeId}{d:DataW H}:∀{l:List (DataW H)},d∈l->∀n∈d.weights P e,n∈DataW.weightsAll P e l
 |[],h,_,_=>by simp at h
 |x::l,h,n,hn=>by
  simp only[DataW.weightsAll,dD];rcases db.1 h with rfl|h
  .exact .inl hn
  .exact .inr (nI h n hn)
def ov(Xa:∀b,¬ow b):∀(N:Nat) (fuel:Nat) (t:TypeId) (cs:List Value) (x:DataW H×List MemPlace),Bj P N t=true->(∀n∈x.1.weights P t,n<=reachBytes)->DataW.trod enc P w base spare held fuel t cs=some x->
 IW P I ow w N t cs
 |0,_,_,_,_,h,_,_=>by simp[Bj]at h
 |N+1,fuel,t,cs,x,WL,hwt,hx=>by
  have hok':=WL;unfold Bj at WL;unfold IW;simp only[jg];split at WL
  .rename_i ht;obtain⟨b,rfl,_⟩:=DataW.trod_bool ht hx;exact⟨[.bool b],⟨b,rfl⟩,rK (by simp[E']),by simp[Value.oneCell']⟩
  .rename_i k ht;obtain⟨m,rfl,_,hw⟩:=DataW.trod_int ht hx;exact⟨[.int k m],⟨m,rfl,hw⟩,rK (by simp[E']),by simp[Value.oneCell']⟩
  .rename_i ht;obtain⟨s,rfl,rfl,hw⟩:=DataW.trod_string ht hx;exact⟨[.str s.data.toList],⟨_,rfl,hwt _ (by simp[DataW.weights])⟩,rK (by simp[E']),by simp[Value.oneCell']⟩
  .rename_i e ht;simp only[Ba,bne_iff_ne,ne_eq]at WL;rcases open_slice ht hx with⟨rfl,_⟩|⟨a,len,cap,m,n,D,Pl,rfl,hb,hl,hm,hmm,rfl,hi⟩
   .exact⟨[.sl (P.cellsOf e) []],⟨[],rfl,by simp,by simp⟩,rK (by simp only[E'];exact⟨none,0,rfl,by simp,.inl trivial⟩),by simp[Value.oneCell']⟩
   .have hlm:len<=m:=by rw[hmm];split<;>omega
    simp only[DataW.weights,ht]at hwt;have hlen:len*P.bytesOf e<=reachBytes:=by
     have:=hwt _ (List.mem_cons_self ..);simp only[dd,List.length_range]at this;exact jx (Nat.mul_le_mul_right _ (by omega)) this
    have hel:∀i,i<len->∃r:V,(∃cs,jg P N e cs/\r=rowOf (fw P e) cs)/\r.cells.length=P.cellsOf e/\∃Yi,ar I ow w r.cells Yi/\(∀u∈Yi,u.oneCell'=true)/\Yi.length=P.cellsOf e/\
     ∀j,j<P.cellsOf e->w.cell? ((a.add (i*P.cellsOf e)).add j)=Yi[j]?:=by
     intro i hi';obtain⟨Yi,h1,h2⟩:=hi i (by omega);obtain⟨_,XH,Yb⟩:=World.cells?_some h1;obtain⟨vs,h3,h4,h5⟩:=ov Xa N n e Yi _ WL.1 (λq hq=>hwt q (List.mem_cons_of_mem _ (List.mem_append_left _ (nI (gM.2 ⟨i,by simpa using hi',rfl⟩) q hq)))) h2;have hvl:vs.length=P.cellsOf e:=by rw[<-XH,h4.length]
     have hcells:(rowOf (fw P e) vs).cells=vs:=by
      unfold rowOf;split
      .rfl
      .rename_i hna;cases N with
       |zero=>simp[jg]at h3
       |succ N'=>
        unfold jg at h3;split at h3
        .obtain⟨b,rfl⟩:=h3;rfl
        .obtain⟨b,rfl,_⟩:=h3;rfl
        .obtain⟨b,rfl,_⟩:=h3;rfl
        .obtain⟨b,rfl,_⟩:=h3;rfl
        .rename_i hs;exact absurd (uA hs) hna
        .exact h3.elim
     exact⟨rowOf (fw P e) vs,⟨vs,h3,rfl⟩,by rw[hcells,hvl],Yi,by rw[hcells];exact h4,h5,XH,Yb⟩
    obtain⟨rows,hr1,hr2⟩:=FT len hel;refine⟨[.sl (P.cellsOf e) rows],⟨rows,rfl,by rw[hr1];exact hlen,λr hr=>?_⟩,rK ?_,by simp[Value.oneCell']⟩
    .obtain⟨i,hi'⟩:=DE hr;exact(hr2 i r hi').1
    .simp only[E'];refine⟨some a,cap,by rw[hr1],by omega,?_⟩;by_cases h0:len=0
     .left;exact rF (by omega)
     .right;have hfirst:∃r,rows[0]?=some r:=⟨rows[0]'(by omega),by simp⟩
      obtain⟨r0,hr0⟩:=hfirst;obtain⟨_,_,cs0,_,_,hcl0,hat0⟩:=hr2 0 r0 hr0;have hc0:=hat0 0 (by omega);rw[ZF (by omega)]at hc0;have hspot:a.spot=none:=by
       have:=World.cell?_spot hc0;simpa[Addr.add]using this
      obtain⟨b,off,spot⟩:=a;subst hspot;refine⟨b,off,rfl,Xa b,by omega,?_⟩;have:=w8 (I:=I) (ow:=ow) (w:=w) (b:=b) (off:=off) (sz:=P.cellsOf e) rows 0 λi r hri=>?_
      .simpa using this
      .obtain⟨_,h1,Yi,h2,h3,h4,h5⟩:=hr2 i r hri;refine⟨h1,lu h2 h3 λj u hu=>?_⟩;have hj:j<P.cellsOf e:=by rw[<-h4];exact(jn.1 hu).1
       have:=h5 j hj;rw[hu,add_plain,add_plain]at this;rw[iV];exact this
  .rename_i fs ht;simp only[Ba]at WL;obtain⟨xs,n,_,rfl,hl,hxl,hf⟩:=DataW.trod_struct ht hx;simp only[DataW.weights,ht]at hwt;obtain⟨vs,h1,h2,h3⟩:=vY (I:=I) (ow:=ow) (w:=w) (P:=P) (S:=jg P N) (cs:=cs) fs.toList 0 (by rw[hl];exact WL.1) λf hfm=>by
    obtain⟨i,hi⟩:=DE hfm;have hi':fs[i]?=some f:=by simpa using hi
    have H':i<xs.length:=by rw[hxl];exact(oz.1 hi').1
    have h1:=hf i f hi';rw[ZF H']at h1;exact ov Xa N n f.type _ _ (eT.1 WL.2 f hfm) (λq hq=>hwt q (DataW.weights_mem_each (j:=i) (t:=f.type) (d:=(xs[i]'H').1) (by simp[hi]) (by simp[H']) q hq)) h1
   exact⟨vs,h1,by simpa using h2,by simpa using h3⟩
  .cases WL
def ry(P:Program)(t:TypeId)(vs:List V):V:=if fw P t then .agg vs else vs.getD 0 .undef
def Md(Xa:∀b,¬ow b){N:Nat}{t:TypeId}{v:Value}{d:DataW H}{p:List MemPlace}{r:Reach}{b0:Nat}(WL:Bj P N t=true)(hwt:∀n∈d.weights P t,n<=reachBytes)(hval:Value.okWide P w r b0 t v)(h:DataW.Trod enc P w base spare held t v d p):
 ∃vs,jg P N t vs/\E' I ow w (ry P t vs) v:=by
 obtain⟨fuel,hf⟩:=h;obtain⟨vs,h1,h2,h3⟩:=ov (I:=I) Xa N fuel t _ _ WL hwt hf;refine⟨vs,h1,?_⟩;cases N with
 |zero=>simp[jg]at h1
 |succ N'=>
  unfold jg at h1;have Yo:∀u:V,vs=[u]->v.cells=#[v]->fw P t=false->E' I ow w (ry P t vs) v:=by
   rintro u rfl hc ha;rw[hc]at h2;simp only[ar]at h2;obtain⟨x,xs,h4,h5,h6⟩:=h2;simp only[List.cons.injEq]at h4;simp only[ry,ha,fG,if_false];rw[h4.1];exact h5
  split at h1
  .rename_i ht;obtain⟨b,rfl⟩:=h1;obtain⟨x,rfl⟩:=okWide_bool ht hval;exact Yo _ rfl rfl (by simp[fw,ht])
  .rename_i ht;obtain⟨b,rfl,_⟩:=h1;obtain⟨x,rfl⟩:=okWide_int ht hval;exact Yo _ rfl rfl (by simp[fw,ht])
  .rename_i ht;obtain⟨b,rfl,_⟩:=h1;obtain⟨x,rfl⟩:=okWide_string ht hval;exact Yo _ rfl rfl (by simp[fw,ht])
  .rename_i ht;obtain⟨b,rfl,_⟩:=h1;obtain⟨x,y,z,rfl⟩:=okWide_slice ht hval;exact Yo _ rfl rfl (by simp[fw,ht])
  .rename_i ht;obtain⟨cs,rfl,_⟩:=okWide_struct ht hval;simp only[ry,uA ht,if_true,E'];exact⟨cs.toList,by simp,by simpa[Value.cells]using h2,by simpa[Value.cells]using h3⟩
  .exact h1.elim
def Ag(P:Program)(N:Nat):List TypeId->List V->Prop
 |[],us=>us=[]
 |t::ts,us=>∃vs us',us=ry P t vs::us'/\jg P N t vs/\Ag P N ts us'
def A4(Xa:∀b,¬ow b){N:Nat}{r:Reach}{b0:Nat}:∀{ts:List TypeId} {vs:List Value} {ds:List (DataW H)} {p:List MemPlace},(∀t∈ts,Bj P N t=true)->(∀n∈DataW.weightsEach P ts ds,n<=reachBytes)->
 (∀(j:Nat) t v,ts[j]?=some t->vs[j]?=some v->Value.okWide P w r b0 t v)->DataW.TrodAll enc P w base spare held ts vs ds p->∃us,Ag P N ts us/\ar I ow w us vs
 |[],vs,ds,p,_,_,_,h=>by
  cases vs<;>cases ds<;>simp[DataW.TrodAll]at h;exact⟨[],rfl,by simp[ar]⟩
 |t::ts,vs,ds,p,WL,hwt,hval,h=>by
  obtain⟨v,vs',d,ds',p',q,rfl,rfl,rfl,h1,h2⟩:=trodAll_cons h;simp only[DataW.weightsEach,dD]at hwt;obtain⟨cs,g1,g2⟩:=Md (I:=I) (b0:=b0) Xa (WL t (by simp)) (λq hq=>hwt q (.inl hq)) (hval 0 t v rfl rfl) h1;obtain⟨us,g3,g4⟩:=A4 (b0:=b0) Xa (λu hu=>WL u (by simp[hu])) (λq hq=>hwt q (.inr hq)) (λj u x hj hx=>hval (j+1) u x (by simpa using hj) (by simpa using hx)) h2;exact⟨_::us,⟨cs,us,rfl,g1,g3⟩,by simp only[ar];exact⟨v,vs',rfl,g2,g4⟩⟩
def pL(hl:laidOutB P=true):∀{ts:List TypeId} {vs:List Value} {ds:List (DataW H)} {p:List MemPlace} {W W':World} {sp:Nat->Bool},(∀t∈ts,P.readableRec t=true/\t<P.types.size)->
 DataW.TrodAll enc P W 0 (λ_=>true) true ts vs ds p->Below W.heap.size W W'->(∀x∈p,x.block<W.heap.size)->(∀x∈p,sp x.block=true)->DataW.TrodAll enc P W' 0 sp true ts vs ds p
 |[],vs,ds,p,W,W',sp,_,h,_,_,_=>by
  cases vs<;>cases ds<;>simp[DataW.TrodAll]at h|-;exact h
 |t::ts,vs,ds,p,W,W',sp,ht,h,hb,H',hsp=>by
  obtain⟨v,vs',d,ds',p',q,rfl,rfl,rfl,h1,h2⟩:=trodAll_cons h;refine⟨p',q,WideElems.Trod_stays hl (ht t (by simp)).1 (ht t (by simp)).2 h1 (λx hx=>hb.same (H' x (by simp[hx]))) (λx hx=>hsp x (by simp[hx])),?_,rfl⟩;exact pL hl (λu hu=>ht u (by simp[hu])) h2 hb (λx hx=>H' x (by simp[hx])) (λx hx=>hsp x (by simp[hx]))
end
def yp{H:Type}{enc:TypeId×Value->H}{P:Program}{f:Func}{s:ChangeSpec}{apart fresh handsOn again:Bool}{W W':World}{args:Array Value}{v:Value}{ds gs:List (DataW H)}{before pa pv:List MemPlace}
 (hW:DataW.Whole enc P f.params.toList s.vars apart W args.toList ds gs before)
 (hres:∀(b:Nat) (sp:Nat->Bool) (hd:Bool),DataW.TrodAll enc P W' b sp hd f.resultTypes.toList (v.resultList f.resultTypes.size) (s.fn H (ds++gs)).results [])
 (XA:∀sp:Nat->Bool,(∀p∈before,sp p.block=true)->DataW.TrodAll enc P W' 0 sp true f.params.toList args.toList (s.fn H (ds++gs)).args pa)
 (hvars:∀sp:Nat->Bool,(∀p∈before,sp p.block=true)->DataW.TrodVars enc P W' sp s.vars (s.fn H (ds++gs)).vars pv)
 (ZP:before=pa++pv)(hb:Below W.heap.size W W')
 (WL:∀(j:Nat) (t:TypeId) (r:Value),f.resultTypes[j]?=some t->(v.resultList f.resultTypes.size)[j]?=some r->Value.okWide P W' .any 0 t r):
 s.post enc P f apart fresh handsOn again W args v W':=by
 have H':∀p∈before,p.block<W.heap.size:=λp hp=>hW.lt p hp;have hold:∀p∈before,(λb=>decide (b<W.heap.size)) p.block=true:=λp hp=>by simpa using H' p hp
 refine⟨ds,gs,before,[],pa,pv,hW,hres _ _ _,XA _ hold,hvars _ hold,World.keptBut_mono (λp hp=>⟨hp,?_⟩) (hb.frame (·∈before)),λ_=>?_⟩
 .rw[ZP,dD]at hp;exact Or.inr hp
 .obtain⟨_,_,_,_,_,hz,hn⟩:=hW;refine⟨WL,_,_,([]++pa)++pv,⟨[]++pa,pv,trodAll_append (XA _ (λ_ _=>rfl)) (hres _ _ _),hvars _ (λ_ _=>rfl),rfl,?_,?_⟩,?_⟩
  .intro b off hp;have hin:MemPlace.cell b off∈before:=by rw[ZP];simpa using hp
   rw[hb.frozen (H' _ hin)];exact hz b off hin
  .intro ha;have:=hn ha;rw[ZP]at this;simpa using this
  .intro p hp _;rw[ZP];simpa using hp
def IC{H:Type}{enc:TypeId×Value->H}{P:Program}{f:Func}{i:FuncId}{s:ChangeSpec}{N:Nat}(Yu:P.funcs[i]?=some f)(hl:laidOutB P=true)
 (hts:f.params.toList.all (λt=>Bj P N t&&(P.readableRec t&&decide (t<P.types.size)))=true)(hvars:s.vars=[]){tb:TypeId}(hres:f.resultTypes=#[tb])(htb:P.underlying tb=some .bool)
 (hfn:∀ds,ds.length=f.params.size->s.fn H ds=⟨[.lit (.bool true)],ds,[]⟩)
 (hlaw:∀us,Ag P N f.params.toList us->aK P i us (.bool true))
 {apart fresh handsOn again:Bool}{W:World}{base:Nat}{args:Array Value}{ds gs:List (DataW H)}{before:List MemPlace}
 (hval:∀(j:Nat) t v,f.params[j]?=some t->args[j]?=some v->Value.okWide P W .any base t v)
 (hW:DataW.Whole enc P f.params.toList s.vars apart W args.toList ds gs before)(hvt:s.plain.varTypes P=[])
 (Zb:(DataW.weightsEach P (f.params.toList++s.plain.varTypes P) (ds++gs)).all (·<=reachBytes)=true)(hO:RU W):
 Calls P i args W λe W'=>∃v,e=.returned v/\s.post enc P f apart fresh handsOn again W args v W':=by
 have hW':=hW;obtain⟨p,q,hA,hV,rfl,hfz,YK⟩:=hW;have hts':=eT.1 hts;simp only[Ba,Zs]at hts';rw[hvars]at hV;have hnoV:gs=[]/\q=[]:=by
  cases gs with
  |nil=>exact⟨rfl,by simpa[DataW.TrodVars]using hV⟩
  |cons g gs=>simp[DataW.TrodVars]at hV
 obtain⟨rfl,rfl⟩:=hnoV;have Xa:∀b,¬az (λ_=>Pl.dC) kY b:=λb ⟨_,_,_,_,h,_⟩=>by simp[kY]at h
 obtain⟨us,hsh,Zn⟩:=A4 (I:=λ_=>Pl.dC) (ow:=az (λ_=>Pl.dC) kY) (b0:=base) (r:=.any) Xa (λt ht=>(hts' t ht).1)
  (by rw[hvt,lO,lO]at Zb;intro n hn;simpa using eT.1 Zb n hn) (λj t v hj hv=>hval j t v (by simpa using hj) (by simpa using hv)) hA
 have Zm:Sat W (az (λ_=>Pl.dC) kY) (λ_=>Pl.dC) kY W:=
  ⟨Xm _,rfl,rfl,rfl,λ_ _ _=>rfl,⟨0,λ_ _=>rfl⟩,λ_ _ _ _ _ _ _ _ _ h=>by simp[kY]at h,λ_ _ h=>by simp[kY]at h,λb hb=>(Xa b hb).elim,⟨W,hO,Xm _,λi _=>⟨Xa i,rfl⟩⟩⟩
 have Yz:=(hlaw us hsh kY).2 (λ_=>Pl.dC) W args.toList Zm Zn;rw[Array.toArray_toList]at Yz;refine Yz.mono ?_;rintro e W' ⟨r,Z',Y',val,rfl,⟨rfl,rfl⟩,_,WT,hr⟩;simp only[E']at hr;subst hr;have hbel:Below W.heap.size W W':=⟨WT.os,WT.tape,WT.output,WT.size,λk hk=>WT.same k hk (Xa k)⟩
 have hlen:ds.length=f.params.size:=by
  have key:∀{ts:List TypeId} {vs:List Value} {ds:List (DataW H)} {p:List MemPlace},DataW.TrodAll enc P W 0 (λ_=>true) true ts vs ds p->ds.length=ts.length:=by
   intro ts
   induction ts with
   |nil=>intro vs ds p h;cases vs<;>cases ds<;>simp[DataW.TrodAll]at h|-
   |cons t ts ih=>
    intro vs ds p h;obtain⟨_,_,_,_,_,_,_,rfl,_,_,h2⟩:=trodAll_cons h;simp[ih h2]
  simpa using key hA
 have hfn':=hfn ds hlen;refine⟨.bool true,rfl,yp (pa:=p) (pv:=[]) hW' ?_ ?_ ?_ rfl hbel ?_⟩
 .intro b sp hd;rw[lO,hfn',hres];exact⟨[],[],shut_bool htb _,rfl,rfl⟩
 .intro sp hsp;rw[lO,hfn'];refine pL hl (λt ht=>(hts' t ht).2) hA hbel (λx hx=>by simpa using hW'.lt x (by simpa using hx)) (λx hx=>hsp x (by simpa using hx))
 .intro sp _;rw[lO,hfn',hvars];rfl
 .exact ok_one hres rfl (okWide_bool_mk htb _)
open Go.Proofs Go.Proofs.Tryz
def Ah{α:Type}{f:α->V}{p:α->Prop}:∀{rows:List V},(∀r∈rows,∃x,r=f x/\p x)->∃l:List α,rows=l.map f/\∀x∈l,p x
 |[],_=>⟨[],rfl,by simp⟩
 |r::rs,h=>by
  obtain⟨x,rfl,hx⟩:=h r (by simp);obtain⟨l,rfl,hl⟩:=Ah λq hq=>h q (List.mem_cons_of_mem _ hq);exact⟨x::l,rfl,by simpa using⟨hx,hl⟩⟩
def inI(m:Int):Prop:=-9223372036854775808<=m/\m<=9223372036854775807
def YA.inI(s:YA):Prop:=Vc.inI s.top/\Vc.inI s.W3/\Vc.inI s.WU/\Vc.inI s.WI/\Vc.inI s.XO/\Vc.inI s.Xj/\Vc.inI s.Xt/\Vc.inI s.head/\Vc.inI s.before/\Vc.inI s.after/\Vc.inI s.inside/\Vc.inI s.clear
def Nd.real(x:Nd):Prop:=(Vc.inI x.kind/\Vc.inI x.size/\x.st.inI/\Vc.inI x.line/\Vc.inI x.space/\Vc.inI x.side/\Vc.inI x.w/\Vc.inI x.h)/\x.words.length<=17592186043904/\∀n∈x.words,Vc.inI n
section
variable {P:Program} {n:Nat} {t:TypeId} {vs:List V}
def Kq{k:IntKind}(ht:P.underlying t=some (.int k))(h:jg P (n+1) t vs):∃m,vs=[.int k m]/\(Lit.int k m).wf=true:=by
 simpa only[jg,ht]using h
def xO{e:TypeId}(ht:P.underlying t=some (.slice e))(h:jg P (n+1) t vs):∃rows,vs=[.sl (P.cellsOf e) rows]/\rows.length*P.bytesOf e<=reachBytes/\∀r∈rows,∃cs,jg P n e cs/\r=rowOf (fw P e) cs:=by
 simpa only[jg,ht]using h
def uz{fs:Array Field}(ht:P.underlying t=some (.struct fs))(h:jg P (n+1) t vs):zx (jg P n) fs.toList vs:=by
 simpa only[jg,ht]using h
end
def L6:prog.cellsOf 3=1:=by kernel_rfl
def Im:prog.cellsOf 59=20:=by kernel_rfl
def M8:fw prog 3=false:=by kernel_rfl
def OQ:fw prog 22=false:=by kernel_rfl
def Qs:fw prog 59=true:=by kernel_rfl
def MR:prog.bytesOf 3=8:=by kernel_rfl
def IB:prog.bytesOf 59=176:=by kernel_rfl
def dn{n:Nat}{vs:List V}(h:jg prog (n+1) 3 vs):∃m,vs=[vI m]/\inI m:=by
 obtain⟨m,h,hw⟩:=Kq underlying3 h;exact⟨m,h,by simp[Lit.wf,IntKind.min,IntKind.max,IntKind.signed,IntKind.bits]at hw;unfold inI;omega⟩
def JJ{n:Nat}{vs:List V}(h:jg prog (n+2) 57 vs):∃l,vs=[bb l]/\l.length<=17592186043904/\∀n∈l,inI n:=by
 obtain⟨rows,rfl,hl,h⟩:=xO underlying57 h;obtain⟨l,rfl,hp⟩:=Ah (f:=vI) (p:=inI) λr hr=>by
  obtain⟨cs,hc,rfl⟩:=h r hr;obtain⟨m,rfl,hm⟩:=dn hc;exact⟨m,by rw[M8];rfl,hm⟩
 rw[MR]at hl;simp only[dd,reachBytes]at hl;exact⟨l,by rw[L6];rfl,by omega,hp⟩
def GJ{n:Nat}{vs:List V}(h:jg prog (n+2) 56 vs):∃s:YA,vs=s.cells/\s.inI:=by
 replace h:=uz underlying56 h;simp only[zx]at h;obtain⟨_,_,rfl,h1,_,_,rfl,h2,_,_,rfl,h3,_,_,rfl,h4,_,_,rfl,h5,_,_,rfl,h6,_,_,rfl,h7,_,_,rfl,h8,_,_,rfl,h9,_,_,rfl,h10,_,_,rfl,h11,_,_,rfl,h12,rfl⟩:=h;obtain⟨m1,rfl,g1⟩:=dn h1;obtain⟨m2,rfl,g2⟩:=dn h2;obtain⟨m3,rfl,g3⟩:=dn h3;obtain⟨m4,rfl,g4⟩:=dn h4;obtain⟨m5,rfl,g5⟩:=dn h5;obtain⟨m6,rfl,g6⟩:=dn h6;obtain⟨m7,rfl,g7⟩:=dn h7;obtain⟨m8,rfl,g8⟩:=dn h8;obtain⟨m9,rfl,g9⟩:=dn h9;obtain⟨m10,rfl,g10⟩:=dn h10;obtain⟨m11,rfl,g11⟩:=dn h11;obtain⟨m12,rfl,g12⟩:=dn h12;exact⟨⟨m1,m2,m3,m4,m5,m6,m7,m8,m9,m10,m11,m12⟩,rfl,g1,g2,g3,g4,g5,g6,g7,g8,g9,g10,g11,g12⟩
def Jt{n:Nat}{vs:List V}(h:jg prog (n+3) 59 vs):∃x:Nd,vs=x.cells/\x.real:=by
 replace h:=uz underlying59 h;simp only[zx]at h;obtain⟨_,_,rfl,h1,_,_,rfl,h2,_,_,rfl,h3,_,_,rfl,h4,_,_,rfl,h5,_,_,rfl,h6,_,_,rfl,h7,_,_,rfl,h8,_,_,rfl,h9,rfl⟩:=h;obtain⟨m1,rfl,g1⟩:=dn h1;obtain⟨m2,rfl,g2⟩:=dn h2;obtain⟨s,rfl,g3⟩:=GJ h3;obtain⟨m4,rfl,g4⟩:=dn h4;obtain⟨m5,rfl,g5⟩:=dn h5;obtain⟨ws,rfl,g6,g6'⟩:=JJ h6;obtain⟨m7,rfl,g7⟩:=dn h7;obtain⟨m8,rfl,g8⟩:=dn h8;obtain⟨m9,rfl,g9⟩:=dn h9;exact⟨⟨m1,m2,s,m4,m5,ws,m7,m8,m9⟩,rfl,⟨g1,g2,g3,g4,g5,g7,g8,g9⟩,g6,g6'⟩
def Gz{n:Nat}{vs:List V}(h:jg prog (n+4) 22 vs):∃l,vs=[aC l]/\l.length<=800000000000/\∀x∈l,x.real:=by
 obtain⟨rows,rfl,hl,h⟩:=xO underlying22 h;obtain⟨l,rfl,hp⟩:=Ah (f:=jE) (p:=Nd.real) λr hr=>by
  obtain⟨cs,hc,rfl⟩:=h r hr;obtain⟨x,rfl,hx⟩:=Jt hc;exact⟨x,by rw[Qs];rfl,hx⟩
 rw[IB]at hl;simp only[dd,reachBytes]at hl;exact⟨l,by rw[Im];rfl,by omega,hp⟩
def zp{n:Nat}{vs:List V}(h:jg prog (n+4) 22 vs):∃l,ry prog 22 vs=aC l/\l.length<=800000000000/\∀x∈l,x.real:=by
 obtain⟨l,rfl,h1,h2⟩:=Gz h;exact⟨l,by unfold ry;rw[OQ];rfl,h1,h2⟩
open Go.Proofs Go.Proofs.Tryz
def ou(l:List Nd):∀(m a e:Nat),e-a<m->e<=l.length->bW l a e=true->∀k,a<=k->(h:k<e)->(h2:k<l.length)->bW l (k+1) (k+l[k].size.toNat)=true
 |0,_,_,h,_,_=>by omega
 |m+1,a,e,hm,he,hr=>by
  intro k hk hke h2;have hae:a<e:=by omega
  have ha:a<l.length:=by omega
  rw[bW,dif_pos hae]at hr;have hga:l[a]?=some l[a]:=by simp[ha]
  rw[hga]at hr;simp only at hr;split at hr
  .rename_i hx;simp only[Ba]at hr;obtain⟨⟨h3,h4⟩,h5⟩:=hr;by_cases hka:k=a
   .subst hka;exact h4
   .by_cases hin:k<a+l[a].size.toNat
    .exact ou l m (a+1) (a+l[a].size.toNat) (by omega) (by omega) h4 k (by omega) hin h2
    .exact ou l m (a+l[a].size.toNat) e (by omega) he h5 k (by omega) hke h2
  .cases hr
def Ya(x:Nd):Int:=if x.kind=1 then x.st.top+x.st.W3+x.st.WU+x.st.WI+x.st.head else if x.kind=2 then x.line*x.words.length else x.h
def pof(x:Nd):Int:=if x.kind=1 then 0 else if x.kind=2 then x.words.length else 1
def j3:List Nd->Int
 |[]=>0
 |x::l=>Ya x+j3 l
def lI:List Nd->Int
 |[]=>0
 |x::l=>pof x+lI l
def Dc(a b:List Nd):j3 (a++b)=j3 a+j3 b:=by
 induction a with
 |nil=>simp[j3]
 |cons x a ih=>simp only[List.cons_append,j3,ih];omega
def Di(a b:List Nd):lI (a++b)=lI a+lI b:=by
 induction a with
 |nil=>simp[lI]
 |cons x a ih=>simp only[List.cons_append,lI,ih];omega
def xT{x:Nd}(h:x.ok=true):0<=Ya x:=by
 obtain⟨p1,p2,p3,p4,p5,p6⟩:=kI h;unfold Ya;split
 .rename_i hk;obtain⟨q1,q2,q3,q4,q5⟩:=p6 hk;omega
 .split
  .exact Int.mul_nonneg p2 (by omega)
  .exact p4
def BD{l:List Nd}(h:l.all Nd.ok=true):0<=j3 l:=by
 induction l with
 |nil=>simp[j3]
 |cons x l ih=>
  simp only[oe,Ba]at h;have:=xT h.1;have:=ih h.2;simp only[j3];omega
def dm(l:List Nd):Nat->Int
 |0=>0
 |i+1=>match l[i]? with
  |some x=>if x.kind=1 then max (dm l i) (jt l i (i+1))else dm l i
  |none=>dm l i
def Ke{l:List Nd}{i:Nat}{x:Nd}{s:Sm}(hx:x.ok=true)(hs:0<=s.WH/\s.WH<=1099511627777):(qh l i x s).WH=min (s.WH+Ya x) 1099511627777/\(qh l i x s).pieces=s.pieces+pof x/\
 (qh l i x s).depth=(if x.kind=1 then max s.depth (jt l i (i+1))else s.depth)/\(qh l i x s).nodes=s.nodes:=by
 obtain⟨p1,p2,p3,p4,p5,p6⟩:=kI hx;unfold qh Ya pof;by_cases hk:x.kind=1
 .obtain⟨q1,q2,q3,q4,q5⟩:=p6 hk;simp only[hk,if_true,kN];refine⟨by omega,by omega,trivial,trivial⟩
 .by_cases ZO:x.kind=2
  .rw[ao hk,aq ZO,ao hk,aq ZO,ao hk,aq ZO,ao hk];simp only[];refine⟨vm hs p2 _,trivial,trivial,trivial⟩
  .rw[ao hk,ao ZO,ao hk,ao ZO,ao hk,ao ZO,ao hk];exact⟨rfl,rfl,rfl,rfl⟩
def vZ(l:List Nd)(WL:l.all Nd.ok=true):∀i,i<=l.length->(ij l ⟨0,0,l.length,0⟩ i)=⟨dm l i,lI (l.take i),l.length,min (j3 (l.take i)) 1099511627777⟩
 |0,_=>by simp[ij,dm,lI,j3];omega
 |i+1,hi=>by
  have ih:=vZ l WL i (by omega);have hg:l[i]?=some l[i]:=by simp[show i<l.length by omega]
  have hx:=eT.1 WL _ (XI (show i<l.length by omega));have ht:l.take (i+1)=l.take i++[l[i]]:=ZS (by omega);have hn:0<=j3 (l.take i):=BD (eT.2 λx hx=>eT.1 WL x (qp hx));have hh:=xT hx;simp only[ij,hg,ih];obtain⟨g1,g2,g3,g4⟩:=Ke (l:=l) (i:=i) (s:=⟨dm l i,lI (l.take i),l.length,min (j3 (l.take i)) 1099511627777⟩) hx ⟨by simp only;omega,by simp only;omega⟩;generalize qh l i l[i] ⟨dm l i,lI (l.take i),l.length,min (j3 (l.take i)) 1099511627777⟩=r at*;obtain⟨r1,r2,r3,r4⟩:=r;simp only at g1 g2 g3 g4;subst g1 g2 g3 g4;simp only[dm,hg,ht,Di,Dc,lI,j3,Sm.mk.injEq,Int.add_zero,true_and];omega
open Go.Proofs Go.Proofs.Tryz
def V.flat:V->Bool
 |.agg vs=>vs.all V.lone
 |v=>v.lone
def V.Fp:V->Bool
 |.WJ vs=>vs.all V.flat
 |v=>v.flat
def ar.lone{I Y':Mu}{ow Zu:Nat->Prop}{w w':World}:∀{vs:List V} {l:List Value},vs.all V.lone=true->ar I ow w vs l->ar Y' Zu w' vs l
 |[],l,_,h=>by simpa[ar]using h
 |v::vs,l,hv,h=>by
  simp only[oe,Ba]at hv;simp only[ar]at h|-;obtain⟨x,xs,rfl,h1,h2⟩:=h;exact⟨x,xs,rfl,E'.lone hv.1 h1,ar.lone hv.2 h2⟩
def E'.flat{I Y':Mu}{ow Zu:Nat->Prop}{w w':World}{v:V}{x:Value}(hv:v.flat=true)(h:E' I ow w v x):E' Y' Zu w' v x:=by
 cases v<;>try exact E'.lone hv h
 rename_i vs;simp only[E']at h|-;obtain⟨WO,rfl,h1,h2⟩:=h;exact⟨WO,rfl,ar.lone hv h1,h2⟩
def ar.flat{I Y':Mu}{ow Zu:Nat->Prop}{w w':World}:∀{vs:List V} {l:List Value},vs.all V.flat=true->ar I ow w vs l->ar Y' Zu w' vs l
 |[],l,_,h=>by simpa[ar]using h
 |v::vs,l,hv,h=>by
  simp only[oe,Ba]at hv;simp only[ar]at h|-;obtain⟨x,xs,rfl,h1,h2⟩:=h;exact⟨x,xs,rfl,E'.flat hv.1 h1,ar.flat hv.2 h2⟩
def E'.Fp{I Y':Mu}{ow Zu:Nat->Prop}{w w':World}{v:V}{x:Value}(hv:v.Fp=true)(h:E' I ow w v x):E' Y' Zu w' v x:=by
 cases v<;>try exact E'.flat hv h
 rename_i vs;simp only[E']at h|-;obtain⟨WO,rfl,h1⟩:=h;exact⟨WO,rfl,ar.flat hv h1⟩
def aK.xV{P:Program}{f:FuncId}{args args':List V}{v:V}{U:ag}(hw:WkL U kY args args')(h:aK P f args' v)(hv:v.Fp=true):
 ax P f args U λr Z'=>r=v/\Z'=U:=by
 refine⟨(h kY).1,?_⟩;intro I w WO hs hr;have W9:Sat w (az I kY) I kY w:=by
  have:=hs.drop (re U);exact⟨Xm _,rfl,rfl,rfl,λ_ _ _=>rfl,this.fin,this.inj,this.obj,λb hb _=>hb,this.rU⟩
 refine((h kY).2 I w WO W9 (WkL.all hs hw hr)).mono ?_;rintro e w' ⟨r,Z',Y',val,rfl,⟨rfl,rfl⟩,hle,WT,Zn⟩;have Xa:∀b,¬az I kY b:=λb ⟨_,_,_,_,h,_⟩=>by simp[kY]at h
 have Zj:∀b,b<w.heap.size->w'.heap[b]?=w.heap[b]?:=λb hb=>WT.same b hb (Xa b);have hborn:∀id o,U id=some o->Y' id=I id:=λid o ho=>hle id (λe=>by
  have:=hs.obj id o ho;rw[e]at this;exact this)
 have hown:∀b,az Y' U b->az I U b:=λb ⟨id,o,sz,cap,h1,h2⟩=>⟨id,o,sz,cap,h1,hborn id o h1▸h2⟩
 have hk:cM (az I U) (az Y' U) w w':=λb hb hn=>⟨λho=>hn (hown b ho),Zj b hb⟩
 refine⟨_,U,Y',val,rfl,⟨rfl,rfl⟩,hle,?_,E'.Fp hv Zn⟩;refine⟨WT.size,WT.os,WT.tape,WT.output,λb hb _=>Zj b hb,WT.fin,?_,?_,λb hb _=>hown b hb,hs.glob⟩
 .intro id YQ o o' b sz cap sz' Yw h1 h2 h3 h4;exact hs.inj id YQ o o' b sz cap sz' Yw h1 h2 (hborn id o h1▸h3) (hborn YQ o' h2▸h4)
 .intro id o ho;rw[hborn id o ho];refine(hs.obj id o ho).mono hle hk WT.size λb sz cap hp=>Zj b ?_;exact az.lt hs ⟨id,o,sz,cap,ho,hp⟩
open Go.Proofs Go.Proofs.Tryz
def cL{l:List Nd}{a e:Nat}(he:e<=l.length)(h:bW l a e=true){k:Nat}(h1:a<=k)(h2:k<e):(k:Int)+Xl l k<=e/\1<=Xl l k:=by
 have:=jf l (e-a+1) a e (by omega) he h k h1 h2 (by omega);rw[mR (by omega)];omega
def dB{l:List Nd}{a e:Nat}(he:e<=l.length)(h:bW l a e=true)(hae:a<e):bW l (a+(Xl l a).toNat) e=true/\bW l (a+1) (a+(Xl l a).toNat)=true:=by
 have ha:a<l.length:=by omega
 rw[bW,dif_pos hae]at h;simp only[ZF ha]at h;rw[mR ha];split at h
 .simp only[Ba]at h;exact⟨h.2,h.1.2⟩
 .cases h
open Go.Proofs Go.Proofs.Tryz
def DN(l:List Nd)(hl:cT l)(hb:Xw l=true):aK prog 161 [aC l] (.agg [aC l]):=λU=>by
 refine Wl.r (by simp[Q2]) ?_;refine ab.mix 3 ?_;apply sR;simp only[go_sem,seval,Q2];refine ad λid2 Z1 s1 a2 f2=>?_;simp only[go_sem,seval];refine ab.au rfl rfl rfl (FM l hl _) ?_;apply sR;simp only[go_sem,seval,hb,a2,aC];refine ak.pure (s1.av f2) rfl
def Qt(l:List Nd)(a:Int):aK prog 261 [aC l,vI a] (.bool (xX l a)):=λU=>by
 refine VK.r (by simp[RG]) ?_;refine ab.mix 6 ?_;apply sR;simp only[go_sem,seval,RG,fj];refine And.intro (λh=>?_) (λh=>?_)
 .refine ak.same ?_;simp[xX];omega
 .refine ak.same ?_;simp[xX];omega
def yH(l:List Nd)(hl:cT l)(hb:Xw l=true)(a:Nat)(ha:a<l.length):aK prog 262 [aC l,vI a] (vI (eM l a)):=λU=>by
 have hl1:=hl.1;refine TK.r (by simp[P9]) ?_;refine ab.mix 6 ?_;apply sR;simp only[go_sem,seval,P9];refine⟨ai,?_⟩;refine ab.loop (λm st=>∃(k:Nat),k<=a/\m=k/\eM l a=uO l a k/\st.U=U/\st.s 0=aC l/\st.s 1=vI a/\st.s 5=vI ((k:Int)-1)) a ?_ ?_
 .exact⟨a,by omega,rfl,rfl,rfl,rfl,rfl,rfl⟩
 .rintro m ⟨s,Z'⟩ ⟨k,hk,rfl,heq,W4,h0,h1,h5⟩;simp only at W4 h0 h1 h5;subst W4;refine ab.mix 6 ?_;apply sR;simp only[go_sem,seval,h0,h1,h5];refine And.intro (λh=>?_) (λh=>?_)
  .obtain⟨k,rfl⟩:∃j,m=j+1:=⟨m-1,by omega⟩
   have e1:((k+1:Nat):Int)-1=k:=by omega
   have H':k<l.length:=by omega
   have Zb:=si hb H';have hse:=mR H';have hx:=nZ (U:=Z') H';simp only[go_sem,seval,e1,hx,Nd.cells,h0,h1,h5];rw[<-hse];refine⟨ai,And.intro (λhc=>?_) (λhc=>?_)⟩
   .refine ak.same ?_;rw[heq,uO,aq];simp only[iF,Ba,Zs,xX];simp;omega
   .refine⟨ai,_,?_,k,by omega,rfl,?_,rfl⟩
    .omega
    .rw[heq,uO,ao];simp only[iF,Ba,Zs,xX];simp;omega
  .have hk0:m=0:=by omega
   subst hk0;refine ak.same ?_;rw[heq];rfl
end Go.Vc
