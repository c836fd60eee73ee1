/- Part 6 of the library of this proof. -/
import Derived.Test.YthlfggpepphopaaGreatW5
import Derived.WalkKit
import Derived.ProofKit
import Derived.Deep.Slices
import Derived.ChangeArms
import Derived.WideKeyArgs
import Derived.Carry
import Derived.SizedLaws
set_option linter.all false
set_option maxRecDepth 100000
namespace Go.Vc
open Go.ChangeShapes Go.WideShapes Go.RowKit Go.Deep
def sx (P:Program) (total:Nat):Nat→List Field→Bool
 | off,[]=>off == total
 | off,f::fs=>f.offset == off && sx P total (off+P.cellsOf f.type) fs
def yR (P:Program):Nat→TypeId→Bool
 | 0,_=>false
 | n+1,t=>match P.underlying t with
   | some .bool | some (.int _) | some .string=>true
   | some (.slice e)=>yR P n e && P.cellsOf e != 0
   | some (.struct fs)=>sx P (P.cellsOf t) 0 fs.toList && fs.toList.all fun f=>yR P n f.type
   | _=>false
def rowOf (agg:Bool) (cs:List V):V:=if agg then .agg cs else cs.getD 0 .undef
def uY (S:TypeId→List V→Prop):List Field→List V→Prop
 | [],vs=>vs=[]
 | f::fs,vs=>∃a b,vs=a++b∧S f.type a∧uY S fs b
def gU (P:Program):Nat→TypeId→List V→Prop
 | 0,_,_=>False
 | n+1,t,vs=>match P.underlying t with
   | some .bool=>∃b,vs=[.bool b]
   | some (.int k)=>∃m,vs=[.int k m]∧(Lit.int k m).wf=true
   | some .string=>∃s:List UInt8,vs=[.str s]∧s.length≤reachBytes
   | some (.slice e)=>∃rows,vs=[.sl (P.cellsOf e) rows]∧rows.length*P.bytesOf e≤reachBytes∧∀r∈rows,∃cs,gU P n e cs∧r=rowOf (eN P e) cs
   | some (.struct fs)=>uY (gU P n) fs.toList vs
   | _=>False
theorem BR {α:Type} {Pr:Nat→α→Prop}:∀n,(∀i,i < n→∃r,Pr i r)→∃rows:List α,rows.length=n∧∀i r,rows[i]?=some r→Pr i r
 | 0,_=>⟨[],rfl,fun i r h=>by simp at h⟩
 | n+1,h=>by
   obtain ⟨rows,h1,h2⟩:=BR n fun i hi=>h i (by omega);obtain ⟨r,hr⟩:=h n (by omega);refine ⟨rows++[r],by simp [h1],fun i x hx=>?_⟩;rw [List.getElem?_append] at hx;split at hx
   ·exact h2 i x hx
   ·rename_i hi;have:i - rows.length=0:=by
     rcases Nat.eq_zero_or_pos (i - rows.length) with h0 | h0
     ·exact h0
     ·rw [List.getElem?_eq_none (by simp; omega)] at hx; cases hx
    rw [this] at hx;simp at hx;subst hx;have:i=n:=by omega
    subst this;exact hr
theorem tr {μ:Mu} {ow:Nat→Prop} {w:World} {b off sz:Nat}:∀(rows:List V) (k:Nat),(∀i r,rows[i]?=some r→r.cells.length=sz∧aP μ ow w r.cells b (off+(k+i)*sz))→aX μ ow w rows b (off+k*sz) sz
 | [],_,_=>by simp [aX]
 | r::rs,k,h=>by
   have h0:=h 0 r rfl;simp only [aX];refine ⟨h0.1,by rw [dF]; simpa using h0.2,?_⟩;have e:off+k*sz+sz=off+(k+1)*sz:=by rw [Nat.add_mul]; omega
   rw [e];refine tr rs (k+1) fun i x hx=>?_;have:=h (i+1) x (by simpa using hx);rw [show k+1+i=k+(i+1) by omega];exact this
section
variable {H:Type} {enc:TypeId×Value→H} {P:Program} {w:World} {base:Nat} {spare:Nat→Bool} {held:Bool} {μ:Mu} {ow:Nat→Prop}
def Fe (P:Program) (μ:Mu) (ow:Nat→Prop) (w:World) (N:Nat) (t:TypeId) (cs:List Value):Prop :=
 ∃vs,gU P N t vs∧au μ ow w vs cs∧∀u∈cs,u.oneCell'=true
theorem rX {S:TypeId→List V→Prop} {cs:List Value}:∀(fs:List Field) (off:Nat),sx P cs.length off fs=true →
 (∀f∈fs,∃vs,S f.type vs∧au μ ow w vs ((cs.drop f.offset).take (P.cellsOf f.type))∧∀u∈(cs.drop f.offset).take (P.cellsOf f.type),u.oneCell'=true) →
 ∃vs,uY S fs vs∧au μ ow w vs (cs.drop off)∧∀u∈cs.drop off,u.oneCell'=true
 | [],off,hc,_=>by
   simp only [sx,beq_iff_eq] at hc;refine ⟨[],rfl,?_,?_⟩
   ·rw [List.drop_eq_nil_of_le (by omega)]; simp [au]
   ·rw [List.drop_eq_nil_of_le (by omega)]; simp
 | f::fs,off,hc,h=>by
   simp only [sx,Ba,beq_iff_eq] at hc;obtain ⟨a,h1,h2,h3⟩:=h f (by simp);obtain ⟨b,h4,h5,h6⟩:=rX fs (off+P.cellsOf f.type) hc.2 fun g hg=>h g (by simp [hg]);rw [hc.1] at h2 h3;have e:cs.drop off=(cs.drop off).take (P.cellsOf f.type)++cs.drop (off+P.cellsOf f.type):=by
    rw [←List.drop_drop,List.take_append_drop]
   refine ⟨a++b,⟨a,b,rfl,h1,h4⟩,?_,?_⟩
   ·rw [e]; exact h2.append h5
   ·rw [e]; intro u hu;rcases List.mem_append.1 hu with hu | hu
    ·exact h3 u hu
    ·exact h6 u hu
theorem oM {v:V} {x:Value} (h:Rep μ ow w v x):au μ ow w [v] [x]:=by simp only [au]; exact ⟨x,[],rfl,h,rfl⟩
theorem qs {t:TypeId} {fs:Array Field} (h:P.underlying t=some (.struct fs)):eN P t=true:=by simp [eN,h]
theorem lL {e:TypeId} {d:DataW H}:∀ {l:List (DataW H)},d∈l→∀n∈d.weights P e,n∈DataW.weightsAll P e l
 | [],h,_,_=>by simp at h
 | x::l,h,n,hn=>by
   simp only [DataW.weightsAll,List.mem_append];rcases List.mem_cons.1 h with rfl | h
   ·exact .inl hn
   ·exact .inr (lL h n hn)
theorem kX (hno:∀b,¬ow b):∀(N:Nat) (fuel:Nat) (t:TypeId) (cs:List Value) (x:DataW H×List MemPlace),yR P N t=true→(∀n∈x.1.weights P t,n≤reachBytes)→DataW.trod enc P w base spare held fuel t cs=some x →
 Fe P μ ow w N t cs
 | 0,_,_,_,_,h,_,_=>by simp [yR] at h
 | N+1,fuel,t,cs,x,hok,hwt,hx=>by
   have hok':=hok;unfold yR at hok;unfold Fe;simp only [gU];split at hok
   ·rename_i ht;obtain ⟨b,rfl,_⟩:=DataW.trod_bool ht hx;exact ⟨[.bool b],⟨b,rfl⟩,oM (by simp [Rep]),by simp [Value.oneCell']⟩
   ·rename_i k ht;obtain ⟨m,rfl,_,hw⟩:=DataW.trod_int ht hx;exact ⟨[.int k m],⟨m,rfl,hw⟩,oM (by simp [Rep]),by simp [Value.oneCell']⟩
   ·rename_i ht;obtain ⟨s,rfl,rfl,hw⟩:=DataW.trod_string ht hx;exact ⟨[.str s.data.toList],⟨_,rfl,hwt _ (by simp [DataW.weights])⟩,oM (by simp [Rep]),by simp [Value.oneCell']⟩
   ·rename_i e ht;simp only [Ba,bne_iff_ne,ne_eq] at hok;rcases open_slice ht hx with ⟨rfl,_⟩ | ⟨a,len,cap,m,n,D,Pl,rfl,hb,hl,hm,hmm,rfl,hi⟩
    ·exact ⟨[.sl (P.cellsOf e) []],⟨[],rfl,by simp,by simp⟩,oM (by simp only [Rep]; exact ⟨none,0,rfl,by simp, .inl trivial⟩),by simp [Value.oneCell']⟩
    ·have hlm:len≤m:=by rw [hmm]; split <;> omega
     simp only [DataW.weights,ht] at hwt;have hlen:len*P.bytesOf e≤reachBytes:=by
      have:=hwt _ (List.mem_cons_self ..);simp only [List.length_map,List.length_range] at this;exact Nat.le_trans (Nat.mul_le_mul_right _ (by omega)) this
     have hel:∀i,i < len→∃r:V,(∃cs,gU P N e cs∧r=rowOf (eN P e) cs)∧r.cells.length=P.cellsOf e∧∃cs',au μ ow w r.cells cs'∧(∀u∈cs',u.oneCell'=true)∧cs'.length=P.cellsOf e ∧
      ∀j,j < P.cellsOf e→w.cell? ((a.add (i*P.cellsOf e)).add j)=cs'[j]?:=by
      intro i hi';obtain ⟨cs',h1,h2⟩:=hi i (by omega);obtain ⟨_,hcl,hat⟩:=World.cells?_some h1;obtain ⟨vs,h3,h4,h5⟩:=kX hno N n e cs' _ hok.1 (fun q hq=>hwt q (List.mem_cons_of_mem _ (List.mem_append_left _ (lL (List.mem_map.2 ⟨i,by simpa using hi',rfl⟩) q hq)))) h2;have hvl:vs.length=P.cellsOf e:=by rw [←hcl,h4.length]
      have hcells:(rowOf (eN P e) vs).cells=vs:=by
       unfold rowOf;split
       ·rfl
       ·rename_i hna;cases N with
        | zero=>simp [gU] at h3
        | succ N' =>
          unfold gU at h3;split at h3
          ·obtain ⟨b,rfl⟩:=h3; rfl
          ·obtain ⟨b,rfl,_⟩:=h3; rfl
          ·obtain ⟨b,rfl,_⟩:=h3; rfl
          ·obtain ⟨b,rfl,_⟩:=h3; rfl
          ·rename_i hs; exact absurd (qs hs) hna
          ·exact h3.elim
      exact ⟨rowOf (eN P e) vs,⟨vs,h3,rfl⟩,by rw [hcells,hvl],cs',by rw [hcells]; exact h4,h5,hcl,hat⟩
     obtain ⟨rows,hr1,hr2⟩:=BR len hel;refine ⟨[.sl (P.cellsOf e) rows],⟨rows,rfl,by rw [hr1]; exact hlen,fun r hr=>?_⟩,oM ?_,by simp [Value.oneCell']⟩
     ·obtain ⟨i,hi'⟩:=List.getElem?_of_mem hr;exact (hr2 i r hi').1
     ·simp only [Rep];refine ⟨some a,cap,by rw [hr1],by omega,?_⟩;by_cases h0:len=0
      ·left; exact List.eq_nil_of_length_eq_zero (by omega)
      ·right;have hfirst:∃r,rows[0]?=some r:=⟨rows[0]'(by omega),by simp⟩
       obtain ⟨r0,hr0⟩:=hfirst;obtain ⟨_,_,cs0,_,_,hcl0,hat0⟩:=hr2 0 r0 hr0;have hc0:=hat0 0 (by omega);rw [List.getElem?_eq_getElem (by omega)] at hc0;have hspot:a.spot=none:=by
        have:=World.cell?_spot hc0;simpa [Addr.add] using this
       obtain ⟨b,off,spot⟩:=a;subst hspot;refine ⟨b,off,rfl,hno b,by omega,?_⟩;have:=tr (μ:=μ) (ow:=ow) (w:=w) (b:=b) (off:=off) (sz:=P.cellsOf e) rows 0 fun i r hri=>?_
       ·simpa using this
       ·obtain ⟨_,h1,cs',h2,h3,h4,h5⟩:=hr2 i r hri;refine ⟨h1,jB h2 h3 fun j u hu=>?_⟩;have hj:j < P.cellsOf e:=by rw [←h4]; exact (List.getElem?_eq_some_iff.1 hu).1
        have:=h5 j hj;rw [hu,add_plain,add_plain] at this;rw [Nat.zero_add];exact this
   ·rename_i fs ht;simp only [Ba] at hok;obtain ⟨xs,n,_,rfl,hl,hxl,hf⟩:=DataW.trod_struct ht hx;simp only [DataW.weights,ht] at hwt;obtain ⟨vs,h1,h2,h3⟩:=rX (μ:=μ) (ow:=ow) (w:=w) (P:=P) (S:=gU P N) (cs:=cs) fs.toList 0 (by rw [hl]; exact hok.1) fun f hfm=>by
     obtain ⟨i,hi⟩:=List.getElem?_of_mem hfm;have hi':fs[i]?=some f:=by simpa using hi
     have hlt:i < xs.length:=by rw [hxl]; exact (Array.getElem?_eq_some_iff.1 hi').1
     have h1:=hf i f hi';rw [List.getElem?_eq_getElem hlt] at h1;exact kX hno N n f.type _ _ (List.all_eq_true.1 hok.2 f hfm) (fun q hq=>hwt q (DataW.weights_mem_each (j:=i) (t:=f.type) (d:=(xs[i]'hlt).1) (by simp [hi]) (by simp [hlt]) q hq)) h1
    exact ⟨vs,h1,by simpa using h2,by simpa using h3⟩
   ·cases hok
def oG (P:Program) (t:TypeId) (vs:List V):V:=if eN P t then .agg vs else vs.getD 0 .undef
theorem H3 (hno:∀b,¬ow b) {N:Nat} {t:TypeId} {v:Value} {d:DataW H} {p:List MemPlace} {r:Reach} {b0:Nat} (hok:yR P N t=true) (hwt:∀n∈d.weights P t,n≤reachBytes) (hval:Value.okWide P w r b0 t v) (h:DataW.Trod enc P w base spare held t v d p) :
 ∃vs,gU P N t vs∧Rep μ ow w (oG P t vs) v:=by
 obtain ⟨fuel,hf⟩:=h;obtain ⟨vs,h1,h2,h3⟩:=kX (μ:=μ) hno N fuel t _ _ hok hwt hf;refine ⟨vs,h1,?_⟩;cases N with
 | zero=>simp [gU] at h1
 | succ N' =>
   unfold gU at h1;have hone:∀u:V,vs=[u]→v.cells=#[v]→eN P t=false→Rep μ ow w (oG P t vs) v:=by
    rintro u rfl hc ha;rw [hc] at h2;simp only [au] at h2;obtain ⟨x,xs,h4,h5,h6⟩:=h2;simp only [List.cons.injEq] at h4;simp only [oG,ha,Bool.false_eq_true,if_false];rw [h4.1]; exact h5
   split at h1
   ·rename_i ht;obtain ⟨b,rfl⟩:=h1;obtain ⟨x,rfl⟩:=okWide_bool ht hval;exact hone _ rfl rfl (by simp [eN,ht])
   ·rename_i ht;obtain ⟨b,rfl,_⟩:=h1;obtain ⟨x,rfl⟩:=okWide_int ht hval;exact hone _ rfl rfl (by simp [eN,ht])
   ·rename_i ht;obtain ⟨b,rfl,_⟩:=h1;obtain ⟨x,rfl⟩:=okWide_string ht hval;exact hone _ rfl rfl (by simp [eN,ht])
   ·rename_i ht;obtain ⟨b,rfl,_⟩:=h1;obtain ⟨x,y,z,rfl⟩:=okWide_slice ht hval;exact hone _ rfl rfl (by simp [eN,ht])
   ·rename_i ht;obtain ⟨cs,rfl,_⟩:=okWide_struct ht hval;simp only [oG,qs ht,if_true,Rep];exact ⟨cs.toList,by simp,by simpa [Value.cells] using h2,by simpa [Value.cells] using h3⟩
   ·exact h1.elim
def vU (P:Program) (N:Nat):List TypeId→List V→Prop
 | [],us=>us=[]
 | t::ts,us=>∃vs us',us=oG P t vs::us'∧gU P N t vs∧vU P N ts us'
theorem zk (hno:∀b,¬ow b) {N:Nat} {r:Reach} {b0:Nat}:∀ {ts:List TypeId} {vs:List Value} {ds:List (DataW H)} {p:List MemPlace},(∀t∈ts,yR P N t=true)→(∀n∈DataW.weightsEach P ts ds,n≤reachBytes) →
 (∀(j:Nat) t v,ts[j]?=some t→vs[j]?=some v→Value.okWide P w r b0 t v)→DataW.TrodAll enc P w base spare held ts vs ds p→∃us,vU P N ts us∧au μ ow w us vs
 | [],vs,ds,p,_,_,_,h=>by
   cases vs <;> cases ds <;> simp [DataW.TrodAll] at h;exact ⟨[],rfl,by simp [au]⟩
 | t::ts,vs,ds,p,hok,hwt,hval,h=>by
   obtain ⟨v,vs',d,ds',p',q,rfl,rfl,rfl,h1,h2⟩:=trodAll_cons h;simp only [DataW.weightsEach,List.mem_append] at hwt;obtain ⟨cs,g1,g2⟩:=H3 (μ:=μ) (b0:=b0) hno (hok t (by simp)) (fun q hq=>hwt q (.inl hq)) (hval 0 t v rfl rfl) h1;obtain ⟨us,g3,g4⟩:=zk (b0:=b0) hno (fun u hu=>hok u (by simp [hu])) (fun q hq=>hwt q (.inr hq)) (fun j u x hj hx=>hval (j+1) u x (by simpa using hj) (by simpa using hx)) h2;exact ⟨_::us,⟨cs,us,rfl,g1,g3⟩,by simp only [au]; exact ⟨v,vs',rfl,g2,g4⟩⟩
theorem mN (hl:laidOutB P=true):∀ {ts:List TypeId} {vs:List Value} {ds:List (DataW H)} {p:List MemPlace} {W W':World} {sp:Nat→Bool},(∀t∈ts,P.readableRec t=true∧t < P.types.size) →
 DataW.TrodAll enc P W 0 (fun _=>true) true ts vs ds p→Below W.heap.size W W'→(∀x∈p,x.block < W.heap.size)→(∀x∈p,sp x.block=true)→DataW.TrodAll enc P W' 0 sp true ts vs ds p
 | [],vs,ds,p,W,W',sp,_,h,_,_,_=>by
   cases vs <;> cases ds <;> simp [DataW.TrodAll] at h ⊢;exact h
 | t::ts,vs,ds,p,W,W',sp,ht,h,hb,hlt,hsp=>by
   obtain ⟨v,vs',d,ds',p',q,rfl,rfl,rfl,h1,h2⟩:=trodAll_cons h;refine ⟨p',q,WideElems.Trod_stays hl (ht t (by simp)).1 (ht t (by simp)).2 h1 (fun x hx=>hb.same (hlt x (by simp [hx]))) (fun x hx=>hsp x (by simp [hx])),?_,rfl⟩;exact mN hl (fun u hu=>ht u (by simp [hu])) h2 hb (fun x hx=>hlt x (by simp [hx])) (fun x hx=>hsp x (by simp [hx]))
end
theorem uk {H:Type} {enc:TypeId×Value→H} {P:Program} {f:Func} {s:ChangeSpec} {apart fresh handsOn again:Bool} {W W':World} {args:Array Value} {v:Value} {ds gs:List (DataW H)} {before pa pv:List MemPlace}
 (hW:DataW.Whole enc P f.params.toList s.vars apart W args.toList ds gs before)
 (hres:∀(b:Nat) (sp:Nat→Bool) (hd:Bool),DataW.TrodAll enc P W' b sp hd f.resultTypes.toList (v.resultList f.resultTypes.size) (s.fn H (ds++gs)).results [])
 (hargs:∀sp:Nat→Bool,(∀p∈before,sp p.block=true)→DataW.TrodAll enc P W' 0 sp true f.params.toList args.toList (s.fn H (ds++gs)).args pa)
 (hvars:∀sp:Nat→Bool,(∀p∈before,sp p.block=true)→DataW.TrodVars enc P W' sp s.vars (s.fn H (ds++gs)).vars pv)
 (hps:before=pa++pv) (hb:Below W.heap.size W W')
 (hok:∀(j:Nat) (t:TypeId) (r:Value),f.resultTypes[j]?=some t→(v.resultList f.resultTypes.size)[j]?=some r→Value.okWide P W' .any 0 t r) :
 s.post enc P f apart fresh handsOn again W args v W':=by
 have hlt:∀p∈before,p.block < W.heap.size:=fun p hp=>hW.lt p hp;have hold:∀p∈before,(fun b=>decide (b < W.heap.size)) p.block=true:=fun p hp=>by simpa using hlt p hp
 refine ⟨ds,gs,before,[],pa,pv,hW,hres _ _ _,hargs _ hold,hvars _ hold,World.keptBut_mono (fun p hp=>⟨hp,?_⟩) (hb.frame (·∈before)),fun _=>?_⟩
 ·rw [hps,List.mem_append] at hp;exact Or.inr hp
 ·obtain ⟨_,_,_,_,_,hz,hn⟩:=hW;refine ⟨hok,_,_,([]++pa)++pv,⟨[]++pa,pv,trodAll_append (hargs _ (fun _ _=>rfl)) (hres _ _ _),hvars _ (fun _ _=>rfl),rfl,?_,?_⟩,?_⟩
  ·intro b off hp;have hin:MemPlace.cell b off∈before:=by rw [hps]; simpa using hp
   rw [hb.frozen (hlt _ hin)];exact hz b off hin
  ·intro ha;have:=hn ha;rw [hps] at this;simpa using this
  ·intro p hp _;rw [hps];simpa using hp
theorem FU {H:Type} {enc:TypeId×Value→H} {P:Program} {f:Func} {i:FuncId} {s:ChangeSpec} {N:Nat} (hfs:P.funcs[i]?=some f) (hl:laidOutB P=true)
 (hts:f.params.toList.all (fun t=>yR P N t && (P.readableRec t && decide (t < P.types.size)))=true) (hvars:s.vars=[]) {tb:TypeId} (hres:f.resultTypes=#[tb]) (htb:P.underlying tb=some .bool)
 (hfn:∀ds,ds.length=f.params.size→s.fn H ds=⟨[.lit (.bool true)],ds,[]⟩)
 (hlaw:∀us,vU P N f.params.toList us→aU P i us (.bool true))
 {apart fresh handsOn again:Bool} {W:World} {base:Nat} {args:Array Value} {ds gs:List (DataW H)} {before:List MemPlace}
 (hval:∀(j:Nat) t v,f.params[j]?=some t→args[j]?=some v→Value.okWide P W .any base t v)
 (hW:DataW.Whole enc P f.params.toList s.vars apart W args.toList ds gs before) (hvt:s.plain.varTypes P=[])
 (hsz:(DataW.weightsEach P (f.params.toList++s.plain.varTypes P) (ds++gs)).all (·≤reachBytes)=true) (hO:MH W) :
 Calls P i args W fun e W'=>∃v,e=.returned v∧s.post enc P f apart fresh handsOn again W args v W':=by
 have hW':=hW;obtain ⟨p,q,hA,hV,rfl,hfz,hnd⟩:=hW;have hts':=List.all_eq_true.1 hts;simp only [Ba,decide_eq_true_eq] at hts';rw [hvars] at hV;have hnoV:gs=[]∧q=[]:=by
  cases gs with
  | nil=>exact ⟨rfl,by simpa [DataW.TrodVars] using hV⟩
  | cons g gs=>simp [DataW.TrodVars] at hV
 obtain ⟨rfl,rfl⟩:=hnoV;have hno:∀b,¬aC (fun _=>Pl.dj) jL b:=fun b ⟨_,_,_,_,h,_⟩=>by simp [jL] at h
 obtain ⟨us,hsh,hrep⟩:=zk (μ:=fun _=>Pl.dj) (ow:=aC (fun _=>Pl.dj) jL) (b0:=base) (r:=.any) hno (fun t ht=>(hts' t ht).1)
  (by rw [hvt,List.append_nil,List.append_nil] at hsz; intro n hn; simpa using List.all_eq_true.1 hsz n hn) (fun j t v hj hv=>hval j t v (by simpa using hj) (by simpa using hv)) hA
 have hsat:Sat W (aC (fun _=>Pl.dj) jL) (fun _=>Pl.dj) jL W :=
  ⟨Nat.le_refl _,rfl,rfl,rfl,fun _ _ _=>rfl,⟨0,fun _ _=>rfl⟩,fun _ _ _ _ _ _ _ _ _ h=>by simp [jL] at h,fun _ _ h=>by simp [jL] at h,fun b hb=>(hno b hb).elim,⟨W,hO,Nat.le_refl _,fun i _=>⟨hno i,rfl⟩⟩⟩
 have hcall:=(hlaw us hsh jL).2 (fun _=>Pl.dj) W args.toList hsat hrep;rw [Array.toArray_toList] at hcall;refine hcall.mono ?_;rintro e W' ⟨r,σ',μ',val,rfl,⟨rfl,rfl⟩,_,hs',hr⟩;simp only [Rep] at hr;subst hr;have hbel:Below W.heap.size W W':=⟨hs'.os,hs'.tape,hs'.output,hs'.size,fun k hk=>hs'.same k hk (hno k)⟩
 have hlen:ds.length=f.params.size:=by
  have key:∀ {ts:List TypeId} {vs:List Value} {ds:List (DataW H)} {p:List MemPlace},DataW.TrodAll enc P W 0 (fun _=>true) true ts vs ds p→ds.length=ts.length:=by
   intro ts
   induction ts with
   | nil=>intro vs ds p h; cases vs <;> cases ds <;> simp [DataW.TrodAll] at h ⊢
   | cons t ts ih =>
     intro vs ds p h;obtain ⟨_,_,_,_,_,_,_,rfl,_,_,h2⟩:=trodAll_cons h;simp [ih h2]
  simpa using key hA
 have hfn':=hfn ds hlen;refine ⟨.bool true,rfl,uk (pa:=p) (pv:=[]) hW' ?_ ?_ ?_ rfl hbel ?_⟩
 ·intro b sp hd;rw [List.append_nil,hfn',hres];exact ⟨[],[],shut_bool htb _,rfl,rfl⟩
 ·intro sp hsp;rw [List.append_nil,hfn'];refine mN hl (fun t ht=>(hts' t ht).2) hA hbel (fun x hx=>by simpa using hW'.lt x (by simpa using hx)) (fun x hx=>hsp x (by simpa using hx))
 ·intro sp _;rw [List.append_nil,hfn',hvars];rfl
 ·exact ok_one hres rfl (okWide_bool_mk htb _)
open Go.Proofs Go.Proofs.Tryz
theorem vQ {α:Type} {f:α→V} {p:α→Prop}:∀ {rows:List V},(∀r∈rows,∃x,r=f x∧p x)→∃l:List α,rows=l.map f∧∀x∈l,p x
 | [],_=>⟨[],rfl,by simp⟩
 | r::rs,h=>by
   obtain ⟨x,rfl,hx⟩:=h r (by simp);obtain ⟨l,rfl,hl⟩:=vQ fun q hq=>h q (List.mem_cons_of_mem _ hq);exact ⟨x::l,rfl,by simpa using ⟨hx,hl⟩⟩
def inI (m:Int):Prop:=-9223372036854775808≤m∧m≤9223372036854775807
def Sty.inI (s:Sty):Prop:=Vc.inI s.top∧Vc.inI s.bottom∧Vc.inI s.padTop∧Vc.inI s.padBottom∧Vc.inI s.inset∧Vc.inI s.orphans∧Vc.inI s.widows∧Vc.inI s.head∧Vc.inI s.before∧Vc.inI s.after∧Vc.inI s.inside∧Vc.inI s.clear
def Nd.real (x:Nd):Prop:=(Vc.inI x.kind∧Vc.inI x.size∧x.st.inI∧Vc.inI x.line∧Vc.inI x.space∧Vc.inI x.side∧Vc.inI x.w∧Vc.inI x.h)∧x.words.length≤17592186043904∧∀n∈x.words,Vc.inI n
section
variable {P:Program} {n:Nat} {t:TypeId} {vs:List V}
theorem FL {k:IntKind} (ht:P.underlying t=some (.int k)) (h:gU P (n+1) t vs):∃m,vs=[.int k m]∧(Lit.int k m).wf=true:=by
 simpa only [gU,ht] using h
theorem tL {e:TypeId} (ht:P.underlying t=some (.slice e)) (h:gU P (n+1) t vs):∃rows,vs=[.sl (P.cellsOf e) rows]∧rows.length*P.bytesOf e≤reachBytes∧∀r∈rows,∃cs,gU P n e cs∧r=rowOf (eN P e) cs:=by
 simpa only [gU,ht] using h
theorem pJ {fs:Array Field} (ht:P.underlying t=some (.struct fs)) (h:gU P (n+1) t vs):uY (gU P n) fs.toList vs:=by
 simpa only [gU,ht] using h
end
theorem G3:prog.cellsOf 3=1:=by kernel_rfl
theorem EZ:prog.cellsOf 73=20:=by kernel_rfl
theorem Io:eN prog 3=false:=by kernel_rfl
theorem IK:eN prog 22=false:=by kernel_rfl
theorem Kc:eN prog 73=true:=by kernel_rfl
theorem GZ:prog.bytesOf 3=8:=by kernel_rfl
theorem D2:prog.bytesOf 73=176:=by kernel_rfl
theorem cT {n:Nat} {vs:List V} (h:gU prog (n+1) 3 vs):∃m,vs=[vI m]∧inI m:=by
 obtain ⟨m,h,hw⟩:=FL underlying3 h;exact ⟨m,h,by simp [Lit.wf,IntKind.min,IntKind.max,IntKind.signed,IntKind.bits] at hw; unfold inI; omega⟩
theorem FV {n:Nat} {vs:List V} (h:gU prog (n+2) 53 vs):∃l,vs=[bj l]∧l.length≤17592186043904∧∀n∈l,inI n:=by
 obtain ⟨rows,rfl,hl,h⟩:=tL underlying53 h;obtain ⟨l,rfl,hp⟩:=vQ (f:=vI) (p:=inI) fun r hr=>by
  obtain ⟨cs,hc,rfl⟩:=h r hr;obtain ⟨m,rfl,hm⟩:=cT hc;exact ⟨m,by rw [Io]; rfl,hm⟩
 rw [GZ] at hl;simp only [List.length_map,reachBytes] at hl;exact ⟨l,by rw [G3]; rfl,by omega,hp⟩
theorem CO {n:Nat} {vs:List V} (h:gU prog (n+2) 71 vs):∃s:Sty,vs=s.cells∧s.inI:=by
 replace h:=pJ underlying71 h;simp only [uY] at h;obtain ⟨_,_,rfl,h1,_,_,rfl,h2,_,_,rfl,h3,_,_,rfl,h4,_,_,rfl,h5,_,_,rfl,h6,_,_,rfl,h7,_,_,rfl,h8,_,_,rfl,h9,_,_,rfl,h10,_,_,rfl,h11,_,_,rfl,h12,rfl⟩:=h;obtain ⟨m1,rfl,g1⟩:=cT h1;obtain ⟨m2,rfl,g2⟩:=cT h2;obtain ⟨m3,rfl,g3⟩:=cT h3;obtain ⟨m4,rfl,g4⟩:=cT h4;obtain ⟨m5,rfl,g5⟩:=cT h5;obtain ⟨m6,rfl,g6⟩:=cT h6;obtain ⟨m7,rfl,g7⟩:=cT h7;obtain ⟨m8,rfl,g8⟩:=cT h8;obtain ⟨m9,rfl,g9⟩:=cT h9;obtain ⟨m10,rfl,g10⟩:=cT h10;obtain ⟨m11,rfl,g11⟩:=cT h11;obtain ⟨m12,rfl,g12⟩:=cT h12;exact ⟨⟨m1,m2,m3,m4,m5,m6,m7,m8,m9,m10,m11,m12⟩,rfl,g1,g2,g3,g4,g5,g6,g7,g8,g9,g10,g11,g12⟩
theorem Fg {n:Nat} {vs:List V} (h:gU prog (n+3) 73 vs):∃x:Nd,vs=x.cells∧x.real:=by
 replace h:=pJ underlying73 h;simp only [uY] at h;obtain ⟨_,_,rfl,h1,_,_,rfl,h2,_,_,rfl,h3,_,_,rfl,h4,_,_,rfl,h5,_,_,rfl,h6,_,_,rfl,h7,_,_,rfl,h8,_,_,rfl,h9,rfl⟩:=h;obtain ⟨m1,rfl,g1⟩:=cT h1;obtain ⟨m2,rfl,g2⟩:=cT h2;obtain ⟨s,rfl,g3⟩:=CO h3;obtain ⟨m4,rfl,g4⟩:=cT h4;obtain ⟨m5,rfl,g5⟩:=cT h5;obtain ⟨ws,rfl,g6,g6'⟩:=FV h6;obtain ⟨m7,rfl,g7⟩:=cT h7;obtain ⟨m8,rfl,g8⟩:=cT h8;obtain ⟨m9,rfl,g9⟩:=cT h9;exact ⟨⟨m1,m2,s,m4,m5,ws,m7,m8,m9⟩,rfl,⟨g1,g2,g3,g4,g5,g7,g8,g9⟩,g6,g6'⟩
theorem Ck {n:Nat} {vs:List V} (h:gU prog (n+4) 22 vs):∃l,vs=[aI l]∧l.length≤800000000000∧∀x∈l,x.real:=by
 obtain ⟨rows,rfl,hl,h⟩:=tL underlying22 h;obtain ⟨l,rfl,hp⟩:=vQ (f:=gN) (p:=Nd.real) fun r hr=>by
  obtain ⟨cs,hc,rfl⟩:=h r hr;obtain ⟨x,rfl,hx⟩:=Fg hc;exact ⟨x,by rw [Kc]; rfl,hx⟩
 rw [D2] at hl;simp only [List.length_map,reachBytes] at hl;exact ⟨l,by rw [EZ]; rfl,by omega,hp⟩
theorem Dp {n:Nat} {vs:List V} (h:gU prog (n+4) 22 vs):∃l,oG prog 22 vs=aI l∧l.length≤800000000000∧∀x∈l,x.real:=by
 obtain ⟨l,rfl,h1,h2⟩:=Ck h;exact ⟨l,by unfold oG; rw [IK]; rfl,h1,h2⟩
open Go.Proofs Go.Proofs.Tryz
theorem lx (l:List Nd):∀(m a e:Nat),e - a < m→e≤l.length→bV l a e=true→∀k,a≤k→(h:k < e)→(h2:k < l.length)→bV l (k+1) (k+l[k].size.toNat)=true
 | 0,_,_,h,_,_=>by omega
 | m+1,a,e,hm,he,hr=>by
   intro k hk hke h2;have hae:a < e:=by omega
   have ha:a < l.length:=by omega
   rw [bV,dif_pos hae] at hr;have hga:l[a]?=some l[a]:=by simp [ha]
   rw [hga] at hr;simp only at hr;split at hr
   ·rename_i hx;simp only [Ba] at hr;obtain ⟨⟨h3,h4⟩,h5⟩:=hr;by_cases hka:k=a
    ·subst hka; exact h4
    ·by_cases hin:k < a+l[a].size.toNat
     ·exact lx l m (a+1) (a+l[a].size.toNat) (by omega) (by omega) h4 k (by omega) hin h2
     ·exact lx l m (a+l[a].size.toNat) e (by omega) he h5 k (by omega) hke h2
   ·cases hr
def hof (x:Nd):Int:=if x.kind=1 then x.st.top+x.st.bottom+x.st.padTop+x.st.padBottom+x.st.head else if x.kind=2 then x.line*x.words.length else x.h
def pof (x:Nd):Int:=if x.kind=1 then 0 else if x.kind=2 then x.words.length else 1
def iC:List Nd→Int
 | []=>0
 | x::l=>hof x+iC l
def jR:List Nd→Int
 | []=>0
 | x::l=>pof x+jR l
theorem yJ (a b:List Nd):iC (a++b)=iC a+iC b:=by
 induction a with
 | nil=>simp [iC]
 | cons x a ih=>simp only [List.cons_append,iC,ih]; omega
theorem zC (a b:List Nd):jR (a++b)=jR a+jR b:=by
 induction a with
 | nil=>simp [jR]
 | cons x a ih=>simp only [List.cons_append,jR,ih]; omega
theorem rB {x:Nd} (h:x.ok=true):0≤hof x:=by
 obtain ⟨p1,p2,p3,p4,p5,p6⟩:=jb h;unfold hof;split
 ·rename_i hk;obtain ⟨q1,q2,q3,q4,q5⟩:=p6 hk;omega
 ·split
  ·exact Int.mul_nonneg p2 (by omega)
  ·exact p4
theorem xm {l:List Nd} (h:l.all Nd.ok=true):0≤iC l:=by
 induction l with
 | nil=>simp [iC]
 | cons x l ih =>
   simp only [List.all_cons,Ba] at h;have:=rB h.1;have:=ih h.2;simp only [iC]; omega
def dm (l:List Nd):Nat→Int
 | 0=>0
 | i+1=>match l[i]? with
   | some x=>if x.kind=1 then max (dm l i) (gX l i (i+1)) else dm l i
   | none=>dm l i
theorem Ga {l:List Nd} {i:Nat} {x:Nd} {s:Sm} (hx:x.ok=true) (hs:0≤s.heights∧s.heights≤1099511627777):(nA l i x s).heights=min (s.heights+hof x) 1099511627777∧(nA l i x s).pieces=s.pieces+pof x ∧
 (nA l i x s).depth=(if x.kind=1 then max s.depth (gX l i (i+1)) else s.depth)∧(nA l i x s).nodes=s.nodes:=by
 obtain ⟨p1,p2,p3,p4,p5,p6⟩:=jb hx;unfold nA hof pof;by_cases hk:x.kind=1
 ·obtain ⟨q1,q2,q3,q4,q5⟩:=p6 hk;simp only [hk,if_true,jq];refine ⟨by omega,by omega,trivial,trivial⟩
 ·by_cases hk2:x.kind=2
  ·rw [if_neg hk,if_pos hk2,if_neg hk,if_pos hk2,if_neg hk,if_pos hk2,if_neg hk];simp only [];refine ⟨rj hs p2 _,trivial,trivial,trivial⟩
  ·rw [if_neg hk,if_neg hk2,if_neg hk,if_neg hk2,if_neg hk,if_neg hk2,if_neg hk];exact ⟨rfl,rfl,rfl,rfl⟩
theorem rI (l:List Nd) (hok:l.all Nd.ok=true):∀i,i≤l.length→(gj l ⟨0,0,l.length,0⟩ i)=⟨dm l i,jR (l.take i),l.length,min (iC (l.take i)) 1099511627777⟩
 | 0,_=>by simp [gj,dm,jR,iC]; omega
 | i+1,hi=>by
   have ih:=rI l hok i (by omega);have hg:l[i]?=some l[i]:=by simp [show i < l.length by omega]
   have hx:=List.all_eq_true.1 hok _ (List.getElem_mem (show i < l.length by omega));have ht:l.take (i+1)=l.take i++[l[i]]:=List.take_succ_eq_append_getElem (by omega);have hn:0≤iC (l.take i):=xm (List.all_eq_true.2 fun x hx=>List.all_eq_true.1 hok x (List.mem_of_mem_take hx));have hh:=rB hx;simp only [gj,hg,ih];obtain ⟨g1,g2,g3,g4⟩:=Ga (l:=l) (i:=i) (s:=⟨dm l i,jR (l.take i),l.length,min (iC (l.take i)) 1099511627777⟩) hx ⟨by simp only; omega,by simp only; omega⟩;generalize nA l i l[i] ⟨dm l i,jR (l.take i),l.length,min (iC (l.take i)) 1099511627777⟩=r at *;obtain ⟨r1,r2,r3,r4⟩:=r;simp only at g1 g2 g3 g4;subst g1 g2 g3 g4;simp only [dm,hg,ht,zC,yJ,jR,iC,Sm.mk.injEq,Int.add_zero,true_and];omega
open Go.Proofs Go.Proofs.Tryz
def V.flat:V→Bool
 | .agg vs=>vs.all V.lone
 | v=>v.lone
def V.BA:V→Bool
 | .tup vs=>vs.all V.flat
 | v=>v.flat
theorem au.lone {μ μ':Mu} {ow ow':Nat→Prop} {w w':World}:∀ {vs:List V} {l:List Value},vs.all V.lone=true→au μ ow w vs l→au μ' ow' w' vs l
 | [],l,_,h=>by simpa [au] using h
 | v::vs,l,hv,h=>by
   simp only [List.all_cons,Ba] at hv;simp only [au] at h ⊢;obtain ⟨x,xs,rfl,h1,h2⟩:=h;exact ⟨x,xs,rfl,Rep.lone hv.1 h1,au.lone hv.2 h2⟩
theorem Rep.flat {μ μ':Mu} {ow ow':Nat→Prop} {w w':World} {v:V} {x:Value} (hv:v.flat=true) (h:Rep μ ow w v x):Rep μ' ow' w' v x:=by
 cases v <;> try exact Rep.lone hv h
 rename_i vs;simp only [Rep] at h ⊢;obtain ⟨vals,rfl,h1,h2⟩:=h;exact ⟨vals,rfl,au.lone hv h1,h2⟩
theorem au.flat {μ μ':Mu} {ow ow':Nat→Prop} {w w':World}:∀ {vs:List V} {l:List Value},vs.all V.flat=true→au μ ow w vs l→au μ' ow' w' vs l
 | [],l,_,h=>by simpa [au] using h
 | v::vs,l,hv,h=>by
   simp only [List.all_cons,Ba] at hv;simp only [au] at h ⊢;obtain ⟨x,xs,rfl,h1,h2⟩:=h;exact ⟨x,xs,rfl,Rep.flat hv.1 h1,au.flat hv.2 h2⟩
theorem Rep.BA {μ μ':Mu} {ow ow':Nat→Prop} {w w':World} {v:V} {x:Value} (hv:v.BA=true) (h:Rep μ ow w v x):Rep μ' ow' w' v x:=by
 cases v <;> try exact Rep.flat hv h
 rename_i vs;simp only [Rep] at h ⊢;obtain ⟨vals,rfl,h1⟩:=h;exact ⟨vals,rfl,au.flat hv h1⟩
theorem aU.xr {P:Program} {f:FuncId} {args args':List V} {v:V} {σ:af} (hw:WkL σ jL args args') (h:aU P f args' v) (hv:v.BA=true) :
 az P f args σ fun r σ'=>r=v∧σ'=σ:=by
 refine ⟨(h jL).1,?_⟩;intro μ w vals hs hr;have hs0:Sat w (aC μ jL) μ jL w:=by
  have:=hs.drop (oE σ);exact ⟨Nat.le_refl _,rfl,rfl,rfl,fun _ _ _=>rfl,this.fin,this.inj,this.obj,fun b hb _=>hb,this.nT⟩
 refine ((h jL).2 μ w vals hs0 (WkL.all hs hw hr)).mono ?_;rintro e w' ⟨r,σ',μ',val,rfl,⟨rfl,rfl⟩,hle,hs',hrep⟩;have hno:∀b,¬aC μ jL b:=fun b ⟨_,_,_,_,h,_⟩=>by simp [jL] at h
 have hsame:∀b,b < w.heap.size→w'.heap[b]?=w.heap[b]?:=fun b hb=>hs'.same b hb (hno b);have hborn:∀id o,σ id=some o→μ' id=μ id:=fun id o ho=>hle id (fun e=>by
  have:=hs.obj id o ho; rw [e] at this; exact this)
 have hown:∀b,aC μ' σ b→aC μ σ b:=fun b ⟨id,o,sz,cap,h1,h2⟩=>⟨id,o,sz,cap,h1,hborn id o h1 ▸ h2⟩
 have hk:cE (aC μ σ) (aC μ' σ) w w':=fun b hb hn=>⟨fun ho=>hn (hown b ho),hsame b hb⟩
 refine ⟨_,σ,μ',val,rfl,⟨rfl,rfl⟩,hle,?_,Rep.BA hv hrep⟩;refine ⟨hs'.size,hs'.os,hs'.tape,hs'.output,fun b hb _=>hsame b hb,hs'.fin,?_,?_,fun b hb _=>hown b hb,hs.glob⟩
 ·intro id id' o o' b sz cap sz' cap' h1 h2 h3 h4;exact hs.inj id id' o o' b sz cap sz' cap' h1 h2 (hborn id o h1 ▸ h3) (hborn id' o' h2 ▸ h4)
 ·intro id o ho;rw [hborn id o ho];refine (hs.obj id o ho).mono hle hk hs'.size fun b sz cap hp=>hsame b ?_;exact aC.lt hs ⟨id,o,sz,cap,ho,hp⟩
open Go.Proofs Go.Proofs.Tryz
theorem cM {l:List Nd} {a e:Nat} (he:e≤l.length) (h:bV l a e=true) {k:Nat} (h1:a≤k) (h2:k < e):(k:Int)+szI l k≤e∧1≤szI l k:=by
 have:=gP l (e - a+1) a e (by omega) he h k h1 h2 (by omega);rw [kB (by omega)];omega
theorem dL {l:List Nd} {a e:Nat} (he:e≤l.length) (h:bV l a e=true) (hae:a < e):bV l (a+(szI l a).toNat) e=true∧bV l (a+1) (a+(szI l a).toNat)=true:=by
 have ha:a < l.length:=by omega
 rw [bV,dif_pos hae] at h;simp only [List.getElem?_eq_getElem ha] at h;rw [kB ha];split at h
 ·simp only [Ba] at h;exact ⟨h.2,h.1.2⟩
 ·cases h
open Go.Proofs Go.Proofs.Tryz
theorem AW (l:List Nd) (hl:dE l) (hb:isB l=true):aU prog 78 [aI l] (.agg [aI l]):=fun σ=>by
 refine e78.r (by simp [c78]) ?_;refine ad.mix 3 ?_;apply sR;simp only [go_sem,seval,c78];refine ae fun id2 σ1 s1 a2 f2=>?_;simp only [go_sem,seval,a2];refine ad.ay rfl rfl rfl (Bl l hl _) ?_;apply sR;simp only [go_sem,seval,hb,a2,aI];refine ar.pure (s1.aB f2) rfl
theorem La (l:List Nd) (a:Int):aU prog 178 [aI l,vI a] (.bool (uu l a)):=fun σ=>by
 refine Ny.r (by simp [KJ]) ?_;refine ad.mix 6 ?_;apply sR;simp only [go_sem,seval,aH,aL,KJ,eD];refine And.intro (fun h=>?_) (fun h=>?_)
 ·refine ar.same ?_;simp [uu]; omega
 ·refine ar.same ?_;simp [uu]; omega
theorem uQ (l:List Nd) (hl:dE l) (hb:isB l=true) (a:Nat) (ha:a < l.length):aU prog 179 [aI l,vI a] (vI (eo l a)):=fun σ=>by
 have hl1:=hl.1;refine NW.r (by simp [JH]) ?_;refine ad.mix 6 ?_;apply sR;simp only [go_sem,seval,aH,aL,JH];refine ⟨ak (by omega) (by omega),?_⟩;refine ad.loop (fun m st=>∃(k:Nat),k≤a∧m=k∧eo l a=qH l a k∧st.σ=σ∧st.s 0=aI l∧st.s 1=vI a∧st.s 5=vI ((k:Int) - 1)) a ?_ ?_
 ·exact ⟨a,by omega,rfl,rfl,rfl,rfl,rfl,rfl⟩
 ·rintro m ⟨s,σ'⟩ ⟨k,hk,rfl,heq,hσ,h0,h1,h5⟩;simp only at hσ h0 h1 h5;subst hσ;refine ad.mix 6 ?_;apply sR;simp only [go_sem,seval,aH,aL,h0,h1,h5];refine And.intro (fun h=>?_) (fun h=>?_)
  ·obtain ⟨k,rfl⟩:∃j,m=j+1:=⟨m - 1,by omega⟩
   have e1:((k+1:Nat):Int) - 1=k:=by omega
   have hlt:k < l.length:=by omega
   have hsz:=pd hb hlt;have hse:=kB hlt;have hx:=lz (σ:=σ') hlt;simp only [go_sem,seval,aH,aL,e1,hx,Nd.cells,h0,h1,h5];rw [←hse];refine ⟨ak (by omega) (by omega),And.intro (fun hc=>?_) (fun hc=>?_)⟩
   ·refine ar.same ?_;rw [heq,qH,if_pos];simp only [gx,Ba,decide_eq_true_eq,uu];simp;omega
   ·refine ⟨ak (by omega) (by omega),_,?_,k,by omega,rfl,?_,rfl⟩
    ·omega
    ·rw [heq,qH,if_neg];simp only [gx,Ba,decide_eq_true_eq,uu];simp;omega
  ·have hk0:m=0:=by omega
   subst hk0;refine ar.same ?_;rw [heq]; rfl
end Go.Vc
