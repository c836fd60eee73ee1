/- Part 6 of the library of this proof. -/
import Derived.Test.YthlfggpepphopaaGreatW5
import Derived.WalkKit
import Derived.ProofKit
import Derived.Deep.Slices
import Derived.ChangeArms
import Derived.WideKeyArgs
import Derived.Carry
import Derived.SizedLaws
set_option linter.all false
set_option maxRecDepth 100000
namespace Go.Vc
open Go.ChangeShapes Go.WideShapes Go.RowKit Go.Deep
def tI (P:Program) (total:Nat):Nat→List Field→Bool
 | off,[]=>off == total
 | off,f::fs=>f.offset == off && tI P total (off+P.cellsOf f.type) fs
def xI (P:Program):Nat→TypeId→Bool
 | 0,_=>false
 | n+1,t=>match P.underlying t with
   | some .bool | some (.int _) | some .string=>true
   | some (.slice e)=>xI P n e && P.cellsOf e != 0
   | some (.struct fs)=>tI P (P.cellsOf t) 0 fs.toList && fs.toList.all fun f=>xI P n f.type
   | _=>false
def rowOf (agg:Bool) (cs:List V):V:=if agg then .agg cs else cs.getD 0 .undef
def uK (S:TypeId→List V→Prop):List Field→List V→Prop
 | [],vs=>vs=[]
 | f::fs,vs=>∃a b,vs=a++b∧S f.type a∧uK S fs b
def gK (P:Program):Nat→TypeId→List V→Prop
 | 0,_,_=>False
 | n+1,t,vs=>match P.underlying t with
   | some .bool=>∃b,vs=[.bool b]
   | some (.int k)=>∃m,vs=[.int k m]∧(Lit.int k m).wf=true
   | some .string=>∃s:List UInt8,vs=[.str s]∧s.length≤reachBytes
   | some (.slice e)=>∃rows,vs=[.sl (P.cellsOf e) rows]∧rows.length*P.bytesOf e≤reachBytes∧∀r∈rows,∃cs,gK P n e cs∧r=rowOf (eI P e) cs
   | some (.struct fs)=>uK (gK P n) fs.toList vs
   | _=>False
theorem Bm {α:Type} {Pr:Nat→α→Prop}:∀n,(∀i,i < n→∃r,Pr i r)→∃rows:List α,rows.length=n∧∀i r,rows[i]?=some r→Pr i r
 | 0,_=>⟨[],rfl,fun i r h=>by simp at h⟩
 | n+1,h=>by
   obtain ⟨rows,h1,h2⟩:=Bm n fun i hi=>h i (by omega);obtain ⟨r,hr⟩:=h n (by omega);refine ⟨rows++[r],by simp [h1],fun i x hx=>?_⟩;rw [List.getElem?_append] at hx;split at hx
   ·exact h2 i x hx
   ·rename_i hi;have:i - rows.length=0:=by
     rcases Nat.eq_zero_or_pos (i - rows.length) with h0 | h0
     ·exact h0
     ·rw [List.getElem?_eq_none (by simp; omega)] at hx; cases hx
    rw [this] at hx;simp at hx;subst hx;have:i=n:=by omega
    subst this;exact hr
theorem sC {μ:Mu} {ow:Nat→Prop} {w:World} {b off sz:Nat}:∀(rows:List V) (k:Nat),(∀i r,rows[i]?=some r→r.cells.length=sz∧aP μ ow w r.cells b (off+(k+i)*sz))→aY μ ow w rows b (off+k*sz) sz
 | [],_,_=>by simp [aY]
 | r::rs,k,h=>by
   have h0:=h 0 r rfl;simp only [aY];refine ⟨h0.1,by rw [dy]; simpa using h0.2,?_⟩;have e:off+k*sz+sz=off+(k+1)*sz:=by rw [Nat.add_mul]; omega
   rw [e];refine sC rs (k+1) fun i x hx=>?_;have:=h (i+1) x (by simpa using hx);rw [show k+1+i=k+(i+1) by omega];exact this
section
variable {H:Type} {enc:TypeId×Value→H} {P:Program} {w:World} {base:Nat} {spare:Nat→Bool} {held:Bool} {μ:Mu} {ow:Nat→Prop}
def FQ (P:Program) (μ:Mu) (ow:Nat→Prop) (w:World) (N:Nat) (t:TypeId) (cs:List Value):Prop :=
 ∃vs,gK P N t vs∧ar μ ow w vs cs∧∀u∈cs,u.oneCell'=true
theorem rP {S:TypeId→List V→Prop} {cs:List Value}:∀(fs:List Field) (off:Nat),tI P cs.length off fs=true →
 (∀f∈fs,∃vs,S f.type vs∧ar μ ow w vs ((cs.drop f.offset).take (P.cellsOf f.type))∧∀u∈(cs.drop f.offset).take (P.cellsOf f.type),u.oneCell'=true) →
 ∃vs,uK S fs vs∧ar μ ow w vs (cs.drop off)∧∀u∈cs.drop off,u.oneCell'=true
 | [],off,hc,_=>by
   simp only [tI,beq_iff_eq] at hc;refine ⟨[],rfl,?_,?_⟩
   ·rw [List.drop_eq_nil_of_le (by omega)]; simp [ar]
   ·rw [List.drop_eq_nil_of_le (by omega)]; simp
 | f::fs,off,hc,h=>by
   simp only [tI,Ba,beq_iff_eq] at hc;obtain ⟨a,h1,h2,h3⟩:=h f (by simp);obtain ⟨b,h4,h5,h6⟩:=rP fs (off+P.cellsOf f.type) hc.2 fun g hg=>h g (by simp [hg]);rw [hc.1] at h2 h3;have e:cs.drop off=(cs.drop off).take (P.cellsOf f.type)++cs.drop (off+P.cellsOf f.type):=by
    rw [←List.drop_drop,List.take_append_drop]
   refine ⟨a++b,⟨a,b,rfl,h1,h4⟩,?_,?_⟩
   ·rw [e]; exact h2.append h5
   ·rw [e]; intro u hu;rcases List.mem_append.1 hu with hu | hu
    ·exact h3 u hu
    ·exact h6 u hu
theorem oH {v:V} {x:Value} (h:Rep μ ow w v x):ar μ ow w [v] [x]:=by simp only [ar]; exact ⟨x,[],rfl,h,rfl⟩
theorem p9 {t:TypeId} {fs:Array Field} (h:P.underlying t=some (.struct fs)):eI P t=true:=by simp [eI,h]
theorem lH {e:TypeId} {d:DataW H}:∀ {l:List (DataW H)},d∈l→∀n∈d.weights P e,n∈DataW.weightsAll P e l
 | [],h,_,_=>by simp at h
 | x::l,h,n,hn=>by
   simp only [DataW.weightsAll,List.mem_append];rcases List.mem_cons.1 h with rfl | h
   ·exact .inl hn
   ·exact .inr (lH h n hn)
theorem lg (hno:∀b,¬ow b):∀(N:Nat) (fuel:Nat) (t:TypeId) (cs:List Value) (x:DataW H×List MemPlace),xI P N t=true→(∀n∈x.1.weights P t,n≤reachBytes)→DataW.trod enc P w base spare held fuel t cs=some x →
 FQ P μ ow w N t cs
 | 0,_,_,_,_,h,_,_=>by simp [xI] at h
 | N+1,fuel,t,cs,x,hok,hwt,hx=>by
   have hok':=hok;unfold xI at hok;unfold FQ;simp only [gK];split at hok
   ·rename_i ht;obtain ⟨b,rfl,_⟩:=DataW.trod_bool ht hx;exact ⟨[.bool b],⟨b,rfl⟩,oH (by simp [Rep]),by simp [Value.oneCell']⟩
   ·rename_i k ht;obtain ⟨m,rfl,_,hw⟩:=DataW.trod_int ht hx;exact ⟨[.int k m],⟨m,rfl,hw⟩,oH (by simp [Rep]),by simp [Value.oneCell']⟩
   ·rename_i ht;obtain ⟨s,rfl,rfl,hw⟩:=DataW.trod_string ht hx;exact ⟨[.str s.data.toList],⟨_,rfl,hwt _ (by simp [DataW.weights])⟩,oH (by simp [Rep]),by simp [Value.oneCell']⟩
   ·rename_i e ht;simp only [Ba,bne_iff_ne,ne_eq] at hok;rcases open_slice ht hx with ⟨rfl,_⟩ | ⟨a,len,cap,m,n,D,Pl,rfl,hb,hl,hm,hmm,rfl,hi⟩
    ·exact ⟨[.sl (P.cellsOf e) []],⟨[],rfl,by simp,by simp⟩,oH (by simp only [Rep]; exact ⟨none,0,rfl,by simp, .inl trivial⟩),by simp [Value.oneCell']⟩
    ·have hlm:len≤m:=by rw [hmm]; split <;> omega
     simp only [DataW.weights,ht] at hwt;have hlen:len*P.bytesOf e≤reachBytes:=by
      have:=hwt _ (List.mem_cons_self ..);simp only [List.length_map,List.length_range] at this;exact Nat.le_trans (Nat.mul_le_mul_right _ (by omega)) this
     have hel:∀i,i < len→∃r:V,(∃cs,gK P N e cs∧r=rowOf (eI P e) cs)∧r.cells.length=P.cellsOf e∧∃cs',ar μ ow w r.cells cs'∧(∀u∈cs',u.oneCell'=true)∧cs'.length=P.cellsOf e ∧
      ∀j,j < P.cellsOf e→w.cell? ((a.add (i*P.cellsOf e)).add j)=cs'[j]?:=by
      intro i hi';obtain ⟨cs',h1,h2⟩:=hi i (by omega);obtain ⟨_,hcl,hat⟩:=World.cells?_some h1;obtain ⟨vs,h3,h4,h5⟩:=lg hno N n e cs' _ hok.1 (fun q hq=>hwt q (List.mem_cons_of_mem _ (List.mem_append_left _ (lH (List.mem_map.2 ⟨i,by simpa using hi',rfl⟩) q hq)))) h2;have hvl:vs.length=P.cellsOf e:=by rw [←hcl,h4.length]
      have hcells:(rowOf (eI P e) vs).cells=vs:=by
       unfold rowOf;split
       ·rfl
       ·rename_i hna;cases N with
        | zero=>simp [gK] at h3
        | succ N' =>
          unfold gK at h3;split at h3
          ·obtain ⟨b,rfl⟩:=h3; rfl
          ·obtain ⟨b,rfl,_⟩:=h3; rfl
          ·obtain ⟨b,rfl,_⟩:=h3; rfl
          ·obtain ⟨b,rfl,_⟩:=h3; rfl
          ·rename_i hs; exact absurd (p9 hs) hna
          ·exact h3.elim
      exact ⟨rowOf (eI P e) vs,⟨vs,h3,rfl⟩,by rw [hcells,hvl],cs',by rw [hcells]; exact h4,h5,hcl,hat⟩
     obtain ⟨rows,hr1,hr2⟩:=Bm len hel;refine ⟨[.sl (P.cellsOf e) rows],⟨rows,rfl,by rw [hr1]; exact hlen,fun r hr=>?_⟩,oH ?_,by simp [Value.oneCell']⟩
     ·obtain ⟨i,hi'⟩:=List.getElem?_of_mem hr;exact (hr2 i r hi').1
     ·simp only [Rep];refine ⟨some a,cap,by rw [hr1],by omega,?_⟩;by_cases h0:len=0
      ·left; exact List.eq_nil_of_length_eq_zero (by omega)
      ·right;have hfirst:∃r,rows[0]?=some r:=⟨rows[0]'(by omega),by simp⟩
       obtain ⟨r0,hr0⟩:=hfirst;obtain ⟨_,_,cs0,_,_,hcl0,hat0⟩:=hr2 0 r0 hr0;have hc0:=hat0 0 (by omega);rw [List.getElem?_eq_getElem (by omega)] at hc0;have hspot:a.spot=none:=by
        have:=World.cell?_spot hc0;simpa [Addr.add] using this
       obtain ⟨b,off,spot⟩:=a;subst hspot;refine ⟨b,off,rfl,hno b,by omega,?_⟩;have:=sC (μ:=μ) (ow:=ow) (w:=w) (b:=b) (off:=off) (sz:=P.cellsOf e) rows 0 fun i r hri=>?_
       ·simpa using this
       ·obtain ⟨_,h1,cs',h2,h3,h4,h5⟩:=hr2 i r hri;refine ⟨h1,jD h2 h3 fun j u hu=>?_⟩;have hj:j < P.cellsOf e:=by rw [←h4]; exact (List.getElem?_eq_some_iff.1 hu).1
        have:=h5 j hj;rw [hu,add_plain,add_plain] at this;rw [Nat.zero_add];exact this
   ·rename_i fs ht;simp only [Ba] at hok;obtain ⟨xs,n,_,rfl,hl,hxl,hf⟩:=DataW.trod_struct ht hx;simp only [DataW.weights,ht] at hwt;obtain ⟨vs,h1,h2,h3⟩:=rP (μ:=μ) (ow:=ow) (w:=w) (P:=P) (S:=gK P N) (cs:=cs) fs.toList 0 (by rw [hl]; exact hok.1) fun f hfm=>by
     obtain ⟨i,hi⟩:=List.getElem?_of_mem hfm;have hi':fs[i]?=some f:=by simpa using hi
     have hlt:i < xs.length:=by rw [hxl]; exact (Array.getElem?_eq_some_iff.1 hi').1
     have h1:=hf i f hi';rw [List.getElem?_eq_getElem hlt] at h1;exact lg hno N n f.type _ _ (List.all_eq_true.1 hok.2 f hfm) (fun q hq=>hwt q (DataW.weights_mem_each (j:=i) (t:=f.type) (d:=(xs[i]'hlt).1) (by simp [hi]) (by simp [hlt]) q hq)) h1
    exact ⟨vs,h1,by simpa using h2,by simpa using h3⟩
   ·cases hok
def nW (P:Program) (t:TypeId) (vs:List V):V:=if eI P t then .agg vs else vs.getD 0 .undef
theorem GX (hno:∀b,¬ow b) {N:Nat} {t:TypeId} {v:Value} {d:DataW H} {p:List MemPlace} {r:Reach} {b0:Nat} (hok:xI P N t=true) (hwt:∀n∈d.weights P t,n≤reachBytes) (hval:Value.okWide P w r b0 t v) (h:DataW.Trod enc P w base spare held t v d p) :
 ∃vs,gK P N t vs∧Rep μ ow w (nW P t vs) v:=by
 obtain ⟨fuel,hf⟩:=h;obtain ⟨vs,h1,h2,h3⟩:=lg (μ:=μ) hno N fuel t _ _ hok hwt hf;refine ⟨vs,h1,?_⟩;cases N with
 | zero=>simp [gK] at h1
 | succ N' =>
   unfold gK at h1;have hone:∀u:V,vs=[u]→v.cells=#[v]→eI P t=false→Rep μ ow w (nW P t vs) v:=by
    rintro u rfl hc ha;rw [hc] at h2;simp only [ar] at h2;obtain ⟨x,xs,h4,h5,h6⟩:=h2;simp only [List.cons.injEq] at h4;simp only [nW,ha,Bool.false_eq_true,if_false];rw [h4.1]; exact h5
   split at h1
   ·rename_i ht;obtain ⟨b,rfl⟩:=h1;obtain ⟨x,rfl⟩:=okWide_bool ht hval;exact hone _ rfl rfl (by simp [eI,ht])
   ·rename_i ht;obtain ⟨b,rfl,_⟩:=h1;obtain ⟨x,rfl⟩:=okWide_int ht hval;exact hone _ rfl rfl (by simp [eI,ht])
   ·rename_i ht;obtain ⟨b,rfl,_⟩:=h1;obtain ⟨x,rfl⟩:=okWide_string ht hval;exact hone _ rfl rfl (by simp [eI,ht])
   ·rename_i ht;obtain ⟨b,rfl,_⟩:=h1;obtain ⟨x,y,z,rfl⟩:=okWide_slice ht hval;exact hone _ rfl rfl (by simp [eI,ht])
   ·rename_i ht;obtain ⟨cs,rfl,_⟩:=okWide_struct ht hval;simp only [nW,p9 ht,if_true,Rep];exact ⟨cs.toList,by simp,by simpa [Value.cells] using h2,by simpa [Value.cells] using h3⟩
   ·exact h1.elim
def vT (P:Program) (N:Nat):List TypeId→List V→Prop
 | [],us=>us=[]
 | t::ts,us=>∃vs us',us=nW P t vs::us'∧gK P N t vs∧vT P N ts us'
theorem xj (hno:∀b,¬ow b) {N:Nat} {r:Reach} {b0:Nat}:∀ {ts:List TypeId} {vs:List Value} {ds:List (DataW H)} {p:List MemPlace},(∀t∈ts,xI P N t=true)→(∀n∈DataW.weightsEach P ts ds,n≤reachBytes) →
 (∀(j:Nat) t v,ts[j]?=some t→vs[j]?=some v→Value.okWide P w r b0 t v)→DataW.TrodAll enc P w base spare held ts vs ds p→∃us,vT P N ts us∧ar μ ow w us vs
 | [],vs,ds,p,_,_,_,h=>by
   cases vs <;> cases ds <;> simp [DataW.TrodAll] at h;exact ⟨[],rfl,by simp [ar]⟩
 | t::ts,vs,ds,p,hok,hwt,hval,h=>by
   obtain ⟨v,vs',d,ds',p',q,rfl,rfl,rfl,h1,h2⟩:=trodAll_cons h;simp only [DataW.weightsEach,List.mem_append] at hwt;obtain ⟨cs,g1,g2⟩:=GX (μ:=μ) (b0:=b0) hno (hok t (by simp)) (fun q hq=>hwt q (.inl hq)) (hval 0 t v rfl rfl) h1;obtain ⟨us,g3,g4⟩:=xj (b0:=b0) hno (fun u hu=>hok u (by simp [hu])) (fun q hq=>hwt q (.inr hq)) (fun j u x hj hx=>hval (j+1) u x (by simpa using hj) (by simpa using hx)) h2;exact ⟨_::us,⟨cs,us,rfl,g1,g3⟩,by simp only [ar]; exact ⟨v,vs',rfl,g2,g4⟩⟩
theorem mz (hl:laidOutB P=true):∀ {ts:List TypeId} {vs:List Value} {ds:List (DataW H)} {p:List MemPlace} {W W':World} {sp:Nat→Bool},(∀t∈ts,P.readableRec t=true∧t < P.types.size) →
 DataW.TrodAll enc P W 0 (fun _=>true) true ts vs ds p→Below W.heap.size W W'→(∀x∈p,x.block < W.heap.size)→(∀x∈p,sp x.block=true)→DataW.TrodAll enc P W' 0 sp true ts vs ds p
 | [],vs,ds,p,W,W',sp,_,h,_,_,_=>by
   cases vs <;> cases ds <;> simp [DataW.TrodAll] at h ⊢;exact h
 | t::ts,vs,ds,p,W,W',sp,ht,h,hb,hlt,hsp=>by
   obtain ⟨v,vs',d,ds',p',q,rfl,rfl,rfl,h1,h2⟩:=trodAll_cons h;refine ⟨p',q,WideElems.Trod_stays hl (ht t (by simp)).1 (ht t (by simp)).2 h1 (fun x hx=>hb.same (hlt x (by simp [hx]))) (fun x hx=>hsp x (by simp [hx])),?_,rfl⟩;exact mz hl (fun u hu=>ht u (by simp [hu])) h2 hb (fun x hx=>hlt x (by simp [hx])) (fun x hx=>hsp x (by simp [hx]))
end
theorem ue {H:Type} {enc:TypeId×Value→H} {P:Program} {f:Func} {s:ChangeSpec} {apart fresh handsOn again:Bool} {W W':World} {args:Array Value} {v:Value} {ds gs:List (DataW H)} {before pa pv:List MemPlace}
 (hW:DataW.Whole enc P f.params.toList s.vars apart W args.toList ds gs before)
 (hres:∀(b:Nat) (sp:Nat→Bool) (hd:Bool),DataW.TrodAll enc P W' b sp hd f.resultTypes.toList (v.resultList f.resultTypes.size) (s.fn H (ds++gs)).results [])
 (hargs:∀sp:Nat→Bool,(∀p∈before,sp p.block=true)→DataW.TrodAll enc P W' 0 sp true f.params.toList args.toList (s.fn H (ds++gs)).args pa)
 (hvars:∀sp:Nat→Bool,(∀p∈before,sp p.block=true)→DataW.TrodVars enc P W' sp s.vars (s.fn H (ds++gs)).vars pv)
 (hps:before=pa++pv) (hb:Below W.heap.size W W')
 (hok:∀(j:Nat) (t:TypeId) (r:Value),f.resultTypes[j]?=some t→(v.resultList f.resultTypes.size)[j]?=some r→Value.okWide P W' .any 0 t r) :
 s.post enc P f apart fresh handsOn again W args v W':=by
 have hlt:∀p∈before,p.block < W.heap.size:=fun p hp=>hW.lt p hp;have hold:∀p∈before,(fun b=>decide (b < W.heap.size)) p.block=true:=fun p hp=>by simpa using hlt p hp
 refine ⟨ds,gs,before,[],pa,pv,hW,hres _ _ _,hargs _ hold,hvars _ hold,World.keptBut_mono (fun p hp=>⟨hp,?_⟩) (hb.frame (·∈before)),fun _=>?_⟩
 ·rw [hps,List.mem_append] at hp;exact Or.inr hp
 ·obtain ⟨_,_,_,_,_,hz,hn⟩:=hW;refine ⟨hok,_,_,([]++pa)++pv,⟨[]++pa,pv,trodAll_append (hargs _ (fun _ _=>rfl)) (hres _ _ _),hvars _ (fun _ _=>rfl),rfl,?_,?_⟩,?_⟩
  ·intro b off hp;have hin:MemPlace.cell b off∈before:=by rw [hps]; simpa using hp
   rw [hb.frozen (hlt _ hin)];exact hz b off hin
  ·intro ha;have:=hn ha;rw [hps] at this;simpa using this
  ·intro p hp _;rw [hps];simpa using hp
theorem Eu {H:Type} {enc:TypeId×Value→H} {P:Program} {f:Func} {i:FuncId} {s:ChangeSpec} {N:Nat} (hfs:P.funcs[i]?=some f) (hl:laidOutB P=true)
 (hts:f.params.toList.all (fun t=>xI P N t && (P.readableRec t && decide (t < P.types.size)))=true) (hvars:s.vars=[]) {tb:TypeId} (hres:f.resultTypes=#[tb]) (htb:P.underlying tb=some .bool)
 (hfn:∀ds,ds.length=f.params.size→s.fn H ds=⟨[.lit (.bool true)],ds,[]⟩)
 (hlaw:∀us,vT P N f.params.toList us→aV P i us (.bool true))
 {apart fresh handsOn again:Bool} {W:World} {base:Nat} {args:Array Value} {ds gs:List (DataW H)} {before:List MemPlace}
 (hval:∀(j:Nat) t v,f.params[j]?=some t→args[j]?=some v→Value.okWide P W .any base t v)
 (hW:DataW.Whole enc P f.params.toList s.vars apart W args.toList ds gs before) (hvt:s.plain.varTypes P=[])
 (hsz:(DataW.weightsEach P (f.params.toList++s.plain.varTypes P) (ds++gs)).all (·≤reachBytes)=true) (hO:Lq W) :
 Calls P i args W fun e W'=>∃v,e=.returned v∧s.post enc P f apart fresh handsOn again W args v W':=by
 have hW':=hW;obtain ⟨p,q,hA,hV,rfl,hfz,hnd⟩:=hW;have hts':=List.all_eq_true.1 hts;simp only [Ba,decide_eq_true_eq] at hts';rw [hvars] at hV;have hnoV:gs=[]∧q=[]:=by
  cases gs with
  | nil=>exact ⟨rfl,by simpa [DataW.TrodVars] using hV⟩
  | cons g gs=>simp [DataW.TrodVars] at hV
 obtain ⟨rfl,rfl⟩:=hnoV;have hno:∀b,¬aB (fun _=>Pl.dk) jG b:=fun b ⟨_,_,_,_,h,_⟩=>by simp [jG] at h
 obtain ⟨us,hsh,hrep⟩:=xj (μ:=fun _=>Pl.dk) (ow:=aB (fun _=>Pl.dk) jG) (b0:=base) (r:=.any) hno (fun t ht=>(hts' t ht).1)
  (by rw [hvt,List.append_nil,List.append_nil] at hsz; intro n hn; simpa using List.all_eq_true.1 hsz n hn) (fun j t v hj hv=>hval j t v (by simpa using hj) (by simpa using hv)) hA
 have hsat:Sat W (aB (fun _=>Pl.dk) jG) (fun _=>Pl.dk) jG W :=
  ⟨Nat.le_refl _,rfl,rfl,rfl,fun _ _ _=>rfl,⟨0,fun _ _=>rfl⟩,fun _ _ _ _ _ _ _ _ _ h=>by simp [jG] at h,fun _ _ h=>by simp [jG] at h,fun b hb=>(hno b hb).elim,⟨W,hO,Nat.le_refl _,fun i _=>⟨hno i,rfl⟩⟩⟩
 have hcall:=(hlaw us hsh jG).2 (fun _=>Pl.dk) W args.toList hsat hrep;rw [Array.toArray_toList] at hcall;refine hcall.mono ?_;rintro e W' ⟨r,σ',μ',val,rfl,⟨rfl,rfl⟩,_,hs',hr⟩;simp only [Rep] at hr;subst hr;have hbel:Below W.heap.size W W':=⟨hs'.os,hs'.tape,hs'.output,hs'.size,fun k hk=>hs'.same k hk (hno k)⟩
 have hlen:ds.length=f.params.size:=by
  have key:∀ {ts:List TypeId} {vs:List Value} {ds:List (DataW H)} {p:List MemPlace},DataW.TrodAll enc P W 0 (fun _=>true) true ts vs ds p→ds.length=ts.length:=by
   intro ts
   induction ts with
   | nil=>intro vs ds p h; cases vs <;> cases ds <;> simp [DataW.TrodAll] at h ⊢
   | cons t ts ih =>
     intro vs ds p h;obtain ⟨_,_,_,_,_,_,_,rfl,_,_,h2⟩:=trodAll_cons h;simp [ih h2]
  simpa using key hA
 have hfn':=hfn ds hlen;refine ⟨.bool true,rfl,ue (pa:=p) (pv:=[]) hW' ?_ ?_ ?_ rfl hbel ?_⟩
 ·intro b sp hd;rw [List.append_nil,hfn',hres];exact ⟨[],[],shut_bool htb _,rfl,rfl⟩
 ·intro sp hsp;rw [List.append_nil,hfn'];refine mz hl (fun t ht=>(hts' t ht).2) hA hbel (fun x hx=>by simpa using hW'.lt x (by simpa using hx)) (fun x hx=>hsp x (by simpa using hx))
 ·intro sp _;rw [List.append_nil,hfn',hvars];rfl
 ·exact ok_one hres rfl (okWide_bool_mk htb _)
open Go.Proofs Go.Proofs.Tryz
theorem wD {α:Type} {f:α→V} {p:α→Prop}:∀ {rows:List V},(∀r∈rows,∃x,r=f x∧p x)→∃l:List α,rows=l.map f∧∀x∈l,p x
 | [],_=>⟨[],rfl,by simp⟩
 | r::rs,h=>by
   obtain ⟨x,rfl,hx⟩:=h r (by simp);obtain ⟨l,rfl,hl⟩:=wD fun q hq=>h q (List.mem_cons_of_mem _ hq);exact ⟨x::l,rfl,by simpa using ⟨hx,hl⟩⟩
def inI (m:Int):Prop:=-9223372036854775808≤m∧m≤9223372036854775807
def Sty.inI (s:Sty):Prop:=Vc.inI s.top∧Vc.inI s.bottom∧Vc.inI s.padTop∧Vc.inI s.padBottom∧Vc.inI s.inset∧Vc.inI s.orphans∧Vc.inI s.widows∧Vc.inI s.head∧Vc.inI s.before∧Vc.inI s.after∧Vc.inI s.inside∧Vc.inI s.clear
def Nd.real (x:Nd):Prop:=(Vc.inI x.kind∧Vc.inI x.size∧x.st.inI∧Vc.inI x.line∧Vc.inI x.space∧Vc.inI x.side∧Vc.inI x.w∧Vc.inI x.h)∧x.words.length≤17592186043904∧∀n∈x.words,Vc.inI n
section
variable {P:Program} {n:Nat} {t:TypeId} {vs:List V}
theorem DX {k:IntKind} (ht:P.underlying t=some (.int k)) (h:gK P (n+1) t vs):∃m,vs=[.int k m]∧(Lit.int k m).wf=true:=by
 simpa only [gK,ht] using h
theorem rZ {e:TypeId} (ht:P.underlying t=some (.slice e)) (h:gK P (n+1) t vs):∃rows,vs=[.sl (P.cellsOf e) rows]∧rows.length*P.bytesOf e≤reachBytes∧∀r∈rows,∃cs,gK P n e cs∧r=rowOf (eI P e) cs:=by
 simpa only [gK,ht] using h
theorem qE {fs:Array Field} (ht:P.underlying t=some (.struct fs)) (h:gK P (n+1) t vs):uK (gK P n) fs.toList vs:=by
 simpa only [gK,ht] using h
end
theorem GS:prog.cellsOf 3=1:=by kernel_rfl
theorem FT:prog.cellsOf 73=20:=by kernel_rfl
theorem H4:eI prog 3=false:=by kernel_rfl
theorem Ja:eI prog 22=false:=by kernel_rfl
theorem IH:eI prog 73=true:=by kernel_rfl
theorem Gs:prog.bytesOf 3=8:=by kernel_rfl
theorem EK:prog.bytesOf 73=176:=by kernel_rfl
theorem cS {n:Nat} {vs:List V} (h:gK prog (n+1) 3 vs):∃m,vs=[vI m]∧inI m:=by
 obtain ⟨m,h,hw⟩:=DX underlying3 h;exact ⟨m,h,by simp [Lit.wf,IntKind.min,IntKind.max,IntKind.signed,IntKind.bits] at hw; unfold inI; omega⟩
theorem FK {n:Nat} {vs:List V} (h:gK prog (n+2) 53 vs):∃l,vs=[bh l]∧l.length≤17592186043904∧∀n∈l,inI n:=by
 obtain ⟨rows,rfl,hl,h⟩:=rZ underlying53 h;obtain ⟨l,rfl,hp⟩:=wD (f:=vI) (p:=inI) fun r hr=>by
  obtain ⟨cs,hc,rfl⟩:=h r hr;obtain ⟨m,rfl,hm⟩:=cS hc;exact ⟨m,by rw [H4]; rfl,hm⟩
 rw [Gs] at hl;simp only [List.length_map,reachBytes] at hl;exact ⟨l,by rw [GS]; rfl,by omega,hp⟩
theorem Dt {n:Nat} {vs:List V} (h:gK prog (n+2) 71 vs):∃s:Sty,vs=s.cells∧s.inI:=by
 replace h:=qE underlying71 h;simp only [uK] at h;obtain ⟨_,_,rfl,h1,_,_,rfl,h2,_,_,rfl,h3,_,_,rfl,h4,_,_,rfl,h5,_,_,rfl,h6,_,_,rfl,h7,_,_,rfl,h8,_,_,rfl,h9,_,_,rfl,h10,_,_,rfl,h11,_,_,rfl,h12,rfl⟩:=h;obtain ⟨m1,rfl,g1⟩:=cS h1;obtain ⟨m2,rfl,g2⟩:=cS h2;obtain ⟨m3,rfl,g3⟩:=cS h3;obtain ⟨m4,rfl,g4⟩:=cS h4;obtain ⟨m5,rfl,g5⟩:=cS h5;obtain ⟨m6,rfl,g6⟩:=cS h6;obtain ⟨m7,rfl,g7⟩:=cS h7;obtain ⟨m8,rfl,g8⟩:=cS h8;obtain ⟨m9,rfl,g9⟩:=cS h9;obtain ⟨m10,rfl,g10⟩:=cS h10;obtain ⟨m11,rfl,g11⟩:=cS h11;obtain ⟨m12,rfl,g12⟩:=cS h12;exact ⟨⟨m1,m2,m3,m4,m5,m6,m7,m8,m9,m10,m11,m12⟩,rfl,g1,g2,g3,g4,g5,g6,g7,g8,g9,g10,g11,g12⟩
theorem DS {n:Nat} {vs:List V} (h:gK prog (n+3) 73 vs):∃x:Nd,vs=x.cells∧x.real:=by
 replace h:=qE underlying73 h;simp only [uK] at h;obtain ⟨_,_,rfl,h1,_,_,rfl,h2,_,_,rfl,h3,_,_,rfl,h4,_,_,rfl,h5,_,_,rfl,h6,_,_,rfl,h7,_,_,rfl,h8,_,_,rfl,h9,rfl⟩:=h;obtain ⟨m1,rfl,g1⟩:=cS h1;obtain ⟨m2,rfl,g2⟩:=cS h2;obtain ⟨s,rfl,g3⟩:=Dt h3;obtain ⟨m4,rfl,g4⟩:=cS h4;obtain ⟨m5,rfl,g5⟩:=cS h5;obtain ⟨ws,rfl,g6,g6'⟩:=FK h6;obtain ⟨m7,rfl,g7⟩:=cS h7;obtain ⟨m8,rfl,g8⟩:=cS h8;obtain ⟨m9,rfl,g9⟩:=cS h9;exact ⟨⟨m1,m2,s,m4,m5,ws,m7,m8,m9⟩,rfl,⟨g1,g2,g3,g4,g5,g7,g8,g9⟩,g6,g6'⟩
theorem BY {n:Nat} {vs:List V} (h:gK prog (n+4) 22 vs):∃l,vs=[aJ l]∧l.length≤800000000000∧∀x∈l,x.real:=by
 obtain ⟨rows,rfl,hl,h⟩:=rZ underlying22 h;obtain ⟨l,rfl,hp⟩:=wD (f:=gP) (p:=Nd.real) fun r hr=>by
  obtain ⟨cs,hc,rfl⟩:=h r hr;obtain ⟨x,rfl,hx⟩:=DS hc;exact ⟨x,by rw [IH]; rfl,hx⟩
 rw [EK] at hl;simp only [List.length_map,reachBytes] at hl;exact ⟨l,by rw [FT]; rfl,by omega,hp⟩
theorem CV {n:Nat} {vs:List V} (h:gK prog (n+4) 22 vs):∃l,nW prog 22 vs=aJ l∧l.length≤800000000000∧∀x∈l,x.real:=by
 obtain ⟨l,rfl,h1,h2⟩:=BY h;exact ⟨l,by unfold nW; rw [Ja]; rfl,h1,h2⟩
open Go.Proofs Go.Proofs.Tryz
theorem lO (l:List Nd):∀(m a e:Nat),e - a < m→e≤l.length→bT l a e=true→∀k,a≤k→(h:k < e)→(h2:k < l.length)→bT l (k+1) (k+l[k].size.toNat)=true
 | 0,_,_,h,_,_=>by omega
 | m+1,a,e,hm,he,hr=>by
   intro k hk hke h2;have hae:a < e:=by omega
   have ha:a < l.length:=by omega
   rw [bT,dif_pos hae] at hr;have hga:l[a]?=some l[a]:=by simp [ha]
   rw [hga] at hr;simp only at hr;split at hr
   ·rename_i hx;simp only [Ba] at hr;obtain ⟨⟨h3,h4⟩,h5⟩:=hr;by_cases hka:k=a
    ·subst hka; exact h4
    ·by_cases hin:k < a+l[a].size.toNat
     ·exact lO l m (a+1) (a+l[a].size.toNat) (by omega) (by omega) h4 k (by omega) hin h2
     ·exact lO l m (a+l[a].size.toNat) e (by omega) he h5 k (by omega) hke h2
   ·cases hr
def hof (x:Nd):Int:=if x.kind=1 then x.st.top+x.st.bottom+x.st.padTop+x.st.padBottom+x.st.head else if x.kind=2 then x.line*x.words.length else x.h
def pof (x:Nd):Int:=if x.kind=1 then 0 else if x.kind=2 then x.words.length else 1
def iG:List Nd→Int
 | []=>0
 | x::l=>hof x+iG l
def jO:List Nd→Int
 | []=>0
 | x::l=>pof x+jO l
theorem xU (a b:List Nd):iG (a++b)=iG a+iG b:=by
 induction a with
 | nil=>simp [iG]
 | cons x a ih=>simp only [List.cons_append,iG,ih]; omega
theorem zp (a b:List Nd):jO (a++b)=jO a+jO b:=by
 induction a with
 | nil=>simp [jO]
 | cons x a ih=>simp only [List.cons_append,jO,ih]; omega
theorem sY {x:Nd} (h:x.ok=true):0≤hof x:=by
 obtain ⟨p1,p2,p3,p4,p5,p6⟩:=jh h;unfold hof;split
 ·rename_i hk;obtain ⟨q1,q2,q3,q4,q5⟩:=p6 hk;omega
 ·split
  ·exact Int.mul_nonneg p2 (by omega)
  ·exact p4
theorem yU {l:List Nd} (h:l.all Nd.ok=true):0≤iG l:=by
 induction l with
 | nil=>simp [iG]
 | cons x l ih =>
   simp only [List.all_cons,Ba] at h;have:=sY h.1;have:=ih h.2;simp only [iG]; omega
def dm (l:List Nd):Nat→Int
 | 0=>0
 | i+1=>match l[i]? with
   | some x=>if x.kind=1 then max (dm l i) (gW l i (i+1)) else dm l i
   | none=>dm l i
theorem DC {l:List Nd} {i:Nat} {x:Nd} {s:Sm} (hx:x.ok=true) (hs:0≤s.heights∧s.heights≤1099511627777):(mR l i x s).heights=min (s.heights+hof x) 1099511627777∧(mR l i x s).pieces=s.pieces+pof x ∧
 (mR l i x s).depth=(if x.kind=1 then max s.depth (gW l i (i+1)) else s.depth)∧(mR l i x s).nodes=s.nodes:=by
 obtain ⟨p1,p2,p3,p4,p5,p6⟩:=jh hx;unfold mR hof pof;by_cases hk:x.kind=1
 ·obtain ⟨q1,q2,q3,q4,q5⟩:=p6 hk;simp only [hk,if_true,jg];refine ⟨by omega,by omega,trivial,trivial⟩
 ·by_cases hk2:x.kind=2
  ·rw [if_neg hk,if_pos hk2,if_neg hk,if_pos hk2,if_neg hk,if_pos hk2,if_neg hk];simp only [];refine ⟨qS hs p2 _,trivial,trivial,trivial⟩
  ·rw [if_neg hk,if_neg hk2,if_neg hk,if_neg hk2,if_neg hk,if_neg hk2,if_neg hk];exact ⟨rfl,rfl,rfl,rfl⟩
theorem sX (l:List Nd) (hok:l.all Nd.ok=true):∀i,i≤l.length→(ga l ⟨0,0,l.length,0⟩ i)=⟨dm l i,jO (l.take i),l.length,min (iG (l.take i)) 1099511627777⟩
 | 0,_=>by simp [ga,dm,jO,iG]; omega
 | i+1,hi=>by
   have ih:=sX l hok i (by omega);have hg:l[i]?=some l[i]:=by simp [show i < l.length by omega]
   have hx:=List.all_eq_true.1 hok _ (List.getElem_mem (show i < l.length by omega));have ht:l.take (i+1)=l.take i++[l[i]]:=List.take_succ_eq_append_getElem (by omega);have hn:0≤iG (l.take i):=yU (List.all_eq_true.2 fun x hx=>List.all_eq_true.1 hok x (List.mem_of_mem_take hx));have hh:=sY hx;simp only [ga,hg,ih];obtain ⟨g1,g2,g3,g4⟩:=DC (l:=l) (i:=i) (s:=⟨dm l i,jO (l.take i),l.length,min (iG (l.take i)) 1099511627777⟩) hx ⟨by simp only; omega,by simp only; omega⟩;generalize mR l i l[i] ⟨dm l i,jO (l.take i),l.length,min (iG (l.take i)) 1099511627777⟩=r at *;obtain ⟨r1,r2,r3,r4⟩:=r;simp only at g1 g2 g3 g4;subst g1 g2 g3 g4;simp only [dm,hg,ht,zp,xU,jO,iG,Sm.mk.injEq,Int.add_zero,true_and];omega
open Go.Proofs Go.Proofs.Tryz
def V.flat:V→Bool
 | .agg vs=>vs.all V.lone
 | v=>v.lone
def V.BW:V→Bool
 | .tup vs=>vs.all V.flat
 | v=>v.flat
theorem ar.lone {μ μ':Mu} {ow ow':Nat→Prop} {w w':World}:∀ {vs:List V} {l:List Value},vs.all V.lone=true→ar μ ow w vs l→ar μ' ow' w' vs l
 | [],l,_,h=>by simpa [ar] using h
 | v::vs,l,hv,h=>by
   simp only [List.all_cons,Ba] at hv;simp only [ar] at h ⊢;obtain ⟨x,xs,rfl,h1,h2⟩:=h;exact ⟨x,xs,rfl,Rep.lone hv.1 h1,ar.lone hv.2 h2⟩
theorem Rep.flat {μ μ':Mu} {ow ow':Nat→Prop} {w w':World} {v:V} {x:Value} (hv:v.flat=true) (h:Rep μ ow w v x):Rep μ' ow' w' v x:=by
 cases v <;> try exact Rep.lone hv h
 rename_i vs;simp only [Rep] at h ⊢;obtain ⟨vals,rfl,h1,h2⟩:=h;exact ⟨vals,rfl,ar.lone hv h1,h2⟩
theorem ar.flat {μ μ':Mu} {ow ow':Nat→Prop} {w w':World}:∀ {vs:List V} {l:List Value},vs.all V.flat=true→ar μ ow w vs l→ar μ' ow' w' vs l
 | [],l,_,h=>by simpa [ar] using h
 | v::vs,l,hv,h=>by
   simp only [List.all_cons,Ba] at hv;simp only [ar] at h ⊢;obtain ⟨x,xs,rfl,h1,h2⟩:=h;exact ⟨x,xs,rfl,Rep.flat hv.1 h1,ar.flat hv.2 h2⟩
theorem Rep.BW {μ μ':Mu} {ow ow':Nat→Prop} {w w':World} {v:V} {x:Value} (hv:v.BW=true) (h:Rep μ ow w v x):Rep μ' ow' w' v x:=by
 cases v <;> try exact Rep.flat hv h
 rename_i vs;simp only [Rep] at h ⊢;obtain ⟨vals,rfl,h1⟩:=h;exact ⟨vals,rfl,ar.flat hv h1⟩
theorem aV.zd {P:Program} {f:FuncId} {args args':List V} {v:V} {σ:af} (hw:WkL σ jG args args') (h:aV P f args' v) (hv:v.BW=true) :
 av P f args σ fun r σ'=>r=v∧σ'=σ:=by
 refine ⟨(h jG).1,?_⟩;intro μ w vals hs hr;have hs0:Sat w (aB μ jG) μ jG w:=by
  have:=hs.drop (oE σ);exact ⟨Nat.le_refl _,rfl,rfl,rfl,fun _ _ _=>rfl,this.fin,this.inj,this.obj,fun b hb _=>hb,this.nA⟩
 refine ((h jG).2 μ w vals hs0 (WkL.all hs hw hr)).mono ?_;rintro e w' ⟨r,σ',μ',val,rfl,⟨rfl,rfl⟩,hle,hs',hrep⟩;have hno:∀b,¬aB μ jG b:=fun b ⟨_,_,_,_,h,_⟩=>by simp [jG] at h
 have hsame:∀b,b < w.heap.size→w'.heap[b]?=w.heap[b]?:=fun b hb=>hs'.same b hb (hno b);have hborn:∀id o,σ id=some o→μ' id=μ id:=fun id o ho=>hle id (fun e=>by
  have:=hs.obj id o ho; rw [e] at this; exact this)
 have hown:∀b,aB μ' σ b→aB μ σ b:=fun b ⟨id,o,sz,cap,h1,h2⟩=>⟨id,o,sz,cap,h1,hborn id o h1 ▸ h2⟩
 have hk:cB (aB μ σ) (aB μ' σ) w w':=fun b hb hn=>⟨fun ho=>hn (hown b ho),hsame b hb⟩
 refine ⟨_,σ,μ',val,rfl,⟨rfl,rfl⟩,hle,?_,Rep.BW hv hrep⟩;refine ⟨hs'.size,hs'.os,hs'.tape,hs'.output,fun b hb _=>hsame b hb,hs'.fin,?_,?_,fun b hb _=>hown b hb,hs.glob⟩
 ·intro id id' o o' b sz cap sz' cap' h1 h2 h3 h4;exact hs.inj id id' o o' b sz cap sz' cap' h1 h2 (hborn id o h1 ▸ h3) (hborn id' o' h2 ▸ h4)
 ·intro id o ho;rw [hborn id o ho];refine (hs.obj id o ho).mono hle hk hs'.size fun b sz cap hp=>hsame b ?_;exact aB.lt hs ⟨id,o,sz,cap,ho,hp⟩
open Go.Proofs Go.Proofs.Tryz
theorem cJ {l:List Nd} {a e:Nat} (he:e≤l.length) (h:bT l a e=true) {k:Nat} (h1:a≤k) (h2:k < e):(k:Int)+szI l k≤e∧1≤szI l k:=by
 have:=gO l (e - a+1) a e (by omega) he h k h1 h2 (by omega);rw [kB (by omega)];omega
theorem dC {l:List Nd} {a e:Nat} (he:e≤l.length) (h:bT l a e=true) (hae:a < e):bT l (a+(szI l a).toNat) e=true∧bT l (a+1) (a+(szI l a).toNat)=true:=by
 have ha:a < l.length:=by omega
 rw [bT,dif_pos hae] at h;simp only [List.getElem?_eq_getElem ha] at h;rw [kB ha];split at h
 ·simp only [Ba] at h;exact ⟨h.2,h.1.2⟩
 ·cases h
open Go.Proofs Go.Proofs.Tryz
theorem zK (l:List Nd) (hl:dJ l) (hb:isB l=true):aV prog 78 [aJ l] (.agg [aJ l]):=fun σ=>by
 refine e78.r (by simp [c78]) ?_;refine ad.mix 3 ?_;apply sR;simp only [go_sem,seval,c78];refine ae fun id2 σ1 s1 a2 f2=>?_;simp only [go_sem,seval,a2];refine ad.az rfl rfl rfl (BR l hl _) ?_;apply sR;simp only [go_sem,seval,hb,a2,aJ];refine au.pure (s1.aD f2) rfl
theorem JC (l:List Nd) (a:Int):aV prog 178 [aJ l,vI a] (.bool (ud l a)):=fun σ=>by
 refine MT.r (by simp [Ki]) ?_;refine ad.mix 6 ?_;apply sR;simp only [go_sem,seval,aH,aL,Ki,eE];refine And.intro (fun h=>?_) (fun h=>?_)
 ·refine au.same ?_;simp [ud]; omega
 ·refine au.same ?_;simp [ud]; omega
theorem uj (l:List Nd) (hl:dJ l) (hb:isB l=true) (a:Nat) (ha:a < l.length):aV prog 179 [aJ l,vI a] (vI (eg l a)):=fun σ=>by
 have hl1:=hl.1;refine ML.r (by simp [IF]) ?_;refine ad.mix 6 ?_;apply sR;simp only [go_sem,seval,aH,aL,IF];refine ⟨ak (by omega) (by omega),?_⟩;refine ad.loop (fun m st=>∃(k:Nat),k≤a∧m=k∧eg l a=qJ l a k∧st.σ=σ∧st.s 0=aJ l∧st.s 1=vI a∧st.s 5=vI ((k:Int) - 1)) a ?_ ?_
 ·exact ⟨a,by omega,rfl,rfl,rfl,rfl,rfl,rfl⟩
 ·rintro m ⟨s,σ'⟩ ⟨k,hk,rfl,heq,hσ,h0,h1,h5⟩;simp only at hσ h0 h1 h5;subst hσ;refine ad.mix 6 ?_;apply sR;simp only [go_sem,seval,aH,aL,h0,h1,h5];refine And.intro (fun h=>?_) (fun h=>?_)
  ·obtain ⟨k,rfl⟩:∃j,m=j+1:=⟨m - 1,by omega⟩
   have e1:((k+1:Nat):Int) - 1=k:=by omega
   have hlt:k < l.length:=by omega
   have hsz:=oY hb hlt;have hse:=kB hlt;have hx:=lL (σ:=σ') hlt;simp only [go_sem,seval,aH,aL,e1,hx,Nd.cells,h0,h1,h5];rw [←hse];refine ⟨ak (by omega) (by omega),And.intro (fun hc=>?_) (fun hc=>?_)⟩
   ·refine au.same ?_;rw [heq,qJ,if_pos];simp only [gq,Ba,decide_eq_true_eq,ud];simp;omega
   ·refine ⟨ak (by omega) (by omega),_,?_,k,by omega,rfl,?_,rfl⟩
    ·omega
    ·rw [heq,qJ,if_neg];simp only [gq,Ba,decide_eq_true_eq,ud];simp;omega
  ·have hk0:m=0:=by omega
   subst hk0;refine au.same ?_;rw [heq]; rfl
end Go.Vc
