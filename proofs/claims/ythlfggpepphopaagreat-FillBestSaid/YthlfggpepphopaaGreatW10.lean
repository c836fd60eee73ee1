/- Part 10 of the library of this proof. -/
import Derived.Test.YthlfggpepphopaaGreatW9
import Derived.Test.YthlfggpepphopaaGreatProg
import Derived.KernelRfl
set_option linter.all false
set_option maxHeartbeats 4000000
set_option maxRecDepth 1000000
namespace Go.Vc
def Lv (R:Nat→Nat→Prop) (σc σ:af):Prop:=∀c a o,R c a→σc c=some o→∃rows',σ a=some ⟨o.elem,o.sz,rows'⟩∧aO R o.rows rows'
theorem Lv.sup {R:Nat→Nat→Prop} {σc σ σ1:af} (h:Lv R σc σ) (hs:aa σ σ1):Lv R σc σ1:=fun c a o hc ho=>by
 obtain ⟨rows',h1,h2⟩:=h c a o hc ho
 exact ⟨rows',hs _ _ h1,h2⟩
structure mG (K:af) (fl:Nat) (R:Nat→Nat→Prop) (σc:af) (nxt:Nat) (σ:af):Prop where
 dom:∀c a,R c a→c < nxt
 live:Lv R σc σ
 inj:∀c c' a o o',R c a→R c' a→σc c=some o→σc c'=some o'→c=c'
 fn:∀c a a',R c a→R c a'→a=a'
 kD:aa K σ
 kfl:∀a o c oc,K a=some o→R c a→σc c=some oc→c < fl
section
variable {R:Nat→Nat→Prop} {K σc σ:af} {fl nxt:Nat}
theorem mG.write (h:mG K fl R σc nxt σ) {c a:Nat} {o:Ob} (hc:R c a) (ho:σc c=some o) (hf:fl≤c) {rows rows':List V} (hr:aO R rows rows') :
 mG K fl R (upd σc c ⟨o.elem,o.sz,rows⟩) nxt (upd σ a ⟨o.elem,o.sz,rows'⟩):=by
 have hlive:∀i x,upd σc c ⟨o.elem,o.sz,rows⟩ i=some x→∃y,σc i=some y:=fun i x hx=>by
  by_cases e:i=c
  ·rw [e]; exact ⟨o,ho⟩
  ·rw [ab e] at hx; exact ⟨x,hx⟩
 refine ⟨h.dom,?_,?_,?_,?_,?_⟩
 ·intro c1 a1 o1 h1 h2
  by_cases e:c1=c
  ·subst e
   have:a1=a:=h.fn c1 a1 a h1 hc
   subst this
   rw [ag] at h2
   simp only [Oi] at h2
   subst h2
   exact ⟨rows',ag,hr⟩
  ·rw [ab e] at h2
   have hne:a1≠a:=fun e'=>by subst e'; exact e (h.inj c1 c a1 o1 o h1 hc h2 ho)
   rw [ab hne]
   exact h.live c1 a1 o1 h1 h2
 ·intro c1 c2 a1 o1 o2 h1 h2 h3 h4
  obtain ⟨y,hy⟩:=hlive _ _ h3
  obtain ⟨z,hz⟩:=hlive _ _ h4
  exact h.inj c1 c2 a1 y z h1 h2 hy hz
 ·exact h.fn
 ·intro i x hx
  have hne:i≠a:=fun e=>by subst e; have:=h.kfl i x c o hx hc ho; omega
  rw [ab hne]
  exact h.kD i x hx
 ·intro a1 o1 c1 oc h1 h2 h3
  obtain ⟨y,hy⟩:=hlive _ _ h3
  exact h.kfl a1 o1 c1 y h1 h2 hy
theorem mG.rem (h:mG K fl R σc nxt σ) {c a:Nat} {o:Ob} (hc:R c a) (ho:σc c=some o) (hf:fl≤c) :
 mG K fl R (del σc c) nxt (del σ a):=by
 have hlive:∀i x,del σc c i=some x→i≠c∧σc i=some x:=fun i x hx=>by
  by_cases e:i=c
  ·subst e; simp [Vc.del] at hx
  ·rw [dg e] at hx; exact ⟨e,hx⟩
 refine ⟨h.dom,?_,?_,?_,?_,?_⟩
 ·intro c1 a1 o1 h1 h2
  obtain ⟨e,h2⟩:=hlive _ _ h2
  have hne:a1≠a:=fun e'=>by subst e'; exact e (h.inj c1 c a1 o1 o h1 hc h2 ho)
  rw [dg hne]
  exact h.live c1 a1 o1 h1 h2
 ·intro c1 c2 a1 o1 o2 h1 h2 h3 h4
  exact h.inj c1 c2 a1 o1 o2 h1 h2 (hlive _ _ h3).2 (hlive _ _ h4).2
 ·exact h.fn
 ·intro i x hx
  have hne:i≠a:=fun e=>by subst e; have:=h.kfl i x c o hx hc ho; omega
  rw [dg hne]
  exact h.kD i x hx
 ·intro a1 o1 c1 oc h1 h2 h3
  exact h.kfl a1 o1 c1 oc h1 h2 (hlive _ _ h3).2
def ext (R:Nat→Nat→Prop) (c a:Nat):Nat→Nat→Prop:=fun x y=>R x y∨(x=c∧y=a)
theorem uC (c a:Nat):∀x y,R x y→ext R c a x y:=fun _ _ h=>.inl h
theorem mG.new (h:mG K fl R σc nxt σ) {i:Nat} (hi:σ i=none) {ob:Ob} {rows':List V} (hr:aO R ob.rows rows') :
 mG K fl (ext R nxt i) (upd σc nxt ob) (nxt+1) (upd σ i ⟨ob.elem,ob.sz,rows'⟩):=by
 have hlt:∀c a,R c a→c≠nxt:=fun c a hc=>by have:=h.dom c a hc; omega
 have hold:∀c a o,R c a→upd σc nxt ob c=some o→σc c=some o∧a≠i:=fun c a o hc ho=>by
  rw [ab (hlt c a hc)] at ho
  refine ⟨ho,fun e=>?_⟩
  subst e
  obtain ⟨r,hr,_⟩:=h.live c a o hc ho
  rw [hi] at hr; cases hr
 refine ⟨?_,?_,?_,?_,h.kD.upd hi,?_⟩
 ·rintro c a (hc | ⟨rfl,rfl⟩)
  ·have:=h.dom c a hc; omega
  ·omega
 ·rintro c a o (hc | ⟨rfl,rfl⟩) ho
  ·obtain ⟨h1,h2⟩:=hold c a o hc ho
   obtain ⟨r,h3,h4⟩:=h.live c a o hc h1
   rw [ab h2]
   exact ⟨r,h3,aO.mono (uC nxt i) _ _ h4⟩
  ·rw [ag] at ho
   simp only [Oi] at ho
   subst ho
   exact ⟨rows',ag,aO.mono (uC _ _) _ _ hr⟩
 ·rintro c c' a o o' (hc | ⟨rfl,rfl⟩) (hc' | ⟨rfl,e⟩) ho ho'
  ·exact h.inj c c' a o o' hc hc' (hold _ _ _ hc ho).1 (hold _ _ _ hc' ho').1
  ·exact absurd e (hold _ _ _ hc ho).2
  ·exact absurd rfl (hold _ _ _ hc' ho').2
  ·rfl
 ·rintro c a a' (hc | ⟨rfl,rfl⟩) (hc' | ⟨e,rfl⟩)
  ·exact h.fn c a a' hc hc'
  ·exact absurd e (hlt _ _ hc)
  ·exact absurd rfl (hlt _ _ hc')
  ·rfl
 ·rintro a o c oc hk (hc | ⟨rfl,rfl⟩) ho
  ·exact h.kfl a o c oc hk hc (hold _ _ _ hc ho).1
  ·have:=h.kD a o hk
   rw [hi] at this; cases this
def okX:VX→Bool
 | .t _=>true
 | .c v=>v.dQ
def nU (op:VOp):Bool:=op.xs.all okX && (match op with
 | .alloc _ _ z=>z.dQ
 | .build zero _=>fT zero
 | .clear _ z _=>z.dQ
 | .mk _ _ _ z _=>z.dQ
 | .more (.tas _ _ z) _=>z.dQ
 | _=>true)
def nF (i:aE):Bool:=nU i.op && (match i.g with
 | some (x,_)=>okX x
 | none=>true)
def gn:bx→Bool
 | .reg _ l=>l.all nF
 | .seq a b=>gn a && gn b
 | .cond c a b=>okX c && (gn a && gn b)
 | .block _ a=>gn a
 | .loop a=>gn a
 | _=>true
def zq:VR→Bool
 | .tmp x=>okX x
 | .cell _ _ x=>okX x
 | .bad=>true
def Il (f:VFn):Bool:=gn f.code && f.res.all zq
variable {s s':Nat→V}
theorem er (hs:∀i,aA R (s i) (s' i)) {x:VX} (hx:okX x=true):aA R (x.ev s) (x.ev s'):=by
 cases x with
 | t n=>exact hs n
 | c v=>exact dT v hx
theorem lB (hs:∀i,aA R (s i) (s' i)):∀ {xs:List VX},xs.all okX=true→aO R (xs.map (·.ev s)) (xs.map (·.ev s'))
 | [],_=>by simp [aO]
 | x::xs,h=>by
   simp only [List.all_cons,Ba] at h
   exact aO.bU.2 ⟨_,_,rfl,er hs h.1,lB hs h.2⟩
theorem vY {op:BinOp} {k:IntKind} {a b:Int} {v:V} (h:cL op k a b=some v):v.dQ=true:=by
 unfold cL at h
 split at h <;> first
  | (simp only [Oi] at h; subst h; rfl)
  | (split at h <;> first | (simp only [Oi] at h; subst h; rfl) | cases h)
  | cases h
theorem vK {op:BinOp} {a b:List UInt8} {v:V} (h:ee op a b=some v):v.dQ=true:=by
 unfold ee at h
 split at h <;> first
  | (simp only [Oi] at h; subst h; rfl)
  | cases h
theorem DB {op:BinOp} {a b a' b' v:V} (ha:aA R a a') (hb:aA R b b') (h:sU op a b=some v):a'=a∧b'=b∧v.dQ=true:=by
 unfold sU at h
 split at h
 ·simp only [aA] at ha hb
  split at h
  ·exact ⟨ha,hb,vY h⟩
  ·cases h
 ·simp only [aA] at ha hb
  exact ⟨ha,hb,vK h⟩
 ·cases h
theorem DQ {b:Bool} {x x' v:V} (hx:aA R x x') (h:dB b x=some v):∃v',dB b x'=some v'∧aA R v v':=by
 unfold dB at h
 split at h <;> simp only [Oi,reduceCtorEq] at h <;> simp only [aA] at hx <;> subst h
 ·obtain ⟨i,rfl,_⟩:=hx; exact ⟨_,rfl,by simp [aA]⟩
 ·obtain ⟨i,rfl,hr⟩:=hx; exact ⟨_,rfl,by simp [aA,hr.length]⟩
 ·subst hx; exact ⟨_,rfl,by simp [aA]⟩
 ·subst hx; exact ⟨_,rfl,by simp [aA]⟩
theorem gX {agg:Bool} {off sz:Nat} {vs us:List V} {v:V} (h:aO R vs us) (hv:bE agg off sz vs=some v):∃v',bE agg off sz us=some v'∧aA R v v':=by
 unfold bE at hv ⊢
 cases agg
 ·simpa using h.get hv
 ·simp only [if_true,Oi] at hv ⊢
  subst hv
  exact ⟨_,rfl,aA.agg ((h.drop off).take sz)⟩
theorem CU {agg:Bool} {off sz:Nat} {x x' v:V} (hx:aA R x x') (h:j9 agg off sz x=some v):∃v',j9 agg off sz x'=some v'∧aA R v v':=by
 unfold j9 at h
 split at h
 ·obtain ⟨c,rfl,hr⟩:=aA.nz.1 hx
  exact gX hr h
 ·cases h
theorem AH {agg:Bool} {off sz:Nat} {x x' v:V} (hx:aA R x x') (h:gF agg off sz x=some v):∃v',gF agg off sz x'=some v'∧aA R v v':=by
 unfold gF at h
 split at h
 ·simp only [aA] at hx
  obtain ⟨i,rfl,hr⟩:=hx
  simp only [Oi] at h; subst h
  exact ⟨_,rfl,by simp only [aA]; exact ⟨i,rfl,hr⟩⟩
 ·simp only [aA] at hx
  obtain ⟨u,rfl,hr⟩:=hx
  simp only [Option.map_eq_some_iff] at h
  obtain ⟨w,hw,rfl⟩:=h
  obtain ⟨w',h1,h2⟩:=gX hr.cells hw
  exact ⟨.rp w',by simp [gF,h1],aA.rp h2⟩
 ·cases h
theorem Bx (hm:Lv R σc σ) {esz:Nat} {x i x' i' v:V} (hx:aA R x x') (hi:aA R i i') (h:bF σc esz x i=some v):∃v',bF σ esz x' i'=some v'∧aA R v v':=by
 unfold bF at h
 split at h
 ·simp only [aA] at hx hi
  obtain ⟨a,rfl,ha⟩:=hx
  subst hi
  split at h
  ·rename_i ob hob
   obtain ⟨rows',h1,h2⟩:=hm _ _ _ ha hob
   split at h
   ·rename_i hc
    simp only [Oi] at h; subst h
    refine ⟨_,?_,by simp only [aA]; exact ⟨a,rfl,ha⟩⟩
    simp only [bF,h1]
    rw [if_pos hc]
   ·cases h
  ·cases h
 ·simp only [aA] at hx hi
  obtain ⟨rows',rfl,hr⟩:=hx
  subst hi
  split at h
  ·rename_i hc
   split at h
   ·rename_i r hrr
    simp only [Oi] at h; subst h
    obtain ⟨u,h1,h2⟩:=hr.get hrr
    refine ⟨.rp u,?_,aA.rp h2⟩
    simp only [bF,h1]
    rw [if_pos hc]
   ·cases h
  ·cases h
 ·cases h
theorem yK {agg:Bool} {n esz:Nat} {x i x' i' v:V} (hx:aA R x x') (hi:aA R i i') (h:dJ agg n esz x i=some v):∃v',dJ agg n esz x' i'=some v'∧aA R v v':=by
 unfold dJ at h
 split at h
 ·simp only [aA] at hx hi
  obtain ⟨a,rfl,ha⟩:=hx
  subst hi
  split at h
  ·rename_i hc
   simp only [Oi] at h; subst h
   exact ⟨_,by simp only [dJ]; rw [if_pos hc],by simp only [aA]; exact ⟨a,rfl,ha⟩⟩
  ·cases h
 ·simp only [aA] at hx hi
  obtain ⟨u,rfl,hr⟩:=hx
  subst hi
  split at h
  ·rename_i hc
   simp only [Option.map_eq_some_iff] at h
   obtain ⟨w,hw,rfl⟩:=h
   obtain ⟨w',h1,h2⟩:=gX hr.cells hw
   exact ⟨.rp w',by simp only [dJ]; rw [if_pos hc,h1]; rfl,aA.rp h2⟩
  ·cases h
 ·cases h
theorem A3 {agg:Bool} {n esz:Nat} {x i x' i' v:V} (hx:aA R x x') (hi:aA R i i') (h:fQ agg n esz x i=some v):∃v',fQ agg n esz x' i'=some v'∧aA R v v':=by
 unfold fQ at h
 split at h
 ·obtain ⟨c,rfl,hr⟩:=aA.nz.1 hx
  rw [aA.iN] at hi
  subst hi
  split at h
  ·rename_i hc
   obtain ⟨w',h1,h2⟩:=gX hr h
   exact ⟨w',by simp only [fQ]; rw [if_pos hc,h1],h2⟩
  ·cases h
 ·cases h
theorem AB {x i x' i' v:V} (hx:aA R x x') (hi:aA R i i') (h:fp x i=some v):∃v',fp x' i'=some v'∧aA R v v':=by
 have h0:=h
 unfold fp at h
 split at h
 ·rw [aA.qe] at hx
  rw [aA.iN] at hi
  subst hx hi
  refine ⟨v,h0,?_⟩
  split at h
  ·split at h
   ·simp only [Oi] at h; subst h; simp [aA]
   ·cases h
  ·cases h
 ·cases h
theorem tu (hm:Lv R σc σ) {agg:Bool} {sz:Nat} {x x' v:V} (hx:aA R x x') (h:bM σc agg sz x=some v):∃v',bM σ agg sz x'=some v'∧aA R v v':=by
 unfold bM at h
 split at h
 ·simp only [aA] at hx
  obtain ⟨a,rfl,ha⟩:=hx
  split at h
  ·rename_i ob hob
   obtain ⟨rows',h1,h2⟩:=hm _ _ _ ha hob
   split at h
   ·rename_i r hr
    obtain ⟨r',h3,h4⟩:=h2.get hr
    have hl:=h4.cells.length
    simp only [bM,h1,h3,hl]
    cases agg
    ·simp only [Bool.false_eq_true,if_false] at h ⊢
     exact h4.cells.get h
    ·simp only [if_true] at h ⊢
     split at h
     ·rename_i hc
      simp only [Oi] at h; subst h
      exact ⟨_,by rw [if_pos hc],aA.agg h4.cells⟩
     ·split at h
      ·rename_i hc hc'
       rw [if_neg hc,if_pos hc']
       simp only [Oi] at h; subst h
       exact ⟨_,rfl,aA.agg ((h4.cells.drop _).take _)⟩
      ·cases h
   ·cases h
  ·cases h
 ·simp only [aA] at hx
  obtain ⟨u,rfl,hr⟩:=hx
  rename_i w
  have hl:=hr.cells.length
  cases agg
  ·simp only [Bool.false_eq_true,if_false] at h
   split at h
   ·cases h
   ·simp only [Oi] at h; subst h
    rename_i hna
    refine ⟨u,?_,hr⟩
    cases u <;> simp only [bM,Bool.false_eq_true,if_false]
    cases w <;> simp only [aA] at hr <;> simp at hr hna
  ·simp only [if_true] at h
   split at h
   ·rename_i hc
    simp only [Oi] at h; subst h
    refine ⟨_,?_,aA.agg hr.cells⟩
    simp only [bM,hl,if_true]
    rw [if_pos hc]
   ·cases h
 ·cases h
theorem x8 {d:Int}:∀ {o o':Option V},(match o,o' with | none,none=>True | some x,some x'=>aA R x x' | _,_=>False)→∀ {j:Int},bz d o=some j→bz d o'=some j
 | none,none,_,j,h=>h
 | some x,some x',hx,j,h=>by
   simp only at hx
   cases x <;> simp only [bz] at h <;> first | cases h | skip
   rw [aA.iN] at hx
   subst hx
   rfl
 | none,some _,hx,_,_=>hx.elim
 | some _,none,hx,_,_=>hx.elim
theorem yP (hm:Lv R σc σ) {esz:Nat} {x x' v:V} {lo hi mx lo' hi' mx':Option V} (hx:aA R x x')
 (h1:∀d j,bz d lo=some j→bz d lo'=some j) (h2:∀d j,bz d hi=some j→bz d hi'=some j) (h3:∀d j,bz d mx=some j→bz d mx'=some j)
 (h:cD σc esz x lo hi mx=some v):∃v',cD σ esz x' lo' hi' mx'=some v'∧aA R v v':=by
 unfold cD at h
 split at h
 ·simp only [aA] at hx
  obtain ⟨a,rfl,ha⟩:=hx
  split at h
  ·rename_i l hh m e1 e2 e3
   split at h
   ·rename_i hc
    simp only [Oi] at h; subst h
    have hsz:iJ σ a esz=true:=by
     have hz:=hc.2.2.2.2
     unfold iJ at hz ⊢
     split at hz
     ·rename_i ob hob
      obtain ⟨rows',g1,g2⟩:=hm _ _ _ ha hob
      rw [g1]; exact hz
     ·cases hz
    refine ⟨_,?_,by simp only [aA]; exact ⟨a,rfl,ha⟩⟩
    simp only [cD,h1 _ _ e1,h2 _ _ e2,h3 _ _ e3]
    rw [if_pos ⟨hc.1,hc.2.1,hc.2.2.1,hc.2.2.2.1,hsz⟩]
   ·cases h
  ·cases h
 ·simp only [aA] at hx
  obtain ⟨rows',rfl,hr⟩:=hx
  have hl:=hr.length
  split at h
  ·rename_i l hh m e1 e2 e3
   split at h
   ·rename_i hc
    simp only [Oi] at h; subst h
    refine ⟨.sl _ ((rows'.drop l.toNat).take (hh.toNat - l.toNat)),?_,by simp only [aA]; exact ⟨_,rfl,(hr.drop _).take _⟩⟩
    simp only [cD,h1 _ _ e1,hl,h2 _ _ e2,h3 _ _ e3]
    rw [if_pos hc]
   ·cases h
  ·cases h
 ·simp only [aA] at hx
  subst hx
  split at h
  ·rename_i l hh m e1 e2 e3
   split at h
   ·rename_i hc
    simp only [Oi] at h; subst h
    refine ⟨.aM,?_,by simp [aA]⟩
    simp only [cD,h1 _ _ e1,h2 _ _ e2,h3 _ _ e3]
    rw [if_pos hc]
   ·cases h
  ·cases h
 ·cases h
theorem wO {x x' v:V} {lo hi lo' hi':Option V} (hx:aA R x x')
 (h1:∀d j,bz d lo=some j→bz d lo'=some j) (h2:∀d j,bz d hi=some j→bz d hi'=some j)
 (h:cQ x lo hi=some v):∃v',cQ x' lo' hi'=some v'∧aA R v v':=by
 unfold cQ at h
 split at h
 ·rw [aA.qe] at hx
  subst hx
  split at h
  ·rename_i l hh e1 e2
   split at h
   ·rename_i hc
    simp only [Oi] at h; subst h
    refine ⟨_,?_,aA.qe.2 rfl⟩
    simp only [cQ,h1 _ _ e1,h2 _ _ e2]
    rw [if_pos hc]
   ·cases h
  ·cases h
 ·cases h
theorem sx {x x' v:V} (hx:aA R x x') (h:bY x=some v):∃v',bY x'=some v'∧aA R v v':=by
 unfold bY at h
 split at h <;> first | cases h | skip
 all_goals (have hx0:=hx; simp only [aA] at hx; obtain ⟨i,rfl,_⟩:=hx; exact ⟨_,rfl,hx0⟩)
theorem AF {neg:Bool} {x y x' y' v:V} (hx:aA R x x') (hy:aA R y y') (h:binBV neg x y=some v):∃v',binBV neg x' y'=some v'∧aA R v v':=by
 have h0:=h
 unfold binBV at h
 split at h
 ·rw [aA.kK] at hx hy
  subst hx hy
  refine ⟨v,h0,?_⟩
  simp only [Oi] at h; subst h; simp [aA]
 ·cases h
theorem xd {m:Bool} {x y x' y' v:V} (hx:aA R x x') (hy:aA R y y') (h:de m x y=some v):∃v',de m x' y'=some v'∧aA R v v':=by
 have h0:=h
 unfold de at h
 split at h
 ·rw [aA.iN] at hx hy
  subst hx hy
  refine ⟨v,h0,?_⟩
  split at h
  ·simp only [Oi] at h; subst h; simp [aA]
  ·cases h
 ·cases h
theorem yR {x y x' y':V} {b:Bool} (hx:aA R x x') (hy:aA R y y') (h:dF x y=some b):x'=x∧y'=y:=by
 unfold dF at h
 split at h <;> first | cases h | skip
 all_goals simp only [aA] at hx hy
 all_goals exact ⟨hx,hy⟩
theorem px:∀ {l m l' m':List V} {b:Bool},aO R l l'→aO R m m'→ck l m=some b→l'=l∧m'=m
 | [],[],_,_,_,h1,h2,_=>by rw [aO.gz] at h1 h2; exact ⟨h1,h2⟩
 | v::vs,u::us,_,_,b,h1,h2,h=>by
   obtain ⟨v',vs',rfl,g1,g2⟩:=aO.bU.1 h1
   obtain ⟨u',us',rfl,g3,g4⟩:=aO.bU.1 h2
   simp only [ck] at h
   split at h
   ·rename_i e1 e2
    obtain ⟨rfl,rfl⟩:=yR g1 g3 e1
    obtain ⟨rfl,rfl⟩:=px g2 g4 e2
    exact ⟨rfl,rfl⟩
   ·cases h
 | [],_::_,_,_,_,_,_,h=>by simp [ck] at h
 | _::_,[],_,_,_,_,_,h=>by simp [ck] at h
theorem Dn {neg:Bool} {ks:List Nat} {x y x' y' v:V} (hx:aA R x x') (hy:aA R y y') (h:jR neg ks x y=some v):∃v',jR neg ks x' y'=some v'∧aA R v v':=by
 have h0:=h
 unfold jR at h
 split at h
 ·obtain ⟨c,rfl,g1⟩:=aA.nz.1 hx
  obtain ⟨d,rfl,g2⟩:=aA.nz.1 hy
  split at h
  ·split at h
   ·rename_i e
    obtain ⟨rfl,rfl⟩:=px g1 g2 e
    refine ⟨v,h0,?_⟩
    simp only [Oi] at h; subst h; simp [aA]
   ·cases h
  ·cases h
 ·cases h
theorem oS:∀ {l m:List V} {b:List UInt8},aO R l m→bytesOf l=some b→m=l
 | [],_,_,h,_=>by rw [aO.gz] at h; exact h
 | v::vs,_,b,h,hb=>by
   obtain ⟨u,us,rfl,g1,g2⟩:=aO.bU.1 h
   simp only [bytesOf] at hb
   split at hb
   ·rename_i e1 e2
    rw [oS g2 e2]
    cases v <;> simp [byteOf] at e1
    rw [aA.iN] at g1
    rw [g1]
   ·cases hb
theorem zi (hm:Lv R σc σ) {x x' v:V} (hx:aA R x x') (h:dk σc x=some v):∃v',dk σ x'=some v'∧aA R v v':=by
 unfold dk at h
 split at h
 ·simp only [aA] at hx; subst hx
  simp only [Oi] at h; subst h
  exact ⟨_,rfl,by simp [aA]⟩
 ·simp only [aA] at hx
  obtain ⟨a,rfl,ha⟩:=hx
  split at h
  ·rename_i ob hob
   obtain ⟨rows',h1,h2⟩:=hm _ _ _ ha hob
   split at h
   ·rename_i hc
    simp only [Option.map_eq_some_iff] at h
    obtain ⟨l,hl,rfl⟩:=h
    have e:=oS ((h2.drop _).take _) hl
    refine ⟨_,?_,aA.qe.2 rfl⟩
    simp only [dk,h1,h2.length,e,hl,Option.map_some]
    rw [if_pos hc]
   ·cases h
  ·cases h
 ·cases h
theorem DE {i:Nat} {x x' v:V} (hx:aA R x x') (h:j7 i x=some v):∃v',j7 i x'=some v'∧aA R v v':=by
 unfold j7 at h
 split at h
 ·simp only [aA] at hx
  obtain ⟨c,rfl,hr⟩:=hx
  exact hr.get h
 ·cases h
def iy (R:Nat→Nat→Prop):List (Nat×Nat×V)→List (Nat×Nat×V)→Prop
 | [],l=>l=[]
 | p::ps,l=>∃u us,l=(p.1,p.2.1,u)::us∧aA R p.2.2 u∧iy R ps us
theorem rz:∀ {ps ps':List (Nat×Nat×V)} {z z' l:List V},aO R z z'→iy R ps ps'→dd z ps=some l→∃l',dd z' ps'=some l'∧aO R l l'
 | [],_,z,z',l,hz,hp,h=>by
   simp only [iy] at hp; subst hp
   simp only [dd,Oi] at h; subst h
   exact ⟨_,rfl,hz⟩
 | (off,sz,x)::ps,_,z,z',l,hz,hp,h=>by
   simp only [iy] at hp
   obtain ⟨u,us,rfl,h1,h2⟩:=hp
   simp only [dd] at h ⊢
   split at h
   ·rename_i hc
    rw [if_pos ⟨by rw [h1.cells.length]; exact hc.1,by rw [h1.stays]; exact hc.2.1,by rw [hz.length]; exact hc.2.2⟩]
    refine rz ?_ h2 h
    unfold bT
    rw [h1.cells.length]
    exact ((hz.take _).append h1.cells).append (hz.drop _)
   ·cases h
theorem kV (hs:∀i,aA R (s i) (s' i)) {lo:Option VX} (h:∀x∈lo.toList,okX x=true) (d j:Int):bz d (lo.map (·.ev s))=some j→bz d (lo.map (·.ev s'))=some j:=by
 refine x8 (R:=R) ?_
 cases lo with
 | none=>trivial
 | some x=>exact er hs (h x (by simp))
theorem Bv (hm:Lv R σc σ) (hs:∀i,aA R (s i) (s' i)) {op:VOp} (hok:nU op=true) {v:V} (hp:eJ s op) (h:aD σc s op=some v) :
 eJ s' op∧∃v',aD σ s' op=some v'∧aA R v v':=by
 have hok':=hok
 simp only [nU,Ba] at hok
 have hx:=List.all_eq_true.1 hok.1
 have E:∀x,x∈op.xs→aA R (x.ev s) (x.ev s'):=fun x h=>er hs (hx x h)
 cases op <;> simp only [VOp.xs,List.mem_cons,List.not_mem_nil,or_false,forall_eq_or_imp,forall_eq,List.mem_append] at E <;> simp only [aD,eJ,Oi,reduceCtorEq,true_and] at h hp ⊢
 case mov=>subst h; exact ⟨_,rfl,E⟩
 case pick c a b =>
  split at h
  ·rename_i t ht
   have:=E.1
   rw [ht,aA.kK] at this
   rw [this]
   simp only [Oi] at h ⊢
   subst h
   refine ⟨_,rfl,?_⟩
   cases t
   ·exact E.2.2
   ·exact E.2.1
  ·cases h
 case bin op x y =>
  obtain ⟨e1,e2,e3⟩:=DB E.1 E.2 h
  rw [e1,e2]
  exact ⟨hp,v,h,dT v e3⟩
 case not x =>
  split at h
  ·rename_i b hb
   rw [hb,aA.kK] at E
   rw [E]
   simp only [Oi] at h ⊢; subst h
   exact ⟨_,rfl,by simp [aA]⟩
  ·cases h
 case neg x =>
  split at h
  ·rename_i k b hb
   rw [hb] at hp
   rw [hb,aA.iN] at E
   rw [E]
   simp only [Oi] at h ⊢; subst h
   exact ⟨hp,_,rfl,by simp [aA]⟩
  ·cases h
 case len=>exact DQ E h
 case cap =>
  unfold lQ at h
  split at h
  ·rename_i hn
   rw [hn] at E
   simp only [aA] at E
   rw [E]
   simp only [Oi] at h
   subst h
   exact ⟨_,rfl,by simp [aA]⟩
  ·cases h
 case fld=>exact CU E h
 case fldA=>exact AH E h
 case idxA=>exact Bx hm E.1 E.2 h
 case idxAA=>exact yK E.1 E.2 h
 case idxV=>exact A3 E.1 E.2 h
 case idxS=>exact AB E.1 E.2 h
 case load=>exact tu hm E h
 case slice esz x lo hi mx =>
  have hx':=hx
  simp only [VOp.xs,List.mem_cons,List.mem_append] at hx'
  exact yP hm E.1 (kV hs fun y hy=>hx' y (.inr (.inl (.inl hy)))) (kV hs fun y hy=>hx' y (.inr (.inl (.inr hy)))) (kV hs fun y hy=>hx' y (.inr (.inr hy))) h
 case sliceS x lo hi =>
  have hx':=hx
  simp only [VOp.xs,List.mem_cons,List.mem_append] at hx'
  exact wO E.1 (kV hs fun y hy=>hx' y (.inr (.inl hy))) (kV hs fun y hy=>hx' y (.inr (.inr hy))) h
 case ext=>exact DE E h
 case more m xs =>
  by_cases hb:∃f,m=.mkB f
  ·obtain ⟨f,rfl⟩:=hb
   simp only [aD,Oi] at h ⊢
   subst h
   exact ⟨_,rfl,by simp only [aA]; exact ⟨_,rfl,lB hs hok.1⟩⟩
  cases xs with
  | nil=>cases m <;> first | exact absurd ⟨_,rfl⟩ hb | simp [aD] at h
  | cons x xs =>
    have ex:=E x (by simp)
    cases xs with
    | cons y ys=>cases m <;> first | exact absurd ⟨_,rfl⟩ hb | simp [aD] at h
    | nil =>
      cases m
      case mkB=>exact absurd ⟨_,rfl⟩ hb
      case mkI t =>
       simp only [Oi] at h ⊢
       subst h
       exact ⟨_,rfl,by simp only [aA]; exact ⟨_,rfl,ex⟩⟩
      case tas t ok z =>
       have hz:z.dQ=true:=hok.2
       simp only [] at h ⊢
       unfold GX at h ⊢
       split at h
       ·rename_i t' v' hv'
        rw [hv'] at ex
        simp only [aA] at ex
        obtain ⟨u,hu,hru⟩:=ex
        rw [hu]
        simp only
        split at h
        ·rename_i e
         rw [if_pos e]
         simp only [Oi] at h ⊢
         subst h
         refine ⟨_,rfl,?_⟩
         cases ok
         ·exact hru
         ·simp only [if_true,aA,aO]; exact ⟨_,rfl,_,_,rfl,hru,_,_,rfl,rfl,rfl⟩
        ·rename_i e
         rw [if_neg e]
         cases ok
         ·simp at h
         ·simp only [if_true,Oi] at h ⊢
          subst h
          refine ⟨_,rfl,?_⟩
          simp only [aA,aO]; exact ⟨_,rfl,_,_,rfl,dT z hz,_,_,rfl,rfl,rfl⟩
       ·rename_i hv'
        rw [hv'] at ex
        simp only [aA] at ex
        rw [ex]
        cases ok
        ·simp at h
        ·simp only [if_true,Oi] at h ⊢
         subst h
         refine ⟨_,rfl,?_⟩
         simp only [aA,aO]; exact ⟨_,rfl,_,_,rfl,dT z hz,_,_,rfl,rfl,rfl⟩
       ·cases h
      case nilP neg =>
       simp only [] at h ⊢
       unfold tV at h
       split at h
       ·rename_i hv'
        rw [hv'] at ex
        simp only [aA] at ex
        rw [ex]
        exact ⟨v,h,by simp only [Oi] at h; subst h; simp [aA]⟩
       ·rename_i hv'
        rw [hv'] at ex
        simp only [aA] at ex
        obtain ⟨u,hu,_⟩:=ex
        rw [hu]
        exact ⟨v,h,by simp only [Oi] at h; subst h; simp [aA]⟩
       ·rename_i hv'
        rw [hv'] at ex
        simp only [aA] at ex
        obtain ⟨u,hu,_⟩:=ex
        rw [hu]
        exact ⟨v,h,by simp only [Oi] at h; subst h; simp [aA]⟩
       ·cases h
      all_goals simp [aD] at h
 case mkfn f xs =>
  subst h
  exact ⟨_,rfl,by simp only [aA]; exact ⟨_,rfl,lB hs hok.1⟩⟩
 case convI k x =>
  split at h
  ·rename_i k' b hb
   rw [hb] at hp
   rw [hb,aA.iN] at E
   rw [E]
   simp only [Oi] at h ⊢; subst h
   exact ⟨hp,_,rfl,by simp [aA]⟩
  ·cases h
 case nilCheck=>exact sx E h
 case binB=>exact AF E.1 E.2 h
 case eqS=>exact Dn E.1 E.2 h
 case minmax=>exact xd E.1 E.2 h
 case bstr=>exact zi hm E h
 case build zero parts =>
  simp only [Option.map_eq_some_iff] at h
  obtain ⟨l,hl,rfl⟩:=h
  have hpr:∀ps:List (Nat×Nat×VX),(∀p∈ps,okX p.2.2=true)→iy R (ps.map fun p=>(p.1,p.2.1,p.2.2.ev s)) (ps.map fun p=>(p.1,p.2.1,p.2.2.ev s')):=by
   intro ps
   induction ps with
   | nil=>intro _; simp [iy]
   | cons p ps ih =>
     intro hps
     simp only [List.map_cons,iy]
     exact ⟨_,_,rfl,er hs (hps p (by simp)),ih fun q hq=>hps q (by simp [hq])⟩
  obtain ⟨l',h1,h2⟩:=rz (eZ zero hok.2) (hpr parts fun p hp=>hx _ (by simp only [VOp.xs,List.mem_map]; exact ⟨p,hp,rfl⟩)) hl
  exact ⟨.agg l',by rw [h1]; rfl,aA.agg h2⟩
end
variable {R:Nat→Nat→Prop} {K:af} {fl:Nat} {P:Program} {n:Nat}
structure eF (K:af) (fl:Nat) (R:Nat→Nat→Prop) (cs:CS) (st:St):Prop where
 slot:∀i,aA R (cs.sf i) (st.s i)
 mem:mG K fl R (stF cs.σ) cs.nxt st.σ
theorem BD {s s':Nat→V} (h:∀i,aA R (s i) (s' i)) {d:Option Nat} {v u:V} (hv:aA R v u):∀i,aA R (aU s d v i) (aU s' d u i):=by
 intro i
 cases d with
 | none=>exact h i
 | some d =>
   show aA R (if i=d then v else s i) (if i=d then u else s' i)
   split
   ·exact hv
   ·exact h i
theorem eF.put {cs:CS} {st:St} (h:eF K fl R cs st) {d:Option Nat} {v u:V} (hv:aA R v u):eF K fl R (cs.put d v) ⟨aU st.s d u,st.σ⟩:=by
 refine ⟨?_,?_⟩
 ·rw [Ir]; exact BD h.slot hv
 ·rw [(BU cs d v).1,(BU cs d v).2]; exact h.mem
theorem aA.Fx:aA R (.tup []) (.tup []):=by simp [aA,aO]
theorem Gh (a b:Int):eqQ a b=decide (a=b):=by
 cases a <;> cases b <;> rw [Bool.eq_iff_iff] <;> simp [eqQ] <;> first | rfl | omega
theorem HF (a b:Int):leQ a b=decide (a≤b):=by
 cases a <;> cases b <;> rw [Bool.eq_iff_iff] <;> simp only [leQ,Nat.ble_eq,decide_eq_true_eq,Bool.false_eq_true,false_iff,true_iff,Int.ofNat_eq_natCast] <;> omega
theorem EH (a b:Int):I5 a b=a+b:=by cases a <;> cases b <;> rfl
theorem Eh (a b:Int):Gd a b=a - b:=by
 cases a <;> cases b <;> simp only [Gd]
 rename_i m k
 cases h:Nat.ble k m
 ·have:¬k≤m:=by rw [←Nat.ble_eq]; simp [h]
  simp only [Nat.sub_eq,Int.ofNat_eq_natCast]
  omega
 ·have:k≤m:=Nat.le_of_ble_eq_true h
  simp only [Nat.sub_eq,Int.ofNat_eq_natCast]
  omega
theorem E6 {a:Int} (h:IE a=true):inR .i64 a:=by
 cases a <;> simp only [IE,Nat.ble_eq] at h
 ·rw [Int.ofNat_eq_natCast]; exact ak (by omega) (by omega)
 ·exact ak (by omega) (by omega)
theorem Fk {k:IntKind} {a:Int} (h:IJ k a=true):inR k a:=by
 unfold IJ at h
 split at h
 ·exact E6 h
 ·simpa [inR] using h
theorem gP {α:Type} {b:Bool} {x y:α}:@Bool.casesOn (fun _=>α) b x y=if b then y else x:=by cases b <;> rfl
theorem Bi {α:Type} {b:Bool} {x y:α}:@Bool.rec (fun _=>α) x y b=if b then y else x:=by cases b <;> rfl
theorem tI {k:IntKind} {a:Int} {v:V} (h:gI k a=some v):v=.int k a∧inR k a:=by
 unfold gI at h
 rw [gP] at h
 split at h
 ·rename_i hi
  simp only [Oi] at h
  exact ⟨h.symm,Fk hi⟩
 ·cases h
theorem yn {op:BinOp} {k:IntKind} {a b:Int} {v:V} (h:(ni op).f k a b=some v):eR op k a b∧cL op k a b=some v:=by
 unfold ni at h
 split at h <;> simp only [] at h
 ·obtain ⟨rfl,h2⟩:=tI h; rw [EH] at *; exact ⟨h2,rfl⟩
 ·obtain ⟨rfl,h2⟩:=tI h; rw [Eh] at *; exact ⟨h2,rfl⟩
 ·obtain ⟨rfl,h2⟩:=tI h; exact ⟨h2,rfl⟩
 ·split at h
  ·cases h
  ·rename_i hb
   obtain ⟨rfl,h2⟩:=tI h; exact ⟨h2,by simp [cL,hb]⟩
 ·split at h
  ·cases h
  ·rename_i hb
   simp only [Oi] at h; subst h
   exact ⟨trivial,by simp [cL,hb]⟩
 all_goals first
  | exact ⟨trivial,h⟩
  | (simp only [Oi] at h; subst h; refine ⟨trivial,?_⟩; simp only [Gh,HF,cL,Oi,V.bool.injEq]; try (rw [Bool.eq_iff_iff]; simp))
  | cases h
theorem x9 {op:BinOp} {a b:List UInt8} {v:V} (h:uf op a b=some v):eC op a b∧ee op a b=some v:=by
 unfold uf at h
 split at h
 ·rw [gP] at h
  split at h
  ·rename_i hb
   simp only [Oi] at h; subst h
   exact ⟨Nat.le_of_ble_eq_true hb,rfl⟩
  ·cases h
 ·exact ⟨trivial,h⟩
 ·exact ⟨trivial,h⟩
 ·cases h
theorem Cv {k k':IntKind} (h:C3 k k'=true):k=k':=by
 unfold C3 at h
 rw [gP] at h
 cases k <;> cases k' <;> simp_all [GO,eqK]
theorem Fj {op:BinOp} {x y v:V} (h:El op (ni op).f y x=some v):mH op x y∧sU op x y=some v:=by
 unfold El at h
 split at h
 ·unfold I8 at h
  split at h
  ·rw [gP] at h
   split at h
   ·rename_i hk
    have:=Cv hk
    subst this
    obtain ⟨h1,h2⟩:=yn h
    exact ⟨h1,by simp [sU,h2]⟩
   ·cases h
  ·cases h
 ·unfold I7 at h
  split at h
  ·exact x9 h
  ·cases h
 ·cases h
theorem Et {σ:Tr (Option Ob)} {esz:Nat} {x i v:V} (h:Ix σ esz x i=some v):bF (stF σ) esz x i=some v:=by
 unfold Ix at h
 split at h
 ·split at h
  ·rename_i m hm
   have hj:=hm
   unfold wW at hm
   split at hm
   ·simp only [Oi] at hm; subst hm
    split at h
    ·rename_i ob hob
     rw [gP] at h
     split at h
     ·rename_i hc
      simp only [Ba,Nat.beq_eq,Nat.blt_eq] at hc
      have e:stF σ _=some ob:=hob
      simp only [bF,e]
      rw [if_pos ⟨hc.1,by simp,by simpa using hc.2⟩]
      exact h
     ·cases h
    ·cases h
   ·cases hm
  ·cases h
 ·split at h
  ·rename_i m hm
   unfold wW at hm
   split at hm
   ·simp only [Oi] at hm; subst hm
    rw [gP] at h
    split at h
    ·rename_i hc
     rw [Nat.beq_eq] at hc
     simp only [bF]
     rw [if_pos ⟨hc,by simp⟩]
     exact h
    ·cases h
   ·cases hm
  ·cases h
 ·cases h
theorem CV {x i v:V} (h:Cj x i=some v):fp x i=some v:=by
 unfold Cj at h
 split at h
 ·split at h
  ·rename_i m hm
   unfold wW at hm
   split at hm
   ·simp only [Oi] at hm; subst hm
    simp only [fp]
    rw [if_pos (by simp)]
    exact h
   ·cases hm
  ·cases h
 ·cases h
theorem CH {σ:Tr (Option Ob)} {agg:Bool} {sz:Nat} {x v:V} (h:Dl σ agg sz x=some v):bM (stF σ) agg sz x=some v:=by
 unfold Dl at h
 split at h
 ·split at h
  ·rename_i ob hob
   have e:stF σ _=some ob:=hob
   split at h
   ·rename_i r hr
    simp only [bM,e,hr]
    split at h
    ·rw [gP,gP] at h
     simp only [if_true]
     split at h
     ·rename_i hc
      simp only [Ba,Nat.beq_eq] at hc
      rw [if_pos hc]; exact h
     ·rename_i hc
      split at h
      ·rename_i hc'
       rw [if_neg (by simpa using hc),if_pos (show _+sz≤_ from Nat.le_of_ble_eq_true hc')]; exact h
      ·cases h
    ·simpa using h
   ·cases h
  ·cases h
 ·exact h
theorem tL {draw:Bool} {call:kY} {dst:Option Nat} {op:VOp} {cs cs':CS} {st:St} (hk:bp op=0) (hok:nU op=true) (h:eF K fl R cs st)
 (hr:(iU draw dst op).f call fl cs=some cs'):∃v',eJ st.s op∧aD st.σ st.s op=some v'∧eF K fl R cs' ⟨aU st.s dst v',st.σ⟩:=by
 have key:∃v,eJ cs.sf op∧aD (stF cs.σ) cs.sf op=some v∧cs'=cs.put dst v:=by
  have hp:∀(g:CS→Option V),(iG dst g).f call fl cs=some cs'→∃v,g cs=some v∧cs'=cs.put dst v:=by
   intro g hg
   simp only [iG] at hg
   split at hg
   ·rename_i v hv
    simp only [Oi] at hg
    exact ⟨v,hv,hg.symm⟩
   ·cases hg
  cases op <;> simp only [bp,reduceCtorEq,Nat.reduceEqDiff] at hk <;> simp only [iU] at hr
  case mov x =>
   simp only [JM,Oi] at hr
   exact ⟨_,trivial,rfl,hr.symm⟩
  case bin op x y =>
   have hr':(iG dst fun cs=>El op (ni op).f (y.ev cs.sf) (x.ev cs.sf)).f call fl cs=some cs':=hr
   obtain ⟨v,h1,h2⟩:=hp _ hr'
   obtain ⟨h3,h4⟩:=Fj h1
   exact ⟨v,h3,h4,h2⟩
  case pick c a b =>
   obtain ⟨v,h1,h2⟩:=hp _ hr
   refine ⟨v,trivial,?_,h2⟩
   simp only [aD]
   unfold FW at h1
   split at h1
   ·rename_i t ht
    rw [gP] at h1
    rw [ht]
    exact h1
   ·cases h1
  case not x =>
   obtain ⟨v,h1,h2⟩:=hp _ hr
   refine ⟨v,trivial,?_,h2⟩
   simp only [aD]
   unfold JN at h1
   split at h1
   ·rename_i t ht; rw [ht]; exact h1
   ·cases h1
  case neg x =>
   obtain ⟨v,h1,h2⟩:=hp _ hr
   unfold JV at h1
   split at h1
   ·rename_i k t ht
    obtain ⟨h3,h4⟩:=tI h1
    exact ⟨v,by simp only [eJ,ht]; exact h4,by simp only [aD,ht,h3],h2⟩
   ·cases h1
  case convI k x =>
   obtain ⟨v,h1,h2⟩:=hp _ hr
   unfold F0 at h1
   split at h1
   ·rename_i k t ht
    obtain ⟨h3,h4⟩:=tI h1
    exact ⟨v,by simp only [eJ,ht]; exact h4,by simp only [aD,ht,h3],h2⟩
   ·cases h1
  case idxA=>obtain ⟨v,h1,h2⟩:=hp _ hr; exact ⟨v,trivial,Et h1,h2⟩
  case idxS=>obtain ⟨v,h1,h2⟩:=hp _ hr; exact ⟨v,trivial,CV h1,h2⟩
  case load=>obtain ⟨v,h1,h2⟩:=hp _ hr; exact ⟨v,trivial,CH h1,h2⟩
  all_goals (obtain ⟨v,h1,h2⟩:=hp _ hr; exact ⟨v,trivial,h1,h2⟩)
 obtain ⟨v,h1,h2,rfl⟩:=key
 obtain ⟨h3,v',h4,h5⟩:=Bv h.mem.live h.slot hok h1 h2
 exact ⟨v',h3,h4,h.put h5⟩
theorem xi {σc σ:af} (hm:Lv R σc σ) {sz:Nat} {x x':V} {l:List V} (hx:aA R x x') (h:bH σc sz x=some l):∃l',bH σ sz x'=some l'∧aO R l l':=by
 unfold bH at h
 split at h
 ·simp only [aA] at hx
  obtain ⟨a,rfl,ha⟩:=hx
  split at h
  ·rename_i ob hob
   obtain ⟨rows',h1,h2⟩:=hm _ _ _ ha hob
   split at h
   ·rename_i hc
    simp only [Oi] at h; subst h
    refine ⟨_,?_,(h2.drop _).take _⟩
    simp only [bH,h1,h2.length]
    rw [if_pos hc]
   ·cases h
  ·cases h
 ·simp only [aA] at hx
  obtain ⟨rows',rfl,hr⟩:=hx
  split at h
  ·rename_i hc
   simp only [Oi] at h; subst h
   exact ⟨rows',by simp [bH,hc],hr⟩
  ·cases h
 ·simp only [aA] at hx; subst hx
  simp only [Oi] at h; subst h
  exact ⟨[],rfl,by simp [aO]⟩
 ·rename_i s
  simp only [aA] at hx; subst hx
  refine ⟨l,h,?_⟩
  split at h
  ·simp only [Oi] at h; subst h
   induction s with
   | nil=>simp [aO]
   | cons b s ih=>simp only [List.map_cons,aO]; exact ⟨_,_,rfl,by simp [aA],ih⟩
  ·cases h
 ·cases h
theorem wb {σc σ:af} (hm:Lv R σc σ) {e sz:Nat} {x x':V} {l:List V} {d:Option Nat} (hx:aA R x x') (h:bO σc e sz x=some (l,d)) :
 ∃l' d',bO σ e sz x'=some (l',d')∧aO R l l'∧(d=none∧d'=none∨∃c a o,d=some c∧d'=some a∧R c a∧σc c=some o):=by
 unfold bO at h
 split at h
 ·simp only [aA] at hx
  obtain ⟨a,rfl,ha⟩:=hx
  split at h
  ·rename_i ob hob
   obtain ⟨rows',h1,h2⟩:=hm _ _ _ ha hob
   split at h
   ·rename_i hc
    simp only [Oi,Prod.mk.injEq] at h
    obtain ⟨rfl,rfl⟩:=h
    refine ⟨_,some a,?_,h2.take _, .inr ⟨_,a,ob,rfl,rfl,ha,hob⟩⟩
    simp only [bO,h1,h2.length]
    rw [if_pos hc]
   ·cases h
  ·cases h
 ·simp only [aA] at hx; subst hx
  simp only [Oi,Prod.mk.injEq] at h
  obtain ⟨rfl,rfl⟩:=h
  exact ⟨[],none,rfl,by simp [aO], .inl ⟨rfl,rfl⟩⟩
 ·cases h
theorem ig {dst:Option Nat} {cs cs':CS} {st:St} (h:eF K fl R cs st) {m:Mk} {rows':List V} {d':Option Nat} (hrows:aO R m.ob.rows rows')
 (hd:m.gone=none∧d'=none∨∃c a o,m.gone=some c∧d'=some a∧R c a∧stF cs.σ c=some o) (hr:vi fl dst cs m=some cs') {id:Nat} (hid:st.σ id=none) :
 ∃R',(∀a b,R a b→R' a b)∧eF K fl R' cs' ⟨aU st.s dst (if m.var then .ptr id 0 0 else .own id 0 m.len),upd (bC st.σ d') id ⟨m.ob.elem,m.ob.sz,rows'⟩⟩:=by
 refine ⟨ext R cs.nxt id,uC _ _,?_⟩
 have hval:aA (ext R cs.nxt id) (@Bool.casesOn (fun _=>V) m.var (.own cs.nxt 0 m.len) (.ptr cs.nxt 0 0)) (if m.var then .ptr id 0 0 else .own id 0 m.len):=by
  cases m.var
  ·simp only [aA,Bool.false_eq_true,if_false]; exact ⟨id,rfl, .inr ⟨rfl,rfl⟩⟩
  ·simp only [aA,if_true]; exact ⟨id,rfl, .inr ⟨rfl,rfl⟩⟩
 have hslot:∀i,aA (ext R cs.nxt id) (cs.sf i) (st.s i):=fun i=>aA.mono (uC _ _) _ _ (h.slot i)
 unfold vi at hr
 rcases hd with ⟨e1,rfl⟩ | ⟨c,a,o,e1,rfl,hR,ho⟩
 ·rw [e1] at hr
  simp only [Oi] at hr
  subst hr
  have hm:=h.mem.new hid hrows
  have hS:eF K fl (ext R cs.nxt id) ⟨cs.s,kW none (some m.ob) cs.nxt cs.σ,Nat.succ cs.nxt⟩ ⟨st.s,upd st.σ id ⟨m.ob.elem,m.ob.sz,rows'⟩⟩ :=
   ⟨hslot,by simp only [pZ]; exact hm⟩
  exact hS.put hval
 ·rw [e1] at hr
  simp only [gP] at hr
  split at hr
  ·rename_i hf
   simp only [Oi] at hr
   subst hr
   have h1:=h.mem.rem hR ho (Nat.le_of_ble_eq_true hf)
   have hid':del st.σ a id=none:=by
    by_cases e:id=a
    ·simp [del,e]
    ·rw [dg e]; exact hid
   have hm:=h1.new hid' hrows
   have hS:eF K fl (ext R cs.nxt id) ⟨cs.s,kW none (some m.ob) cs.nxt (kW none none c cs.σ),Nat.succ cs.nxt⟩ ⟨st.s,upd (del st.σ a) id ⟨m.ob.elem,m.ob.sz,rows'⟩⟩ :=
    ⟨hslot,by simp only [pZ,Er]; exact hm⟩
   rw [gP] at hval
   exact hS.put hval
  ·cases hr
theorem wz {draw:Bool} {call:kY} {dst:Option Nat} {op:VOp} {cs cs':CS} {st:St} (hk:bp op=3) (hok:nU op=true) (h:eF K fl R cs st)
 (hr:(iU draw dst op).f call fl cs=some cs'):∃g',eff st.s st.σ op=some g'∧∀id,st.σ id=none→∃R',(∀a b,R a b→R' a b) ∧
   eF K fl R' cs' ⟨aU st.s dst (g' id).1,(g' id).2⟩:=by
 have hp:∀(g:CS→Option Mk),(y7 dst g).f call fl cs=some cs'→∃m,g cs=some m∧vi fl dst cs m=some cs':=by
  intro g hg
  simp only [y7] at hg
  split at hg
  ·rename_i v hv
   exact ⟨v,hv,hg⟩
  ·cases hg
 simp only [nU,Ba] at hok
 have hx:=List.all_eq_true.1 hok.1
 cases op <;> simp only [bp,reduceCtorEq,Nat.reduceEqDiff] at hk <;> simp only [iU] at hr
 case more m xs=>cases m <;> simp at hk
 case alloc e sz z =>
  obtain ⟨m,h1,h2⟩:=hp _ hr
  simp only [Oi] at h1; subst h1
  refine ⟨_,rfl,fun id hid=>?_⟩
  have:=ig (d':=none) h (aO.one (dT (R:=R) z hok.2)) (.inl ⟨rfl,rfl⟩) h2 hid
  simpa [bC] using this
 case box e sz x =>
  obtain ⟨m,h1,h2⟩:=hp _ hr
  have hv:=er h.slot (hx x (by simp [VOp.xs]))
  unfold I4 at h1
  rw [gP] at h1
  split at h1
  ·rename_i hc
   simp only [Ba,Nat.beq_eq] at hc
   simp only [Oi] at h1; subst h1
   refine ⟨fun id=>(.ptr id 0 0,upd st.σ id ⟨e,sz,[x.ev st.s]⟩),?_,fun id hid=>?_⟩
   ·simp only [eff]
    rw [if_pos ⟨by rw [hv.cells.length]; exact hc.1,by rw [hv.stays]; exact hc.2⟩]
   ·have:=ig (d':=none) h (aO.one hv) (.inl ⟨rfl,rfl⟩) h2 hid
    simpa [bC] using this
  ·cases h1
 case appz=>simp [iG,aD] at hr
 case mk e sz bytes z x =>
  obtain ⟨m,h1,h2⟩:=hp _ hr
  have hv:=er h.slot (hx x (by simp [VOp.xs]))
  unfold mkQ at h1
  split at h1
  ·rename_i kk mm hxe
   rw [hxe] at hv
   simp only [aA] at hv
   split at h1
   ·split at h1
    ·rename_i j hj
     rw [gP] at h1
     split at h1
     ·rename_i hc
      simp only [Oi] at h1; subst h1
      have hmj:mm=(j:Int):=by
       cases mm <;> simp only [wW,Oi,reduceCtorEq] at hj
       subst hj; rfl
      subst hmj
      refine ⟨fun id=>(.own id 0 j,upd st.σ id ⟨e,sz,List.replicate j z⟩),?_,fun id hid=>?_⟩
      ·simp only [eff]
       rw [hv]
       have hc':j*(bytes+1)≤140737488355328:=Nat.le_of_ble_eq_true hc
       simp only [Int.toNat_natCast]
       rw [if_pos ⟨by omega,hc'⟩]
      ·have:=ig (d':=none) h (aO.replicate (dT (R:=R) z hok.2) j) (.inl ⟨rfl,rfl⟩) h2 hid
       simpa [bC] using this
     ·cases h1
    ·cases h1
   ·cases h1
  ·cases h1
 case bb e sz xs =>
  obtain ⟨m,h1,h2⟩:=hp _ hr
  have hv:=lB h.slot hok.1
  simp only [VOp.xs] at hv
  unfold Al at h1
  rw [gP] at h1
  split at h1
  ·rename_i hc
   simp only [Oi] at h1; subst h1
   refine ⟨fun id=>(.own id 0 xs.length,upd st.σ id ⟨e,sz,xs.map (·.ev st.s)⟩),?_,fun id hid=>?_⟩
   ·simp only [eff]
    rw [if_pos]
    rw [List.all_eq_true]
    intro y hy
    rw [List.mem_map] at hy
    obtain ⟨x,hxx,rfl⟩:=hy
    have hvx:=er h.slot (hx x (by simp [VOp.xs,hxx]))
    have:=List.all_eq_true.1 hc (x.ev cs.sf) (List.mem_map.2 ⟨x,hxx,rfl⟩)
    simp only [Ba,Nat.beq_eq] at this
    simp [hvx.cells.length,hvx.stays,this]
   ·have:=ig (d':=none) h hv (.inl ⟨rfl,rfl⟩) h2 hid
    simpa [bC] using this
  ·cases h1
 case append e sz bytes xa xb =>
  obtain ⟨m,h1,h2⟩:=hp _ hr
  have ha:=er h.slot (hx xa (by simp [VOp.xs]))
  have hb:=er h.slot (hx xb (by simp [VOp.xs]))
  unfold Am at h1
  split at h1
  ·rename_i base idA src e1 e2
   obtain ⟨base',d',g1,g2,g3⟩:=wb h.mem.live ha e1
   obtain ⟨src',g4,g5⟩:=xi h.mem.live hb e2
   rw [gP] at h1
   split at h1
   ·rename_i hc
    simp only [Oi] at h1; subst h1
    refine ⟨fun id=>(.own id 0 (base'.length+src'.length),upd (bC st.σ d') id ⟨e,sz,base'++src'⟩),?_,fun id hid=>?_⟩
    ·simp only [eff,g1,g4]
     rw [if_pos (by rw [g2.length,g5.length]; exact Nat.le_of_ble_eq_true hc)]
    ·have:=ig h (g2.append g5) g3 h2 hid
     simpa [g2.length,g5.length] using this
   ·cases h1
  ·cases h1
theorem wN {r r' x x' q:V} {k sz:Nat} (hr:aA R r r') (hx:aA R x x') (h:cc r k sz x=some q):∃q',cc r' k sz x'=some q'∧aA R q q':=by
 unfold cc at h
 split at h
 ·rename_i hc
  have hc':x'.cells.length=sz∧x'.stays=true:=⟨by rw [hx.cells.length]; exact hc.1,by rw [hx.stays]; exact hc.2⟩
  split at h
  ·rename_i hd
   simp only [Oi] at h; subst h
   refine ⟨x',?_,hx⟩
   unfold cc
   rw [if_pos hc',if_pos ⟨hd.1,by rw [hr.cells.length]; exact hd.2⟩]
  ·rename_i hd
   split at h
   ·rename_i he
    simp only [Oi] at h; subst h
    refine ⟨_,?_,aA.agg (((hr.cells.take k).append hx.cells).append (hr.cells.drop (k+sz)))⟩
    unfold cc
    rw [if_pos hc',if_neg (by rw [hr.cells.length]; exact hd),if_pos (by rw [hr.cells.length]; exact he)]
   ·cases h
 ·cases h
theorem qE {dst:Option Nat} {sz:Nat} {xa xv:VX} {call:kY} {cs cs':CS} {st:St} (hok:nU (.store sz xa xv)=true) (h:eF K fl R cs st)
 (hr:(yD dst sz xa xv).f call fl cs=some cs'):∃σ',cN st.σ sz (xa.ev st.s) (xv.ev st.s)=some σ'∧eF K fl R cs' ⟨aU st.s dst (.tup []),σ'⟩:=by
 simp only [nU,VOp.xs,List.all_cons,List.all_nil,Bool.and_true,Ba] at hok
 have ha:=er h.slot hok.1
 have hv:=er h.slot hok.2
 simp only [yD,Ak] at hr
 split at hr
 ·rename_i id i0 c hptr
  rw [hptr] at ha
  simp only [aA] at ha
  obtain ⟨a,ha1,ha2⟩:=ha
  rw [Bi] at hr
  split at hr
  ·rename_i hf
   split at hr
   ·rename_i ob hob
    have hob':stF cs.σ id=some ob:=hob
    obtain ⟨rows',h1,h2⟩:=h.mem.live _ _ _ ha2 hob'
    split at hr
    ·rename_i r hrr
     obtain ⟨r',h3,h4⟩:=h2.get hrr
     split at hr
     ·rename_i q hq
      obtain ⟨q',h5,h6⟩:=wN h4 hv hq
      simp only [Oi] at hr
      subst hr
      refine ⟨upd st.σ a ⟨ob.elem,ob.sz,rows'.set i0 q'⟩,?_,?_⟩
      ·simp only [cN,ha1,h1,h3,h5]
      ·have hm:=h.mem.write ha2 hob' (Nat.le_of_ble_eq_true hf) (h2.set i0 h6)
       have hS:eF K fl R ⟨cs.s,kW none (some ⟨ob.elem,ob.sz,ob.rows.set i0 q⟩) id cs.σ,cs.nxt⟩ ⟨st.s,upd st.σ a ⟨ob.elem,ob.sz,rows'.set i0 q'⟩⟩ :=
        ⟨h.slot,by simp only [pZ]; exact hm⟩
       exact hS.put aA.Fx
     ·cases hr
    ·cases hr
   ·cases hr
  ·cases hr
 ·cases hr
variable {P:Program} {n:Nat}
def Le (R R':Nat→Nat→Prop):Prop:=∀a b,R a b→R' a b
theorem Le.refl (R:Nat→Nat→Prop):Le R R:=fun _ _ h=>h
theorem Le.trans {R R' R'':Nat→Nat→Prop} (h:Le R R') (h':Le R' R''):Le R R'':=fun a b g=>h' a b (h a b g)
def ql (P:Program) (call:kY):Prop:=∀g args σc nxt fl r,call g args σc nxt fl=some r→∀(K:af) (R:Nat→Nat→Prop) (σ:af) (args':List V),
 mG K fl R (stF σc) nxt σ→aO R args args'→ax P g args' σ fun v σ'=>∃R',Le R R'∧aA R' r.v v∧mG K fl R' (stF r.σ) r.nxt σ'
theorem ax.drop {f:FuncId} {args:List V} {σ:af} {Post Post':V→af→Prop} (h:ax P f args σ Post)
 (hp:∀r σ',Post r σ'→∃σ0,aa σ0 σ'∧Post' r σ0):ax P f args σ Post':=by
 refine ⟨h.1,fun μ w vals hs hr=>(h.2 μ w vals hs hr).mono ?_⟩
 rintro e w' ⟨r,σ',μ',val,h1,h2,h3,h4,h5⟩
 obtain ⟨σ0,h6,h7⟩:=hp r σ' h2
 exact ⟨r,σ0,μ',val,h1,h7,h3,h4.drop h6,Wk.refl h6 r μ' _ _ _ val h4 h5⟩
section
variable {call:kY} {K:af} {fl:Nat} {R:Nat→Nat→Prop} {cs cs':CS} {st:St} {Q:St→Prop} {k:List It}
theorem oM {draw:Bool} {i:aE} (hok:nF i=true) (h:eF K fl R cs st) (hr:(pC draw i).f call fl cs=some cs') :
 (bn st.s i.g=some true∧(iU draw i.dst i.op).f call fl cs=some cs')∨(bn st.s i.g=some false∧cs'=cs.put i.dst (.tup [])):=by
 simp only [nF,Ba] at hok
 unfold pC at hr
 split at hr
 ·rename_i hg
  exact .inl ⟨by simp [hg,bn],hr⟩
 ·rename_i x b hg
  have hx:=hok.2
  simp only [hg] at hx
  have hv:=er h.slot hx
  simp only [C9] at hr
  split at hr
  ·rename_i c hc
   rw [hc,aA.kK] at hv
   rw [Bi] at hr
   split at hr
   ·rename_i hcb
    simp only [Oi] at hr
    refine .inr ⟨?_,hr.symm⟩
    simp only [hg,bn,hv]
    cases c <;> cases b <;> simp_all
   ·rename_i hcb
    refine .inl ⟨?_,hr⟩
    simp only [hg,bn,hv]
    cases c <;> cases b <;> simp_all
  ·rename_i hc
   rw [hc] at hv
   simp only [aA,aO] at hv
   obtain ⟨c',hv,rfl⟩:=hv
   simp only [Oi] at hr
   exact .inr ⟨by simp only [hg,bn,hv],hr.symm⟩
  ·rename_i hc
   rw [hc,aA.iN] at hv
   simp only [Oi] at hr
   exact .inr ⟨by simp only [hg,bn,hv],hr.symm⟩
  ·cases hr
theorem zA {draw:Bool} {dst:Option Nat} {op:VOp} (h:op=.bad∨(∃b x,op=.rngS b x)∨(∃x,op=.nxtS x)∨∃m xs,op=.more m xs∧bp op=4) (hr:(iU draw dst op).f call fl cs=some cs'):False:=by
 rcases h with rfl | ⟨b,x,rfl⟩ | ⟨x,rfl⟩ | ⟨m,xs,rfl,hk⟩
 case inr.inr.inr=>cases m <;> simp [bp] at hk <;> simp [iU,iG,aD] at hr
 all_goals simp [iU,iG,aD] at hr
theorem o6 (op:VOp):bp op=0∨(∃fx xs,op=.call fx xs)∨(∃sz a x,op=.store sz a x)∨bp op=3∨(∃sz z x,op=.clear sz z x)∨(op=.bad∨(∃b x,op=.rngS b x)∨(∃x,op=.nxtS x)∨∃m xs,op=.more m xs∧bp op=4):=by
 cases op
 case more m xs=>cases m <;> simp [bp]
 all_goals simp [bp]
theorem EF (hc:ql P call) {i:aE} {l:List aE} (hok:nF i=true) (h:eF K fl R cs st) (hr:(pC false i).f call fl cs=some cs')
 (hk:∀R' st',Le R R'→eF K fl R' cs' st'→ad P n (.ops l::k) st' Q):ad P n (.ops (i::l)::k) st Q:=by
 have hop:nU i.op=true:=by simp only [nF,Ba] at hok; exact hok.1
 rcases oM hok h hr with ⟨hw,hr⟩ | ⟨hw,rfl⟩
 ·rcases o6 i.op with h0 | ⟨fx,xs,h0⟩ | ⟨sz,a,x,h0⟩ | h0 | ⟨sz,z,x,h0⟩ | h0
  ·obtain ⟨v',h1,h2,h3⟩:=tL h0 hop h hr
   exact ad.pure hw h1 h2 (hk R _ (Le.refl R) h3)
  ·rw [h0] at hr hop
   simp only [iU,Cd] at hr
   simp only [nU,VOp.xs,List.all_cons,Ba] at hop
   split at hr
   ·rename_i f caps hf
    have hfx:=er h.slot hop.1.1
    rw [hf] at hfx
    simp only [aA] at hfx
    obtain ⟨caps',hf',hcaps⟩:=hfx
    generalize hcl:call f (xs.map (·.ev cs.sf)++caps) cs.σ cs.nxt fl=r at hr
    cases r with
    | none=>simp [y6] at hr
    | some r =>
      simp only [y6,Oi] at hr
      refine ad.call hw h0 hf' (hc _ _ _ _ _ _ hcl K R st.σ _ h.mem ((lB h.slot hop.1.2).append hcaps)) ?_
      rintro v σ' ⟨R',hle,hv,hm⟩
      have hS:eF K fl R' ⟨cs.s,r.σ,r.nxt⟩ ⟨st.s,σ'⟩:=⟨fun j=>aA.mono hle _ _ (h.slot j),hm⟩
      exact hk R' _ hle (hr ▸ hS.put hv)
   ·cases hr
  ·rw [h0] at hr hop
   obtain ⟨σ',h1,h2⟩:=qE hop h hr
   exact ad.cN hw h0 h1 (hk R _ (Le.refl R) h2)
  ·obtain ⟨g',h1,h2⟩:=wz h0 hop h hr
   refine ad.eff hw h1 fun id hid=>?_
   obtain ⟨R',h3,h4⟩:=h2 id hid
   exact hk R' _ h3 h4
  ·rw [h0] at hr hop
   simp only [iU,zf,zp] at hr
   simp only [nU,VOp.xs,List.all_cons,List.all_nil,Bool.and_true,Ba] at hop
   have hx:=er h.slot hop.1
   split at hr
   ·rename_i id off len hid
    rw [hid] at hx
    simp only [aA] at hx
    obtain ⟨a,ha1,ha2⟩:=hx
    rw [Bi] at hr
    split at hr
    ·rename_i hf
     split at hr
     ·rename_i ob hob
      have hob':stF cs.σ id=some ob:=hob
      obtain ⟨rows',g1,g2⟩:=h.mem.live _ _ _ ha2 hob'
      rw [Bi] at hr
      split at hr
      ·rename_i hcc
       simp only [Ba,Nat.beq_eq,Nat.ble_eq] at hcc
       simp only [Oi] at hr
       refine ad.clear hw h0 ha1 g1 hcc.1 (by rw [g2.length]; exact hcc.2) ?_
       have hm:=h.mem.write ha2 hob' (Nat.le_of_ble_eq_true hf) (((g2.take off).append (aO.replicate (dT (R:=R) z hop.2) len)).append (g2.drop (off+len)))
       have hS:eF K fl R ⟨cs.s,kW none (some ⟨ob.elem,ob.sz,ob.rows.take off++List.replicate len z++ob.rows.drop (off+len)⟩) id cs.σ,cs.nxt⟩
        ⟨st.s,upd st.σ a ⟨ob.elem,ob.sz,rows'.take off++List.replicate len z++rows'.drop (off+len)⟩⟩:=⟨h.slot,by simp only [pZ]; exact hm⟩
       exact hk R _ (Le.refl R) (hr ▸ hS.put aA.Fx)
      ·cases hr
     ·cases hr
    ·cases hr
   ·cases hr
  ·exact (zA h0 hr).elim
 ·exact ad.p9 hw (hk R _ (Le.refl R) (h.put aA.Fx))
theorem JB (hc:ql P call) {i:aE} (hok:nF i=true) (h:eF K fl R cs st) (hr:(pC true i).f call fl cs=some cs') {K':St→Prop}
 (hk:∀R' st',Le R R'→eF K fl R' cs' st'→K' st'):T P i st K':=by
 have hop:nU i.op=true:=by simp only [nF,Ba] at hok; exact hok.1
 rcases oM hok h hr with ⟨hw,hr⟩ | ⟨hw,rfl⟩
 ·refine mB hw ?_
  rcases o6 i.op with h0 | ⟨fx,xs,h0⟩ | ⟨sz,a,x,h0⟩ | h0 | ⟨sz,z,x,h0⟩ | h0
  ·obtain ⟨v',h1,h2,h3⟩:=tL h0 hop h hr
   unfold TO
   simp only [h0]
   exact ⟨h1,v',h2,hk R _ (Le.refl R) h3⟩
  ·rw [h0] at hr hop
   rw [h0]
   simp only [iU,Cd] at hr
   simp only [nU,VOp.xs,List.all_cons,Ba] at hop
   split at hr
   ·rename_i f caps hf
    have hfx:=er h.slot hop.1.1
    rw [hf] at hfx
    simp only [aA] at hfx
    obtain ⟨caps',hf',hcaps⟩:=hfx
    generalize hcl:call f (xs.map (·.ev cs.sf)++caps) cs.σ cs.nxt cs.nxt=r at hr
    cases r with
    | none=>simp [ua] at hr
    | some r =>
      simp only [ua,Bi] at hr
      split at hr
      ·rename_i hno
       simp only [Oi] at hr
       refine ⟨f,caps',r.v,hf',fun σ1 hs1=>?_,hk R _ (Le.refl R) (hr ▸ h.put (dT r.v hno))⟩
       have hm0:mG σ1 cs.nxt R (stF cs.σ) cs.nxt σ1:=⟨h.mem.dom,h.mem.live.sup hs1,h.mem.inj,h.mem.fn,aa.refl _,fun _ _ c _ _ hcR _=>h.mem.dom c _ hcR⟩
       refine (hc _ _ _ _ _ _ hcl σ1 R σ1 _ hm0 ((lB h.slot hop.1.2).append hcaps)).drop ?_
       rintro v σ' ⟨R',hle,hv,hm⟩
       exact ⟨σ1,hm.kD,mQ _ _ hno hv,rfl⟩
      ·cases hr
   ·cases hr
  ·rw [h0] at hr hop
   rw [h0]
   obtain ⟨σ',h1,h2⟩:=qE hop h hr
   exact ⟨σ',h1,hk R _ (Le.refl R) h2⟩
  ·obtain ⟨g',h1,h2⟩:=wz h0 hop h hr
   unfold TO
   simp only [h0]
   refine ⟨g',h1,fun id hid=>?_⟩
   obtain ⟨R',h3,h4⟩:=h2 id hid
   exact hk R' _ h3 h4
  ·rw [h0] at hr
   simp [iU,zf] at hr
  ·exact (zA h0 hr).elim
 ·exact pS hw (hk R _ (Le.refl R) (h.put aA.Fx))
theorem kM (draw:Bool) (m:Nat) (i:aE) (l:List aE):kA draw call fl (m+1) (i::l) cs=match (pC draw i).f call fl cs with
 | some cs'=>kA draw call fl m l cs'
 | none=>.bad:=by
 show (@Option.casesOn CS (fun _=>Out) ((pC draw i).f call fl cs) .bad (kA draw call fl m l))=_
 cases (pC draw i).f call fl cs <;> rfl
theorem zK (hc:ql P call):∀(m:Nat) (l:List aE) (R:Nat→Nat→Prop) (cs:CS) (st:St),kA false call fl m l cs=.nx cs'→l.all nF=true→eF K fl R cs st →
 (∀R' st',Le R R'→eF K fl R' cs' st'→ad P n k st' Q)→ad P n (.ops l::k) st Q
 | 0,_,_,_,_,h,_,_,_=>by cases h
 | m+1,[],R,cs,st,h,_,hs,hk=>by
   have h':Out.nx cs=.nx cs':=h
   simp only [Out.nx.injEq] at h'
   subst h'
   exact ad.zI (hk R st (Le.refl R) hs)
 | m+1,i::l,R,cs,st,h,hok,hs,hk=>by
   rw [kM] at h
   simp only [List.all_cons,Ba] at hok
   split at h
   ·rename_i cs1 h1
    refine EF hc hok.1 hs h1 fun R' st' hle hs'=>?_
    exact zK hc m l R' cs1 st' h hok.2 hs' fun R'' st'' hle' hs''=>hk R'' st'' (hle.trans hle') hs''
   ·cases h
theorem F8 (hc:ql P call) {K':St→Prop}:∀(m:Nat) (l:List aE) (R:Nat→Nat→Prop) (cs:CS) (st:St),kA true call fl m l cs=.nx cs'→l.all nF=true→eF K fl R cs st →
 (∀R' st',Le R R'→eF K fl R' cs' st'→K' st')→fL P K' l st
 | 0,_,_,_,_,h,_,_,_=>by cases h
 | m+1,[],R,cs,st,h,_,hs,hk=>by
   have h':Out.nx cs=.nx cs':=h
   simp only [Out.nx.injEq] at h'
   subst h'
   exact hk R st (Le.refl R) hs
 | m+1,i::l,R,cs,st,h,hok,hs,hk=>by
   rw [kM] at h
   simp only [List.all_cons,Ba] at hok
   split at h
   ·rename_i cs1 h1
    refine JB hc hok.1 hs h1 fun R' st' hle hs'=>?_
    exact F8 hc m l R' cs1 st' h hok.2 hs' fun R'' st'' hle' hs''=>hk R'' st'' (hle.trans hle') hs''
   ·cases h
end
def AW (P:Program) (n:Nat) (K:af) (fl:Nat) (R:Nat→Nat→Prop) (k:List It) (Q:St→Prop):Out→Prop
 | .nx cs=>∀R' st,Le R R'→eF K fl R' cs st→ad P n k st Q
 | .ex id cs=>∃k',dN id k=some k'∧∀R' st,Le R R'→eF K fl R' cs st→ad P n k' st Q
 | .rt cs=>∀R' st,Le R R'→eF K fl R' cs st→Q st
 | .bad=>False
theorem AW.le {K:af} {fl:Nat} {R R':Nat→Nat→Prop} {k:List It} {Q:St→Prop} {o:Out} (h:AW P n K fl R k Q o) (hle:Le R R'):AW P n K fl R' k Q o:=by
 cases o
 case bad=>exact h
 case ex=>obtain ⟨k',h1,h2⟩:=h; exact ⟨k',h1,fun R'' st h3 h4=>h2 R'' st (hle.trans h3) h4⟩
 all_goals exact fun R'' st h3 h4=>h R'' st (hle.trans h3) h4
def qZ (P:Program) (code:FuncId→Option VFn):Prop:=∀g vf,code g=some vf→ej P g=true∧Il vf=true∧∃fn,P.funcs[g]?=some fn∧cfn P fn=some vf
def LOk (P:Program) (code:FuncId→Option VFn) (fuel:Nat):Prop:=∀(n:Nat) (K:af) (fl:Nat) (R:Nat→Nat→Prop) (c:bx) (cs:CS) (st:St) (k:List It) (Q:St→Prop),
 gn c=true→eF K fl R cs st→AW P n K fl R k Q (evL code fuel fl c cs)→ad P n (.code c::k) st Q
theorem zO (i:Nat):∀(l:List V) (k:Nat) (t:Tr V),j8 (.tup []) i (Tr.ofL l k t)=if k≤i∧i < k+l.length then l.getD (i - k) (.tup []) else j8 (.tup []) i t
 | [],k,t=>by simp [Tr.ofL]; intro h1 h2; omega
 | v::l,k,t=>by
   rw [Tr.ofL,zO i l (k+1),mY]
   simp only [List.length_cons]
   by_cases h1:i=k
   ·subst h1
    rw [if_neg (by omega),if_pos rfl,if_pos (by omega)]
    simp
   ·by_cases h2:k+1≤i∧i < k+1+l.length
    ·rw [if_pos h2,if_pos (by omega),show i - k=(i - (k+1))+1 by omega]
     simp
    ·rw [if_neg h2,if_neg h1,if_neg (by omega)]
theorem yM {K:af} {fl:Nat} {R:Nat→Nat→Prop} {cs:CS} {st:St} (h:eF K fl R cs st) {r:VR} (hok:zq r=true) {v:V} (hv:fM ⟨cs.sf,stF cs.σ⟩ r=some v) :
 ∃v',fM st r=some v'∧aA R v v':=by
 cases r <;> simp only [fM,reduceCtorEq,Oi] at hv ⊢
 case tmp x=>subst hv; exact ⟨_,rfl,er h.slot hok⟩
 case cell agg sz x=>exact tu h.mem.live (er h.slot hok) hv
theorem qF {K:af} {fl:Nat} {R:Nat→Nat→Prop} {cs:CS} {st:St} (h:eF K fl R cs st):∀ {l:List VR},l.all zq=true→∀ {vs:List V},dY ⟨cs.sf,stF cs.σ⟩ l=some vs →
 ∃vs',dY st l=some vs'∧aO R vs vs'
 | [],_,vs,hv=>by simp only [dY,Oi] at hv; subst hv; exact ⟨[],rfl,by simp [aO]⟩
 | r::l,hok,vs,hv=>by
   simp only [List.all_cons,Ba] at hok
   simp only [dY] at hv
   split at hv
   ·rename_i v h1
    split at hv
    ·rename_i us h2
     simp only [Oi] at hv; subst hv
     obtain ⟨v',g1,g2⟩:=yM h hok.1 h1
     obtain ⟨us',g3,g4⟩:=qF h hok.2 h2
     exact ⟨v'::us',by simp [dY,g1,g3],aO.bU.2 ⟨v',us',rfl,g2,g4⟩⟩
    ·cases hv
   ·cases hv
theorem CK {K:af} {fl:Nat} {R:Nat→Nat→Prop} {cs:CS} {st:St} (h:eF K fl R cs st) {l:List VR} (hok:l.all zq=true) {v:V} (hv:lO ⟨cs.sf,stF cs.σ⟩ l=some v) :
 ∃v',lO st l=some v'∧aA R v v':=by
 unfold lO at hv
 cases hr:dY ⟨cs.sf,stF cs.σ⟩ l with
 | none=>simp [hr] at hv
 | some vs =>
   obtain ⟨vs',g1,g2⟩:=qF h hok hr
   rw [hr] at hv
   unfold lO
   rw [g1]
   match vs,hv,g2 with
   | [],hv,g2 =>
     rw [aO.gz] at g2; subst g2
     simp only [Oi] at hv; subst hv
     exact ⟨_,rfl,by simp [aA,aO]⟩
   | [u],hv,g2 =>
     obtain ⟨x,xs,rfl,g3,g4⟩:=aO.bU.1 g2
     rw [aO.gz] at g4; subst g4
     simp only [Oi] at hv; subst hv
     exact ⟨_,rfl,g3⟩
   | u1::u2::us,hv,g2 =>
     obtain ⟨x,xs,rfl,g3,g4⟩:=aO.bU.1 g2
     obtain ⟨y,ys,rfl,g5,g6⟩:=aO.bU.1 g4
     simp only [Oi] at hv; subst hv
     exact ⟨_,rfl,by simp only [aA]; exact ⟨_,rfl,g2⟩⟩
theorem uZ {code:FuncId→Option VFn} (hcode:qZ P code) {fuel:Nat} (ih:LOk P code fuel):ql P (evF (evL code fuel) code):=by
 intro g args σc nxt fl r hr K R σ args' hm hargs
 unfold evF at hr
 split at hr
 ·cases hr
 ·rename_i vf hvf
  rw [gP] at hr
  split at hr
  ·rename_i hlen
   obtain ⟨hcl,hok,fn,hf,hcf⟩:=hcode g vf hvf
   simp only [Il,Ba] at hok
   have hlen':=Nat.le_of_ble_eq_true hlen
   refine ax.lF hf hcf hcl (by rw [hargs.length]; exact hlen') ?_
   have hs:eF K fl R ⟨Tr.ofL args 0 .e,σc,nxt⟩ ⟨cq args',σ⟩:=by
    refine ⟨fun i=>?_,hm⟩
    show aA R (j8 (.tup []) i (Tr.ofL args 0 .e)) (args'.getD i (.tup []))
    rw [zO,Hf]
    by_cases hi:i < args.length
    ·rw [if_pos ⟨Nat.zero_le _,by omega⟩,Nat.sub_zero]
     obtain ⟨u,h1,h2⟩:=hargs.get (List.getElem?_eq_getElem hi)
     simp only [List.getD_eq_getElem?_getD,h1,List.getElem?_eq_getElem hi,Option.getD_some]
     exact h2
    ·rw [if_neg (by omega)]
     have:args'[i]?=none:=List.getElem?_eq_none (by rw [hargs.length]; omega)
     simp only [List.getD_eq_getElem?_getD,this,Option.getD_none]
     simp [aA,aO]
   have hfin:∀cs',EA vf.res cs'=some r→∀R' st,Le R R'→eF K fl R' cs' st→Ret vf.res st fun v σ'=>∃R',Le R R'∧aA R' r.v v∧mG K fl R' (stF r.σ) r.nxt σ':=by
    intro cs' hq R' st hle hs'
    unfold EA at hq
    split at hq
    ·rename_i v hv
     simp only [Oi] at hq
     subst hq
     obtain ⟨v',g1,g2⟩:=CK hs' hok.2 hv
     exact ⟨v',v',st.σ,g1,aa.refl _,Wk.refl (aa.refl _) _,R',hle,g2,hs'.mem⟩
    ·cases hq
   refine ih vf.n K fl R vf.code _ _ [] _ hok.1 hs ?_
   generalize evL code fuel fl vf.code ⟨Tr.ofL args 0 .e,σc,nxt⟩=o at hr
   cases o <;> simp only [J0,reduceCtorEq] at hr
   ·exact fun R' st hle hs'=>ad.nil (hfin _ hr R' st hle hs')
   ·exact fun R' st hle hs'=>hfin _ hr R' st hle hs'
  ·cases hr
theorem we (code:FuncId→Option VFn) (f fl:Nat) (c:bx) (cs:CS):evL code (f+1) fl c cs=match c with
 | .skip=>.nx cs
 | .reg draw l=>Ce draw (evF (evL code f) code) fl l cs
 | .seq a b=>Bs (evL code f fl a cs) fun cs'=>evL code f fl b cs'
 | .cond c a b=>onB (c.ev cs.sf) (evL code f fl a cs) (evL code f fl b cs)
 | .block id a=>H7 id (evL code f fl a cs)
 | .loop a=>Bs (evL code f fl a cs) fun cs'=>evL code f fl (.loop a) cs'
 | .exit id=>.ex id cs
 | .ret=>.rt cs
 | .cE ..=>.bad
 | .regA ..=>.bad
 | .nN ..=>.bad
 | .bad=>.bad:=rfl
theorem wG {draw:Bool} {call:kY} {fl:Nat}:∀(m:Nat) (l:List aE) (cs:CS),(∃cs',kA draw call fl m l cs=.nx cs')∨kA draw call fl m l cs=.bad
 | 0,_,_=>.inr rfl
 | m+1,[],cs=>.inl ⟨cs,rfl⟩
 | m+1,i::l,cs=>by
   rw [kM]
   split
   ·exact wG m l _
   ·exact .inr rfl
theorem G5 {code:FuncId→Option VFn} (hcode:qZ P code):∀fuel,LOk P code fuel:=by
 intro fuel
 induction fuel using Nat.strongRecOn with
 | _ fuel ih =>
   intro n K fl R c cs st k Q hok hs hthen
   cases fuel with
   | zero=>exact hthen.elim
   | succ f =>
     have ihf:=ih f (by omega)
     rw [we] at hthen
     cases c with
     | skip=>exact ad.skip (hthen R st (Le.refl R) hs)
     | reg draw l =>
       simp only [gn] at hok
       simp only [Ce] at hthen
       rcases wG (draw:=draw) (call:=evF (evL code f) code) (fl:=fl) 1000 l cs with ⟨cs',he⟩ | he
       ·rw [he] at hthen
        cases draw
        ·exact ad.region (zK (uZ hcode ihf) 1000 l R cs st he hok hs hthen)
        ·exact ad.Ac (F8 (uZ hcode ihf) 1000 l R cs st he hok hs hthen)
       ·rw [he] at hthen; exact hthen.elim
     | seq a b =>
       simp only [gn,Ba] at hok
       refine ad.seq (ihf n K fl R a cs st _ Q hok.1 hs ?_)
       simp only [Bs] at hthen
       generalize evL code f fl a cs=o at hthen
       cases o with
       | nx cs1=>exact fun R1 st1 hle1 hs1=>ihf n K fl R1 b cs1 st1 k Q hok.2 hs1 (hthen.le hle1)
       | ex id cs1=>exact hthen
       | rt cs1=>exact hthen
       | bad=>exact hthen
     | cond c a b =>
       simp only [gn,Ba] at hok
       have hv:=er hs.slot hok.1
       have hthen:AW P n K fl R k Q (onB (c.ev cs.sf) (evL code f fl a cs) (evL code f fl b cs)):=hthen
       unfold onB at hthen
       split at hthen
       ·rename_i t ht
        rw [ht,aA.kK] at hv
        refine ad.cond hv (fun e=>?_) (fun e=>?_)
        ·subst e; exact ihf n K fl R a cs st k Q hok.2.1 hs hthen
        ·subst e; exact ihf n K fl R b cs st k Q hok.2.2 hs hthen
       ·exact hthen.elim
     | block id a =>
       simp only [gn] at hok
       refine ad.block (ihf n K fl R a cs st _ Q hok hs ?_)
       simp only [H7] at hthen
       generalize evL code f fl a cs=o at hthen
       cases o with
       | nx cs1=>exact fun R1 st1 hle1 hs1=>ad.inBlock (hthen R1 st1 hle1 hs1)
       | ex j cs1 =>
         simp only [Bi] at hthen
         by_cases hj:j=id
         ·subst hj
          rw [if_pos (by rw [Nat.beq_eq])] at hthen
          exact ⟨k,by simp [dN],hthen⟩
         ·rw [if_neg (by rw [Nat.beq_eq]; exact hj)] at hthen
          obtain ⟨k',h1,h2⟩:=hthen
          exact ⟨k',by simp [dN,hj,h1],h2⟩
       | rt cs1=>exact hthen
       | bad=>exact hthen
     | loop a =>
       have hok':=hok
       simp only [gn] at hok
       have hthen0:AW P n K fl R k Q (evL code (f+1) fl (.loop a) cs):=hthen
       generalize ho:evL code (f+1) fl (.loop a) cs=o at hthen0
       refine ad.loop (fun m st=>m≤f+1∧∃R1 cs1,Le R R1∧eF K fl R1 cs1 st∧evL code m fl (.loop a) cs1=o) (f+1) ⟨Nat.le_refl _,R,cs,Le.refl R,hs,ho⟩ ?_
       rintro m st1 ⟨hm,R1,cs1,hle1,hs1,ho1⟩
       cases m with
       | zero =>
         have:o=.bad:=ho1.symm
         rw [this] at hthen0; exact hthen0.elim
       | succ m =>
         have ihm:=ih m (by omega)
         rw [we] at ho1
         refine ihm n K fl R1 a cs1 st1 _ Q hok hs1 ?_
         simp only [Bs] at ho1
         generalize evL code m fl a cs1=o1 at ho1
         cases o1 with
         | nx cs2=>exact fun R2 st2 hle2 hs2=>ad.stop ⟨m,by omega,by omega,R2,cs2,hle1.trans hle2,hs2,ho1⟩
         | ex id cs2 =>
           have ho1:Out.ex id cs2=o:=ho1
           rw [←ho1] at hthen0
           obtain ⟨k',h1,h2⟩:=hthen0
           exact ⟨k',by simpa [dN] using h1,fun R2 st2 hle2 hs2=>h2 R2 st2 (hle1.trans hle2) hs2⟩
         | rt cs2 =>
           have ho1:Out.rt cs2=o:=ho1
           rw [←ho1] at hthen0
           exact fun R2 st2 hle2 hs2=>hthen0 R2 st2 (hle1.trans hle2) hs2
         | bad =>
           have ho1:Out.bad=o:=ho1
           rw [←ho1] at hthen0; exact hthen0.elim
     | exit id =>
       obtain ⟨k',h1,h2⟩:=hthen
       exact ad.exit h1 (h2 R st (Le.refl R) hs)
     | ret=>exact ad.ret (hthen R st (Le.refl R) hs)
     | cE g ps a b=>exact hthen.elim
     | regA l deps=>exact hthen.elim
     | nN l e=>exact hthen.elim
     | bad=>exact hthen.elim
def uu (g:V→V→Bool):List V→List V→Bool
 | [],[]=>true
 | v::vs,u::us=>g v u && uu g vs us
 | _,_=>false
def fzB:Nat→Tr (Option Ob)→V→V→Bool
 | 0,_,_,_=>false
 | f+1,σ,v,u=>match v with
   | .own id off len=>match u with
     | .sl sz rows=>match j8 none id σ with
       | some ob=>Nat.beq ob.sz sz && (Nat.ble (off+len) ob.rows.length && uu (fzB f σ) ((ob.rows.drop off).take len) rows)
       | none=>false
     | _=>false
   | .aM=>match u with
     | .sl _ rows=>rows.isEmpty
     | .aM=>true
     | _=>false
   | .sl sz rows=>match u with
     | .sl sz' rows'=>Nat.beq sz sz' && uu (fzB f σ) rows rows'
     | _=>false
   | .agg cs=>match u with
     | .agg ds=>uu (fzB f σ) cs ds
     | _=>false
   | .tup cs=>match u with
     | .tup ds=>uu (fzB f σ) cs ds
     | _=>false
   | .int k n=>match u with
     | .int k' n'=>eqK k k' && eqQ n n'
     | _=>false
   | .bool b=>match u with
     | .bool b'=>b == b'
     | _=>false
   | .str b=>match u with
     | .str b'=>decide (b=b')
     | _=>false
   | .nilp=>match u with
     | .nilp=>true
     | _=>false
   | _=>false
theorem EE {a b:Int} (h:eqQ a b=true):a=b:=by
 cases a <;> cases b <;> simp only [eqQ,Bool.false_eq_true] at h
 ·rw [Nat.eq_of_beq_eq_true h]
 ·rw [Nat.eq_of_beq_eq_true h]
theorem B8 {R:Nat→Nat→Prop} {σt:Tr (Option Ob)} {σ:af} (hm:Lv R (stF σt) σ):∀(f:Nat) (v u v':V),fzB f σt v v'=true→aA R v u→Fz σ (fun a=>∃c o,R c a∧stF σt c=some o) u v'
 | 0,_,_,_,h,_=>by simp [fzB] at h
 | f+1,v,u,v',h,hr=>by
   have hL:∀(vs us out:List V),uu (fzB f σt) vs out=true→aO R vs us→FzL σ (fun a=>∃c o,R c a∧stF σt c=some o) us out:=by
    intro vs
    induction vs with
    | nil =>
      intro us out h1 h2
      rw [aO.gz] at h2; subst h2
      cases out with
      | nil=>exact .nil
      | cons a b=>simp [uu] at h1
    | cons a vs ih =>
      intro us out h1 h2
      obtain ⟨b,bs,rfl,h3,h4⟩:=aO.bU.1 h2
      cases out with
      | nil=>simp [uu] at h1
      | cons c cs =>
        simp only [uu,Ba] at h1
        exact .cons _ _ _ _ (B8 hm f _ _ _ h1.1 h3) (ih _ _ h1.2 h4)
   have hno:v.dQ=true→v'=v→Fz σ (fun a=>∃c o,R c a∧stF σt c=some o) u v':=fun h1 h2=>by
    have:=mQ v u h1 hr
    rw [this,h2]
    exact .same v h1
   simp only [fzB] at h
   cases v <;> simp only [Bool.false_eq_true] at h
   case own id off len =>
    split at h
    ·split at h
     ·rename_i ob hob
      simp only [Ba] at h
      obtain ⟨h1,h2,h3⟩:=h
      simp only [aA] at hr
      obtain ⟨id',rfl,hR⟩:=hr
      obtain ⟨rows',g1,g2⟩:=hm _ id' ob hR hob
      have:=hL _ _ _ h3 ((g2.drop _).take _)
      rw [←Nat.eq_of_beq_eq_true h1]
      exact .own id' _ _ ⟨ob.elem,ob.sz,rows'⟩ _ g1 ⟨_,ob,hR,hob⟩ (by rw [g2.length]; exact Nat.le_of_ble_eq_true h2) this
     ·cases h
    ·cases h
   case aM =>
    split at h
    ·rename_i sz rows
     simp only [aA] at hr; subst hr
     have:rows=[]:=by simpa using h
     subst this
     exact .nil _
    ·exact hno rfl rfl
    ·cases h
   case sl sz rows =>
    split at h
    ·simp only [Ba] at h
     simp only [aA] at hr
     obtain ⟨rows',rfl,hr⟩:=hr
     rw [←Nat.eq_of_beq_eq_true h.1]
     exact .sl _ _ _ (hL _ _ _ h.2 hr)
    ·cases h
   case agg cs =>
    split at h
    ·simp only [aA] at hr
     obtain ⟨es,rfl,hr⟩:=hr
     exact .agg _ _ (hL _ _ _ h hr)
    ·cases h
   case tup cs =>
    split at h
    ·simp only [aA] at hr
     obtain ⟨es,rfl,hr⟩:=hr
     exact .tup _ _ (hL _ _ _ h hr)
    ·cases h
   case int k n =>
    split at h
    ·simp only [Ba] at h
     refine hno rfl ?_
     rw [EE h.2,of_decide_eq_true h.1]
    ·cases h
   case bool b =>
    split at h
    ·refine hno rfl ?_
     rw [eq_of_beq h]
    ·cases h
   case str b =>
    split at h
    ·refine hno rfl ?_
     rw [of_decide_eq_true h]
    ·cases h
   case nilp =>
    split at h
    ·exact hno rfl rfl
    ·cases h
def C8 (code:FuncId→Option VFn) (fuel:Nat) (f:FuncId) (args:List V) (v:V):Bool:=match evF (evL code fuel) code f args .e 0 0 with
 | some r=>fzB 10 r.σ r.v v
 | none=>false
theorem aT.IZ {P:Program} {code:FuncId→Option VFn} (hcode:qZ P code) {fuel:Nat} {f:FuncId} {args:List V} {v:V} (ha:fT args=true)
 (h:C8 code fuel f args v=true):aT P f args v:=by
 intro σ
 unfold C8 at h
 split at h
 ·rename_i r hr
  have hm:mG σ 0 (fun _ _=>False) (stF .e) 0 σ:=⟨fun _ _ h=>h.elim,fun _ _ _ h=>h.elim,fun _ _ _ _ _ h=>h.elim,fun _ _ _ h=>h.elim,aa.refl σ,fun _ _ _ _ _ h=>h.elim⟩
  refine (uZ hcode (G5 hcode fuel) f args .e 0 0 r hr σ _ σ args hm (eZ args ha)).EC ?_
  rintro u σ' ⟨R',_,h1,h2⟩
  refine ⟨v,σ,h2.kD,(B8 h2.live 10 r.v u v h h1).wk h2.kD ?_,rfl,rfl⟩
  rintro a ⟨c,o,hc,ho⟩
  cases hk:σ a with
  | none=>rfl
  | some x=>have:=h2.kfl a x c o hk hc ho; omega
 ·cases h
open Go.Proofs Go.Proofs.Tryz
def cdF (P:Program) (l:List Nat) (f:FuncId):Option VFn :=
 if l.contains f then (P.funcs[f]?).bind fun fn=>(cfn P fn).bind fun vf=>if ej P f && Il vf then some vf else none else none
theorem GZ (P:Program) (l:List Nat):qZ P (cdF P l):=by
 intro g vf h
 unfold cdF at h
 split at h
 ·simp only [Option.bind_eq_some_iff] at h
  obtain ⟨fn,h1,vf',h2,h3⟩:=h
  split at h3
  ·rename_i h4
   simp only [Ba] at h4
   simp only [Oi] at h3
   subst h3
   exact ⟨h4.1,h4.2,fn,h1,h2⟩
  ·cases h3
 ·cases h
def J1:List Nat:=[46,73,74,108,109,110,111,112,152,153,154,155,184,185,186,187,188,208]
noncomputable def Ld:FuncId→Option VFn:=cdF prog J1
theorem E4:qZ prog Ld:=GZ _ _
open Go.Proofs Go.Proofs.Tryz
def l25:List Nd:=[⟨1,2,⟨0,0,0,0,0,1,1,0,0,0,0,0⟩,0,0,[],0,0,0⟩,⟨2,1,⟨0,0,0,0,0,0,0,0,0,0,0,0⟩,10,0,[5,5,5],0,0,0⟩]
theorem Lw:aT prog 46 [.str [91,111,49,119,49,32,40,49,48,32,48,32,53,32,53,32,53,41,93]] (.tup [aI l25,vI 0,vI 0]):=aT.IZ (fuel:=3000) E4 rfl (by kernel_rfl)
open Go.Proofs Go.Proofs.Tryz
def JR (b:Bk) (s:Sta) (n high atom done:Int):Bool:=!decide (eD b s) && decide ((cg b s).1.kind=1) && decide (((cg b s).1.fs.length:Int)=n) && decide (n > 0) && ((cg b s).1.fs.all fun f=>decide (f.h=high∨f.fr≠s.s.done∨f.atom≠s.s.atom)) && decide ((cg b s).2.s.atom=atom) && decide ((cg b s).2.s.done=done)
theorem uT (h:Int) (he:jl l25 8 h=0):aT prog 22 [vI h] (.tup [.rp (bw (fc l25 8 h)), .bool true]):=fun σ=>by
 refine e22.r (by simp [c22]) ?_
 have hs:=aa.refl σ
 have hn:=FG l25 ⟨by decide,by decide⟩ 8 h
 rw [xJ,if_pos he,he] at hn
 generalize fc l25 8 h=b at *
 have hof:=Lw
 generalize l25=l at *
 refine ad.mix 9 ?_
 apply sR;simp only [go_sem,seval,c22]
 refine ad.av rfl rfl rfl (hof _) ?_
 apply sR;simp only [go_sem,seval]
 refine ad.av rfl rfl rfl (hn _) ?_
 apply sR;simp only [go_sem,seval,tV]
 exact ar.pure hs rfl
theorem mR (b:Bk) (hb:fD b) (s:Sta) (n high atom done:Int) (h:JR b s n high atom done=true):aT prog 23 [.rp (bw b),bf s,vI n,vI high,vI atom,vI done] (.tup [bf (cg b s).2, .bool true]):=fun σ=>by
 unfold JR at h
 simp only [Ba,Bool.not_eq_true',decide_eq_true_eq,decide_eq_false_iff_not] at h
 obtain ⟨⟨⟨⟨⟨⟨he,h1⟩,h2⟩,h3⟩,h4⟩,h5⟩,h6⟩:=h
 have hmay:iM b s:=Decidable.byContradiction fun h=>he (.inl h)
 have hpg:=uN b hb.toBkFull hb.fh s (nm hb.toBkOk hmay)
 rw [if_neg he] at hpg
 have hg:=jq hb he
 refine e23.r (by simp [c23]) ?_
 have hs:=aa.refl σ
 generalize cg b s=X at *
 obtain ⟨p,t⟩:=X
 simp only at h1 h2 h4 h5 h6 hpg hg
 obtain ⟨-,g1,g2, -⟩:=hg.cut h1
 obtain ⟨f,r,hf⟩:∃f r,p.fs=f::r:=by
  cases hc:p.fs with
  | nil=>rw [hc] at g1; simp at g1
  | cons f r=>exact ⟨f,r,rfl⟩
 have hi0:∀σ,bF σ 7 (bN p.fs) (.int .i64 0)=some (.rp (aX f)):=fun σ=>by rw [hf]; simp [bN,bF,aX]
 obtain ⟨g3,g4⟩:=g2 f (by rw [hf]; rfl)
 have hfh:f.h=high:=by
  rw [hf,List.all_cons,Ba] at h4
  have:=of_decide_eq_true h4.1
  rcases this with h | h | h
  ·exact h
  ·exact absurd g4 h
  ·exact absurd g3 h
 have hsc:∀x:Sta,(bf x).cells=[vI x.s.atom,vI x.s.done, .bool x.s.free,aF x.pend]:=fun _=>rfl
 have hss:∀x:Sta,(bf x).stays=true:=fun _=>rfl
 have hpc:(fF p).cells=[vI p.no,vI p.kind,bN p.hs,bN p.fs,bN p.ls]:=rfl
 have hpp:(fF p).stays=true:=rfl
 have hfc:∀l:List Frg,(bN l).cells=[bN l]:=fun _=>rfl
 have hfs:∀l:List Frg,(bN l).stays=true:=fun _=>rfl
 have hfr:(aX f).cells=[vI f.node,vI f.atom,vI f.fr,vI f.x,vI f.y,vI f.w,vI f.h]:=rfl
 have hlf:=ng p.fs
 have q1:(p.kind=1)=True:=eq_true h1
 have q2:((p.fs.length:Int)=n)=True:=eq_true h2
 have q3:(n > 0)=True:=eq_true h3
 have q4:(f.h=high)=True:=eq_true hfh
 have q5:(t.s.atom=atom)=True:=eq_true h5
 have q6:(t.s.done=done)=True:=eq_true h6
 refine ad.mix 17 ?_
 apply sR;simp only [go_sem,seval,c23,hsc,hss]
 refine ae fun i7 σ7 s7 a7 f7=>?_
 have z7:=hs.none f7
 replace hs:=hs.trans s7
 simp only [go_sem,seval,a7,hsc]
 refine ae fun i12 σ12 s12 a12 f12=>?_
 have n712:=ao a7 f12
 replace a7:=s12 _ _ a7
 have z12:=hs.none f12
 replace hs:=hs.trans s12
 simp only [go_sem,seval,a7,hsc]
 refine ad.av rfl rfl rfl (hpg _) ?_
 apply sR;simp only [go_sem,seval]
 refine ae fun i14 σ14 s14 a14 f14=>?_
 have n1214:=ao a12 f14
 replace a12:=s14 _ _ a12
 have n714:=ao a7 f14
 replace a7:=s14 _ _ a7
 have z14:=hs.none f14
 replace hs:=hs.trans s14
 simp only [go_sem,seval]
 refine ae fun i15 σ15 s15 a15 f15=>?_
 have n1215:=ao a12 f15
 replace a12:=s15 _ _ a12
 have n1415:=ao a14 f15
 replace a14:=s15 _ _ a14
 have n715:=ao a7 f15
 replace a7:=s15 _ _ a7
 have z15:=hs.none f15
 replace hs:=hs.trans s15
 simp only [go_sem,seval,a14,a15,hpc,hpp,hsc,hss,hfc,hfs,aL,aN,ab n1215,ab n1415,ab n715,ab n1214,ab n1415.symm,ab n714,ct]
 generalize hq14:upd _ i14 _=τ14
 replace a14:=(congrFun hq14 i14).symm.trans ag
 replace a12:=((congrFun hq14 i12).symm.trans (ab n1214)).trans a12
 replace a15:=((congrFun hq14 i15).symm.trans (ab n1415.symm)).trans a15
 replace a7:=((congrFun hq14 i7).symm.trans (ab n714)).trans a7
 replace hs:=Eq.subst (motive:=aa _) hq14 (hs.aC z14)
 clear hq14
 generalize hq15:upd _ i15 _=τ15
 replace a15:=(congrFun hq15 i15).symm.trans ag
 replace a12:=((congrFun hq15 i12).symm.trans (ab n1215)).trans a12
 replace a14:=((congrFun hq15 i14).symm.trans (ab n1415)).trans a14
 replace a7:=((congrFun hq15 i7).symm.trans (ab n715)).trans a7
 replace hs:=Eq.subst (motive:=aa _) hq15 (hs.aC z15)
 clear hq15
 refine ad.nX (by kernel_rfl) [0,1,2,3,4,5,6,7,8,9,10,11,12,13,14,15,16,17,18,19,20,21,22,23,24,25,26,27,28,29,30,31,32,33,34,35,36,37,38,39,40,41,42,43] [[],[],[1],[1,2],[1,2,3],[1,2,3,4],[1,2,3,4,5],[1,2,3,4,5,6],[1,2,3,4,5,6,7],[1,2,3,4,5,6,7,8],[1,2,3,4,5,6,7,8,9],[1,2,3,4,5,6,7,8,9,10],[1,2,3,4,5,6,7,8],[1,2,3,4,5,6,7,8,9,10,11,12],[1,2,3,4,5,6,7,8,9,10,11,12,13],[1,2,3,4,5,6,7,8,9,10,11,12,13,14],[1,2,3,4,5,6,7,8,9,10,11,12,13,14,15],[1,2,3,4,5,6,7,8,9,10,11,12,13,14,15,16],[1,2,3,4,5,6,7,8,9,10,11,12,13,14,15,16,17],[1,2,3,4,5,6,7,8,9,10,11,12,13,14,15,16,17,18],[1,2,3,4,5,6,7,8,9,10,11,12,13,14,15,16,17,18,19],[1,2,3,4,5,6,7,8,9,10,11,12,13,14,15,16,17,18,19,20],[1,2,3,4,5,6,7,8,9,10,11,12,13,14,15,16,17,18,19,20,21],[1,2,3,4,5,6,7,8,9,10,11,12,13,14,15,16,17,18,19,20,21,22],[1,2,3,4,5,6,7,8,9,10,11,12,13,14,15,16,17,18,19,20,21,22,23],[1,2,3,4,5,6,7,8,9,10,11,12,13,14,15,16,17,18,19],[1,2,3,4,5,6,7,8,9,10,11,12,13,14,15,16,17,18,19,20,21,22,23,24,25],[1,2,3,4,5,6,7,8,9,10,11,12,13,14,15,16,17,18,19,20,21,22,23,24,25,26],[1,2,3,4,5,6,7,8,9,10,11,12,13,14,15,16,17,18,19,20,21,22,23,24,25,26,27],[1,2,3,4,5,6,7,8,9,10,11,12,13,14,15,16,17,18,19,20,21,22,23,24,25,26,27,28],[1,2,3,4,5,6,7,8,9,10,11,12,13,14,15,16,17,18,19,20,21,22,23,24,25,26,27,28,29],[1,2,3,4,5,6,7,8,9,10,11,12,13,14,15,16,17,18,19,20,21,22,23,24,25,26,27,28,29,30],[1,2,3,4,5,6,7,8,9,10,11,12,13,14,15,16,17,18,19,20,21,22,23,24,25,26,27,28],[1,2,3,4,5,6,7,8,9,10,11,12,13,14,15,16,17,18,19,20,21,22,23,24,25,26,27,28,29,30,31,32],[1,2,3,4,5,6,7,8,9,10,11,12,13,14,15,16,17,18,19,20,21,22,23,24,25,26,27,28,29,30,31,32,33],[1,2,3,4,5,6,7,8,9,10,11,12,13,14,15,16,17,18,19,20,21,22,23,24,25,26,27,28,29,30,31,32,33,34],[1,2,3,4,5,6,7,8,9,10,11,12,13,14,15,16,17,18,19,20,21,22,23,24,25,26,27,28,29,30,31,32,33,34,35],[1,2,3,4,5,6,7,8,9,10,11,12,13,14,15,16,17,18,19,20,21,22,23,24,25,26,27,28,29,30,31,32,33,34,35,36],[1,2,3,4,5,6,7,8,9,10,11,12,13,14,15,16,17,18,19,20,21,22,23,24,25,26,27,28,29,30,31,32,33,34,35,36,37],[1,2,3,4,5,6,7,8,9,10,11,12,13,14,15,16,17,18,19,20,21,22,23,24,25,26,27,28,29,30,31,32,33,34,35],[1,2,3,4,5,6,7,8,9,10,11,12,13,14,15,16,17,18,19,20,21,22,23,24,25,26,27,28,29,30,31,32,33,34,35,36,37,38,39],[1,2,3,4,5,6,7,8,9,10,11,12,13,14,15,16,17,18,19,20,21,22,23,24,25,26,27,28,29,30,31,32,33,34,35,36,37,38,39,40],[0,1,2,3,4,5,6,7,8,9,10,11,12,13,14,15,16,17,18,19,20,21,22,23,24,25,26,27,28,29,30,31,32,33,34,35],[0,1,2,3,4,5,6,7,8,9,10,11,12,13,14,15,16,17,18,19,20,21,22,23,24,25,26,27,28,29,30,31,32,33,34,35,36,37,38,39,40,41,42]] [0,2,4,6,8,10,12,14,16,18,20,22,24,26,28,30,32,34,36,38,40,42,44,46,48,50,52,54,56,58,60,62,64,66,68,70,72,74,76,78,80,82,84,77,86] (by kernel_rfl) (by kernel_rfl) ?_
 refine RE.seg (n:=0) [77,86] [0,2,4,6,8,10,12,14,16,18,20,22,24,26,28,30,32,34,36,38,40,42,44,46,48,50,52,54,56,58,60,62,64,66,68,70,72,74,76,78,80,82,84] [⟨(.some 24),(.load .true 4 (.t 15)),.none⟩,⟨(.some 25),(.mov (.t 16)),.none⟩,⟨(.some 26),(.bin .eql (.t 25) (.c (.int .i64 0))),.none⟩,⟨(.some 27),(.mov (.t 26)),.none⟩,⟨(.some 28),(.fldA .false 1 1 (.t 14)),(.some ((.t 27),.true))⟩,⟨(.some 29),(.load .false 1 (.t 28)),(.some ((.t 27),.true))⟩,⟨(.some 30),(.bin .eql (.t 29) (.c (.int .i64 1))),(.some ((.t 27),.true))⟩,⟨(.some 31),(.pick (.t 27) (.t 30) (.c (.bool .false))),.none⟩,⟨(.some 32),(.mov (.t 31)),.none⟩,⟨(.some 33),(.fldA .false 3 1 (.t 14)),(.some ((.t 32),.true))⟩,⟨(.some 34),(.load .false 1 (.t 33)),(.some ((.t 32),.true))⟩,⟨(.some 35),(.len .false (.t 34)),(.some ((.t 32),.true))⟩,⟨(.some 36),(.mov (.t 2)),(.some ((.t 32),.true))⟩,⟨(.some 37),(.bin .eql (.t 35) (.t 36)),(.some ((.t 32),.true))⟩,⟨(.some 38),(.pick (.t 32) (.t 37) (.c (.bool .false))),.none⟩,⟨(.some 39),(.mov (.t 38)),.none⟩,⟨(.some 40),(.mov (.t 2)),(.some ((.t 39),.true))⟩,⟨(.some 41),(.bin .gtr (.t 40) (.c (.int .i64 0))),(.some ((.t 39),.true))⟩,⟨(.some 42),(.pick (.t 39) (.t 41) (.c (.bool .false))),.none⟩,⟨(.some 43),(.mov (.t 42)),.none⟩,⟨(.some 44),(.fldA .false 3 1 (.t 14)),(.some ((.t 43),.true))⟩,⟨(.some 45),(.load .false 1 (.t 44)),(.some ((.t 43),.true))⟩,⟨(.some 46),(.idxA 7 (.t 45) (.c (.int .i64 0))),(.some ((.t 43),.true))⟩,⟨(.some 47),(.fldA .false 6 1 (.t 46)),(.some ((.t 43),.true))⟩,⟨(.some 48),(.load .false 1 (.t 47)),(.some ((.t 43),.true))⟩,⟨(.some 49),(.mov (.t 3)),(.some ((.t 43),.true))⟩,⟨(.some 50),(.bin .eql (.t 48) (.t 49)),(.some ((.t 43),.true))⟩,⟨(.some 51),(.pick (.t 43) (.t 50) (.c (.bool .false))),.none⟩,⟨(.some 52),(.mov (.t 51)),.none⟩,⟨(.some 53),(.fldA .true 0 3 (.t 15)),(.some ((.t 52),.true))⟩,⟨(.some 54),(.fldA .false 0 1 (.t 53)),(.some ((.t 52),.true))⟩,⟨(.some 55),(.load .false 1 (.t 54)),(.some ((.t 52),.true))⟩,⟨(.some 56),(.mov (.t 4)),(.some ((.t 52),.true))⟩,⟨(.some 57),(.bin .eql (.t 55) (.t 56)),(.some ((.t 52),.true))⟩,⟨(.some 58),(.pick (.t 52) (.t 57) (.c (.bool .false))),.none⟩,⟨(.some 59),(.mov (.t 58)),.none⟩,⟨(.some 60),(.fldA .true 0 3 (.t 15)),(.some ((.t 59),.true))⟩,⟨(.some 61),(.fldA .false 1 1 (.t 60)),(.some ((.t 59),.true))⟩,⟨(.some 62),(.load .false 1 (.t 61)),(.some ((.t 59),.true))⟩,⟨(.some 63),(.mov (.t 5)),(.some ((.t 59),.true))⟩,⟨(.some 64),(.bin .eql (.t 62) (.t 63)),(.some ((.t 59),.true))⟩,⟨(.some 65),(.pick (.t 59) (.t 64) (.c (.bool .false))),.none⟩,⟨.none,(.store 4 (.t 12) (.t 24)),.none⟩] rfl rfl ?_
 apply sG;simp only [go_sem,seval,a12,a14,a15,hpc,hsc,hss,q1,q2,q3,q4,q5,q6,hlf,List.length_map,hi0,hfr,aL,aN]
 generalize hq12:upd _ i12 _=τ12
 replace a12:=(congrFun hq12 i12).symm.trans ag
 replace a7:=((congrFun hq12 i7).symm.trans (ab n712)).trans a7
 replace a14:=((congrFun hq12 i14).symm.trans (ab n1214.symm)).trans a14
 replace a15:=((congrFun hq12 i15).symm.trans (ab n1215.symm)).trans a15
 replace hs:=Eq.subst (motive:=aa _) hq12 (hs.aC z12)
 clear hq12
 refine RE.chk rfl rfl rfl rfl rfl trivial (by simp only [go_sem,seval,a12,a14,a15,hpc,hsc]) ?_
 refine RE.seg (n:=0) [] [86] [⟨(.some 13),(.mov (.t 65)),.none⟩] rfl rfl ?_
 apply sG;simp only [go_sem,seval]
 apply sR;simp only [go_sem,seval,a12,hsc,aL]
 exact ar.pure hs rfl
theorem IT (A B C:Bk) (hA:fD A) (hB:fD B) (hC:fD C) (s1 s2 s3 s4 s5:Sta)
 (t1:aT prog 22 [vI 30] (.tup [.rp (bw A), .bool true])) (t2:aT prog 22 [vI 20] (.tup [.rp (bw B), .bool true])) (t3:aT prog 22 [vI 6] (.tup [.rp (bw C), .bool true]))
 (p1:aT prog 23 [.rp (bw A),bf ⟨⟨0,0,true⟩,[]⟩,vI 3,vI 10,vI 3,vI 0] (.tup [bf s1, .bool true])) (p2:aT prog 23 [.rp (bw B),bf ⟨⟨0,0,true⟩,[]⟩,vI 2,vI 10,vI 2,vI 0] (.tup [bf s2, .bool true]))
 (p3:aT prog 23 [.rp (bw B),bf s2,vI 1,vI 10,vI 3,vI 0] (.tup [bf s3, .bool true])) (p4:aT prog 23 [.rp (bw C),bf ⟨⟨0,0,true⟩,[]⟩,vI 1,vI 6,vI 0,vI 6] (.tup [bf s4, .bool true]))
 (p5:aT prog 23 [.rp (bw C),bf s4,vI 1,vI 4,vI 1,vI 0] (.tup [bf s5, .bool true]))
 (e1:aT prog 11 [.rp (bw A),bf s1] (.bool true)) (e3:aT prog 11 [.rp (bw B),bf s3] (.bool true)) :
 aT prog 7 [] (.bool true):=fun σ=>by
 refine e7.r (by simp [c7]) ?_
 have hs:=aa.refl σ
 have hsc:∀x:Sta,(bf x).cells=[vI x.s.atom,vI x.s.done, .bool x.s.free,aF x.pend]:=fun _=>rfl
 have hss:∀x:Sta,(bf x).stays=true:=fun _=>rfl
 refine ad.mix 9 ?_
 apply sR;simp only [go_sem,seval,c7]
 refine ad.av rfl rfl rfl (t1 _) ?_
 apply sR;simp only [go_sem,seval]
 refine ad.av rfl rfl rfl (t2 _) ?_
 apply sR;simp only [go_sem,seval]
 refine ad.av rfl rfl rfl (t3 _) ?_
 apply sR;simp only [go_sem,seval]
 refine ad.av rfl rfl rfl (lz A hA.toBkFull _) ?_
 apply sR;simp only [go_sem,seval]
 refine ad.av rfl rfl rfl (p1 _) ?_
 apply sR;simp only [go_sem,seval]
 refine ae fun i7 σ7 s7 a7 f7=>?_
 have z7:=hs.none f7
 replace hs:=hs.trans s7
 simp only [go_sem,seval,a7,hsc,hss,aL,aN]
 generalize hq7:upd _ i7 _=τ7
 replace a7:=(congrFun hq7 i7).symm.trans ag
 replace hs:=Eq.subst (motive:=aa _) hq7 (hs.aC z7)
 clear hq7
 apply sR;simp only [go_sem,seval,a7]
 refine ad.av rfl rfl rfl (e1 _) ?_
 apply sR;simp only [go_sem,seval]
 refine ad.av rfl rfl rfl (lz B hB.toBkFull _) ?_
 apply sR;simp only [go_sem,seval]
 refine ad.av rfl rfl rfl (p2 _) ?_
 apply sR;simp only [go_sem,seval,a7,hsc,hss,aL,aN]
 generalize hq7:upd _ i7 _=τ7
 replace a7:=(congrFun hq7 i7).symm.trans ag
 replace hs:=Eq.subst (motive:=aa _) hq7 (hs.aC z7)
 clear hq7
 apply sR;simp only [go_sem,seval,a7]
 refine ad.av rfl rfl rfl (p3 _) ?_
 apply sR;simp only [go_sem,seval,a7,hsc,hss,aL,aN]
 generalize hq7:upd _ i7 _=τ7
 replace a7:=(congrFun hq7 i7).symm.trans ag
 replace hs:=Eq.subst (motive:=aa _) hq7 (hs.aC z7)
 clear hq7
 apply sR;simp only [go_sem,seval,a7]
 refine ad.av rfl rfl rfl (e3 _) ?_
 apply sR;simp only [go_sem,seval]
 refine ad.av rfl rfl rfl (lz C hC.toBkFull _) ?_
 apply sR;simp only [go_sem,seval]
 refine ad.av rfl rfl rfl (p4 _) ?_
 apply sR;simp only [go_sem,seval,a7,hsc,hss,aL,aN]
 generalize hq7:upd _ i7 _=τ7
 replace a7:=(congrFun hq7 i7).symm.trans ag
 replace hs:=Eq.subst (motive:=aa _) hq7 (hs.aC z7)
 clear hq7
 apply sR;simp only [go_sem,seval,a7]
 refine ad.av rfl rfl rfl (p5 _) ?_
 apply sR;simp only [go_sem,seval]
 exact ar.pure hs rfl
theorem AQ:aT prog 7 [] (.bool true):=by
 have hl:eA l25:=⟨by decide,by decide⟩
 have e1:jl l25 8 30=0:=by kernel_rfl
 have e2:jl l25 8 20=0:=by kernel_rfl
 have e3:jl l25 8 6=0:=by kernel_rfl
 have hA:=lk hl e1
 have hB:=lk hl e2
 have hC:=lk hl e3
 have p1:=mR _ hA ⟨⟨0,0,true⟩,[]⟩ 3 10 3 0 (by kernel_rfl)
 have p2:=mR _ hB ⟨⟨0,0,true⟩,[]⟩ 2 10 2 0 (by kernel_rfl)
 have p3:=mR _ hB (cg (fc l25 8 20) ⟨⟨0,0,true⟩,[]⟩).2 1 10 3 0 (by kernel_rfl)
 have p4:=mR _ hC ⟨⟨0,0,true⟩,[]⟩ 1 6 0 6 (by kernel_rfl)
 have p5:=mR _ hC (cg (fc l25 8 6) ⟨⟨0,0,true⟩,[]⟩).2 1 4 1 0 (by kernel_rfl)
 have n1:=nb _ hA.toBkFull (cg (fc l25 8 30) ⟨⟨0,0,true⟩,[]⟩).2 (of_decide_eq_true (by kernel_rfl))
 have n3:=nb _ hB.toBkFull (cg (fc l25 8 20) (cg (fc l25 8 20) ⟨⟨0,0,true⟩,[]⟩).2).2 (of_decide_eq_true (by kernel_rfl))
 have d1:decide (eD (fc l25 8 30) (cg (fc l25 8 30) ⟨⟨0,0,true⟩,[]⟩).2)=true:=by kernel_rfl
 have d3:decide (eD (fc l25 8 20) (cg (fc l25 8 20) (cg (fc l25 8 20) ⟨⟨0,0,true⟩,[]⟩).2).2)=true:=by kernel_rfl
 rw [d1] at n1
 rw [d3] at n3
 exact IT _ _ _ hA hB hC _ _ _ _ _ (uT 30 e1) (uT 20 e2) (uT 6 e3) p1 p2 p3 p4 p5 n1 n3
open Go.Proofs Go.Proofs.Tryz
section
variable {P:Program} {n:Nat} {t:TypeId} {vs:List V}
theorem Au (ht:P.underlying t=some .bool) (h:fv P (n+1) t vs):∃b,vs=[.bool b]:=by
 simpa only [fv,ht] using h
end
theorem Bz:dZ prog 27=true:=by kernel_rfl
theorem Be:prog.cellsOf 59=7:=by kernel_rfl
theorem EK:dZ prog 59=true:=by kernel_rfl
theorem AU {n:Nat} {vs:List V} (h:fv prog (n+2) 24 vs):∃a d fr,vs=[vI a,vI d, .bool fr]:=by
 replace h:=gE underlying24 h
 simp only [nD] at h
 obtain ⟨_,_,rfl,h1,_,_,rfl,h2,_,_,rfl,h3,rfl⟩:=h
 obtain ⟨m1,rfl,_⟩:=bL h1
 obtain ⟨m2,rfl,_⟩:=bL h2
 obtain ⟨b,rfl⟩:=Au underlying4 h3
 exact ⟨m1,m2,b,rfl⟩
theorem FD {n:Nat} {vs:List V} (h:fv prog (n+2) 59 vs):∃x:Flo,vs=(aP x).cells:=by
 replace h:=gE underlying59 h
 simp only [nD] at h
 obtain ⟨_,_,rfl,h1,_,_,rfl,h2,_,_,rfl,h3,_,_,rfl,h4,_,_,rfl,h5,_,_,rfl,h6,_,_,rfl,h7,rfl⟩:=h
 obtain ⟨m1,rfl,_⟩:=bL h1
 obtain ⟨m2,rfl,_⟩:=bL h2
 obtain ⟨m3,rfl,_⟩:=bL h3
 obtain ⟨m4,rfl,_⟩:=bL h4
 obtain ⟨m5,rfl,_⟩:=bL h5
 obtain ⟨m6,rfl,_⟩:=bL h6
 obtain ⟨m7,rfl,_⟩:=bL h7
 exact ⟨⟨m1,m2,m3,m4,m5,m6,m7⟩,rfl⟩
theorem EW {n:Nat} {vs:List V} (h:fv prog (n+4) 27 vs):∃s:Sta,kI prog 27 vs=bf s:=by
 replace h:=gE underlying27 h
 simp only [nD] at h
 obtain ⟨_,_,rfl,h1,_,_,rfl,h2,rfl⟩:=h
 obtain ⟨a,d,fr,rfl⟩:=AU h1
 obtain ⟨rows,rfl,_,h3⟩:=mC underlying25 h2
 obtain ⟨l,rfl, -⟩:=qj (f:=aP) (p:=fun _=>True) fun r hr=>by
  obtain ⟨cs,hc,rfl⟩:=h3 r hr
  obtain ⟨x,rfl⟩:=FD hc
  exact ⟨x,by rw [EK]; rfl,trivial⟩
 exact ⟨⟨⟨a,d,fr⟩,l⟩,by unfold kI; rw [Bz,Be]; rfl⟩
theorem zo {n:Nat} {vs:List V} (h:fv prog (n+1) 3 vs):∃m,kI prog 3 vs=vI m:=by
 obtain ⟨m,rfl, -⟩:=bL h
 exact ⟨m,by unfold kI; rw [FH]; rfl⟩
end Go.Vc
