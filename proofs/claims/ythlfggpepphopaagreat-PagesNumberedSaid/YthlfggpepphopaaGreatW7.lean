/- Part 7 of the library of this proof. -/
import Derived.Test.YthlfggpepphopaaGreatW6
set_option linter.all false
set_option maxRecDepth 100000
namespace Go.Vc
open Go.Proofs Go.Proofs.Tryz
def ups (l:List Nd):Nat→Int→List Int
 | 0,_=>[]
 | f+1,p=>if 0≤p then p::ups l f (eo l p.toNat) else []
theorem wL {l:List Nd} {f:Nat} {p:Int} (h:p < 0):ups l f p=[]:=by
 cases f with
 | zero=>rfl
 | succ f=>rw [ups,if_neg (by omega)]
theorem qZ {l:List Nd} {f:Nat} {p:Int} (h:0≤p) (hf:p < f):∃g,f=g+1∧ups l f p=p::ups l g (eo l p.toNat):=by
 cases f with
 | zero=>omega
 | succ f=>exact ⟨f,rfl,by rw [ups,if_pos h]⟩
theorem fg (l:List Nd) (a:Nat):-1≤eo l a∧eo l a < a:=tU l a a
theorem ldN (σ:af) (l:List Nd):bN σ false 1 (.rp (aI l))=some (aI l):=rfl
theorem fdN (l:List Nd):gr false 0 1 (.rp (.agg [aI l]))=some (.rp (aI l)):=rfl
def mB (l:List Int):List (List V):=l.map fun p=>[vI p]
theorem sY (l:List Nd) (hl:dE l) (hb:isB l=true) (a:Nat) (ha:a < l.length):Iter prog 177 [.rp (.agg [aI l]), .rp (vI a)] (mB (ups l (l.length+1) (eo l a))):=by
 have hhas:uu l (a:Int)=true:=zy.2 ⟨by omega,by omega⟩;have hpr:=fg l a;refine ⟨Mn.c,fun idl J Jx σ0 hy hJ=>?_⟩;refine (Mn.r (by simp [JN]) ?_).2;refine ad.mix 5 ?_;apply sR;simp only [BB,seval,←decide_not,bp,eQ,aE,cG,eG,ed,eF,dQ,cd,kv,bE,fL,dM,eB,cy,cK,bx,ir,de,cI,cc,eff,kc,da,bS,jS,dT,cj,dO,cU,kP,binBV,bT,dq,V.cells,V.stays,Orc.nothing,JN,ldN,fdN];refine ad.ay rfl rfl rfl (La l a _) ?_;rw [hhas];apply sR;simp only [BB,seval,←decide_not,bp,eQ,aE,cG,eG,ed,eF,dQ,cd,kv,bE,fL,dM,eB,cy,cK,bx,ir,de,cI,cc,eff,kc,da,bS,jS,dT,cj,dO,cU,kP,binBV,bT,dq,V.cells,V.stays,Orc.nothing,ldN,fdN];refine ad.ay rfl rfl rfl (uQ l hl hb a ha _) ?_;apply sR;simp only [go_sem,seval];refine ad.loop (fun m st=>∃(pre:List Int) (q:Int) (f:Nat) (σJ:af),m=(q+1).toNat∧-1≤q∧q < l.length∧q < f∧ups l (l.length+1) (eo l a)=pre++ups l f q∧J (mB pre) σJ∧aa σJ st.σ ∧
  st.s 0=.yl idl∧st.s 1=.rp (.agg [aI l])∧st.s 4=vI q) (eo l a+1).toNat ?_ ?_
 ·exact ⟨[],eo l a,l.length+1,σ0,rfl,by omega,by omega,by omega,rfl,hJ,aa.refl _,rfl,rfl,rfl⟩
 ·rintro m ⟨s,σ'⟩ ⟨pre,q,f,σJ,rfl,hq1,hq2,hqf,hxs,hJp,hsub,h0,h1,h4⟩;simp only at hsub h0 h1 h4;refine ad.mix 5 ?_;by_cases hq:0≤q
  ·obtain ⟨g,rfl,hu⟩:=qZ (l:=l) hq hqf;obtain ⟨k,rfl⟩:∃k:Nat,q=k:=⟨q.toNat,by omega⟩
   have hge:((k:Int)≥0)=True:=by simp
   rw [Int.toNat_natCast] at hu;have hpk:=fg l k;have hkl:k < l.length:=by omega
   have e:mB (ups l (l.length+1) (eo l a))=mB pre++[vI k]::mB (ups l g (eo l k)):=by rw [hxs,hu]; simp [mB]
   apply sR;simp only [go_sem,seval,h0,h1,h4,hge];refine ad.kV (Post:=fun b σ2=>∃σJ',bb σJ σ' σJ' σ2∧((b=true∧J (mB pre++[[vI k]]) σJ')∨(b=false∧Jx (mB pre++[[vI k]]) σJ'))) rfl rfl rfl (hy _ [vI k] _ σJ σ' e hJp hsub) ?_;rintro b σ2 ⟨σJ',hbs,hbb⟩;rcases hbb with ⟨rfl,hbb⟩ | ⟨rfl,hbb⟩
   ·apply sR;simp only [BB,seval,←decide_not,bp,eQ,aE,cG,eG,ed,eF,dQ,cd,kv,bE,fL,dM,eB,cy,cK,bx,ir,de,cI,cc,eff,kc,da,bS,jS,dT,cj,dO,cU,kP,binBV,bT,dq,V.cells,V.stays,Orc.nothing,h0,h1,h4,ldN,fdN];refine ad.ay rfl rfl rfl (uQ l hl hb k hkl _) ?_;apply sR;simp only [go_sem,seval,h0,h1];refine ⟨_,?_,pre++[(k:Int)],eo l k,g,σJ',rfl,by omega,by omega,by omega,by rw [hxs,hu]; simp,?_,hbs.1,by simp [h0,h1]⟩
    ·omega
    ·simpa [mB] using hbb
   ·apply sR;simp only [go_sem,seval,h0,h1,h4];refine ⟨_,σJ',hbs.1,Wk.refl hbs.1 _, .inr ⟨mB pre++[[vI k]],?_,hbb⟩⟩;rw [e];exact ⟨mB (ups l g (eo l k)),by simp⟩
  ·have hge:(q≥0)=False:=by simp; omega
   apply sR;simp only [go_sem,seval,h0,h1,h4,hge];rw [wL (l:=l) (f:=f) (p:=q) (by omega),List.append_nil] at hxs;exact ⟨_,σJ,hsub,Wk.refl hsub _, .inl (by rw [hxs]; exact hJp)⟩
theorem yW (l:List Nd) (a:Int):aU prog 136 [.agg [aI l],vI a] (.fn 177 [.rp (.agg [aI l]), .rp (vI a)]):=fun σ=>by
 refine NA.r (by simp [I9]) ?_;refine ad.mix 4 ?_;have q1:(V.agg [aI l]).cells.length=1:=rfl;have q2:(V.agg [aI l]).stays=true:=rfl;generalize V.agg [aI l]=x at *;apply sR;simp only [go_sem,seval,I9,q1,q2];refine ae fun id1 σ1 s1 a1 f1=>?_;simp only [go_sem,seval];refine ae fun id2 σ2 s2 a2 f2=>?_;simp only [go_sem,seval];exact ⟨_,σ,s1.trans s2,Wk.fn (vs':=[.rp x, .rp (vI a)]) ⟨Wk.ptr (s1.trans s2) (s2 _ _ a1) f1,Wk.ptr (s1.trans s2) a2 (s1.none f2),trivial⟩,rfl,rfl⟩
theorem Ah (l:List Nd) (hl:dE l) (hb:isB l=true) (a:Nat) (ha:a < l.length):aU prog 170 [aI l,vI a] (vI (eo l a)):=fun σ=>by
 refine M4.r (by simp [Ly]) ?_;refine ad.mix 5 ?_;have hit:=sY l hl hb a ha;have hpr:=fg l a;apply sR;simp only [go_sem,seval,Ly];refine ae fun id4 σ1 s1 a4 f4=>?_;simp only [go_sem,seval];refine ad.ay rfl rfl rfl (AW l hl hb _) ?_;apply sR;simp only [go_sem,seval];refine ad.ay rfl rfl rfl (yW l a _) ?_;apply sR;simp only [go_sem,seval];generalize hS:mix 5 _ _=S;have S4:S 4=.ptr id4 0 0:=by rw [←hS]; rfl
 have S9:S 9=.fn 177 [.rp (.agg [aI l]), .rp (vI a)]:=by rw [←hS]; rfl
 clear hS;have hx0:∀x pre post,mB (ups l (l.length+1) (eo l a))=pre++x::post→pre=[]→x=[vI (eo l a)]:=fun x pre post h hp=>by
  subst hp;by_cases h0:0≤eo l a
  ·obtain ⟨g,_,hu⟩:=qZ (l:=l) (f:=l.length+1) h0 (by omega);rw [hu] at h;simp only [mB,List.map_cons,List.nil_append,List.cons.injEq] at h;exact h.1.symm
  ·rw [wL (by omega)] at h; simp [mB] at h
 refine ad.cC (g:=.t 9) (caps:=[.rp (.agg [aI l]), .rp (vI a)]) S9 hit (fun x hx=>?_) [] (fun pre σJ=>pre=[]∧σJ=σ1) (fun c pre σJ=>c=none∧σJ=upd σ1 id4 ⟨3,1,[vI (eo l a)]⟩) ?_ ?_ ?_ ?_ ?_
 ·simp only [mB,List.mem_map] at hx;obtain ⟨t,_,rfl⟩:=hx; rfl
 ·exact ⟨rfl,rfl⟩
 ·rintro pre x post σJ σB hxs ⟨rfl,rfl⟩ hsub;obtain rfl:=hx0 x [] post hxs rfl;have b4:=hsub _ _ a4;generalize hSS:lk S [10] [vI (eo l a)]=S0;have T4:S0 4=.ptr id4 0 0:=by rw [←hSS]; exact S4
  have T10:S0 10=vI (eo l a):=by rw [←hSS]; rfl
  clear hSS;refine ad.mix 11 ?_;apply sR;simp only [go_sem,seval,T4,T10,b4];refine ad.mix 11 ?_;apply sR;simp only [go_sem,seval,T4,b4];exact ⟨_,(bb.refl hsub).set (o:=⟨3,1,[vI 0]⟩) a4,rfl⟩
 ·rintro σ' ⟨hn,rfl⟩;have hpm:eo l a = -1:=by
   by_cases h0:0≤eo l a
   ·obtain ⟨g,_,hu⟩:=qZ (l:=l) (f:=l.length+1) h0 (by omega);rw [hu] at hn; simp [mB] at hn
   ·omega
  refine ad.mix 5 ?_;apply sR;simp only [go_sem,seval,S4,a4];rw [hpm];exact ar.pure (s1.aB f4) rfl
 ·intro id h; cases h
 ·rintro pre σ' _ ⟨_,rfl⟩;refine ad.mix 5 ?_;apply sR;simp only [go_sem,seval,S4,ag];exact ar.pure (s1.aB f4) rfl
open Go.Proofs Go.Proofs.Tryz
theorem kJ {l:List Nd} {a b:Int}:gx l a b=true↔0≤a∧b < l.length∧a≤b∧b < a+szI l a.toNat:=by
 simp only [gx,Ba,zy,decide_eq_true_eq];constructor
 ·rintro ⟨h1,h2,h3,h4⟩; omega
 ·rintro ⟨h1,h2,h3,h4⟩; omega
theorem uF (l:List Nd) (b:Nat):∀k,(qH l b k = -1∧∀i:Nat,i < k→gx l i b=false)∨∃q:Nat,qH l b k=q∧q < k∧gx l q b=true∧∀i:Nat,q < i→i < k→gx l i b=false
 | 0=>.inl ⟨rfl,fun i h=>by omega⟩
 | k+1=>by
   rw [qH];cases hk:gx l k b
   ·simp only [Bool.false_eq_true,↓reduceIte];rcases uF l b k with ⟨h1,h2⟩ | ⟨q,h1,h2,h3,h4⟩
    ·refine .inl ⟨h1,fun i hi=>?_⟩;by_cases e:i=k
     ·rw [e]; exact hk
     ·exact h2 i (by omega)
    ·refine .inr ⟨q,h1,by omega,h3,fun i hi hk'=>?_⟩;by_cases e:i=k
     ·rw [e]; exact hk
     ·exact h4 i hi (by omega)
   ·simp only [↓reduceIte];exact .inr ⟨k,rfl,by omega,hk,fun i hi hk'=>by omega⟩
theorem nest {l:List Nd} (hb:isB l=true) {x q:Nat} (hx:x < l.length) (h1:x≤q) (h2:(q:Int) < x+szI l x) (hq:q < l.length):(q:Int)+szI l q≤x+szI l x:=by
 by_cases e:x=q
 ·subst e; omega
 ·have hrows:bV l 0 l.length=true:=by simp only [isB,Ba] at hb; exact hb.2
  obtain ⟨z1,z2⟩:=pd hb hx;obtain ⟨z3,_⟩:=cM (Nat.le_refl _) hrows (Nat.zero_le x) hx;have hin:=lx l (l.length+1) 0 l.length (by omega) (Nat.le_refl _) hrows x (by omega) hx hx;rw [←kB hx] at hin;have:=(cM (e:=x+(szI l x).toNat) (by omega) hin (k:=q) (by omega) (by omega)).1;omega
theorem Fc (l:List Nd):∀(f:Nat) (p x:Int),x∈ups l f p→0≤x∧x≤p
 | 0,_,_,h=>by simp [ups] at h
 | f+1,p,x,h=>by
   rw [ups] at h;split at h
   ·rcases List.mem_cons.1 h with rfl | h
    ·omega
    ·have:=Fc l f _ x h;have:=fg l p.toNat;omega
   ·simp at h
theorem oy {l:List Nd} {a b:Nat}:∀k:Nat,(∀i:Nat,i < k→gx l i a=gx l i b)→ga l a k=ga l b k
 | 0,_=>rfl
 | k+1,h=>by
   rw [ga,ga,h k (by omega),oy k fun i hi=>h i (by omega)]
theorem lR {l:List Nd} {a q:Nat}:∀k:Nat,q≤k→(∀i:Nat,q≤i→i < k→gx l i a=false)→ga l a k=ga l a q
 | 0,h,_=>by rw [Nat.le_zero.1 h]
 | k+1,h,hh=>by
   by_cases e:q=k+1
   ·rw [e]
   ·rw [ga,hh k (by omega) (by omega),if_neg (by simp)];exact lR k (by omega) fun i h1 h2=>hh i h1 (by omega)
theorem uX {l:List Nd} (hb:isB l=true):∀(f a:Nat),a < l.length→eo l a < f→ups l f (eo l a)=ga l a a
 | f,a,ha,hf=>by
   rcases uF l a a with ⟨h1,h2⟩ | ⟨q,h1,h2,h3,h4⟩
   ·have e:eo l a = -1:=h1;rw [e,wL (by omega),lR (q:=0) a (by omega) fun i _ hi=>h2 i hi];rfl
   ·have e:eo l a=q:=h1;rw [e] at hf ⊢;obtain ⟨g,rfl,hu⟩:=qZ (l:=l) (f:=f) (p:=q) (by omega) hf;rw [hu,Int.toNat_natCast];have hpq:=fg l q;rw [uX hb g q (by omega) (by omega),lR (q:=q+1) a (by omega) fun i i1 i2=>h4 i (by omega) i2,ga,h3,if_pos rfl];congr 1;refine oy q fun i hi=>?_;rw [Bool.eq_iff_iff,kJ,kJ];rw [kJ] at h3;simp only [Int.toNat_natCast] at h3 ⊢;constructor
    ·rintro ⟨_,_,_,g4⟩;have:=nest hb (x:=i) (q:=q) (by omega) (by omega) g4 (by omega);omega
    ·rintro ⟨_,_,_,_⟩; omega
open Go.Proofs Go.Proofs.Tryz
theorem bb.Cl {σJ σ σJ' σ':af} (h:bb σJ σ σJ' σ') {e:Option Nat} (he:∀i,e=some i→∃o,σJ' i=some o):bb σJ σ (Vc.bz σJ' e) (Vc.bz σ' e):=by
 cases e with
 | none=>exact h
 | some e =>
   refine ⟨BV h.1,fun i o h1 h2=>?_⟩;obtain ⟨h3,h4⟩:=h.2 i o h1 h2;have:i≠e:=fun e'=>by subst e'; obtain ⟨o',ho'⟩:=he i rfl; rw [h4] at ho'; cases ho'
   simp only [Vc.bz,dh this];exact ⟨h3,h4⟩
theorem aM.C7 {K σJ σ1:af} {e sz:Nat} {v:V} {rows:List V} (h:aM K σJ e sz v rows) (hs:aa σJ σ1) :
 ∃idA,bR σ1 e sz v=some (rows,idA)∧∀i,idA=some i→K i=none∧∃o,σJ i=some o:=by
 rcases h with ⟨rfl,rfl⟩ | ⟨id,rfl,ho,hk⟩
 ·exact ⟨none,rfl,fun _ h=>by cases h⟩
 ·refine ⟨some id,?_,fun i h=>by cases h; exact ⟨hk,_,ho⟩⟩;simp only [bR,hs _ _ ho];rw [if_pos ⟨trivial,trivial,trivial,Nat.le_refl _⟩,List.take_length]
def aZ (σ:af) (id:Nat):af:=fun i=>if i=id then some ⟨0,0,[]⟩ else σ i
theorem aF {σ:af} {id i:Nat}:aZ σ id i=none↔i≠id∧σ i=none:=by
 unfold aZ;split
 ·rename_i h; simp [h]
 ·rename_i h; simp [h]
theorem oI {α:Type} {f:α→V} {xs:List α} {pre post:List (List V)} {x:List V} (h:(xs.map fun a=>[f a])=pre++x::post):∃a,xs[pre.length]?=some a∧x=[f a]:=by
 have:=congrArg (·[pre.length]?) h;simp only [List.getElem?_map,List.getElem?_append_right (Nat.le_refl _),Nat.sub_self,List.getElem?_cons_zero,Option.map_eq_some_iff] at this;obtain ⟨t,h1,h2⟩:=this;exact ⟨t,h1,h2.symm⟩
theorem xZ {g:FuncId} {caps:List V} {xs:List Int} (hit:Iter prog g caps (xs.map fun n=>[vI n])) (hx:xs.length≤1000000) (σ:af) :
 az prog 176 [.aD, .fn g caps] σ fun r σ'=>aa σ σ'∧aM σ σ' 3 1 r (xs.map vI):=by
 refine Nq.r (by simp [Lx]) ?_;refine ad.mix 8 ?_;apply sR;simp only [go_sem,seval,Lx];refine ae fun id2 σ2 s2 a2 f2=>?_;simp only [go_sem,seval];generalize hS:mix 8 _ _=S;have S2:S 2=.ptr id2 0 0:=by rw [←hS]; rfl
 have S6:S 6=.fn g caps:=by rw [←hS]; rfl
 clear hS;refine ad.cC (g:=.t 6) (caps:=caps) S6 hit (fun x hx=>?_) [] (fun pre σJ=>∃v,σJ id2=some ⟨53,1,[v]⟩∧aa σ σJ∧aM (aZ σ id2) σJ 3 1 v ((xs.take pre.length).map vI))
  (fun _ _ _=>False) ?_ ?_ ?_ ?_ ?_
 ·obtain ⟨t,_,rfl⟩:=List.mem_map.1 hx; rfl
 ·exact ⟨.aD,a2,s2,by simpa using aM.start⟩
 ·rintro pre x post σJ σB hxs ⟨v,J2,Js,Jo⟩ hsub;obtain ⟨t,hti,rfl⟩:=oI (f:=vI) hxs;have htk:xs.take (pre.length+1)=xs.take pre.length++[t]:=by rw [List.take_add_one,hti]; rfl
  have hlen:(pre++[[vI t]]).length=pre.length+1:=by simp
  rw [hlen,htk];have hkl:((xs.take pre.length).map vI).length≤1000001:=by simp; omega
  have hvc:v.cells=[v]:=by rcases Jo with ⟨rfl,_⟩ | ⟨_,rfl,_⟩ <;> rfl
  generalize hrows:((xs.take pre.length).map vI)=rows at *;have b2:=hsub _ _ J2;generalize hSS:lk S [7] [vI t]=S0;have T2:S0 2=.ptr id2 0 0:=by rw [←hSS]; exact S2
  have T7:S0 7=vI t:=by rw [←hSS]; rfl
  refine ad.mix 8 ?_;apply sR;simp only [go_sem,seval,T2,T7];apply sR;simp only [go_sem,seval,T2,T7,b2,hvc];rw [aH];intro id28 f28;have hBs:=(bb.refl hsub).pf (o:=⟨3,1,[vI t]⟩) f28;have y2:upd σB id28 ⟨3,1,[vI t]⟩ id2=some ⟨53,1,[v]⟩:=by rw [ab (ao b2 f28)]; exact b2
  have a28:upd σB id28 ⟨3,1,[vI t]⟩ id28=some ⟨3,1,[vI t]⟩:=ag;generalize upd σB id28 ⟨3,1,[vI t]⟩=σ8 at *;obtain ⟨idA,hda,hdA⟩:=Jo.C7 hBs.1;have hb2:(rows.length+1)*9≤140737488355328:=by omega
  have k2:aZ σ id2 id2≠none:=fun h=>(aF.1 h).1 rfl;have dne:∀(i:Nat) (σx:af),aZ σ id2 i≠none→Vc.bz σx idA i=σx i:=fun i σx hk=>by
   cases idA with
   | none=>rfl
   | some a=>exact dh (fun e=>hk (by rw [e]; exact (hdA a rfl).1))
  simp only [go_sem,seval,hda,dk a28,hb2,T2];rw [aH];intro id29 f29;have f29:σ8 id29=none:=f29;have m29:id2≠id29:=ao y2 f29;have f29':Vc.bz σ8 idA id29=none:=by
   cases idA with
   | none=>exact f29
   | some a=>simp only [Vc.bz,del]; split <;> first | rfl | exact f29
  have y2':upd (Vc.bz σ8 idA) id29 ⟨3,1,rows++[vI t]⟩ id2=some ⟨53,1,[v]⟩:=by rw [ab m29,dne _ _ k2]; exact y2
  have hB9:=((hBs.Cl (e:=idA) fun i h=>(hdA i h).2).new (o:=⟨3,1,rows++[vI t]⟩) f29').set (id:=id2) (o:=⟨53,1,[v]⟩) (o':=⟨53,1,[.own id29 0 (rows.length+1)]⟩) (by rw [ab m29,dne _ _ k2]; exact J2);simp only [go_sem,seval,hvc,y2',T2];refine ⟨_,hB9, .own id29 0 (rows.length+1),ag,?_,?_⟩
  ·refine aa.aB (fun i o h=>?_) f2;have h1:=Js _ _ h;rw [ab (ao (hBs.1 _ _ h1) f29),dne _ _ (fun hk=>by rw [(aF.1 hk).2] at h; cases h)];exact h1
  ·rw [List.map_append,hrows];refine aM.new (by simp) (by rw [ab m29.symm,ag]; rfl) ?_;rw [aF];refine ⟨m29.symm,?_⟩;cases h:σ id29 with
   | none=>rfl
   | some o=>rw [hBs.1 _ _ (Js _ _ h)] at f29; cases f29
 ·rintro σ' ⟨v,J2,Js,Jo⟩;rw [List.length_map,List.take_length] at Jo;have hvc:v.cells=[v]:=by rcases Jo with ⟨rfl,_⟩ | ⟨_,rfl,_⟩ <;> rfl
  refine ad.mix 5 ?_;apply sR;simp only [go_sem,seval,S2,J2,hvc];refine ⟨_,_,aa.refl _,Wk.refl (aa.refl _) _,Js,?_⟩;rcases Jo with h | ⟨id,h1,h2,h3⟩
  ·exact .inl h
  ·exact .inr ⟨id,h1,h2,(aF.1 h3).2⟩
 ·intro id h; cases h
 ·rintro pre σ' _ ⟨⟩
theorem uT {g:FuncId} {caps:List V} {xs:List Int} (hit:Iter prog g caps (xs.map fun n=>[vI n])) (hx:xs.length≤1000000) :
 aU prog 135 [.fn g caps] (bj xs):=fun σ=>by
 refine M3.r (by simp [JE]) ?_;refine ad.mix 3 ?_;apply sR;simp only [go_sem,seval,JE];refine ad.call rfl rfl rfl (xZ hit hx σ) ?_;rintro r σ1 ⟨h1,h2⟩;apply sR;simp only [go_sem,seval];exact h2.Cj h1 rfl
def abv (l:List Nd) (a:Nat):List Int:=ups l (l.length+1) (eo l a)
theorem im (l:List Nd):∀(f:Nat) (p:Int),(ups l f p).length≤f
 | 0,_=>by simp [ups]
 | f+1,p=>by
   rw [ups];split
   ·have:=im l f (eo l p.toNat); simp only [List.length_cons]; omega
   ·simp
theorem KX {l:List Nd} (hb:isB l=true) {a:Nat} (ha:a < l.length):abv l a=ga l a a:=uX hb _ _ ha (by have:=fg l a; omega)
theorem wV (l:List Nd) (hl:dE l) (hb:isB l=true) (hn:l.length≤100000) (a:Nat) (ha:a < l.length):aU prog 95 [aI l,vI a] (bj (abv l a)):=fun σ=>by
 refine e95.r (by simp [c95]) ?_;refine ad.mix 5 ?_;apply sR;simp only [go_sem,seval,c95];refine ad.ay rfl rfl rfl (AW l hl hb _) ?_;apply sR;simp only [go_sem,seval];refine ad.ay rfl rfl rfl (yW l a _) ?_;apply sR;simp only [go_sem,seval];refine ad.ay rfl rfl rfl (uT (sY l hl hb a ha) (by have:=im l (l.length+1) (eo l a); omega) _) ?_;apply sR;simp only [go_sem,seval];exact ar.same rfl
structure SOk (s:Sty):Prop where
 top:0≤s.top∧s.top≤1099511627776
 bottom:0≤s.bottom∧s.bottom≤1099511627776
 padTop:0≤s.padTop∧s.padTop≤1099511627776
 padBottom:0≤s.padBottom∧s.padBottom≤1099511627776
 inset:0≤s.inset∧s.inset≤1099511627776
 orphans:0≤s.orphans∧s.orphans≤1099511627776
 widows:0≤s.widows∧s.widows≤1099511627776
 head:0≤s.head∧s.head≤1099511627776
 before:0≤s.before∧s.before≤4
 after:0≤s.after∧s.after≤4
 inside:0≤s.inside∧s.inside≤1
 clear:0≤s.clear∧s.clear≤3
structure NOk (x:Nd):Prop where
 st:SOk x.st
 kind:x.kind=1∨x.kind=2∨x.kind=3∨x.kind=4
 line:0≤x.line∧x.line≤1099511627776
 space:0≤x.space∧x.space≤1099511627776
 words:∀w∈x.words,1≤w∧w≤1099511627776
 w:0≤x.w∧x.w≤1099511627776
 h:0≤x.h∧x.h≤1099511627776
 side:0≤x.side∧x.side≤2
 text:x.kind=2→0 < x.words.length∧1≤x.line
 box:x.kind=3∨x.kind=4→1≤x.w∧1≤x.h
 fl:x.kind=4→1≤x.side
 jL:x.kind≠1→x.st=Sty.zero
 nowords:x.kind≠2→x.words=[]
theorem nj {n a b:Int}:bg n a b=true↔a≤n∧n≤b:=by simp [bg]
theorem Eu:SOk Sty.zero:=by constructor <;> simp [Sty.zero]
theorem IW {s:Sty} (h:s.ok=true):SOk s:=by
 simp only [Sty.ok,Ba,nj,mx] at h;constructor <;> omega
theorem K4 {x:Nd} (h:x.ok=true):NOk x:=by
 unfold Nd.ok at h;split at h
 ·rename_i hk;simp only [Ba,decide_eq_true_eq] at h;obtain ⟨⟨⟨⟨⟨⟨h1,h2⟩,h3⟩,h4⟩,h5⟩,h6⟩,h7⟩:=h;have hw:x.words=[]:=List.eq_nil_of_length_eq_zero h4;exact ⟨IW h1, .inl hk,by omega,by omega,by rw [hw]; simp,by omega,by omega,by omega,by omega,by omega,by omega,by omega,fun _=>hw⟩
 ·rename_i hk;split at h
  ·cases h
  ·rename_i hst;have hs:x.st=Sty.zero:=Classical.byContradiction hst;have hso:SOk x.st:=by rw [hs]; exact Eu
   split at h
   ·rename_i hk2;simp only [Ba,decide_eq_true_eq,nj,mx,List.all_eq_true] at h;obtain ⟨⟨⟨⟨⟨⟨h1,h2⟩,h3⟩,h4⟩,h5⟩,h6⟩,h7⟩:=h;exact ⟨hso, .inr (.inl hk2),by omega,by omega,h1,by omega,by omega,by omega,fun _=>⟨h2,h3.1⟩,by omega,by omega,fun _=>hs,by omega⟩
   ·rename_i hk2;simp only [Ba,Bool.or_eq_true,decide_eq_true_eq,nj,mx] at h;obtain ⟨⟨⟨⟨⟨h1,h2⟩,h3⟩,h4⟩,h5⟩,h6⟩:=h;have hw:x.words=[]:=List.eq_nil_of_length_eq_zero h3;exact ⟨hso,by omega,by omega,by omega,by rw [hw]; simp,by omega,by omega,by omega,by omega,by omega,by omega,fun _=>hs,fun _=>hw⟩
theorem fM {l:List Nd} (hb:isB l=true) {a:Nat} (h:a < l.length):NOk l[a]:=by
 simp only [isB,Ba,List.all_eq_true] at hb;exact K4 (hb.1 _ (List.getElem_mem h))
open Go.Proofs Go.Proofs.Tryz
structure Rm where
 (x w:Int)
deriving DecidableEq
def jz (r:Rm):V:=.agg [vI r.x,vI r.w]
def cg (l:List Rm):V:=.sl 2 (l.map jz)
def D4 (l:List Nd) (a:Nat):Int:=((l[a]?).map fun n=>n.st.inset).getD 0
def nC (r:Rm) (i:Int):Rm:=⟨min (r.x+i) 1099511627776,max (r.w - 2*i) 1⟩
def cF (l:List Nd):Nat→Nat→Nat→Rm→List Rm
 | 0,_,_,_=>[]
 | k+1,a,e,r=>if a < e then r::(cF l k (a+1) (a+(szI l a).toNat) (nC r (D4 l a))++cF l k (a+(szI l a).toNat) e r) else []
theorem kC {l:List Nd} {e:Nat} (he:e≤l.length):∀(k a:Nat) (r:Rm),e - a≤k→a≤e→bV l a e=true→(cF l k a e r).length=e - a
 | 0,a,r,hk,ha,_=>by simp [cF]; omega
 | k+1,a,r,hk,ha,hr=>by
   rw [cF];split
   ·rename_i hlt;obtain ⟨h1,h2⟩:=cM he hr (Nat.le_refl a) hlt;obtain ⟨h3,h4⟩:=dL he hr hlt;have ih:=kC he k (a+(szI l a).toNat) r (by omega) (by omega) h3;have ih2:=kC (e:=a+(szI l a).toNat) (by omega) k (a+1) (nC r (D4 l a)) (by omega) (by omega) h4;simp only [List.length_cons,List.length_append];omega
   ·simp; omega
theorem jF {l:List Nd} {e:Nat} (he:e≤l.length):∀(k j a:Nat) (r:Rm),e - a≤k→e - a≤j→bV l a e=true→cF l k a e r=cF l j a e r
 | 0,0,_,_,_,_,_=>rfl
 | 0,j+1,a,r,h,_,_=>by rw [cF,cF,if_neg (by omega)]
 | k+1,0,a,r,_,h,_=>by rw [cF,cF,if_neg (by omega)]
 | k+1,j+1,a,r,h,h',hr=>by
   rw [cF,cF];split
   ·rename_i hlt;obtain ⟨h1,h2⟩:=cM he hr (Nat.le_refl a) hlt;obtain ⟨h3,h4⟩:=dL he hr hlt;rw [jF he k j _ _ (by omega) (by omega) h3,jF (e:=a+(szI l a).toNat) (by omega) k j _ _ (by omega) (by omega) h4]
   ·rfl
theorem cS {σ:af} {l:List Nd} {a:Nat} (h:a < l.length):bD σ 20 (aI l) (.int .i64 a)=some (.rp (.agg (Nd.cells l[a]))):=by
 simp [aI,bD,h,gN]
def mG (σ:af) (a b c:Nat):af:=fun i=>if i=a∨i=b∨i=c then some ⟨0,0,[]⟩ else σ i
theorem fw {σ:af} {a b c i:Nat}:mG σ a b c i=none↔i≠a∧i≠b∧i≠c∧σ i=none:=by
 unfold mG;split
 ·rename_i h; simp; intro h1 h2 h3; simp_all
 ·rename_i h; simp only [not_or] at h; simp [h]
structure RmJ (l:List Nd) (σ0:af) (il io ip:Nat) (rows:List V) (σ:af):Prop where
 rl:σ il=some ⟨22,1,[aI l]⟩
 rp:σ ip=some ⟨163,1,[.fn 79 [.ptr il 0 0, .ptr io 0 0, .ptr ip 0 0]]⟩
 sub:aa σ0 σ
 no:σ0 io=none
 out:∃v,σ io=some ⟨120,1,[v]⟩∧aM (mG σ0 il io ip) σ 165 2 v rows
theorem zH (r:Rm):(jz r).cells=[vI r.x,vI r.w]:=rfl
theorem xX (r:Rm):(jz r).stays=true:=rfl
def Rm.ok (r:Rm):Prop:=0≤r.x∧r.x≤1099511627776∧1≤r.w∧r.w≤1099511627776
theorem vv {r:Rm} (h:r.ok) {i:Int} (h0:0≤i):(nC r i).ok:=by
 obtain ⟨a,b,c,d⟩:=h;unfold nC Rm.ok;simp only;omega
theorem E3 {l:List Nd} (hb:isB l=true) {a:Nat} (h:a < l.length):D4 l a=l[a].st.inset∧0≤l[a].st.inset∧l[a].st.inset≤1099511627776:=by
 refine ⟨by simp [D4,h],?_⟩;exact (fM hb h).st.inset
theorem Ep (l:List Nd) (hl:dE l) (hb:isB l=true) (il io ip:Nat) (nlo:il≠io) (nlp:il≠ip) (nop:io≠ip):∀(m a e:Nat) (r:Rm) (rows:List V) (σ0 σ:af),e - a < m→a≤e→e≤l.length→bV l a e=true→r.ok →
 rows.length+(e - a)≤l.length→RmJ l σ0 il io ip rows σ →
 az prog 79 [vI a,vI e,jz r, .ptr il 0 0, .ptr io 0 0, .ptr ip 0 0] σ fun q σ'=>q=.tup []∧RmJ l σ0 il io ip (rows++(cF l (e - a) a e r).map jz) σ':=by
 intro m
 induction m with
 | zero=>intro a e r rows σ0 σ h; omega
 | succ m ih=>?_
 intro a e r rows σB σ hm hae he hrB hr hlen hJB;have hl1:=hl.1;refine e79.r (by simp [c79]) ?_;refine ad.mix 11 ?_;apply sR;simp only [go_sem,seval,c79,zH,xX];refine ae fun i8 σ8 s8 a8 f8=>?_;simp only [go_sem,seval];have no8:io≠i8:=by obtain ⟨v,vo,_⟩:=hJB.out; exact ao vo f8
 have fB8:σB i8=none:=hJB.sub.none f8;obtain ⟨σ0,hσ0⟩:∃s,s=upd σB i8 ⟨165,2,[jz r]⟩:=⟨_,rfl⟩
 have hk8:∀i,mG σ0 il io ip i=none↔i≠i8∧mG σB il io ip i=none:=fun i=>by
  rw [fw,fw,hσ0];by_cases h:i=i8
  ·subst h; simp [ag]
  ·rw [ab h]; simp [h]
 have hJ8:RmJ l σ0 il io ip rows σ8:=by
  refine ⟨s8 _ _ hJB.rl,s8 _ _ hJB.rp,?_,by rw [hσ0,ab no8]; exact hJB.no,?_⟩
  ·intro i o h;rw [hσ0] at h;by_cases hi:i=i8
   ·subst hi; rw [ag] at h; rw [a8]; exact h
   ·rw [ab hi] at h; exact s8 _ _ (hJB.sub _ _ h)
  ·obtain ⟨v,vo,hout⟩:=hJB.out;refine ⟨v,s8 _ _ vo,?_⟩;rcases hout with h | ⟨id,h1,h2,h3⟩
   ·exact .inl h
   ·exact .inr ⟨id,h1,s8 _ _ h2,(hk8 id).2 ⟨ao h2 f8,h3⟩⟩
 have hback:∀(rows:List V) (τ:af),RmJ l σ0 il io ip rows τ→RmJ l σB il io ip rows τ:=fun rows τ h=>by
  refine ⟨h.rl,h.rp,fun i o hi=>h.sub _ _ (by rw [hσ0,ab (fun e=>by rw [e,fB8] at hi; cases hi)]; exact hi),by have:=h.no; rw [hσ0,ab no8] at this; exact this,?_⟩;obtain ⟨v,vo,hout⟩:=h.out;refine ⟨v,vo,?_⟩;rcases hout with h | ⟨id,h1,h2,h3⟩
  ·exact .inl h
  ·exact .inr ⟨id,h1,h2,((hk8 id).1 h3).2⟩
 have h08:σ0 i8=some ⟨165,2,[jz r]⟩:=by rw [hσ0]; exact ag
 clear hσ0;refine ad.loop (fun q st=>∃(b:Nat) (done:List V),q=e - b∧a≤b∧b≤e∧bV l b e=true∧done.length+(e - b)≤l.length∧rows++(cF l (e - a) a e r).map jz=done++(cF l (e - b) b e r).map jz∧RmJ l σ0 il io ip done st.σ ∧
  st.s 1=vI e∧st.s 3=.ptr il 0 0∧st.s 4=.ptr io 0 0∧st.s 5=.ptr ip 0 0∧st.s 8=.ptr i8 0 0∧st.s 9=vI b) (e - a) ?_ ?_
 ·exact ⟨a,rows,rfl,Nat.le_refl _,hae,hrB,hlen,rfl,hJ8,rfl,rfl,rfl,rfl,rfl,rfl⟩
 ·rintro q ⟨S,τ⟩ ⟨b,done,rfl,hab,hbe,hbB,hdl,hdn,hJ,t1,t3,t4,t5,t8,t9⟩;simp only at hJ t1 t3 t4 t5 t8 t9;refine ad.mix 11 ?_;by_cases hlt:b < e
  ·have q1:((b:Int) < (e:Int))=True:=eq_true (by omega);obtain ⟨h1,h2⟩:=cM he hbB (Nat.le_refl b) hlt;obtain ⟨h3,h4⟩:=dL he hbB hlt;have hbl:b < l.length:=by omega
   obtain ⟨g1,g2,g3⟩:=E3 hb hbl;have hsz:=kB hbl;obtain ⟨v,vo,hout⟩:=hJ.out;have hvc:v.cells=[v]:=by rcases hout with ⟨rfl,_⟩ | ⟨_,rfl,_⟩ <;> rfl
   have r8:=hJ.sub _ _ h08;have r8':=r8;rw [jz] at r8';apply sR;simp only [go_sem,seval,q1,t1,t3,t4,t5,t8,t9,r8',vo,hvc];refine ae fun i24 σ24 s24 a24 f24=>?_;obtain ⟨idA,hda,hdA⟩:=hout.C7 s24;have hb2:(done.length+1)*17≤140737488355328:=by omega
   simp only [go_sem,seval,t1,t3,t4,t5,t8,t9,hda,dk a24,hb2];rw [aH];intro i25 f25;have f25:σ24 i25=none:=f25;have dne:∀(i:Nat) (σx:af),mG σ0 il io ip i≠none→Vc.bz σx idA i=σx i:=fun i σx hk=>by
    cases idA with
    | none=>rfl
    | some a=>exact dh (fun e=>hk (by rw [e]; exact (hdA a rfl).1))
   have kl:mG σ0 il io ip il≠none:=fun h=>(fw.1 h).1 rfl;have ko:mG σ0 il io ip io≠none:=fun h=>(fw.1 h).2.1 rfl;have kp:mG σ0 il io ip ip≠none:=fun h=>(fw.1 h).2.2.1 rfl;have ol:=s24 _ _ hJ.rl;have oo:=s24 _ _ vo;have op:=s24 _ _ hJ.rp;have o8:=s24 _ _ r8;have nl:=ao ol f25;have no:=ao oo f25;have np:=ao op f25;have n8:=ao o8 f25;have k8:mG σ0 il io ip i8≠none:=fun h=>((hk8 i8).1 h).1 rfl;have hsub25:aa σ0 (upd (Vc.bz σ24 idA) i25 ⟨165,2,done++[.agg [vI r.x,vI r.w]]⟩):=fun i o h=>by
    have h1:=s24 _ _ (hJ.sub _ _ h);rw [ab (ao h1 f25),dne _ _ (fun hk=>by rw [(fw.1 hk).2.2.2] at h; cases h)];exact h1
   have pl:(upd (Vc.bz σ24 idA) i25 ⟨165,2,done++[.agg [vI r.x,vI r.w]]⟩) il=some ⟨22,1,[aI l]⟩:=by rw [ab nl,dne _ _ kl]; exact ol
   have po:(upd (Vc.bz σ24 idA) i25 ⟨165,2,done++[.agg [vI r.x,vI r.w]]⟩) io=some ⟨120,1,[v]⟩:=by rw [ab no,dne _ _ ko]; exact oo
   have pp:(upd (Vc.bz σ24 idA) i25 ⟨165,2,done++[.agg [vI r.x,vI r.w]]⟩) ip=some ⟨163,1,[.fn 79 [.ptr il 0 0, .ptr io 0 0, .ptr ip 0 0]]⟩:=by rw [ab np,dne _ _ kp]; exact op
   have p25:(upd (Vc.bz σ24 idA) i25 ⟨165,2,done++[.agg [vI r.x,vI r.w]]⟩) i25=some ⟨165,2,done++[.agg [vI r.x,vI r.w]]⟩:=ag;have f0:σ0 i25=none:=(hJ.sub.trans s24).none f25;have hidx:=fun σ=>cS (σ:=σ) hbl;have q2:((b:Int)+1)=((b+1:Nat):Int):=by omega
   have q3:((b:Int)+l[b].size)=((b+(szI l b).toNat:Nat):Int):=by rw [hsz]; omega
   obtain ⟨rx0,rx1,rw0,rw1⟩:=id hr;have r1:inR .i64 ((b:Int)+1):=ak (by omega) (by omega);have r2:inR .i64 ((b:Int)+l[b].size):=ak (by omega) (by omega);have r3:inR .i64 (r.x+l[b].st.inset):=ak (by omega) (by omega);have r4:inR .i64 (2*l[b].st.inset):=ak (by omega) (by omega);have r5:inR .i64 (r.w - 2*l[b].st.inset):=ak (by omega) (by omega);generalize upd (Vc.bz σ24 idA) i25 ⟨165,2,done++[.agg [vI r.x,vI r.w]]⟩=σ25 at *;have p8:=hsub25 _ _ h08;rw [jz] at p8;simp only [go_sem,seval,t1,t3,t4,t5,t8,t9,pl,po,pp,p8,hvc,ai,aK,ab no8.symm,ab nlo,ab nlp.symm,ab nop.symm,ab nop,hidx,Nd.cells,r1,r2,r3,r4,r5,cL,eI];have hJ9:RmJ l σ0 il io ip (done++[.agg [vI r.x,vI r.w]]) (upd σ25 io ⟨120,1,[.own i25 0 (done.length+1)]⟩):=by
    refine ⟨by rw [ab nlo]; exact pl,by rw [ab nop.symm]; exact pp,hsub25.aB hJ.no,hJ.no,_,ag,aM.new (by simp) (by rw [ab no.symm]; exact p25) (fw.2 ⟨nl.symm,no.symm,np.symm,f0⟩)⟩
   have hc:=ih (b+1) (b+(szI l b).toNat) (nC r l[b].st.inset) (done++[.agg [vI r.x,vI r.w]]) σ0 _ (by omega) (by omega) (by omega) h4 (vv hr g2) (by simp only [List.length_append,List.length_cons,List.length_nil]; omega) hJ9;rw [←q2,←q3] at hc;refine ad.call rfl rfl rfl hc ?_;rintro q' σ' ⟨rfl,hJ'⟩;have cl:=hJ'.rl;apply sR;simp only [go_sem,seval,t1,t3,t4,t5,t8,t9,cl,ai,aK,hidx,Nd.cells,r2];have hk:cF l (e - b) b e r=r::(cF l (b+(szI l b).toNat - (b+1)) (b+1) (b+(szI l b).toNat) (nC r (D4 l b))++cF l (e - (b+(szI l b).toNat)) (b+(szI l b).toNat) e r):=by
    rw [show e - b=(e - b - 1)+1 by omega,cF,if_pos hlt,jF (by omega) (e - b - 1) _ _ _ (by omega) (Nat.le_refl _) h4,jF he (e - b - 1) _ _ _ (by omega) (Nat.le_refl _) h3]
   have hln:=kC (l:=l) (e:=b+(szI l b).toNat) (by omega) (b+(szI l b).toNat - (b+1)) (b+1) (nC r l[b].st.inset) (Nat.le_refl _) (by omega) h4;refine ⟨e - (b+(szI l b).toNat),by omega,b+(szI l b).toNat,_,rfl,by omega,by omega,h3,?_,?_,hJ',by simp [t1,t3,t4,t5,t8,q3]⟩
   ·simp only [List.length_append,List.length_cons,List.length_nil,List.length_map,hln]; omega
   ·rw [hdn,hk,g1];simp only [List.map_cons,List.map_append,List.append_assoc,List.cons_append,List.nil_append];rfl
  ·have q1:((b:Int) < (e:Int))=False:=eq_false (by omega);apply sR;simp only [go_sem,seval,q1,t1,t3,t4,t5,t8,t9];refine ⟨_,_,aa.refl _,Wk.refl (aa.refl _) _,rfl,?_⟩;have hz:cF l (e - b) b e r=[]:=by rw [show e - b=0 by omega]; rfl
   rw [hdn,hz];exact hback _ _ (by simpa using hJ)
theorem HX (l:List Nd) (hl:dE l) (hb:isB l=true) (w:Int) (h1:1≤w) (h2:w≤1099511627776):aU prog 49 [aI l,vI w] (cg (cF l l.length 0 l.length ⟨0,w⟩)):=fun σ=>by
 refine e49.r (by simp [c49]) ?_;have hs:=aa.refl σ;refine ad.mix 8 ?_;apply sR;simp only [go_sem,seval,c49,ai,aK];refine ae fun i2 σ2 s2 a2 f2=>?_;have z2:=hs.none f2;replace hs:=hs.trans s2;simp only [go_sem,seval,a2,ai,aK];refine ad.ay rfl rfl rfl (AW l hl hb _) ?_;apply sR;simp only [go_sem,seval,a2,ai,aK];refine ae fun i5 σ5 s5 a5 f5=>?_;have n25:=ao a2 f5;replace a2:=s5 _ _ a2;have z5:=hs.none f5;replace hs:=hs.trans s5;have q1:(w < 1)=False:=eq_false (by omega);have q2:(w > 1099511627776)=False:=eq_false (by omega);simp only [go_sem,seval,a5,a2,ai,aK,q1,q2,ab n25,ab n25];generalize hq5:upd σ5 i5 _=τ5;have b5:τ5 i5=some ⟨161,1,[.agg [aI l]]⟩:=by rw [←hq5]; exact ag
 have b2:τ5 i2=some ⟨22,1,[aI l]⟩:=by rw [←hq5,ab n25]; exact a2
 have hs5:aa σ τ5:=by rw [←hq5]; exact hs.aB z5
 have hs2:aa τ5 τ5:=aa.refl _;clear hq5;refine ae fun i6 σ6 s6 a6 f6=>?_;have c5:=s6 _ _ b5;have c2:=s6 _ _ b2;have z6:σ i6=none:=hs5.none f6;simp only [go_sem,seval];refine ae fun i7 σ7 s7 a7 f7=>?_;have d5:=s7 _ _ c5;have d2:=s7 _ _ c2;have d6:=s7 _ _ a6;have z7:σ i7=none:=(hs5.trans s6).none f7;have n57:=ao c5 f7;have n27:=ao c2 f7;have n67:=ao a6 f7;have n26:=ao b2 f6;have hn:=eD l;have hnf:V.nilfn.cells=[.nilfn]:=rfl;simp only [go_sem,seval,a7,hnf,d5,d2,d6,ab n57,ab n27,ab n67,hn,ai,aK];have hJ:RmJ l σ i2 i6 i7 [] (upd σ7 i7 ⟨163,1,[.fn 79 [.ptr i2 0 0, .ptr i6 0 0, .ptr i7 0 0]]⟩) :=
  ⟨by rw [ab n27]; exact d2,ag,(((hs5.trans s6).trans s7)).aB z7,z6, .aD,by rw [ab n67]; exact d6,aM.start⟩
 have hc:=Ep l hl hb i2 i6 i7 n26 n27 n67 (l.length+1) 0 l.length ⟨0,w⟩ [] σ _ (by omega) (by omega) (by omega) (by simp only [isB,Ba] at hb; exact hb.2) ⟨by simp,by simp,h1,h2⟩ (by simp) hJ;refine ad.call rfl rfl rfl hc ?_;rintro q σ' ⟨rfl,hJ'⟩;obtain ⟨v,vo,hout⟩:=hJ'.out;have hvc:v.cells=[v]:=by rcases hout with ⟨rfl,_⟩ | ⟨_,rfl,_⟩ <;> rfl
 apply sR;simp only [go_sem,seval,vo,hvc];have ho:aM σ σ' 165 2 v ((cF l l.length 0 l.length ⟨0,w⟩).map jz):=by
  rcases hout with ⟨h,h'⟩ | ⟨id,h1,h2,h3⟩
  ·exact .inl ⟨h,by simpa using h'⟩
  ·exact .inr ⟨id,by simpa using h1,by simpa using h2,(fw.1 h3).2.2.2⟩
 exact ho.Cj hJ'.sub rfl
section
variable {P:Program} {n:Nat}
theorem ad.Ms {st:St} {Q:St→Prop} {k:List It} {i:aG} {l:List aG} {xa:VX} (hw:bh st.s i.g=some true) (ho:i.op=.binB false xa (.c (.iface 0 .undef))) {b:Bool}
 (hx:(xa.ev st.s=.aD∧b=true)∨(∃sz r rows,xa.ev st.s=.sl sz (r::rows)∧b=false)∨∃id off m,xa.ev st.s=.own id off (m+1)∧b=false)
 (h:ad P n (.ops l::k) ⟨aV st.s i.dst (.bool b),st.σ⟩ Q):ad P n (.ops (i::l)::k) st Q:=by
 refine ad.ins (by rw [ho]; simp) hw fun F hn μ a w o all hi hs next Q' hnext=>?_
 subst hn;obtain ⟨hop,hd⟩:=dV hi;rw [ho] at hop;obtain ⟨t,x,y,m,c,yt,e,g1,rfl,g2,rfl⟩:=xB hop;have R:=ck hs x;have hX:∃ba len cap,a.eval x=.slice ba len cap∧ba.isNone=b:=by
  rcases hx with ⟨hx,rfl⟩ | ⟨sz,r,rows,hx,rfl⟩ | ⟨id,off,m,hx,rfl⟩
  ·rw [hx] at R;simp only [Rep] at R;exact ⟨none,0,0,R,rfl⟩
  ·rw [hx] at R;simp only [Rep] at R;obtain ⟨ba,cap,hX,_,hr⟩:=R;rcases hr with hr | ⟨b,off,rfl,_⟩
   ·cases hr
   ·exact ⟨_,_,_,hX,rfl⟩
  ·rw [hx] at R;simp only [Rep] at R;split at R
   ·exact R.elim
   ·exact absurd R.2.2 (by omega)
   ·obtain ⟨o,c,hX,_⟩:=R;exact ⟨_,_,_,hX,rfl⟩
 obtain ⟨ba,len,cap,hX,rfl⟩:=hX;have hrun:(execOp a.eval o).run P w=.ok (.value (.bool ba.isNone)) w:=by
  unfold execOp;rw [g1];have hY:a.eval (.const (.slice none m c))=.slice none m c:=rfl;simp [hX,hY,eqGuard,Lib.run_eql_slice_nil w t e ba len cap m c g2]
 unfold Oper.wp;rw [hrun];refine hnext _ _ _ ⟨μ,?_⟩ h;rw [←hd];exact hs.pure (by simp [Rep])
end
open Go.Proofs Go.Proofs.Tryz
def tV (σ:af) (v v':V):Prop:=∀τ,aa σ τ→Wk τ jL v v'
theorem tV.mono {σ τ:af} {v v':V} (h:tV σ v v') (hs:aa σ τ):tV τ v v':=fun τ' h'=>h τ' (hs.trans h')
theorem tV.at {σ:af} {v v':V} (h:tV σ v v'):Wk σ jL v v':=h σ (aa.refl _)
theorem aM.FE {K σ:af} {e sz:Nat} {v:V} {rows:List V} (h:aM K σ e sz v rows):tV σ v (.sl sz rows):=fun τ hs=>(h.mono hs).wk (oE _) (oE _)
theorem wkN {τ:af} (v:V):Wk τ jL v v:=Wk.refl (oE _) _
theorem DR (vf:V) {σ:af} (fs:List Flo) (hvf:tV σ vf (aJ fs)) (ws:List Int) (space high:Int) (y:Int) (s:Spn) (hl:fs.length≤1000000) (hok:∀f∈fs,f.ok) (B:Int) (hB:∀f∈fs,f.y+f.h≤B) (hB1:B≤1152921504606846976) (hy0:0≤y) (hy:y≤B) (hh:0≤high) (hh1:high≤1099511627776)
 (hs1:Bq2 s.a∧Bq2 s.b) (hw:WOk ws space):az prog 116 [vf,bj ws,vI space,vI high,vI y,aY s] σ fun r σ'=>aa σ σ'∧aM σ σ' 209 5 r ((cX fs ws space high s ws.length 0 y).map lN):=by
 refine MU.r (by simp [II]) ?_;have hs:=aa.refl σ;have hn:=eY ws;have hln:=hw.len;refine ad.mix 16 ?_;apply sR;simp only [go_sem,seval,II,aY];refine ae fun i11 σ11 s11 a11 f11=>?_;have z11:=hs.none f11;replace hs:=hs.trans s11;simp only [go_sem,seval,a11];generalize hG:cX fs ws space high s ws.length 0 y=G;refine ad.loop (fun m st=>∃(i k:Nat) (y':Int) (acc:List Ln),m=ws.length - i∧i≤ws.length∧ws.length - i≤k∧acc.length≤i∧G=acc++cX fs ws space high s k i y'∧0≤y'∧y'≤B+1099511627776*i∧aa σ st.σ∧aM σ st.σ 209 5 (st.s 13) (acc.map lN) ∧
  st.σ i11=some ⟨206,2,[.agg [vI s.a,vI s.b]]⟩∧st.s 0=vf∧st.s 1=bj ws∧st.s 2=vI space∧st.s 3=vI high∧st.s 4=vI y'∧st.s 11=.ptr i11 0 0∧st.s 14=vI i) ws.length ?_ ?_
 ·exact ⟨0,ws.length,y,[],rfl,by omega,by omega,by simp,hG.symm,hy0,by omega,hs,aM.start,a11,rfl,rfl,rfl,rfl,rfl,rfl,rfl⟩
 ·rintro m ⟨S,τ⟩ ⟨i,k,y',acc,rfl,hi,hk,hal,hg,hy1,hy2,hsub,hout,b11,t0,t1,t2,t3,t4,t11,t14⟩;simp only at hsub hout b11 t0 t1 t2 t3 t4 t11 t14;generalize hv13:S 13=v13 at hout;refine ad.mix 16 ?_;by_cases hlt:i < ws.length
  ·have q:((i:Int) < ws.length)=True:=eq_true (by omega);obtain ⟨k,rfl⟩:∃k',k=k'+1:=⟨k - 1,by omega⟩
   rw [cX,if_pos hlt] at hg;have hty:=yg (space:=space) (width:=jh (dC fs (j7 fs (ws.getD i 0) high s y') high s)) hlt;have hyr:=fi (w:=ws.getD i 0) (high:=high) (y:=y') (s:=s) hB;have hx:=GF fs ws space high i y' s hl hok ⟨by omega,by omega⟩ ⟨by omega,by omega⟩ hs1 hw hlt;obtain ⟨x,hxe⟩:∃x,x=mF fs ws space high i y' s:=⟨_,rfl⟩
   have x1:∃j:Nat,x.to=j∧i < j∧j≤ws.length:=by rw [hxe]; exact ⟨_,rfl,hty⟩
   have x2:y'≤x.y∧x.y≤max y' B:=by rw [hxe]; exact hyr
   rw [←hxe] at hg hx;clear hxe hty hyr;obtain ⟨j,hj,hij,hjl⟩:=x1;rw [hj,Int.toNat_natCast] at hg;apply sR;simp only [go_sem,seval,t0,t1,t2,t3,t4,t11,t14,b11,hn,q];refine ad.ay rfl rfl rfl (aU.xr (args':=[aJ fs,bj ws,vI space,vI high,vI i,vI y',aY s]) ⟨(hvf.mono hsub).at,wkN _,wkN _,wkN _,wkN _,wkN _,wkN _,trivial⟩ hx rfl) ?_;have hc:=yz x;have hst:=zw x;have hcl:(lN x).cells.length=5:=rfl;have hag:V.agg [vI x.fr,vI x.to,vI x.x,vI x.y,vI x.w]=lN x:=rfl;apply sR;simp only [go_sem,seval,t0,t1,t2,t3,t4,t11,t14,hv13,hc,hst];refine ae fun i15 σ15 s15 a15 f15=>?_;simp only [go_sem,seval,a15,t0,t1,t2,t3,t4,t11,t14,hv13,hc,hcl,hst,hag];generalize hq15:upd σ15 i15 _=τ15;have b15:τ15 i15=some ⟨209,5,[.agg [vI x.fr,vI x.to,vI x.x,vI x.y,vI x.w]]⟩:=by rw [←hq15]; exact ag
   have s15':aa τ τ15:=by rw [←hq15]; exact s15.aB f15
   clear hq15;refine ae fun i30 σ30 s30 a30 f30=>?_;obtain ⟨idA,hda,hdel,hd1,hd2⟩:=hout.AV (s15'.trans s30);have hb2:(acc.length+1)*41≤140737488355328:=by omega
   have hlm:(acc.map lN).length=acc.length:=by simp
   simp only [go_sem,seval,t0,t1,t2,t3,t4,t11,t14,hv13,hda,dk a30,hlm,hb2];refine ew fun i31 σ31 s31 a31 f31=>?_;have k31:=(hdel σ (aa.refl _) σ30 (hsub.trans (s15'.trans s30))).trans s31;have n31:σ i31=none:=(hsub.trans (s15'.trans s30)).none f31;have c15:σ31 i15=some ⟨209,5,[.agg [vI x.fr,vI x.to,vI x.x,vI x.y,vI x.w]]⟩:=s31 _ _ (by rw [hd2 i15 f15]; exact s30 _ _ b15);have c11:σ31 i11=some ⟨206,2,[.agg [vI s.a,vI s.b]]⟩:=s31 _ _ (by rw [hd1 i11 _ b11 (.inr (by simp))]; exact s30 _ _ (s15' _ _ b11));have r1:inR .i64 (x.y+high):=ak (by omega) (by omega);simp only [go_sem,seval,t0,t1,t2,t3,t4,t11,t14,c15,hj,r1];refine ⟨_,?_,j,k,x.y+high,acc++[x],rfl,hjl,by omega,by simp; omega,by rw [hg]; simp,by omega,by omega,k31,?_,c11,by simp [t0,t1,t2,t3,t11]⟩
   ·omega
   ·rw [List.map_append];exact aM.new (by simp) a31 n31
  ·have q:((i:Int) < ws.length)=False:=eq_false (by omega);apply sR;simp only [go_sem,seval,t0,t1,t2,t3,t4,t11,t14,hv13,b11,hn,q];have:cX fs ws space high s k i y'=[]:=by
    cases k with
    | zero=>rfl
    | succ k=>rw [cX,if_neg hlt]
   rw [this,List.append_nil] at hg;refine ⟨_,_,aa.refl _,Wk.refl (aa.refl _) _,hsub,?_⟩;rw [hg]; exact hout
theorem wT {P:Program} {f:FuncId} {fn:Func} (hf:P.funcs[f]?=some fn) {e sz b:Nat} (hc:cfn P fn=some (lv e sz b)) (hk:eK P f=true) {K σ:af} {v:V} {rows:List V} (hv:aM K σ e sz v rows) (hne:rows=[]→v=.aD) (hb:rows.length*(b+1)≤140737488355328) :
 az P f [v] σ fun r σ'=>aa σ σ'∧aM σ σ' e sz r rows:=by
 refine az.l5 hf hc hk (by simp [lv]) ?_;refine ad.mix 3 ?_;rcases hv with ⟨rfl,rfl⟩ | ⟨id,rfl,ho,_⟩
 ·(refine ad.bG Orc.nothing 8 ?_; simp only [go_sem,seval,nz,lv])
  refine ad.Ms rfl rfl (b:=true) (.inl ⟨rfl,rfl⟩) ?_;apply sR;simp only [go_sem,seval];exact ⟨_,_,aa.refl _,Wk.refl (aa.refl _) _,aa.refl _,aM.start⟩
 ·obtain ⟨m,hm⟩:∃m,rows.length=m+1:=by
   cases rows with
   | nil=>exact absurd (hne rfl) (by simp)
   | cons r rs=>exact ⟨rs.length,by simp⟩
  (refine ad.bG Orc.nothing 8 ?_; simp only [go_sem,seval,nz,lv])
  refine ad.Ms rfl rfl (b:=false) (.inr (.inr ⟨id,0,m,by rw [hm]; rfl,rfl⟩)) ?_;apply sR;simp only [go_sem,seval];refine ae fun id1 σ1 s1 a1 f1=>?_;obtain ⟨idA,hd,hdel⟩:=(aM.new (K:=σ) (e:=e) (sz:=sz) (n:=0) (rows:=[]) rfl a1 f1).dst (aa.refl _);have hsrc:bK σ1 sz (.own id 0 rows.length)=some rows:=by simp [bK,s1 _ _ ho]
  simp only [go_sem,seval,hd,hsrc,hb];refine ew fun id2 σ2 s2 a2 f2=>?_;have hs2:=(hdel σ (aa.refl _) σ1 s1).trans s2;simp only [go_sem,seval];exact ⟨_,_,aa.refl _,Wk.refl (aa.refl _) _,hs2,aM.new (by simp) a2 (s1.none f2)⟩
theorem GL (vf:V) {K σ:af} (fs:List Flo) (hvf:aM K σ 59 7 vf (fs.map aO)) (hne:fs=[]→vf=.aD) (f:Flo) (y:Int) (s:Spn) (hl:fs.length≤1000000) (hok:∀f∈fs,f.ok) (hy:Bq2 y) (hh:Bq f.h) (hw:Bq f.w) (hs1:Bq2 s.a∧Bq2 s.b) :
 az prog 120 [vf,aO f,vI y,aY s] σ fun r σ'=>aa σ σ'∧aM σ σ' 59 7 r ((qQ fs f y s).map aO):=by
 refine NV.r (by simp [KT]) ?_;have hs:=aa.refl σ;refine ad.mix 14 ?_;apply sR;simp only [go_sem,seval,KT,aO,aY];refine ae fun i5 σ5 s5 a5 f5=>?_;have z5:=hs.none f5;replace hs:=hs.trans s5;simp only [go_sem,seval,a5];refine ae fun i7 σ7 s7 a7 f7=>?_;have n57:=ao a5 f7;replace a5:=s7 _ _ a5;have z7:=hs.none f7;replace hs:=hs.trans s7;simp only [go_sem,seval,a7,a5];refine ad.ay rfl rfl rfl (aU.xr (args':=[aJ fs,aO f,vI y,aY s]) ⟨((hvf.mono hs).FE).at,wkN _,wkN _,wkN _,trivial⟩ (JR fs f y s hl hok hy hh hw hs1) rfl) ?_;apply sR;simp only [go_sem,seval,a7,a5,ab n57,ab n57.symm,dc];generalize hq5:upd σ7 i5 _=τ5;have b5:τ5 i5=some ⟨59,7,[aO (iu fs f y s)]⟩:=by rw [←hq5]; exact ag
 have hs5:aa σ τ5:=by rw [←hq5]; exact hs.aB z5
 clear hq5;have hpl:aO (iu fs f y s)=.agg [vI f.node,vI f.side,vI f.anchor,vI (nW fs f y s),vI (kf fs f y s),vI f.w,vI f.h]:=rfl;rw [hpl] at b5;have hlm:(fs.map aO).length=fs.length:=by simp
 have hb2:(fs.length+1)*57≤140737488355328:=by omega
 have hres:fs.map aO++[V.agg [vI f.node,vI f.side,vI f.anchor,vI (nW fs f y s),vI (kf fs f y s),vI f.w,vI f.h]]=(qQ fs f y s).map aO:=by simp [qQ,←hpl]
 have hne':fs.map aO=[]→vf=.aD:=fun h=>hne (by simpa using h);refine ad.DW (by kernel_rfl) 8 (.fork [[],[0],[],[2],[1,3,0,2],[4,0,1,2,3]] [0,2] [1,3] [(.leaf [[],[0],[],[1,0,2],[1,0,3,2],[1,0,4,2,3]] [1,3,4,5]),(.leaf [[],[3,2,0],[],[2],[3,2,1,0],[3,2,4,0,1]] [3,1,4,5])]) (by kernel_rfl) ?_;refine GT.qh (its:=[0,4]) (by kernel_rfl) ?_;refine RE.seg (n:=0) [] [0,4] [⟨(.some 19),(.mov (.t 0)),.none⟩,⟨(.some 21),(.load .true 7 (.t 5)),.none⟩] rfl rfl ?_;apply sG;simp only [go_sem,seval,b5];refine ⟨?_,?_⟩
 ·refine GT.ji (its:=[2,5,6,8,10]) (by kernel_rfl) ?_;refine RE.call rfl rfl rfl rfl rfl (wT func33 (e33.b.trans rfl) e33.c (hvf.mono hs5) hne' (by simp; omega)) ?_;rintro r σ3 ⟨s3,hout⟩;replace b5:=s3 _ _ b5;have hs3:=hs5.trans s3;refine RE.chk rfl rfl rfl rfl rfl trivial (by simp only [go_sem,seval,b5]) ?_;refine RE.seg (n:=0) [] [6,8,10] [⟨(.some 22),(.bf 59 7 [(.t 21)]),.none⟩,⟨(.some 23),(.append 59 7 56 (.t 20) (.t 22)),.none⟩,⟨(.some 8),(.mov (.t 23)),.none⟩] rfl rfl ?_;apply sG;simp only [go_sem,seval,b5];refine bC fun i9 σ9 s9 a9 f9=>?_;obtain ⟨idA,hda,hdel⟩:=hout.dst s9;simp only [go_sem,seval,hda,dk a9,hlm,hb2,hres];refine jr fun i10 σ10 s10 a10 f10=>?_;have k10:=(hdel σ hs5 σ9 (hs3.trans s9)).trans s10;have n10:σ i10=none:=(hs3.trans s9).none f10;simp only [go_sem,seval];apply sR;simp only [go_sem,seval];exact ⟨_,_,aa.refl _,Wk.refl (aa.refl _) _,k10,aM.new (by simp [qQ]) a10 n10⟩
 ·refine GT.ji (its:=[6,2,8,10]) (by kernel_rfl) ?_;refine RE.seg (n:=0) [2,8,10] [6] [⟨(.some 22),(.bf 59 7 [(.t 21)]),.none⟩] rfl rfl ?_;apply sG;simp only [go_sem,seval,b5];refine bC fun i9 σ9 s9 a9 f9=>?_;simp only [go_sem,seval];refine RE.call rfl rfl rfl rfl rfl (wT func33 (e33.b.trans rfl) e33.c (hvf.mono (hs5.trans s9)) hne' (by simp; omega)) ?_;rintro r σ3 ⟨s3,hout⟩;have a9':=s3 _ _ a9;obtain ⟨idA,hda,hdel⟩:=hout.dst (aa.refl _);refine RE.seg (n:=0) [] [8,10] [⟨(.some 23),(.append 59 7 56 (.t 20) (.t 22)),.none⟩,⟨(.some 8),(.mov (.t 23)),.none⟩] rfl rfl ?_;apply sG;simp only [go_sem,seval,hda,dk a9',hlm,hb2,hres];refine jr fun i10 σ10 s10 a10 f10=>?_;have k10:=(hdel σ (hs5.trans s9) σ3 ((hs5.trans s9).trans s3)).trans s10;have n10:σ i10=none:=((hs5.trans s9).trans s3).none f10;simp only [go_sem,seval];apply sR;simp only [go_sem,seval];exact ⟨_,_,aa.refl _,Wk.refl (aa.refl _) _,k10,aM.new (by simp [qQ]) a10 n10⟩
open Go.Proofs Go.Proofs.Tryz
structure Atm where
 (kind node fr to x y w h:Int)
deriving DecidableEq
def dd (a:Atm):V:=.agg [vI a.kind,vI a.node,vI a.fr,vI a.to,vI a.x,vI a.y,vI a.w,vI a.h]
def bu (l:List Atm):V:=.sl 8 (l.map dd)
structure WS where
 atoms:List Atm
 floats:List Flo
 height:Int
 pen:Pn
structure WkJ (l:List Nd) (rs:List Rm) (σ0:af) (iw:Nat) (s:WS) (σ:af):Prop where
 sub:aa σ0 σ
 no:σ0 iw=none
 row:∃va vf,σ iw=some ⟨125,7,[.agg [va,vf,vI s.height,vI s.pen.y,vI s.pen.m,aI l,cg rs]]⟩ ∧
  aM (aZ σ0 iw) σ 62 8 va (s.atoms.map dd)∧aM (aZ σ0 iw) σ 59 7 vf (s.floats.map aO)∧(s.floats=[]→vf=.aD)
theorem aq (l:List Rm):(cg l).cells=[cg l]:=rfl
theorem wK (l:List Rm):(cg l).stays=true:=rfl
theorem HR {σ:af} {l:List Rm} {i:Nat} (h:i < l.length):bD σ 2 (cg l) (.int .i64 i)=some (.rp (jz l[i])):=by simp [cg,bD,h]
theorem aM.vc {K σ:af} {e sz:Nat} {v:V} {rows:List V} (h:aM K σ e sz v rows):v.cells=[v]∧v.stays=true:=by rcases h with ⟨rfl,_⟩ | ⟨_,rfl,_⟩ <;> exact ⟨rfl,rfl⟩
def dX (rs:List Rm) (a:Nat):Spn:=⟨(rs.getD a ⟨0,0⟩).x,(rs.getD a ⟨0,0⟩).x+(rs.getD a ⟨0,0⟩).w⟩
theorem yY {l:List Nd} {rs:List Rm} {σ0 σ:af} {iw:Nat} {s:WS} (hJ:WkJ l rs σ0 iw s σ) (a:Nat) (ha:a < rs.length) (hr:rs[a].ok) :
 az prog 117 [.ptr iw 0 0,vI a] σ fun r σ'=>r=aY (dX rs a)∧σ'=σ:=by
 obtain ⟨va,vf,w1,ha1,hf1,_⟩:=hJ.row;obtain ⟨ca,sa⟩:=ha1.vc;obtain ⟨cf,sf⟩:=hf1.vc;obtain ⟨r1,r2,r3,r4⟩:=hr;have hgd:rs.getD a ⟨0,0⟩=rs[a]:=by simp [ha]
 have hidx:=fun σ=>HR (σ:=σ) ha;unfold dX;rw [hgd];generalize rs[a]=r at *;have hen:jz r=.agg [vI r.x,vI r.w]:=rfl;have rr:inR .i64 (r.x+r.w):=ak (by omega) (by omega);refine ND.r (by simp [JT]) ?_;have hs:=aa.refl σ;refine ad.mix 6 ?_;apply sR;simp only [go_sem,seval,JT];refine ae fun i4 σ4 s4 a4 f4=>?_;have w4:=s4 _ _ w1;simp only [go_sem,seval,w4,hidx,hen,ca,cf,aq,ai];refine ae fun i5 σ5 s5 a5 f5=>?_;have b4:=s5 _ _ a4;have n45:=ao a4 f5;simp only [go_sem,seval,a5,b4,ab n45,rr];exact ar.pure (((s4.trans s5).aB (s4.none f5)).aB f4) rfl
theorem lF (a:Atm):(dd a).cells=[vI a.kind,vI a.node,vI a.fr,vI a.to,vI a.x,vI a.y,vI a.w,vI a.h]:=rfl
theorem pQ (a:Atm):(dd a).stays=true:=rfl
def WS.put (s:WS) (a:Atm):WS:={ s with atoms:=s.atoms++[a],pen:=⟨a.y+a.h,0⟩ }
theorem DO {l:List Nd} {rs:List Rm} {σ0 σ:af} {iw:Nat} {s:WS} (hJ:WkJ l rs σ0 iw s σ) (a:Atm) (hy:Bq a.y) (hh:Bq a.h) (hn:s.atoms.length≤1000000) :
 az prog 118 [.ptr iw 0 0,dd a] σ fun r σ'=>r=.tup []∧WkJ l rs σ0 iw (s.put a) σ':=by
 obtain ⟨va,vf,w1,ha1,hf1,hf2⟩:=hJ.row;obtain ⟨ca,sa⟩:=ha1.vc;obtain ⟨cf,sf⟩:=hf1.vc;refine Ov.r (by simp [Kl]) ?_;refine ad.mix 4 ?_;apply sR;simp only [go_sem,seval,Kl,lF,pQ];refine ae fun i3 σ3 s3 a3 f3=>?_;have w3:=s3 _ _ w1;simp only [go_sem,seval,w3,a3,ca,cf,aq,ai,lF,pQ];refine bC fun i11 σ11 s11 a11 f11=>?_;obtain ⟨idA,hda,hdel,hd1,hd2⟩:=ha1.AV (s3.trans s11);have hb2:(s.atoms.length+1)*65≤140737488355328:=by omega
 have hlm:(s.atoms.map dd).length=s.atoms.length:=by simp
 simp only [go_sem,seval,hda,dk a11,hlm,hb2];rw [aL];intro i12 f12;have f12:σ11 i12=none:=f12;have w11:=s11 _ _ w3;have nw:=ao w11 f12;have b3:=s11 _ _ a3;have n3:=ao b3 f12;have nw3:=ao w1 f3;have hdw:=hd1 iw _ w1 (.inr (by simp));have hd3:=hd2 i3 f3;have cw:(upd (Vc.bz σ11 idA) i12 ⟨62,8,s.atoms.map dd++[.agg [vI a.kind,vI a.node,vI a.fr,vI a.to,vI a.x,vI a.y,vI a.w,vI a.h]]⟩) iw=some ⟨125,7,[.agg [va,vf,vI s.height,vI s.pen.y,vI s.pen.m,aI l,cg rs]]⟩:=by rw [ab nw,hdw]; exact w11
 have c3:(upd (Vc.bz σ11 idA) i12 ⟨62,8,s.atoms.map dd++[.agg [vI a.kind,vI a.node,vI a.fr,vI a.to,vI a.x,vI a.y,vI a.w,vI a.h]]⟩) i3=some ⟨62,8,[.agg [vI a.kind,vI a.node,vI a.fr,vI a.to,vI a.x,vI a.y,vI a.w,vI a.h]]⟩:=by rw [ab n3,hd3]; exact b3
 have c12:(upd (Vc.bz σ11 idA) i12 ⟨62,8,s.atoms.map dd++[.agg [vI a.kind,vI a.node,vI a.fr,vI a.to,vI a.x,vI a.y,vI a.w,vI a.h]]⟩) i12=some ⟨62,8,s.atoms.map dd++[.agg [vI a.kind,vI a.node,vI a.fr,vI a.to,vI a.x,vI a.y,vI a.w,vI a.h]]⟩:=ag;have hsub:aa σ0 (upd (Vc.bz σ11 idA) i12 ⟨62,8,s.atoms.map dd++[.agg [vI a.kind,vI a.node,vI a.fr,vI a.to,vI a.x,vI a.y,vI a.w,vI a.h]]⟩):=by
  have h1:=hdel σ0 (fun i o h=>by rw [aZ,if_neg (fun e=>by rw [e,hJ.no] at h; cases h)]; exact h) σ11 ((hJ.sub.trans s3).trans s11);exact h1.aB (((hJ.sub.trans s3).trans s11).none f12)
 have k12:aZ σ0 iw i12=none:=aF.2 ⟨nw.symm,((hJ.sub.trans s3).trans s11).none f12⟩;have hf3:∀o,aM (aZ σ0 iw) (upd (Vc.bz σ11 idA) i12 o) 59 7 vf (s.floats.map aO):=fun o=>by
  rcases hf1 with h | ⟨id,h1,h2,h3⟩
  ·exact .inl h
  ·have h4:=s11 _ _ (s3 _ _ h2);exact .inr ⟨id,h1,by rw [ab (ao h4 f12),hd1 id _ h2 (.inr (by simp))]; exact h4,h3⟩
 replace hf3:=hf3 ⟨62,8,s.atoms.map dd++[.agg [vI a.kind,vI a.node,vI a.fr,vI a.to,vI a.x,vI a.y,vI a.w,vI a.h]]⟩;generalize upd (Vc.bz σ11 idA) i12 ⟨62,8,s.atoms.map dd++[.agg [vI a.kind,vI a.node,vI a.fr,vI a.to,vI a.x,vI a.y,vI a.w,vI a.h]]⟩=τ at *;simp only [go_sem,seval,cw,ca,cf,aq,ai,dc];have dw:(upd τ iw ⟨125,7,[.agg [.own i12 0 (s.atoms.length+1),vf,vI s.height,vI s.pen.y,vI s.pen.m,aI l,cg rs]]⟩) iw=some ⟨125,7,[.agg [.own i12 0 (s.atoms.length+1),vf,vI s.height,vI s.pen.y,vI s.pen.m,aI l,cg rs]]⟩:=ag;have d3:(upd τ iw ⟨125,7,[.agg [.own i12 0 (s.atoms.length+1),vf,vI s.height,vI s.pen.y,vI s.pen.m,aI l,cg rs]]⟩) i3=some ⟨62,8,[.agg [vI a.kind,vI a.node,vI a.fr,vI a.to,vI a.x,vI a.y,vI a.w,vI a.h]]⟩:=by rw [ab nw3.symm]; exact c3
 have d12:(upd τ iw ⟨125,7,[.agg [.own i12 0 (s.atoms.length+1),vf,vI s.height,vI s.pen.y,vI s.pen.m,aI l,cg rs]]⟩) i12=some ⟨62,8,s.atoms.map dd++[.agg [vI a.kind,vI a.node,vI a.fr,vI a.to,vI a.x,vI a.y,vI a.w,vI a.h]]⟩:=by rw [ab nw.symm]; exact c12
 replace hsub:=hsub.aB hJ.no (o:=⟨125,7,[.agg [.own i12 0 (s.atoms.length+1),vf,vI s.height,vI s.pen.y,vI s.pen.m,aI l,cg rs]]⟩);have hf4:aM (aZ σ0 iw) (upd τ iw ⟨125,7,[.agg [.own i12 0 (s.atoms.length+1),vf,vI s.height,vI s.pen.y,vI s.pen.m,aI l,cg rs]]⟩) 59 7 vf (s.floats.map aO):=by
  rcases hf3 with h | ⟨id,h1,h2,h3⟩
  ·exact .inl h
  ·exact .inr ⟨id,h1,by rw [ab (aF.1 h3).1]; exact h2,h3⟩
 clear hf3 cw c3 c12;generalize upd τ iw ⟨125,7,[.agg [.own i12 0 (s.atoms.length+1),vf,vI s.height,vI s.pen.y,vI s.pen.m,aI l,cg rs]]⟩=τ2 at *;refine ad.qS (by kernel_rfl) [0,1,2,3,4,5,6,7,8,9,10,11,12] [[],[],[1],[1,2],[1,2,3],[],[5],[],[7],[1,2,3,4,5,6,7,8],[0,1,2,3,4,5,6,7,8,9],[0,1,2,3,4,5,6,7,8,9,10],[0,1,2,3,4,5,6,7,8,9,10,11]] [0,2,4,6,8,10,12,14,16,18,20,22,24] (by kernel_rfl) (by kernel_rfl) ?_;refine RE.seg (n:=0) [18,20,22,24] [0,2,4,6,8,10,12,14,16] [⟨(.some 16),(.mov (.t 0)),.none⟩,⟨(.some 17),(.mov (.t 0)),.none⟩,⟨(.some 18),(.nilCheck (.t 17)),.none⟩,⟨(.some 19),(.fldA .true 3 2 (.t 18)),.none⟩,⟨(.some 20),(.load .true 2 (.t 19)),.none⟩,⟨(.some 21),(.fldA .false 5 1 (.t 3)),.none⟩,⟨(.some 22),(.load .false 1 (.t 21)),.none⟩,⟨(.some 23),(.fldA .false 7 1 (.t 3)),.none⟩,⟨(.some 24),(.load .false 1 (.t 23)),.none⟩] rfl rfl ?_;apply sG;simp only [go_sem,seval,dw,d3,cf,aq,ai];refine RE.ay rfl rfl rfl rfl rfl (Jl s.pen a.y a.h hy hh _) ?_;refine RE.seg (n:=0) [] [20,22,24] [⟨(.some 26),(.nilCheck (.t 16)),.none⟩,⟨(.some 27),(.fldA .true 3 2 (.t 26)),.none⟩,⟨.none,(.store 2 (.t 27) (.t 25)),.none⟩] rfl rfl ?_;apply sG;simp only [go_sem,seval,dw,gb,cf,aq,ai];apply sR;simp only [go_sem,seval];have hfin:aa σ0 (upd τ2 iw ⟨125,7,[.agg [.own i12 0 (s.atoms.length+1),vf,vI s.height,vI (a.y+a.h),vI 0,aI l,cg rs]]⟩):=hsub.aB hJ.no;refine ⟨_,_,aa.refl _,Wk.refl (aa.refl _) _,rfl,hfin,hJ.no, .own i12 0 (s.atoms.length+1),vf,ag,?_,?_,hf2⟩
 ·exact aM.new (by simp [WS.put]) (by rw [ab nw.symm,d12]; simp [WS.put]; rfl) k12
 ·rcases hf4 with h | ⟨id,h1,h2,h3⟩
  ·exact .inl h
  ·exact .inr ⟨id,h1,by rw [ab (aF.1 h3).1]; exact h2,h3⟩
theorem uV {l:List Flo} {w high:Int} {s:Spn}:∀(k:Nat) (y:Int),gtJ l y≤k→mH l w high s (j8 l w high s k y)=true
 | 0,y,h=>by
   rw [j8];simp only [mH,Bool.or_eq_true,Bool.not_eq_true',decide_eq_true_eq];left;cases hn:(fP l y high s).2 with
   | false=>rfl
   | true =>
     have:=vC (gQ hn);omega
 | k+1,y,h=>by
   rw [j8];split
   ·rename_i hb; exact hb
   ·rename_i hb;simp only [mH,Bool.or_eq_true,Bool.not_eq_true',not_or,Bool.not_eq_false] at hb;have:=vC (gQ hb.1);exact uV k _ (by omega)
theorem CF (l:List Flo) (w high:Int) (s:Spn) (y:Int):(fP l (nS l w high s y) high s).2=false∨jh (dC l (nS l w high s y) high s)≥w:=by
 have:=uV (l:=l) (w:=w) (high:=high) (s:=s) l.length y (List.length_filter_le _ _);simp only [mH,Bool.or_eq_true,Bool.not_eq_true',decide_eq_true_eq] at this;exact this
theorem qi {l:List Flo} {w high B:Int} {s:Spn} (hB:∀f∈l,f.y+f.h≤B):∀(k:Nat) (y:Int),y≤j8 l w high s k y∧j8 l w high s k y≤max y B
 | 0,y=>by simp only [j8]; omega
 | k+1,y=>by
   rw [j8];split
   ·omega
   ·rename_i hb;simp only [mH,Bool.or_eq_true,Bool.not_eq_true',not_or,Bool.not_eq_false] at hb;obtain ⟨f,hm,h1,h2⟩:=gQ hb.1;have:=qi hB k (fP l y high s).1 (w:=w) (high:=high) (s:=s);have:=hB f hm;omega
theorem H4 (f:Flo) (s:Spn):s.a≤(jt f s).a∧(jt f s).b≤s.b:=by
 unfold jt;split
 ·simp only; omega
 ·simp only; omega
theorem xP:∀(l:List Flo) (s:Spn),s.a≤(l.foldl (fun s f=>jt f s) s).a∧(l.foldl (fun s f=>jt f s) s).b≤s.b
 | [],s=>by simp
 | f::l,s=>by
   have h1:=H4 f s;have h2:=xP l (jt f s);simp only [List.foldl_cons]; omega
theorem D0 (l:List Flo) (y high:Int) (s:Spn):s.a≤(dC l y high s).a∧(dC l y high s).b≤s.b:=xP _ _
structure FOk (B:Int) (f:Flo):Prop where
 x0:0≤f.x
 w0:0≤f.w
 w1:f.w≤1099511627776
 h0:0≤f.h
 h1:f.h≤1099511627776
 y0:0≤f.y
 yB:f.y+f.h≤B
 xw:f.x+f.w≤8796093022208
theorem FOk.ok {B:Int} {f:Flo} (h:FOk B f) (hB:B≤1152921504606846976):f.ok:=by
 obtain ⟨h1,h2,h3,h4,h5,h6,h7,h8⟩:=h;exact ⟨⟨by omega,by omega⟩,⟨by omega,by omega⟩,⟨by omega,by omega⟩,⟨by omega,by omega⟩⟩
theorem FOk.mono {B C:Int} {f:Flo} (h:FOk B f) (hB:B≤C):FOk C f:=by
 obtain ⟨h1,h2,h3,h4,h5,h6,h7,h8⟩:=h;exact ⟨h1,h2,h3,h4,h5,h6,by omega,h8⟩
def Cr (s:Spn):Prop:=0≤s.a∧s.a≤2199023255552∧0≤s.b∧s.b≤2199023255552
theorem zJ {fs:List Flo} {B y:Int} (hB:∀f∈fs,FOk B f):y≤nE fs y∧nE fs y≤max y B:=by
 unfold nE;split
 ·rename_i h;obtain ⟨f,hf,h1,_⟩:=kI h;have:=hB f hf;have h2:(rQ f).1=f.y:=rfl;rw [h1,h2];have:=this.yB;have:=(hB f hf).h0;omega
 ·omega
theorem xu {fs:List Flo} {B y:Int} (hB:∀f∈fs,FOk B f) (f:Flo) (s:Spn):y≤kf fs f y s∧kf fs f y s≤max y B:=by
 have h1:=zJ (y:=y) hB;have h2:=qi (w:=f.w) (high:=f.h) (s:=s) (fun f hf=>(hB f hf).yB) fs.length (nE fs y);unfold kf nS;omega
theorem Cx {fs:List Flo} {B y:Int} (hB:∀f∈fs,FOk B f) {f:Flo} {s:Spn} (hs:Cr s) (hy0:0≤y) (hyB:y≤B) (w0:1≤f.w) (w1:f.w≤1099511627776) (h0:0≤f.h) (h1:f.h≤1099511627776):FOk (B+1099511627776) (iu fs f y s):=by
 obtain ⟨s1,s2,s3,s4⟩:=hs;have hy:=xu (y:=y) hB f s;have hb:=D0 fs (kf fs f y s) f.h s;have hx:0≤nW fs f y s∧nW fs f y s+f.w≤8796093022208:=by
  unfold nW;simp only;have he:=CF fs f.w f.h s (nE fs y);have e:nS fs f.w f.h s (nE fs y)=kf fs f y s:=rfl;rw [e] at he;rcases he with h | h
  ·have hbs:dC fs (kf fs f y s) f.h s=s:=Classical.byContradiction fun hn=>by
    have:=mX hn; rw [h] at this; cases this
   rw [hbs];split <;> omega
  ·unfold jh at h;split at h
   ·omega
   ·split <;> omega
 exact ⟨hx.1,by simp only [iu]; omega,by simp only [iu]; omega,by simp only [iu]; omega,by simp only [iu]; omega,by simp only [iu]; omega,by simp only [iu]; omega,by simpa [iu] using hx.2⟩
theorem G4 {fs:List Flo} {B y:Int} (hB:∀f∈fs,FOk B f) {f:Flo} {s:Spn} (hs:Cr s) (hy0:0≤y) (hyB:y≤B) (w0:1≤f.w) (w1:f.w≤1099511627776) (h0:0≤f.h) (h1:f.h≤1099511627776):∀g∈qQ fs f y s,FOk (B+1099511627776) g:=by
 intro g hg;rcases List.mem_append.1 hg with hg | hg
 ·exact (hB g hg).mono (by omega)
 ·simp only [List.mem_singleton] at hg; subst hg; exact Cx hB hs hy0 hyB w0 w1 h0 h1
structure Bd (s:WS) (B:Int):Prop where
 fl:∀f∈s.floats,FOk B f
 y0:0≤s.pen.y
 m0:0≤s.pen.m
 m1:s.pen.m≤1099511627776
 yB:s.pen.y+s.pen.m≤B
theorem Bd.mono {s:WS} {B C:Int} (h:Bd s B) (hB:B≤C):Bd s C:=⟨fun f hf=>(h.fl f hf).mono hB,h.y0,h.m0,h.m1,by have:=h.yB; omega⟩
def WS.mono (l:List Nd) (rs:List Rm) (s:WS) (a:Nat) (n:Nd):WS :=
 let at':=j7 s.floats n.w n.h (dX rs a) (s.pen.y+s.pen.m)
 let b:=dC s.floats at' n.h (dX rs a)
 s.put ⟨2,a,0,0,b.a,at',n.w,n.h⟩
def eE (a:Nat) (h:Int) (x:Ln):Atm:=⟨1,a,x.fr,x.to,x.x,x.y,x.w,h⟩
def WS.text (rs:List Rm) (s:WS) (a:Nat) (n:Nd):WS :=
 (cX s.floats n.words n.space n.line (dX rs a) n.words.length 0 (s.pen.y+s.pen.m)).foldl (fun s x=>s.put (eE a n.line x)) s
def WS.float (rs:List Rm) (s:WS) (a:Nat) (n:Nd):WS :=
 { s with floats:=qQ s.floats ⟨a,n.side,s.atoms.length,0,0,n.w,n.h⟩ (s.pen.y+s.pen.m) (dX rs a) }
def WS.enter (s:WS) (t:Sty):WS :=
 let p:=if (dN (kQ t.clear) s.floats).2 then iL s.pen (dN (kQ t.clear) s.floats).1 else s.pen
 { s with pen:=dZ p t.top t.padTop }
def WS.leave (s:WS) (t:Sty):WS:={ s with pen:=ky s.pen t.bottom t.padBottom }
theorem Bd.enter {s:WS} {B:Int} (h:Bd s B) {t:Sty} (ht:SOk t):Bd (s.enter t) (B+2199023255552):=by
 obtain ⟨hf,h1,h2,h3,h4⟩:=h;have hp:∀p:Pn,0≤p.y→0≤p.m→p.m≤1099511627776→p.y+p.m≤B→Bd { s with pen:=dZ p t.top t.padTop } (B+2199023255552):=by
  intro p g1 g2 g3 g4;have a1:=ht.top;have a2:=ht.padTop;refine ⟨fun f hf'=>(hf f hf').mono (by omega),?_,?_,?_,?_⟩ <;> simp only [dZ,tS] <;> (repeat' split) <;> omega
 unfold WS.enter;simp only;split
 ·rename_i hm;obtain ⟨f,hfm,e1,_⟩:=kI hm;have e2:(kQ t.clear f).1=f.y+f.h:=rfl;have hfo:=hf f hfm;have hy:=hfo.yB;have hy0:=hfo.y0;have hh0:=hfo.h0;rw [e1,e2];refine hp _ ?_ ?_ ?_ ?_ <;> (unfold iL; split) <;> (try simp only) <;> omega
 ·exact hp _ h1 h2 h3 h4
theorem Bd.leave {s:WS} {B:Int} (h:Bd s B) {t:Sty} (ht:SOk t):Bd (s.leave t) (B+2199023255552):=by
 obtain ⟨hf,h1,h2,h3,h4⟩:=h;have a1:=ht.bottom;have a2:=ht.padBottom;refine ⟨fun f hf'=>(hf f hf').mono (by omega),?_,?_,?_,?_⟩ <;> simp only [WS.leave,ky,tS] <;> (repeat' split) <;> omega
open Go.Proofs Go.Proofs.Tryz
structure DOk (l:List Nd) (rs:List Rm):Prop where
 rC:l.length≤2000
 isb:isB l=true
 len:rs.length=l.length
 rok:∀r∈rs,r.ok
theorem DOk.room {l:List Nd} {rs:List Rm} (h:DOk l rs) {a:Nat} (ha:a < l.length):∃h':a < rs.length,rs[a].ok:=⟨by rw [h.len]; exact ha,h.rok _ (List.getElem_mem _)⟩
theorem DOk.span {l:List Nd} {rs:List Rm} (h:DOk l rs) {a:Nat} (ha:a < l.length):Cr (dX rs a):=by
 obtain ⟨h',r1,r2,r3,r4⟩:=h.room ha;have e:rs.getD a ⟨0,0⟩=rs[a]:=by simp [h']
 unfold dX Cr;rw [e];simp only;omega
theorem Cr.bq {s:Spn} (h:Cr s):Bq2 s.a∧Bq2 s.b:=by obtain ⟨a,b,c,d⟩:=h; exact ⟨⟨by omega,by omega⟩,⟨by omega,by omega⟩⟩
theorem Bd.flo {s:WS} {B:Int} (h:Bd s B) (hB:B≤1152921504606846976):∀f∈s.floats,f.ok:=fun f hf=>(h.fl f hf).ok hB
theorem iO (l:List Nd) {a:Nat} (h:a < l.length) (σ:af):bD σ 20 (aI l) (.int .i64 a)=some (.rp (.agg (Nd.cells l[a]))):=cS h
theorem WkJ.mono {l:List Nd} {rs:List Rm} {σ0 σ τ:af} {iw:Nat} {s:WS} (hJ:WkJ l rs σ0 iw s σ) (hs:aa σ τ):WkJ l rs σ0 iw s τ:=by
 obtain ⟨va,vf,w1,h1,h2,h3⟩:=hJ.row;exact ⟨hJ.sub.trans hs,hJ.no,va,vf,hs _ _ w1,h1.mono hs,h2.mono hs,h3⟩
theorem HU {l:List Nd} {rs:List Rm} (hD:DOk l rs) {σ0 σ:af} {iw:Nat} {s:WS} {B:Int} (hJ:WkJ l rs σ0 iw s σ) (hB:Bd s B) (hB1:B≤576460752303423488) (a:Nat) (ha:a < l.length) (hk:l[a].kind=3) (hn:s.atoms.length≤100000) (hfn:s.floats.length≤100000) :
 az prog 82 [.ptr iw 0 0,vI a] σ fun r σ'=>r=.tup []∧WkJ l rs σ0 iw (WS.mono l rs s a l[a]) σ':=by
 obtain ⟨va,vf,w1,ha1,hf1,hf2⟩:=hJ.row;obtain ⟨ca,sa⟩:=ha1.vc;obtain ⟨cf,sf⟩:=hf1.vc;have hno:=fM hD.isb ha;have hsp:=hD.span ha;obtain ⟨har,hrok⟩:=hD.room ha;have hidx:=iO l ha;have hen:∀n:Nd,V.agg (Nd.cells n)=gN n:=fun _=>rfl;unfold WS.mono;generalize l[a]=n at *;refine e82.r (by simp [c82]) ?_;refine ad.mix 7 ?_;apply sR;simp only [go_sem,seval,c82,w1,ca,cf,aq,ai,aj,al,hidx,Nd.cells];refine ae fun i4 σ4 s4 a4 f4=>?_;simp only [go_sem,seval,a4,aj,al,dc];generalize hq4:upd σ4 i4 _=τ4;have b4:τ4 i4=some ⟨73,20,[.agg (Nd.cells n)]⟩:=by rw [←hq4]; exact ag
 rw [Nd.cells] at b4;have s4':aa σ τ4:=by rw [←hq4]; exact s4.aB f4
 clear hq4;have w4:=s4' _ _ w1;have hlen:tV τ4 vf (aJ s.floats):=(hf1.mono s4').FE;have hJ4:=hJ.mono s4';have hm:=hB.m1;have hm0:=hB.m0;have hy0:=hB.y0;have hyB:=hB.yB;have hws:=hno.w;have hhs:=hno.h;have hro:=F7 s.floats n.w n.h (s.pen.y+s.pen.m) (dX rs a) (by omega) (hB.flo (by omega)) ⟨by omega,by omega⟩ ⟨by omega,by omega⟩ hsp.bq;obtain ⟨at',hat⟩:∃z,z=j7 s.floats n.w n.h (dX rs a) (s.pen.y+s.pen.m):=⟨_,rfl⟩
 have hyr:=fi (w:=n.w) (high:=n.h) (y:=s.pen.y+s.pen.m) (s:=dX rs a) (fun f hf=>(hB.fl f hf).yB);rw [←hat] at hro hyr ⊢;obtain ⟨b,hb⟩:∃b,b=dC s.floats at' n.h (dX rs a):=⟨_,rfl⟩
 rw [←hb] at hro ⊢;have fin:∀(S:Nat→V) (τ:af) (i5:Nat),aa τ4 τ→τ i5=some ⟨206,2,[.agg [vI b.a,vI b.b]]⟩→S 0=.ptr iw 0 0→S 1=vI a→S 4=.ptr i4 0 0→S 5=.ptr i5 0 0→S 6=vI at' →
  ad prog 46 [It.code (.reg false [⟨some 35, .mov (.t 0),none⟩,⟨some 36, .mov (.t 1),none⟩,⟨some 37, .fldA false 0 1 (.t 5),none⟩,⟨some 38, .load false 1 (.t 37),none⟩,⟨some 39, .mov (.t 6),none⟩,⟨some 40, .fldA false 18 1 (.t 4),none⟩,⟨some 41, .load false 1 (.t 40),none⟩,⟨some 42, .fldA false 19 1 (.t 4),none⟩,⟨some 43, .load false 1 (.t 42),none⟩,⟨some 44, .build [.int .i64 0, .int .i64 0, .int .i64 0, .int .i64 0, .int .i64 0, .int .i64 0, .int .i64 0, .int .i64 0] [(0,1, .c (.int .i64 2)),(1,1, .t 36),(4,1, .t 38),(5,1, .t 39),(6,1, .t 41),(7,1, .t 43)],none⟩,⟨some 45, .call (.c (.fn 118 [])) [.t 35, .t 44],none⟩])] ⟨S,τ⟩
   (fun st=>ar (.tup []) st.σ fun r σ'=>r=.tup []∧WkJ l rs σ0 iw (s.put ⟨2,a,0,0,b.a,at',n.w,n.h⟩) σ'):=by
  intro S τ i5 hτ c5 t0 t1 t4 t5 t6;have c4:=hτ _ _ b4;refine ad.mix 7 ?_;apply sR;simp only [go_sem,seval,t0,t1,t4,t5,t6,c4,c5,aj];refine ad.call rfl rfl rfl (DO (hJ4.mono hτ) ⟨2,a,0,0,b.a,at',n.w,n.h⟩ (show Bq at' from ⟨by omega,by omega⟩) (show Bq n.h from ⟨by omega,by omega⟩) (by omega)) ?_;rintro r σ' ⟨rfl,hJ'⟩;apply sR;simp only [go_sem,seval];exact ⟨_,_,aa.refl _,Wk.refl (aa.refl _) _,rfl,hJ'⟩
 refine ad.DW (by kernel_rfl) 8 (.fork [[],[0],[1,0],[2,1,0],[3,2,1,0],[],[5],[],[7],[],[9],[10,9],[11,10,9],[12,11,10,9],[],[],[14,15,13,12,11,10,9],[4,6,8,13,16,3,2,1,0,5,7,12,11,10,9,14,15],[17,4,6,8,13,16,3,2,1,0,5,7,12,11,10,9,14,15],[18,17,4,6,8,13,16,3,2,1,0,5,7,12,11,10,9,14,15],[18,17,4,6,8,13,16,3,2,1,0,5,7,12,11,10,9,14,15],[],[21,19,17,0,1,2,3,4,5,6,7,8,9,10,11,12,13,14,15,16,18],[20,22,0,1,2,3,4,5,6,7,8,9,10,11,12,13,14,15,16,17,18,19,21]] [0,1,2,3,4,5,6,7,8,9,10,11,12,14,15] [13,21] [(.fork [[],[0],[1,0],[2,1,0],[3,2,1,0],[],[5],[],[7],[],[9],[10,9],[11,10,9],[12,11,10,9],[],[],[14,15,13,12,11,10,9],[4,6,8,13,16,3,2,1,0,5,7,12,11,10,9,14,15],[17,4,6,8,13,16,3,2,1,0,5,7,12,11,10,9,14,15],[18,17,4,6,8,13,16,3,2,1,0,5,7,12,11,10,9,14,15],[18,17,4,6,8,13,16,3,2,1,0,5,7,12,11,10,9,14,15],[13,12,11,10,9],[13,12,11,10,9,21,19,17,0,1,2,3,4,5,6,7,8,14,15,16,18],[13,12,11,10,9,20,22,0,1,2,3,4,5,6,7,8,14,15,16,17,18,19,21]] [13] [16,21] [(.fork [[],[0],[1,0],[2,1,0],[3,2,1,0],[],[5],[],[7],[],[9],[10,9],[11,10,9],[12,11,10,9],[],[],[14,15,13,12,11,10,9],[4,6,8,13,16,3,2,1,0,5,7,12,11,10,9,14,15],[17,4,6,8,13,16,3,2,1,0,5,7,12,11,10,9,14,15],[18,17,4,6,8,13,16,3,2,1,0,5,7,12,11,10,9,14,15],[18,17,4,6,8,13,16,3,2,1,0,5,7,12,11,10,9,14,15],[16,14,15,13,12,11,10,9],[16,14,15,13,12,11,10,9,21,19,17,0,1,2,3,4,5,6,7,8,18],[16,14,15,13,12,11,10,9,20,22,0,1,2,3,4,5,6,7,8,17,18,19,21]] [16] [17,21] [(.leaf [[],[0],[1,0],[2,1,0],[3,2,1,0],[],[5],[],[7],[],[9],[10,9],[11,10,9],[12,11,10,9],[],[],[14,15,13,12,11,10,9],[4,6,8,13,16,3,2,1,0,5,7,12,11,10,9,14,15],[17,4,6,8,13,16,3,2,1,0,5,7,12,11,10,9,14,15],[18,17,4,6,8,13,16,3,2,1,0,5,7,12,11,10,9,14,15],[18,17,4,6,8,13,16,3,2,1,0,5,7,12,11,10,9,14,15],[17,4,6,8,13,16,3,2,1,0,5,7,12,11,10,9,14,15],[17,4,6,8,13,16,3,2,1,0,5,7,12,11,10,9,14,15,21,19,18],[17,4,6,8,13,16,3,2,1,0,5,7,12,11,10,9,14,15,20,22,18,19,21]] [17,18,19,20,21,22,23]),(.leaf [[],[0],[1,0],[2,1,0],[3,2,1,0],[],[5],[],[7],[],[9],[10,9],[11,10,9],[12,11,10,9],[],[],[14,15,13,12,11,10,9],[21,16,14,15,13,12,11,10,9,4,6,8,3,2,1,0,5,7],[21,16,14,15,13,12,11,10,9,17,4,6,8,3,2,1,0,5,7],[21,16,14,15,13,12,11,10,9,18,17,4,6,8,3,2,1,0,5,7],[21,16,14,15,13,12,11,10,9,18,17,4,6,8,3,2,1,0,5,7],[16,14,15,13,12,11,10,9],[21,16,14,15,13,12,11,10,9,19,17,0,1,2,3,4,5,6,7,8,18],[21,16,14,15,13,12,11,10,9,20,22,0,1,2,3,4,5,6,7,8,17,18,19]] [21,17,18,19,20,22,23])]),(.leaf [[],[0],[1,0],[2,1,0],[3,2,1,0],[],[5],[],[7],[],[9],[10,9],[11,10,9],[12,11,10,9],[],[],[21,13,12,11,10,9,14,15],[21,13,12,11,10,9,4,6,8,16,3,2,1,0,5,7,14,15],[21,13,12,11,10,9,17,4,6,8,16,3,2,1,0,5,7,14,15],[21,13,12,11,10,9,18,17,4,6,8,16,3,2,1,0,5,7,14,15],[21,13,12,11,10,9,18,17,4,6,8,16,3,2,1,0,5,7,14,15],[13,12,11,10,9],[21,13,12,11,10,9,19,17,0,1,2,3,4,5,6,7,8,14,15,16,18],[21,13,12,11,10,9,20,22,0,1,2,3,4,5,6,7,8,14,15,16,17,18,19]] [21,16,17,18,19,20,22,23])]),(.leaf [[],[0],[1,0],[2,1,0],[3,2,1,0],[],[5],[],[7],[],[9],[10,9],[11,10,9],[21,12,11,10,9],[],[],[21,14,15,13,12,11,10,9],[21,4,6,8,13,16,3,2,1,0,5,7,12,11,10,9,14,15],[21,17,4,6,8,13,16,3,2,1,0,5,7,12,11,10,9,14,15],[21,18,17,4,6,8,13,16,3,2,1,0,5,7,12,11,10,9,14,15],[21,18,17,4,6,8,13,16,3,2,1,0,5,7,12,11,10,9,14,15],[],[21,19,17,0,1,2,3,4,5,6,7,8,9,10,11,12,13,14,15,16,18],[21,20,22,0,1,2,3,4,5,6,7,8,9,10,11,12,13,14,15,16,17,18,19]] [21,13,16,17,18,19,20,22,23])]) (by kernel_rfl) ?_;refine GT.qh (its:=[0,2,4,6,8,10,12,14,16,18,20,22,24,28,30]) (by kernel_rfl) ?_;refine RE.seg (n:=0) [] [0,2,4,6,8,10,12,14,16,18,20,22,24,28,30] [⟨(.some 15),(.mov (.t 0)),.none⟩,⟨(.some 16),(.nilCheck (.t 15)),.none⟩,⟨(.some 17),(.fldA .true 0 3 (.t 16)),.none⟩,⟨(.some 18),(.fldA .false 1 1 (.t 17)),.none⟩,⟨(.some 19),(.load .false 1 (.t 18)),.none⟩,⟨(.some 20),(.fldA .false 18 1 (.t 4)),.none⟩,⟨(.some 21),(.load .false 1 (.t 20)),.none⟩,⟨(.some 22),(.fldA .false 19 1 (.t 4)),.none⟩,⟨(.some 23),(.load .false 1 (.t 22)),.none⟩,⟨(.some 24),(.mov (.t 0)),.none⟩,⟨(.some 25),(.nilCheck (.t 24)),.none⟩,⟨(.some 26),(.fldA .true 3 2 (.t 25)),.none⟩,⟨(.some 27),(.load .true 2 (.t 26)),.none⟩,⟨(.some 29),(.mov (.t 0)),.none⟩,⟨(.some 30),(.mov (.t 1)),.none⟩] rfl rfl ?_;apply sG;simp only [go_sem,seval,b4,w4,ca,cf,aq,ai,aj,al];refine ⟨?_,?_⟩
 ·refine GT.qh (its:=[26,9,13,17]) (by kernel_rfl) ?_;refine RE.ay rfl rfl rfl rfl rfl (CH s.pen ⟨by omega,by omega⟩ ⟨by omega,by omega⟩ _) ?_;refine RE.chk rfl rfl rfl rfl rfl trivial (by simp only [go_sem,seval,b4,w4,ca,cf,aq,ai,aj,al]) ?_;refine RE.chk rfl rfl rfl rfl rfl trivial (by simp only [go_sem,seval,b4,w4,ca,cf,aq,ai,aj,al]) ?_;refine RE.chk rfl rfl rfl rfl rfl trivial (by simp only [go_sem,seval,b4,w4,ca,cf,aq,ai,aj,al]) ?_;refine ⟨?_,?_⟩
  ·refine GT.qh (its:=[32,9,13,17]) (by kernel_rfl) ?_;refine RE.ay rfl rfl rfl rfl rfl (yY hJ4 a har hrok) ?_;refine RE.chk rfl rfl rfl rfl rfl trivial (by simp only [go_sem,seval,b4,w4,ca,cf,aq,ai,aj,al]) ?_;refine RE.chk rfl rfl rfl rfl rfl trivial (by simp only [go_sem,seval,b4,w4,ca,cf,aq,ai,aj,al]) ?_;refine RE.chk rfl rfl rfl rfl rfl trivial (by simp only [go_sem,seval,b4,w4,ca,cf,aq,ai,aj,al]) ?_;refine ⟨?_,?_⟩
   ·refine GT.ji (its:=[34,36,38,40,42,44,46]) (by kernel_rfl) ?_;refine RE.ay rfl rfl rfl rfl rfl (aU.xr (args':=[aJ s.floats,vI n.w,vI n.h,vI (s.pen.y+s.pen.m),aY (dX rs a)]) ⟨hlen.at,wkN _,wkN _,wkN _,wkN _,trivial⟩ hro rfl) ?_;refine RE.seg (n:=0) [] [36,38,40,42,44,46] [⟨(.some 14),(.mov (.t 32)),.none⟩,⟨(.some 33),(.ext 0 (.t 14)),.none⟩,⟨(.some 34),(.ext 1 (.t 14)),.none⟩,⟨(.some 5),(.alloc 206 2 (.agg [(.int .i64 0),(.int .i64 0)])),.none⟩,⟨.none,(.store 2 (.t 5) (.t 33)),.none⟩,⟨(.some 6),(.mov (.t 34)),.none⟩] rfl rfl ?_;apply sG;simp only [go_sem,seval,b4,w4,ca,cf,aq,ai,aj,al];refine bC fun i5 σ5 s5 a5 f5=>?_;replace b4:=s5 _ _ b4;replace w4:=s5 _ _ w4;replace hlen:=hlen.mono s5;replace hJ4:=hJ4.mono s5;simp only [go_sem,seval,b4,w4,ca,cf,aq,ai,aj,al,a5,aY];exact fin _ _ i5 (s5.aB f5) ag rfl rfl rfl rfl rfl
   ·refine GT.ji (its:=[42,9,13,17,34,36,38,40,44,46]) (by kernel_rfl) ?_;refine RE.seg (n:=0) [9,13,17,34,36,38,40,44,46] [42] [⟨(.some 5),(.alloc 206 2 (.agg [(.int .i64 0),(.int .i64 0)])),.none⟩] rfl rfl ?_;apply sG;simp only [go_sem,seval,b4,w4,ca,cf,aq,ai,aj,al];refine bC fun i5 σ5 s5 a5 f5=>?_;replace b4:=s5 _ _ b4;replace w4:=s5 _ _ w4;replace hlen:=hlen.mono s5;replace hJ4:=hJ4.mono s5;simp only [go_sem,seval,b4,w4,ca,cf,aq,ai,aj,al,a5,aY];refine RE.chk rfl rfl rfl rfl rfl trivial (by simp only [go_sem,seval,b4,w4,ca,cf,aq,ai,aj,al,a5,aY]) ?_;refine RE.chk rfl rfl rfl rfl rfl trivial (by simp only [go_sem,seval,b4,w4,ca,cf,aq,ai,aj,al,a5,aY]) ?_;refine RE.chk rfl rfl rfl rfl rfl trivial (by simp only [go_sem,seval,b4,w4,ca,cf,aq,ai,aj,al,a5,aY]) ?_;refine RE.ay rfl rfl rfl rfl rfl (aU.xr (args':=[aJ s.floats,vI n.w,vI n.h,vI (s.pen.y+s.pen.m),aY (dX rs a)]) ⟨hlen.at,wkN _,wkN _,wkN _,wkN _,trivial⟩ hro rfl) ?_;refine RE.seg (n:=0) [] [36,38,40,44,46] [⟨(.some 14),(.mov (.t 32)),.none⟩,⟨(.some 33),(.ext 0 (.t 14)),.none⟩,⟨(.some 34),(.ext 1 (.t 14)),.none⟩,⟨.none,(.store 2 (.t 5) (.t 33)),.none⟩,⟨(.some 6),(.mov (.t 34)),.none⟩] rfl rfl ?_;apply sG;simp only [go_sem,seval,b4,w4,ca,cf,aq,ai,aj,al,a5,aY];exact fin _ _ i5 (s5.aB f5) ag rfl rfl rfl rfl rfl
  ·refine GT.ji (its:=[42,9,13,17,32,9,13,17,34,36,38,40,44,46]) (by kernel_rfl) ?_;refine RE.seg (n:=0) [9,13,17,32,9,13,17,34,36,38,40,44,46] [42] [⟨(.some 5),(.alloc 206 2 (.agg [(.int .i64 0),(.int .i64 0)])),.none⟩] rfl rfl ?_;apply sG;simp only [go_sem,seval,b4,w4,ca,cf,aq,ai,aj,al];refine bC fun i5 σ5 s5 a5 f5=>?_;replace b4:=s5 _ _ b4;replace w4:=s5 _ _ w4;replace hlen:=hlen.mono s5;replace hJ4:=hJ4.mono s5;simp only [go_sem,seval,b4,w4,ca,cf,aq,ai,aj,al,a5,aY];refine RE.chk rfl rfl rfl rfl rfl trivial (by simp only [go_sem,seval,b4,w4,ca,cf,aq,ai,aj,al,a5,aY]) ?_;refine RE.chk rfl rfl rfl rfl rfl trivial (by simp only [go_sem,seval,b4,w4,ca,cf,aq,ai,aj,al,a5,aY]) ?_;refine RE.chk rfl rfl rfl rfl rfl trivial (by simp only [go_sem,seval,b4,w4,ca,cf,aq,ai,aj,al,a5,aY]) ?_;refine RE.ay rfl rfl rfl rfl rfl (yY hJ4 a har hrok) ?_;refine RE.chk rfl rfl rfl rfl rfl trivial (by simp only [go_sem,seval,b4,w4,ca,cf,aq,ai,aj,al,a5,aY]) ?_;refine RE.chk rfl rfl rfl rfl rfl trivial (by simp only [go_sem,seval,b4,w4,ca,cf,aq,ai,aj,al,a5,aY]) ?_;refine RE.chk rfl rfl rfl rfl rfl trivial (by simp only [go_sem,seval,b4,w4,ca,cf,aq,ai,aj,al,a5,aY]) ?_;refine RE.ay rfl rfl rfl rfl rfl (aU.xr (args':=[aJ s.floats,vI n.w,vI n.h,vI (s.pen.y+s.pen.m),aY (dX rs a)]) ⟨hlen.at,wkN _,wkN _,wkN _,wkN _,trivial⟩ hro rfl) ?_;refine RE.seg (n:=0) [] [36,38,40,44,46] [⟨(.some 14),(.mov (.t 32)),.none⟩,⟨(.some 33),(.ext 0 (.t 14)),.none⟩,⟨(.some 34),(.ext 1 (.t 14)),.none⟩,⟨.none,(.store 2 (.t 5) (.t 33)),.none⟩,⟨(.some 6),(.mov (.t 34)),.none⟩] rfl rfl ?_;apply sG;simp only [go_sem,seval,b4,w4,ca,cf,aq,ai,aj,al,a5,aY];exact fin _ _ i5 (s5.aB f5) ag rfl rfl rfl rfl rfl
 ·refine GT.ji (its:=[42,9,13,17,25,26,9,13,17,32,9,13,17,34,36,38,40,44,46]) (by kernel_rfl) ?_;refine RE.seg (n:=0) [9,13,17,25,26,9,13,17,32,9,13,17,34,36,38,40,44,46] [42] [⟨(.some 5),(.alloc 206 2 (.agg [(.int .i64 0),(.int .i64 0)])),.none⟩] rfl rfl ?_;apply sG;simp only [go_sem,seval,b4,w4,ca,cf,aq,ai,aj,al];refine bC fun i5 σ5 s5 a5 f5=>?_;replace b4:=s5 _ _ b4;replace w4:=s5 _ _ w4;replace hlen:=hlen.mono s5;replace hJ4:=hJ4.mono s5;simp only [go_sem,seval,b4,w4,ca,cf,aq,ai,aj,al,a5,aY];refine RE.chk rfl rfl rfl rfl rfl trivial (by simp only [go_sem,seval,b4,w4,ca,cf,aq,ai,aj,al,a5,aY]) ?_;refine RE.chk rfl rfl rfl rfl rfl trivial (by simp only [go_sem,seval,b4,w4,ca,cf,aq,ai,aj,al,a5,aY]) ?_;refine RE.chk rfl rfl rfl rfl rfl trivial (by simp only [go_sem,seval,b4,w4,ca,cf,aq,ai,aj,al,a5,aY]) ?_;refine RE.chk rfl rfl rfl rfl rfl trivial (by simp only [go_sem,seval,b4,w4,ca,cf,aq,ai,aj,al,a5,aY]) ?_;refine RE.ay rfl rfl rfl rfl rfl (CH s.pen ⟨by omega,by omega⟩ ⟨by omega,by omega⟩ _) ?_;refine RE.chk rfl rfl rfl rfl rfl trivial (by simp only [go_sem,seval,b4,w4,ca,cf,aq,ai,aj,al,a5,aY]) ?_;refine RE.chk rfl rfl rfl rfl rfl trivial (by simp only [go_sem,seval,b4,w4,ca,cf,aq,ai,aj,al,a5,aY]) ?_;refine RE.chk rfl rfl rfl rfl rfl trivial (by simp only [go_sem,seval,b4,w4,ca,cf,aq,ai,aj,al,a5,aY]) ?_;refine RE.ay rfl rfl rfl rfl rfl (yY hJ4 a har hrok) ?_;refine RE.chk rfl rfl rfl rfl rfl trivial (by simp only [go_sem,seval,b4,w4,ca,cf,aq,ai,aj,al,a5,aY]) ?_;refine RE.chk rfl rfl rfl rfl rfl trivial (by simp only [go_sem,seval,b4,w4,ca,cf,aq,ai,aj,al,a5,aY]) ?_;refine RE.chk rfl rfl rfl rfl rfl trivial (by simp only [go_sem,seval,b4,w4,ca,cf,aq,ai,aj,al,a5,aY]) ?_;refine RE.ay rfl rfl rfl rfl rfl (aU.xr (args':=[aJ s.floats,vI n.w,vI n.h,vI (s.pen.y+s.pen.m),aY (dX rs a)]) ⟨hlen.at,wkN _,wkN _,wkN _,wkN _,trivial⟩ hro rfl) ?_;refine RE.seg (n:=0) [] [36,38,40,44,46] [⟨(.some 14),(.mov (.t 32)),.none⟩,⟨(.some 33),(.ext 0 (.t 14)),.none⟩,⟨(.some 34),(.ext 1 (.t 14)),.none⟩,⟨.none,(.store 2 (.t 5) (.t 33)),.none⟩,⟨(.some 6),(.mov (.t 34)),.none⟩] rfl rfl ?_;apply sG;simp only [go_sem,seval,b4,w4,ca,cf,aq,ai,aj,al,a5,aY];exact fin _ _ i5 (s5.aB f5) ag rfl rfl rfl rfl rfl
open Go.Proofs Go.Proofs.Tryz
theorem aM.Av {σ0 τ:af} {iw e sz:Nat} {v:V} {rows:List V} {o:Ob} (h:aM (aZ σ0 iw) τ e sz v rows):aM (aZ σ0 iw) (upd τ iw o) e sz v rows:=by
 rcases h with h | ⟨id,h1,h2,h3⟩
 ·exact .inl h
 ·exact .inr ⟨id,h1,by rw [ab (aF.1 h3).1]; exact h2,h3⟩
theorem aM.lS {σ0 τ σ:af} {iw e sz:Nat} {v:V} {rows:List V} (h:aM τ σ e sz v rows) (hs:aa σ0 τ) {o:Ob} (hw:τ iw=some o):aM (aZ σ0 iw) σ e sz v rows:=by
 rcases h with h | ⟨id,h1,h2,h3⟩
 ·exact .inl h
 ·exact .inr ⟨id,h1,h2,aF.2 ⟨fun e=>(by rw [e,hw] at h3; cases h3),hs.none h3⟩⟩
theorem FO {l:List Nd} {rs:List Rm} (hD:DOk l rs) {σ0 σ:af} {iw:Nat} {s:WS} {B:Int} (hJ:WkJ l rs σ0 iw s σ) (hB:Bd s B) (hB1:B≤576460752303423488) (a:Nat) (ha:a < l.length) (hn:s.atoms.length≤100000) (hfn:s.floats.length≤100000) :
 az prog 83 [.ptr iw 0 0,vI a] σ fun r σ'=>r=.tup []∧WkJ l rs σ0 iw (WS.float rs s a l[a]) σ':=by
 obtain ⟨va,vf,w1,ha1,hf1,hf2⟩:=hJ.row;obtain ⟨ca,sa⟩:=ha1.vc;obtain ⟨cf,sf⟩:=hf1.vc;have hal:dD false va=some (.int .i64 s.atoms.length):=by rw [ha1.len]; simp
 have hno:=fM hD.isb ha;have hsp:=hD.span ha;obtain ⟨har,hrok⟩:=hD.room ha;have hidx:=iO l ha;unfold WS.float;generalize l[a]=n at *;refine e83.r (by simp [c83]) ?_;refine ad.mix 6 ?_;apply sR;simp only [go_sem,seval,c83,w1,ca,cf,aq,ai,aj,al,hidx,Nd.cells];refine ae fun i4 σ4 s4 a4 f4=>?_;have w4':=s4 _ _ w1;have n4:=ao w1 f4;simp only [go_sem,seval,a4,w4',ab n4,ca,cf,hal,aq,ai,aj,al];generalize hq4:upd σ4 i4 _=τ4;have b4:τ4 i4=some ⟨73,20,[.agg (Nd.cells n)]⟩:=by rw [←hq4]; exact ag
 rw [Nd.cells] at b4;have s4'':aa σ τ4:=by rw [←hq4]; exact s4.aB f4
 clear hq4;have w4:=s4'' _ _ w1;refine bC fun i5 σ5 s5 a5 f5=>?_;have s5':=s4''.trans s5;have hJ5:=hJ.mono (s5'.aB (o:=⟨59,7,[aO ⟨a,n.side,s.atoms.length,0,0,n.w,n.h⟩]⟩) (s4''.none f5));have hen:aO ⟨a,n.side,s.atoms.length,0,0,n.w,n.h⟩=.agg [vI a,vI n.side,vI s.atoms.length,vI 0,vI 0,vI n.w,vI n.h]:=rfl;rw [hen] at hJ5;simp only [go_sem,seval,a5,dc];generalize hq5:upd σ5 i5 _=τ5 at *;have b5:τ5 i5=some ⟨59,7,[.agg [vI a,vI n.side,vI s.atoms.length,vI 0,vI 0,vI n.w,vI n.h]]⟩:=by rw [←hq5]; exact ag
 have w5:τ5 iw=some ⟨125,7,[.agg [va,vf,vI s.height,vI s.pen.y,vI s.pen.m,aI l,cg rs]]⟩:=by rw [←hq5,ab (ao w4 f5)]; exact s5 _ _ w4
 have s6:aa σ τ5:=by rw [←hq5]; exact s5'.aB (s4''.none f5)
 clear hq5;have hf5:=hf1.mono s6;have hm:=hB.m1;have hm0:=hB.m0;have hy0:=hB.y0;have hyB:=hB.yB;have hws:=hno.w;have hhs:=hno.h;have hput:=GL vf s.floats hf5 hf2 ⟨a,n.side,s.atoms.length,0,0,n.w,n.h⟩ (s.pen.y+s.pen.m) (dX rs a) (by omega) (hB.flo (by omega)) ⟨by omega,by omega⟩ (show Bq n.h from ⟨by omega,by omega⟩) (show Bq n.w from ⟨by omega,by omega⟩) hsp.bq;rw [hen] at hput;have hpne:qQ s.floats ⟨a,n.side,s.atoms.length,0,0,n.w,n.h⟩ (s.pen.y+s.pen.m) (dX rs a)≠[]:=by simp [qQ]
 have hs05:=hJ.sub.trans s6;have w5o:=w5;generalize qQ s.floats ⟨a,n.side,s.atoms.length,0,0,n.w,n.h⟩ (s.pen.y+s.pen.m) (dX rs a)=fs' at *;refine ad.DW (by kernel_rfl) 8 (.leaf [[],[],[1],[2,1],[3,2,1],[4,3,2,1],[],[],[7],[8,7],[9,8,7],[10,9,8,7],[],[],[12,13,11,10,9,8,7],[5,6,11,14,4,3,2,1,10,9,8,7,12,13],[0,1,2,3,4,5,6,7,8,9,10,11,12,13,14,15],[16,0,1,2,3,4,5,6,7,8,9,10,11,12,13,14,15],[17,0,1,2,3,4,5,6,7,8,9,10,11,12,13,14,15,16],[18,15,0,1,2,3,4,5,6,7,8,9,10,11,12,13,14,17,16]] [0,1,2,3,4,5,6,7,8,9,10,12,13,11,14,15,16,17,18,19]) (by kernel_rfl) ?_;refine GT.ji (its:=[0,2,4,6,8,10,12,14,16,18,20,24,26,22,11,13,28,11,13,30,32,34,36,38]) (by kernel_rfl) ?_;refine RE.seg (n:=0) [22,11,13,28,11,13,30,32,34,36,38] [0,2,4,6,8,10,12,14,16,18,20,24,26] [⟨(.some 27),(.mov (.t 0)),.none⟩,⟨(.some 28),(.mov (.t 0)),.none⟩,⟨(.some 29),(.nilCheck (.t 28)),.none⟩,⟨(.some 30),(.fldA .true 0 3 (.t 29)),.none⟩,⟨(.some 31),(.fldA .false 1 1 (.t 30)),.none⟩,⟨(.some 32),(.load .false 1 (.t 31)),.none⟩,⟨(.some 33),(.load .true 7 (.t 5)),.none⟩,⟨(.some 34),(.mov (.t 0)),.none⟩,⟨(.some 35),(.nilCheck (.t 34)),.none⟩,⟨(.some 36),(.fldA .true 3 2 (.t 35)),.none⟩,⟨(.some 37),(.load .true 2 (.t 36)),.none⟩,⟨(.some 39),(.mov (.t 0)),.none⟩,⟨(.some 40),(.mov (.t 1)),.none⟩] rfl rfl ?_;apply sG;simp only [go_sem,seval,b5,w5,ca,cf,aq,ai];refine RE.ay rfl rfl rfl rfl rfl (CH s.pen ⟨by omega,by omega⟩ ⟨by omega,by omega⟩ _) ?_;refine RE.chk rfl rfl rfl rfl rfl trivial (by simp only [go_sem,seval,b5,w5,ca,cf,aq,ai]) ?_;refine RE.chk rfl rfl rfl rfl rfl trivial (by simp only [go_sem,seval,b5,w5,ca,cf,aq,ai]) ?_;refine RE.ay rfl rfl rfl rfl rfl (yY hJ5 a har hrok) ?_;refine RE.chk rfl rfl rfl rfl rfl trivial (by simp only [go_sem,seval,b5,w5,ca,cf,aq,ai]) ?_;refine RE.chk rfl rfl rfl rfl rfl trivial (by simp only [go_sem,seval,b5,w5,ca,cf,aq,ai]) ?_;refine RE.call rfl rfl rfl rfl rfl hput ?_;rintro r σ7 ⟨s7,hout⟩;have w7:=s7 _ _ w5;replace b5:=s7 _ _ b5;replace w5:=s7 _ _ w5;obtain ⟨cr,sr⟩:=hout.vc;refine RE.seg (n:=0) [] [32,34,36,38] [⟨(.some 43),(.nilCheck (.t 27)),.none⟩,⟨(.some 44),(.fldA .true 0 3 (.t 43)),.none⟩,⟨(.some 45),(.fldA .false 1 1 (.t 44)),.none⟩,⟨.none,(.store 1 (.t 45) (.t 42)),.none⟩] rfl rfl ?_;apply sG;simp only [go_sem,seval,b5,w5,ca,cf,aq,ai,cr,sr];apply sR;simp only [go_sem,seval];refine ⟨_,_,aa.refl _,Wk.refl (aa.refl _) _,rfl,?_⟩;have hfa:=(ha1.mono s6).mono s7;exact ⟨(hs05.trans s7).aB hJ.no,hJ.no,va,r,ag,hfa.Av,(hout.lS hs05 w5o).Av,fun h=>absurd h hpne⟩
open Go.Proofs Go.Proofs.Tryz
section
variable {P:Program} {n:Nat} {st:St} {Q:St→Prop} {k:List It}
theorem Go.wO {i:aG} {l:List aG} {fx:VX} {xs:List VX} {f:FuncId} {caps:List V} {v:V} (hw:bh st.s i.g=some true) (ho:i.op=.call fx xs)
 (hf:fx.ev st.s=.fn f caps) (hc:∀σ1,aa st.σ σ1→az P f (xs.map (·.ev st.s)++caps) σ1 fun r σ'=>r=v∧σ'=σ1) (h:Go P n (.d l k) ⟨aV st.s i.dst v,st.σ⟩ Q):Go P n (.d (i::l) k) st Q:=by
 refine nu hw ?_;rw [ho];exact ⟨f,caps,v,hf,fun σ1 h1=>hc σ1 h1,h⟩
end
theorem iQ {fs:List Flo} {ws:List Int} {space high B:Int} {s:Spn} (hB:∀f∈fs,f.y+f.h≤B) (h0:0≤high):∀(k i:Nat) (y:Int),∀x∈cX fs ws space high s k i y,y≤x.y∧x.y+high≤max y B+high*k
 | 0,_,_,x,hx=>by simp [cX] at hx
 | k+1,i,y,x,hx=>by
   rw [cX] at hx;split at hx
   ·have hr:=fi (w:=ws.getD i 0) (high:=high) (y:=y) (s:=s) hB;have e:(mF fs ws space high i y s).y=j7 fs (ws.getD i 0) high s y:=rfl;have e2:high*((k+1:Nat):Int)=high*k+high:=by rw [Int.natCast_add,Int.mul_add]; simp
    have hk:0≤high*(k:Int):=Int.mul_nonneg h0 (by omega);rcases List.mem_cons.1 hx with rfl | hx
    ·rw [e,e2]; omega
    ·have:=iQ hB h0 k _ _ x hx;rw [e] at this;rw [e2]; omega
   ·cases hx
theorem WkJ.mT {l:List Nd} {rs:List Rm} {σ0 σ:af} {iw i:Nat} {s:WS} {o:Ob} (hJ:WkJ l rs σ0 iw s σ) (hi:σ i=some o) (h1:o.elem≠62) (h2:o.elem≠59) (h3:i≠iw):WkJ l rs (upd σ0 i o) iw s σ:=by
 obtain ⟨va,vf,w1,g1,g2,g3⟩:=hJ.row;have key:∀ {e sz:Nat} {v:V} {rows:List V},o.elem≠e→aM (aZ σ0 iw) σ e sz v rows→aM (aZ (upd σ0 i o) iw) σ e sz v rows:=fun {e sz v rows} he h=>by
  rcases h with h | ⟨id,a1,a2,a3⟩
  ·exact .inl h
  ·have hne:id≠i:=fun e'=>by subst e'; rw [a2] at hi; injection hi with hi; subst hi; exact he rfl
   exact .inr ⟨id,a1,a2,aF.2 ⟨(aF.1 a3).1,by rw [ab hne]; exact (aF.1 a3).2⟩⟩
 refine ⟨fun j p h=>?_,by rw [ab h3.symm]; exact hJ.no,va,vf,w1,key h1 g1,key h2 g2,g3⟩;by_cases e:j=i
 ·subst e; rw [ag] at h; rw [hi]; exact h
 ·rw [ab e] at h; exact hJ.sub _ _ h
theorem WkJ.narrow {l:List Nd} {rs:List Rm} {σ0 σ:af} {iw i:Nat} {s:WS} {o:Ob} (hJ:WkJ l rs (upd σ0 i o) iw s σ) (hi:σ0 i=none) (h3:i≠iw):WkJ l rs σ0 iw s σ:=by
 obtain ⟨va,vf,w1,g1,g2,g3⟩:=hJ.row;have hs:aa σ0 (upd σ0 i o):=(aa.refl σ0).aB hi;have key:∀ {e sz:Nat} {v:V} {rows:List V},aM (aZ (upd σ0 i o) iw) σ e sz v rows→aM (aZ σ0 iw) σ e sz v rows:=fun {e sz v rows} h=>by
  rcases h with h | ⟨id,a1,a2,a3⟩
  ·exact .inl h
  ·exact .inr ⟨id,a1,a2,aF.2 ⟨(aF.1 a3).1,hs.none (aF.1 a3).2⟩⟩
 exact ⟨hs.trans hJ.sub,hs.none hJ.no,va,vf,w1,key g1,key g2,g3⟩
theorem jH {σ:af} {e sz id:Nat} {rows:List V} {i:Nat} (h:σ id=some ⟨e,sz,rows⟩) (hi:i < rows.length):bD σ sz (.own id 0 rows.length) (.int .i64 i)=some (.ptr id i 0):=by
 simp [bD,h,hi]
def gv (a:Nat) (h:Int) (s:WS) (L:List Ln):WS:=L.foldl (fun s x=>s.put (eE a h x)) s
theorem AD {a:Nat} {h:Int} {s:WS} {L:List Ln} {j:Nat} (hj:j < L.length):gv a h s (L.take (j+1))=(gv a h s (L.take j)).put (eE a h L[j]):=by
 unfold gv;rw [List.take_succ_eq_append_getElem hj,List.foldl_append]; rfl
theorem pC (a:Nat) (h:Int):∀(L:List Ln) (s:WS),(gv a h s L).atoms.length=s.atoms.length+L.length
 | [],s=>by simp [gv]
 | x::L,s=>by
   have:=pC a h L (s.put (eE a h x));simp only [gv,List.foldl_cons] at this ⊢;rw [this]; simp only [WS.put,List.length_append,List.length_cons,List.length_nil]; omega
theorem Hj {l:List Nd} {rs:List Rm} (hD:DOk l rs) {σ0 σ:af} {iw:Nat} {s:WS} {B:Int} (hJ:WkJ l rs σ0 iw s σ) (hB:Bd s B) (hB1:B≤288230376151711744) (a:Nat) (ha:a < l.length) (hn:s.atoms.length≤100000) (hfn:s.floats.length≤100000) (hwl:l[a].words.length≤10000) :
 az prog 81 [.ptr iw 0 0,vI a] σ fun r σ'=>r=.tup []∧WkJ l rs σ0 iw (WS.text rs s a l[a]) σ':=by
 obtain ⟨va,vf,w1,ha1,hf1,hf2⟩:=hJ.row;obtain ⟨ca,sa⟩:=ha1.vc;obtain ⟨cf,sf⟩:=hf1.vc;have hno:=fM hD.isb ha;have hsp:=hD.span ha;obtain ⟨har,hrok⟩:=hD.room ha;have hidx:=iO l ha;unfold WS.text;generalize l[a]=n at *;have hwok:WOk n.words n.space:=⟨by omega,fun x hx=>by have:=hno.words x hx; omega,hno.space.1,hno.space.2⟩
 have hm:=hB.m1;have hm0:=hB.m0;have hy0:=hB.y0;have hyB:=hB.yB;have hlb:=hno.line;refine e81.r (by simp [c81]) ?_;refine ad.mix 7 ?_;apply sR;simp only [go_sem,seval,c81,w1,ca,cf,aq,ai,aj,al,hidx,Nd.cells];refine ae fun i4 σ4 s4 a4 f4=>?_;have w4':=s4 _ _ w1;have n4:=ao w1 f4;simp only [go_sem,seval,a4,w4',ab n4,ca,cf,aq,ai,aj,al];generalize hq4:upd σ4 i4 _=τ4;have b4:τ4 i4=some ⟨73,20,[.agg (Nd.cells n)]⟩:=by rw [←hq4]; exact ag
 rw [Nd.cells] at b4;have s4':aa σ τ4:=by rw [←hq4]; exact s4.aB f4
 clear hq4;have w4:=s4' _ _ w1;have hlen:tV τ4 vf (aJ s.floats):=(hf1.mono s4').FE;have hJ4:=hJ.mono s4';refine Go.cp rfl rfl rfl (CH s.pen ⟨by omega,by omega⟩ ⟨by omega,by omega⟩) ?_;apply sG;simp only [go_sem,seval];refine Go.wO rfl rfl rfl (fun σ8 h8=>yY (hJ4.mono h8) a har hrok) ?_;apply sG;simp only [go_sem,seval];have hLl:=jj s.floats n.words n.space n.line (dX rs a) n.words.length 0 (s.pen.y+s.pen.m);have hLb:=iQ (ws:=n.words) (space:=n.space) (s:=dX rs a) (fun f hf=>(hB.fl f hf).yB) hlb.1 n.words.length 0 (s.pen.y+s.pen.m);have hlt:=fun σ8 (h8:aa τ4 σ8)=>(DR vf s.floats (hlen.mono h8) n.words n.space n.line (s.pen.y+s.pen.m) (dX rs a) (by omega) (hB.flo (by omega)) B (fun f hf=>(hB.fl f hf).yB) (by omega) (by omega) (by omega) hlb.1 hlb.2 hsp.bq hwok).H7 fun _ _ h=>h.2.Cj (v0:=oX (cX s.floats n.words n.space n.line (dX rs a) n.words.length 0 (s.pen.y+s.pen.m))) h.1 rfl;generalize cX s.floats n.words n.space n.line (dX rs a) n.words.length 0 (s.pen.y+s.pen.m)=L at *;refine Go.wO rfl rfl rfl (fun σ8 h8=>hlt σ8 h8) ?_;have hnL:dD false (oX L)=some (.int .i64 L.length):=by simp [oX,dD]
 apply sG;simp only [go_sem,seval,hnL];have h0i:σ0 i4=none:=hJ.sub.none f4;have hJw:=hJ4.mT b4 (by simp) (by simp) n4.symm;have hlo:((n.words.length:Nat):Int)≤10000:=by omega
 have hmul:n.line*(n.words.length:Int)≤1099511627776*10000:=Int.mul_le_mul hlb.2 hlo (by omega) (by omega);refine ad.loop (fun m st=>∃j:Nat,j≤L.length∧m=L.length - j∧WkJ l rs (upd σ0 i4 ⟨73,20,[.agg [vI n.kind,vI n.size,vI n.st.top,vI n.st.bottom,vI n.st.padTop,vI n.st.padBottom,vI n.st.inset,vI n.st.orphans,vI n.st.widows,vI n.st.head,vI n.st.before,vI n.st.after,vI n.st.inside,vI n.st.clear,vI n.line,vI n.space,bj n.words,vI n.side,vI n.w,vI n.h]]⟩) iw (gv a n.line s (L.take j)) st.σ ∧
  st.s 0=.ptr iw 0 0∧st.s 1=vI a∧st.s 4=.ptr i4 0 0∧st.s 33=oX L∧st.s 34=vI L.length∧st.s 35=vI j) L.length ?_ ?_
 ·exact ⟨0,by omega,rfl,hJw,rfl,rfl,rfl,rfl,rfl,rfl⟩
 ·rintro m ⟨S,τ⟩ ⟨j,hj,rfl,hJj,t0,t1,t4,t33,t34,t35⟩;simp only at hJj t0 t1 t4 t33 t34 t35;refine ad.mix 7 ?_;have c4:=hJj.sub _ _ (ag (id:=i4));by_cases hlt:j < L.length
  ·have q:((j:Int) < L.length)=True:=eq_true (by omega);have hix:∀σ,bD σ 5 (oX L) (.int .i64 j)=some (.rp (lN L[j])):=fun σ=>by simp [oX,bD,hlt]
   have htk:=AD (a:=a) (h:=n.line) (s:=s) hlt;have hb2:=hLb L[j] (List.getElem_mem hlt);have hal:=pC a n.line (L.take j) s;rw [List.length_take] at hal;generalize L[j]=x at *;have hen:lN x=.agg [vI x.fr,vI x.to,vI x.x,vI x.y,vI x.w]:=rfl;apply sR;simp only [go_sem,seval,t0,t1,t4,t33,t34,t35,q,hix,hen];refine ae fun i6 σ6 s6 a6 f6=>?_;have d4:=s6 _ _ c4;have n46:=ao c4 f6;simp only [go_sem,seval,a6,d4,t0,t1,t4,ab n46,aj];refine ad.call rfl rfl rfl (DO (hJj.mono (s6.aB f6)) (eE a n.line x) (show Bq x.y from ⟨by omega,by omega⟩) (show Bq n.line from ⟨by omega,by omega⟩) (by omega)) ?_;rintro r σ' ⟨rfl,hJ'⟩;have r1:inR .i64 ((j:Int)+1):=ak (by omega) (by omega);apply sR;simp only [go_sem,seval,t0,t1,t4,t33,t34,t35,r1];exact ⟨_,by omega,j+1,by omega,rfl,by rw [htk]; exact hJ',by simp [t0,t1,t4,t33,t34]⟩
  ·have q:((j:Int) < L.length)=False:=eq_false (by omega);rw [List.take_of_length_le (by omega)] at hJj;apply sR;simp only [go_sem,seval,t0,t1,t4,t33,t34,t35,q];exact ⟨_,_,aa.refl _,Wk.refl (aa.refl _) _,rfl,hJj.narrow h0i n4.symm⟩
def nd0:Nd:=⟨0,0,Sty.zero,0,0,[],0,0,0⟩
def ndA (l:List Nd) (a:Nat):Nd:=l.getD a nd0
theorem iE {l:List Nd} {a:Nat} (h:a < l.length):ndA l a=l[a]:=by simp [ndA,h]
def df (l:List Nd) (rs:List Rm):Nat→Nat→Nat→WS→WS
 | 0,_,_,s=>s
 | k+1,a,e,s=>if a < e then df l rs k (a+(szI l a).toNat) e
    (if (ndA l a).kind=1 then (df l rs k (a+1) (a+(szI l a).toNat) (s.enter (ndA l a).st)).leave (ndA l a).st
     else if (ndA l a).kind=2 then s.text rs a (ndA l a) else if (ndA l a).kind=3 then WS.mono l rs s a (ndA l a) else s.float rs a (ndA l a)) else s
theorem l4 {l:List Nd} {rs:List Rm} {e:Nat} (he:e≤l.length):∀(k j a:Nat) (s:WS),e - a≤k→e - a≤j→bV l a e=true→df l rs k a e s=df l rs j a e s
 | 0,0,_,_,_,_,_=>rfl
 | 0,j+1,a,s,h,_,_=>by rw [df,df,if_neg (by omega)]
 | k+1,0,a,s,_,h,_=>by rw [df,df,if_neg (by omega)]
 | k+1,j+1,a,s,h,h',hr=>by
   rw [df,df];by_cases hlt:a < e
   ·obtain ⟨h1,h2⟩:=cM he hr (Nat.le_refl a) hlt;obtain ⟨h3,h4⟩:=dL he hr hlt;rw [if_pos hlt,if_pos hlt,l4 (e:=a+(szI l a).toNat) (by omega) k j _ _ (by omega) (by omega) h4,l4 he k j _ _ (by omega) (by omega) h3]
   ·rw [if_neg hlt,if_neg hlt]
def cst (l:List Nd) (a e:Nat):Nat:=(((l.take e).drop a).map fun n=>4+n.words.length).sum
theorem Hk (l:List Nd) (a:Nat):cst l a a=0:=by unfold cst; rw [List.drop_of_length_le (by rw [List.length_take]; omega)]; rfl
theorem ku {l:List Nd} {a m e:Nat} (h1:a≤m) (h2:m≤e) (h3:e≤l.length):cst l a e=cst l a m+cst l m e:=by
 unfold cst;rw [←List.sum_append_nat,←List.map_append];congr 2;have e1:l.take m=(l.take e).take m:=by rw [List.take_take,Nat.min_eq_left h2]
 rw [e1]
 conv=>lhs; rw [←List.take_append_drop m (l.take e)]
 rw [List.drop_append_of_le_length (by rw [List.length_take,List.length_take]; omega)]
theorem GI {l:List Nd} {a:Nat} (h:a < l.length):cst l a (a+1)=4+l[a].words.length:=by
 unfold cst;rw [List.take_succ_eq_append_getElem h,List.drop_append_of_le_length (by rw [List.length_take]; omega),List.drop_of_length_le (by rw [List.length_take]; omega)];simp
theorem tC {l:List Nd} {a e:Nat} (h1:a < e) (h3:e≤l.length):cst l a e=4+(ndA l a).words.length+cst l (a+1) e:=by
 rw [ku (Nat.le_succ a) h1 h3,GI (by omega),iE (by omega)]
structure fp (s:WS) (C:Nat):Prop where
 bd:Bd s (1099511627776*(C:Int))
 at':s.atoms.length≤C
 fl:s.floats.length≤C
theorem fp.more {s:WS} {C D:Nat} (h:fp s C) (hD:C≤D):fp s D:=⟨h.bd.mono (by omega),Nat.le_trans h.at' hD,Nat.le_trans h.fl hD⟩
theorem j6 {l:List Nd} {rs:List Rm} {s:WS} {C:Nat} (h:fp s C) {n:Nd} (hn:NOk n) (a:Nat):fp (WS.mono l rs s a n) (C+1):=by
 obtain ⟨⟨hf,h1,h2,h3,h4⟩,h5,h6⟩:=h;have hyr:=fi (w:=n.w) (high:=n.h) (y:=s.pen.y+s.pen.m) (s:=dX rs a) (fun f hf'=>(hf f hf').yB);have hh:=hn.h;refine ⟨⟨fun f hf'=>(hf f hf').mono (by omega),?_,?_,?_,?_⟩,?_,?_⟩ <;> simp only [WS.mono,WS.put,List.length_append,List.length_cons,List.length_nil] <;> omega
theorem ja {l:List Nd} {rs:List Rm} (hD:DOk l rs) {s:WS} {C:Nat} (h:fp s C) {a:Nat} (ha:a < l.length) {n:Nd} (hn:NOk n) (hk:n.kind=4):fp (s.float rs a n) (C+1):=by
 obtain ⟨⟨hf,h1,h2,h3,h4⟩,h5,h6⟩:=h;have hb:=hn.box (.inr hk);have hw:=hn.w;have hh:=hn.h;refine ⟨⟨fun f hf'=>?_,h1,h2,h3,by simp only [WS.float]; omega⟩,by simp only [WS.float]; omega,by simp only [WS.float,qQ,List.length_append,List.length_cons,List.length_nil]; omega⟩;exact (G4 (f:=⟨a,n.side,s.atoms.length,0,0,n.w,n.h⟩) hf (hD.span ha) (by omega) (by omega) (by simp only; omega) (by simp only; omega) (by simp only; omega) (by simp only; omega) f hf').mono (by omega)
theorem jZ {rs:List Rm} {s:WS} {C:Nat} (h:fp s C) {n:Nd} (hn:NOk n) (a:Nat):fp (s.text rs a n) (C+n.words.length):=by
 obtain ⟨⟨hf,h1,h2,h3,h4⟩,h5,h6⟩:=h;have hl:=hn.line;unfold WS.text;have hLl:=jj s.floats n.words n.space n.line (dX rs a) n.words.length 0 (s.pen.y+s.pen.m);have hLb:=iQ (ws:=n.words) (space:=n.space) (s:=dX rs a) (fun f hf'=>(hf f hf').yB) hl.1 n.words.length 0 (s.pen.y+s.pen.m);generalize cX s.floats n.words n.space n.line (dX rs a) n.words.length 0 (s.pen.y+s.pen.m)=L at *;have hmul:n.line*(n.words.length:Int)≤1099511627776*(n.words.length:Int):=Int.mul_le_mul_of_nonneg_right hl.2 (by omega);have hm0:0≤n.line*(n.words.length:Int):=Int.mul_nonneg hl.1 (by omega);have key:∀(L:List Ln) (t:WS),(∀x∈L,s.pen.y+s.pen.m≤x.y∧x.y+n.line≤max (s.pen.y+s.pen.m) (1099511627776*(C:Int))+n.line*(n.words.length:Int))→t.floats=s.floats→0≤t.pen.y→0≤t.pen.m→t.pen.m≤1099511627776 →
  t.pen.y+t.pen.m≤1099511627776*((C+n.words.length:Nat):Int)→(gv a n.line t L).floats=s.floats∧0≤(gv a n.line t L).pen.y∧0≤(gv a n.line t L).pen.m∧(gv a n.line t L).pen.m≤1099511627776∧(gv a n.line t L).pen.y+(gv a n.line t L).pen.m≤1099511627776*((C+n.words.length:Nat):Int):=by
  intro L
  induction L with
  | nil=>intro t _ g1 g2 g3 g4 g5; exact ⟨g1,g2,g3,g4,g5⟩
  | cons x L ih =>
    intro t hx g1 g2 g3 g4 g5;have hx0:=hx x (by simp);exact ih (t.put (eE a n.line x)) (fun y hy=>hx y (by simp [hy])) g1 (by simp only [WS.put,eE]; omega) (by simp [WS.put]) (by simp [WS.put]) (by simp only [WS.put,eE]; omega)
 obtain ⟨k1,k2,k3,k4,k5⟩:=key L s hLb rfl h1 h2 h3 (by omega);have hal:=pC a n.line L s;refine ⟨⟨fun f hf'=>(hf f ?_).mono (by omega),k2,k3,k4,k5⟩,?_,?_⟩
 ·have:f∈(gv a n.line s L).floats:=hf';rw [k1] at this; exact this
 ·show (gv a n.line s L).atoms.length≤_;omega
 ·show (gv a n.line s L).floats.length≤_;rw [k1]; omega
theorem eH {s:WS} {C:Nat} (h:fp s C) {t:Sty} (ht:SOk t):fp (s.enter t) (C+2):=⟨(h.bd.enter ht).mono (by omega),by have:=h.at'; simp only [WS.enter]; omega,by have:=h.fl; simp only [WS.enter]; omega⟩
theorem jc {s:WS} {C:Nat} (h:fp s C) {t:Sty} (ht:SOk t):fp (s.leave t) (C+2):=⟨(h.bd.leave ht).mono (by omega),by have:=h.at'; simp only [WS.leave]; omega,by have:=h.fl; simp only [WS.leave]; omega⟩
theorem fS {l:List Nd} {rs:List Rm} (hD:DOk l rs):∀(k a e:Nat) (s:WS) (C:Nat),e - a≤k→a≤e→e≤l.length→bV l a e=true→fp s C→fp (df l rs k a e s) (C+cst l a e)
 | 0,a,e,s,C,_,hae,_,_,h=>h.more (Nat.le_add_right _ _)
 | k+1,a,e,s,C,hk,hae,he,hr,h=>by
   rw [df];by_cases hlt:a < e
   ·rw [if_pos hlt];obtain ⟨h1,h2⟩:=cM he hr (Nat.le_refl a) hlt;obtain ⟨h3,h4⟩:=dL he hr hlt;have hno:NOk (ndA l a):=by rw [iE (by omega)]; exact fM hD.isb (by omega)
    have hc1:cst l a e=cst l a (a+(szI l a).toNat)+cst l (a+(szI l a).toNat) e:=ku (by omega) (by omega) he;have hc2:cst l a (a+(szI l a).toNat)=4+(ndA l a).words.length+cst l (a+1) (a+(szI l a).toNat):=tC (by omega) (by omega);have step:∀t,fp t (C+cst l a (a+(szI l a).toNat))→fp (df l rs k (a+(szI l a).toNat) e t) (C+cst l a e):=fun t ht=>by
     rw [hc1,←Nat.add_assoc];exact fS hD k _ e t _ (by omega) (by omega) he h3 ht
    refine step _ ?_;rw [hc2];split
    ·have:=jc (fS hD k (a+1) (a+(szI l a).toNat) _ _ (by omega) (by omega) (by omega) h4 (eH h hno.st)) hno.st;exact this.more (by omega)
    ·split
     ·exact (jZ h hno a).more (by omega)
     ·split
      ·exact (j6 h hno a).more (by omega)
      ·rename_i g1 g2 g3;have hk4:(ndA l a).kind=4:=by have:=hno.kind; omega
       exact (ja hD h (by omega) hno hk4).more (by omega)
   ·rw [if_neg hlt]; exact h.more (Nat.le_add_right _ _)
open Go.Proofs Go.Proofs.Tryz
def Mi (l:List Nd) (rs:List Rm) (iw:Nat) (a e:Nat) (C:Nat):Prop :=
 ∀(s:WS) (σ0 σ:af),WkJ l rs σ0 iw s σ→fp s C→az prog 50 [.ptr iw 0 0,vI a,vI e] σ fun r σ'=>r=.tup []∧WkJ l rs σ0 iw (df l rs (e - a) a e s) σ'
theorem WkJ.Ex {l:List Nd} {rs:List Rm} {σ0 τ:af} {iw:Nat} {s:WS} (hJ:WkJ l rs σ0 iw s τ) {va vf:V} {y m:Int} (w:τ iw=some ⟨125,7,[.agg [va,vf,vI s.height,vI y,vI m,aI l,cg rs]]⟩) (p:Pn) :
 WkJ l rs σ0 iw { s with pen:=p } (upd τ iw ⟨125,7,[.agg [va,vf,vI s.height,vI p.y,vI p.m,aI l,cg rs]]⟩):=by
 obtain ⟨va',vf',w',g1,g2,g3⟩:=hJ.row;rw [w] at w';simp only [Oi,Ob.mk.injEq,List.cons.injEq,V.agg.injEq,true_and,and_true] at w';obtain ⟨rfl,rfl,_⟩:=w';exact ⟨hJ.sub.aB hJ.no,hJ.no,va,vf,ag,g1.Av,g2.Av,g3⟩
def jg (s:Sty):V:=.agg [vI s.top,vI s.bottom,vI s.padTop,vI s.padBottom,vI s.inset,vI s.orphans,vI s.widows,vI s.head,vI s.before,vI s.after,vI s.inside,vI s.clear]
theorem ET {l:List Nd} {rs:List Rm} (hD:DOk l rs) {σ0 σ:af} {iw:Nat} {s:WS} {C:Nat} (hJ:WkJ l rs σ0 iw s σ) (hI:fp s C) (hC:C≤50000) (a:Nat) (ha:a < l.length) (hrow:Mi l rs iw (a+1) (a+(szI l a).toNat) (C+2)) (hC2:C+2+cst l (a+1) (a+(szI l a).toNat)≤50000)
 (hsz:a+(szI l a).toNat≤l.length) (hrB:bV l (a+1) (a+(szI l a).toNat)=true) (hs1:1≤szI l a) :
 az prog 80 [.ptr iw 0 0,vI a] σ fun r σ'=>r=.tup []∧WkJ l rs σ0 iw ((df l rs (a+(szI l a).toNat - (a+1)) (a+1) (a+(szI l a).toNat) (s.enter l[a].st)).leave l[a].st) σ':=by
 obtain ⟨va,vf,w1,ha1,hf1,hf2⟩:=hJ.row;obtain ⟨ca,sa⟩:=ha1.vc;obtain ⟨cf,sf⟩:=hf1.vc;have hno:=fM hD.isb ha;have hidx:=iO l ha;have hszn:=kB ha;have hfine:=hD.rC;have q3:((a:Int)+l[a].size)=((a+(szI l a).toNat:Nat):Int):=by rw [hszn]; omega
 have q2:((a:Int)+1)=((a+1:Nat):Int):=by omega
 have hB:=hI.bd;have hm:=hB.m1;have hm0:=hB.m0;have hy0:=hB.y0;have hyB:=hB.yB;have hfl:=hI.fl;refine e80.r (by simp [c80]) ?_;refine ad.mix 7 ?_;apply sR;simp only [go_sem,seval,c80,w1,ca,cf,aq,ai,aj,al,hidx,Nd.cells];refine ae fun i4 σ4 s4 a4 f4=>?_;have w4':=s4 _ _ w1;have n4:=ao w1 f4;simp only [go_sem,seval,a4,w4',ab n4,ca,cf,aq,ai,aj,al];generalize hq4:upd σ4 i4 _=τ4;have b4:τ4 i4=some ⟨71,12,[jg l[a].st]⟩:=by rw [←hq4]; exact ag
 have s4':aa σ τ4:=by rw [←hq4]; exact s4.aB f4
 clear hq4;have w4:=s4' _ _ w1;have hlen:tV τ4 vf (aJ s.floats):=(hf1.mono s4').FE;have h0i:σ0 i4=none:=hJ.sub.none f4;have hJ4:=(hJ.mono s4').mT b4 (by simp) (by simp) n4.symm;refine Go.wO rfl rfl rfl (fun σ8 h8=>aU.xr (args':=[aJ s.floats,vI l[a].st.clear]) ⟨(hlen.mono h8).at,wkN _,trivial⟩ (zb s.floats l[a].st.clear (by omega) (hB.flo (by omega))) rfl) ?_;apply sG;simp only [go_sem,seval];obtain ⟨s1,hs1e⟩:∃x,x=s.enter l[a].st:=⟨_,rfl⟩
 have hI1:=eH hI hno.st;rw [←hs1e] at hI1 ⊢;unfold WS.enter at hs1e;simp only at hs1e;cases hlow:(dN (kQ l[a].st.clear) s.floats).2
 ·rw [hlow] at hs1e;simp only [Bool.false_eq_true,↓reduceIte] at hs1e;simp only [go_sem,seval,dc];obtain ⟨p,hp⟩:∃p:Pn,p=s.pen:=⟨_,rfl⟩
  have hs1e':s1={ s with pen:=dZ p l[a].st.top l[a].st.padTop }:=by rw [hs1e,hp]
  have hJ5:WkJ l rs (upd σ0 i4 ⟨71,12,[jg l[a].st]⟩) iw { s with pen:=p } τ4:=by rw [hp]; exact hJ4
  have w5:τ4 iw=some ⟨125,7,[.agg [va,vf,vI s.height,vI p.y,vI p.m,aI l,cg rs]]⟩:=by rw [hp]; exact w4
  have b5:=b4;obtain ⟨hp1,hp2,hp3,hp4⟩:0≤p.y∧0≤p.m∧p.m≤1099511627776∧p.y+p.m≤1099511627776*(C:Int):=by rw [hp]; exact ⟨hy0,hm0,hm,hyB⟩
  clear hp;generalize τ4=τ5 at *;rw [jg] at b5;have hst:=hno.st;have k1:=hst.top;have k2:=hst.padTop;have k3:=hst.bottom;have k4:=hst.padBottom;refine ad.qS (by kernel_rfl) [0,1,2,3,4,5,6,7,8,9,10,11,12] [[],[],[1],[1,2],[1,2,3],[],[5],[],[7],[1,2,3,4,5,6,7,8],[0,1,2,3,4,5,6,7,8,9],[0,1,2,3,4,5,6,7,8,9,10],[0,1,2,3,4,5,6,7,8,9,10,11]] [0,2,4,6,8,10,12,14,16,18,20,22,24] (by kernel_rfl) (by kernel_rfl) ?_;refine RE.seg (n:=0) [18,20,22,24] [0,2,4,6,8,10,12,14,16] [⟨(.some 36),(.mov (.t 0)),.none⟩,⟨(.some 37),(.mov (.t 0)),.none⟩,⟨(.some 38),(.nilCheck (.t 37)),.none⟩,⟨(.some 39),(.fldA .true 3 2 (.t 38)),.none⟩,⟨(.some 40),(.load .true 2 (.t 39)),.none⟩,⟨(.some 41),(.fldA .false 0 1 (.t 4)),.none⟩,⟨(.some 42),(.load .false 1 (.t 41)),.none⟩,⟨(.some 43),(.fldA .false 2 1 (.t 4)),.none⟩,⟨(.some 44),(.load .false 1 (.t 43)),.none⟩] rfl rfl ?_;apply sG;simp only [go_sem,seval,w5,b5,ca,cf,aq,ai];refine RE.ay rfl rfl rfl rfl rfl (Bm p l[a].st.top l[a].st.padTop ⟨by omega,by omega⟩ ⟨by omega,by omega⟩ ⟨by omega,by omega⟩ ⟨by omega,by omega⟩ _) ?_;refine RE.seg (n:=0) [] [20,22,24] [⟨(.some 46),(.nilCheck (.t 36)),.none⟩,⟨(.some 47),(.fldA .true 3 2 (.t 46)),.none⟩,⟨.none,(.store 2 (.t 47) (.t 45)),.none⟩] rfl rfl ?_;apply sG;simp only [go_sem,seval,w5,gb,ca,cf,aq,ai];have hJ6:=hJ5.Ex w5 (dZ p l[a].st.top l[a].st.padTop);rw [←hs1e'] at hJ6;have r1:inR .i64 ((a:Int)+1):=ak (by omega) (by omega);have r2:inR .i64 ((a:Int)+l[a].size):=ak (by omega) (by omega);have w6:=ag (σ:=τ5) (id:=iw) (o:=⟨125,7,[.agg [va,vf,vI s.height,vI (dZ p l[a].st.top l[a].st.padTop).y,vI (dZ p l[a].st.top l[a].st.padTop).m,aI l,cg rs]]⟩);have hc:=hrow s1 _ _ hJ6 hI1;rw [←q2,←q3] at hc;generalize upd τ5 iw ⟨125,7,[.agg [va,vf,vI s.height,vI (dZ p l[a].st.top l[a].st.padTop).y,vI (dZ p l[a].st.top l[a].st.padTop).m,aI l,cg rs]]⟩=τ6 at *;apply sR;simp only [go_sem,seval,w6,hidx,Nd.cells,r1,r2,ca,cf,aq,ai,aj];refine ad.call rfl rfl rfl hc ?_;rintro r σ7 ⟨rfl,hJ7⟩;have hI7:=fS hD (a+(szI l a).toNat - (a+1)) (a+1) (a+(szI l a).toNat) s1 _ (Nat.le_refl _) (by omega) hsz hrB hI1;have b7:=hJ7.sub _ _ (ag (id:=i4));rw [jg] at b7;generalize df l rs (a+(szI l a).toNat - (a+1)) (a+1) (a+(szI l a).toNat) s1=s2 at *;obtain ⟨va7,vf7,w7,g71,g72,_⟩:=hJ7.row;obtain ⟨ca7,_⟩:=g71.vc;obtain ⟨cf7,_⟩:=g72.vc;have m1:=hI7.bd.m1;have m2:=hI7.bd.m0;have m3:=hI7.bd.y0;have m4:=hI7.bd.yB;apply sR;simp only [go_sem,seval,dc];refine ad.qS (by kernel_rfl) [0,1,2,3,4,5,6,7,8,9,10,11,12] [[],[],[1],[1,2],[1,2,3],[],[5],[],[7],[1,2,3,4,5,6,7,8],[0,1,2,3,4,5,6,7,8,9],[0,1,2,3,4,5,6,7,8,9,10],[0,1,2,3,4,5,6,7,8,9,10,11]] [0,2,4,6,8,10,12,14,16,18,20,22,24] (by kernel_rfl) (by kernel_rfl) ?_;refine RE.seg (n:=0) [18,20,22,24] [0,2,4,6,8,10,12,14,16] [⟨(.some 62),(.mov (.t 0)),.none⟩,⟨(.some 63),(.mov (.t 0)),.none⟩,⟨(.some 64),(.nilCheck (.t 63)),.none⟩,⟨(.some 65),(.fldA .true 3 2 (.t 64)),.none⟩,⟨(.some 66),(.load .true 2 (.t 65)),.none⟩,⟨(.some 67),(.fldA .false 1 1 (.t 4)),.none⟩,⟨(.some 68),(.load .false 1 (.t 67)),.none⟩,⟨(.some 69),(.fldA .false 3 1 (.t 4)),.none⟩,⟨(.some 70),(.load .false 1 (.t 69)),.none⟩] rfl rfl ?_;apply sG;simp only [go_sem,seval,w7,b7,ca7,cf7,aq,ai];refine RE.ay rfl rfl rfl rfl rfl (Bb s2.pen l[a].st.bottom l[a].st.padBottom ⟨by omega,by omega⟩ ⟨by omega,by omega⟩ ⟨by omega,by omega⟩ ⟨by omega,by omega⟩ _) ?_;refine RE.seg (n:=0) [] [20,22,24] [⟨(.some 72),(.nilCheck (.t 62)),.none⟩,⟨(.some 73),(.fldA .true 3 2 (.t 72)),.none⟩,⟨.none,(.store 2 (.t 73) (.t 71)),.none⟩] rfl rfl ?_;apply sG;simp only [go_sem,seval,w7,gb,ca7,cf7,aq,ai];apply sR;simp only [go_sem,seval];exact ⟨_,_,aa.refl _,Wk.refl (aa.refl _) _,rfl,(hJ7.Ex w7 (ky s2.pen l[a].st.bottom l[a].st.padBottom)).narrow h0i n4.symm⟩
 ·rw [hlow] at hs1e;simp only [↓reduceIte] at hs1e;obtain ⟨f,hfm,e1,_⟩:=kI hlow;have e2:(kQ l[a].st.clear f).1=f.y+f.h:=rfl;have hfo:=hB.fl f hfm;generalize (dN (kQ l[a].st.clear) s.floats).1=low at *;simp only [go_sem,seval,w4,ca,cf,aq,ai];refine ad.ay rfl rfl rfl (EK s.pen low ⟨by omega,by omega⟩ ⟨by omega,by omega⟩ _) ?_;apply sR;simp only [go_sem,seval,w4,gb,ca,cf,aq,ai,dc];obtain ⟨p,hp⟩:∃p:Pn,p=iL s.pen low:=⟨_,rfl⟩
  rw [←hp] at hs1e ⊢;have hs1e':=hs1e;have hJ5:=hJ4.Ex w4 p;have w5:=ag (σ:=τ4) (id:=iw) (o:=⟨125,7,[.agg [va,vf,vI s.height,vI p.y,vI p.m,aI l,cg rs]]⟩);have b5:upd τ4 iw ⟨125,7,[.agg [va,vf,vI s.height,vI p.y,vI p.m,aI l,cg rs]]⟩ i4=some ⟨71,12,[jg l[a].st]⟩:=by rw [ab n4.symm]; exact b4
  obtain ⟨hp1,hp2,hp3,hp4⟩:0≤p.y∧0≤p.m∧p.m≤1099511627776∧p.y+p.m≤1099511627776*(C:Int):=by
   rw [hp];have hy:=hfo.yB;have hy0:=hfo.y0;have hh0:=hfo.h0;unfold iL;split <;> (try simp only) <;> omega
  clear hp;generalize upd τ4 iw ⟨125,7,[.agg [va,vf,vI s.height,vI p.y,vI p.m,aI l,cg rs]]⟩=τ5 at *;rw [jg] at b5;have hst:=hno.st;have k1:=hst.top;have k2:=hst.padTop;have k3:=hst.bottom;have k4:=hst.padBottom;refine ad.qS (by kernel_rfl) [0,1,2,3,4,5,6,7,8,9,10,11,12] [[],[],[1],[1,2],[1,2,3],[],[5],[],[7],[1,2,3,4,5,6,7,8],[0,1,2,3,4,5,6,7,8,9],[0,1,2,3,4,5,6,7,8,9,10],[0,1,2,3,4,5,6,7,8,9,10,11]] [0,2,4,6,8,10,12,14,16,18,20,22,24] (by kernel_rfl) (by kernel_rfl) ?_;refine RE.seg (n:=0) [18,20,22,24] [0,2,4,6,8,10,12,14,16] [⟨(.some 36),(.mov (.t 0)),.none⟩,⟨(.some 37),(.mov (.t 0)),.none⟩,⟨(.some 38),(.nilCheck (.t 37)),.none⟩,⟨(.some 39),(.fldA .true 3 2 (.t 38)),.none⟩,⟨(.some 40),(.load .true 2 (.t 39)),.none⟩,⟨(.some 41),(.fldA .false 0 1 (.t 4)),.none⟩,⟨(.some 42),(.load .false 1 (.t 41)),.none⟩,⟨(.some 43),(.fldA .false 2 1 (.t 4)),.none⟩,⟨(.some 44),(.load .false 1 (.t 43)),.none⟩] rfl rfl ?_;apply sG;simp only [go_sem,seval,w5,b5,ca,cf,aq,ai];refine RE.ay rfl rfl rfl rfl rfl (Bm p l[a].st.top l[a].st.padTop ⟨by omega,by omega⟩ ⟨by omega,by omega⟩ ⟨by omega,by omega⟩ ⟨by omega,by omega⟩ _) ?_;refine RE.seg (n:=0) [] [20,22,24] [⟨(.some 46),(.nilCheck (.t 36)),.none⟩,⟨(.some 47),(.fldA .true 3 2 (.t 46)),.none⟩,⟨.none,(.store 2 (.t 47) (.t 45)),.none⟩] rfl rfl ?_;apply sG;simp only [go_sem,seval,w5,gb,ca,cf,aq,ai];have hJ6:=hJ5.Ex w5 (dZ p l[a].st.top l[a].st.padTop);rw [←hs1e'] at hJ6;have r1:inR .i64 ((a:Int)+1):=ak (by omega) (by omega);have r2:inR .i64 ((a:Int)+l[a].size):=ak (by omega) (by omega);have w6:=ag (σ:=τ5) (id:=iw) (o:=⟨125,7,[.agg [va,vf,vI s.height,vI (dZ p l[a].st.top l[a].st.padTop).y,vI (dZ p l[a].st.top l[a].st.padTop).m,aI l,cg rs]]⟩);have hc:=hrow s1 _ _ hJ6 hI1;rw [←q2,←q3] at hc;generalize upd τ5 iw ⟨125,7,[.agg [va,vf,vI s.height,vI (dZ p l[a].st.top l[a].st.padTop).y,vI (dZ p l[a].st.top l[a].st.padTop).m,aI l,cg rs]]⟩=τ6 at *;apply sR;simp only [go_sem,seval,w6,hidx,Nd.cells,r1,r2,ca,cf,aq,ai,aj];refine ad.call rfl rfl rfl hc ?_;rintro r σ7 ⟨rfl,hJ7⟩;have hI7:=fS hD (a+(szI l a).toNat - (a+1)) (a+1) (a+(szI l a).toNat) s1 _ (Nat.le_refl _) (by omega) hsz hrB hI1;have b7:=hJ7.sub _ _ (ag (id:=i4));rw [jg] at b7;generalize df l rs (a+(szI l a).toNat - (a+1)) (a+1) (a+(szI l a).toNat) s1=s2 at *;obtain ⟨va7,vf7,w7,g71,g72,_⟩:=hJ7.row;obtain ⟨ca7,_⟩:=g71.vc;obtain ⟨cf7,_⟩:=g72.vc;have m1:=hI7.bd.m1;have m2:=hI7.bd.m0;have m3:=hI7.bd.y0;have m4:=hI7.bd.yB;apply sR;simp only [go_sem,seval,dc];refine ad.qS (by kernel_rfl) [0,1,2,3,4,5,6,7,8,9,10,11,12] [[],[],[1],[1,2],[1,2,3],[],[5],[],[7],[1,2,3,4,5,6,7,8],[0,1,2,3,4,5,6,7,8,9],[0,1,2,3,4,5,6,7,8,9,10],[0,1,2,3,4,5,6,7,8,9,10,11]] [0,2,4,6,8,10,12,14,16,18,20,22,24] (by kernel_rfl) (by kernel_rfl) ?_;refine RE.seg (n:=0) [18,20,22,24] [0,2,4,6,8,10,12,14,16] [⟨(.some 62),(.mov (.t 0)),.none⟩,⟨(.some 63),(.mov (.t 0)),.none⟩,⟨(.some 64),(.nilCheck (.t 63)),.none⟩,⟨(.some 65),(.fldA .true 3 2 (.t 64)),.none⟩,⟨(.some 66),(.load .true 2 (.t 65)),.none⟩,⟨(.some 67),(.fldA .false 1 1 (.t 4)),.none⟩,⟨(.some 68),(.load .false 1 (.t 67)),.none⟩,⟨(.some 69),(.fldA .false 3 1 (.t 4)),.none⟩,⟨(.some 70),(.load .false 1 (.t 69)),.none⟩] rfl rfl ?_;apply sG;simp only [go_sem,seval,w7,b7,ca7,cf7,aq,ai];refine RE.ay rfl rfl rfl rfl rfl (Bb s2.pen l[a].st.bottom l[a].st.padBottom ⟨by omega,by omega⟩ ⟨by omega,by omega⟩ ⟨by omega,by omega⟩ ⟨by omega,by omega⟩ _) ?_;refine RE.seg (n:=0) [] [20,22,24] [⟨(.some 72),(.nilCheck (.t 62)),.none⟩,⟨(.some 73),(.fldA .true 3 2 (.t 72)),.none⟩,⟨.none,(.store 2 (.t 73) (.t 71)),.none⟩] rfl rfl ?_;apply sG;simp only [go_sem,seval,w7,gb,ca7,cf7,aq,ai];apply sR;simp only [go_sem,seval];exact ⟨_,_,aa.refl _,Wk.refl (aa.refl _) _,rfl,(hJ7.Ex w7 (ky s2.pen l[a].st.bottom l[a].st.padBottom)).narrow h0i n4.symm⟩
open Go.Proofs Go.Proofs.Tryz
theorem C3 {l:List Nd} {rs:List Rm} {b e:Nat} (he:e≤l.length) (hr:bV l b e=true) (hlt:b < e) (s:WS) :
 df l rs (e - b) b e s=df l rs (e - (b+(szI l b).toNat)) (b+(szI l b).toNat) e
  (if (ndA l b).kind=1 then (df l rs (b+(szI l b).toNat - (b+1)) (b+1) (b+(szI l b).toNat) (s.enter (ndA l b).st)).leave (ndA l b).st
   else if (ndA l b).kind=2 then s.text rs b (ndA l b) else if (ndA l b).kind=3 then WS.mono l rs s b (ndA l b) else s.float rs b (ndA l b)):=by
 obtain ⟨h1,h2⟩:=cM he hr (Nat.le_refl b) hlt;obtain ⟨h3,h4⟩:=dL he hr hlt;rw [show e - b=(e - b - 1)+1 by omega,df,if_pos hlt,l4 (e:=b+(szI l b).toNat) (by omega) (e - b - 1) _ _ _ (by omega) (Nat.le_refl _) h4,l4 he (e - b - 1) _ _ _ (by omega) (Nat.le_refl _) h3]
theorem JD {l:List Nd} {rs:List Rm} (hD:DOk l rs) (hwl:∀n∈l,n.words.length≤10000) {iw:Nat}:∀(m a e C:Nat),e - a < m→a≤e→e≤l.length→bV l a e=true→C+cst l a e≤50000→Mi l rs iw a e C:=by
 intro m
 induction m with
 | zero=>intro a e C h; omega
 | succ m ih=>?_
 intro a e C hm hae he hrB hC s σ0 σ hJ hI;have hfine:=hD.rC;refine e50.r (by simp [c50]) ?_;refine ad.mix 7 ?_;obtain ⟨va0,vf0,w0,_,_,_⟩:=hJ.row;have hb1:∀f:FuncId,(V.bm f [.ptr iw 0 0]).cells=[.bm f [.ptr iw 0 0]]:=fun _=>rfl;have hb2:∀f:FuncId,(V.bm f [.ptr iw 0 0]).stays=true:=fun _=>rfl;have hnf:V.nilfn.cells=[.nilfn]:=rfl;apply sR;simp only [go_sem,seval,c50,hb1,hb2,hnf];refine ae fun i6 σ6 s6 a6 f6=>?_;have n6:=ao w0 f6;simp only [go_sem,seval,a6,hb1,hb2,hnf];generalize hq6:upd σ6 i6 _=τ6;have b6:τ6 i6=some ⟨167,5,[.agg [.nilfn, .bm 80 [.ptr iw 0 0], .bm 81 [.ptr iw 0 0], .bm 82 [.ptr iw 0 0], .bm 83 [.ptr iw 0 0]]]⟩:=by rw [←hq6]; exact ag
 have s6':aa σ τ6:=by rw [←hq6]; exact s6.aB f6
 clear hq6;have h0i:σ0 i6=none:=hJ.sub.none f6;have hJ6:=(hJ.mono s6').mT b6 (by simp) (by simp) n6.symm;refine ad.loop (fun q st=>∃(b:Nat) (s':WS),q=e - b∧a≤b∧b≤e∧bV l b e=true∧df l rs (e - a) a e s=df l rs (e - b) b e s'∧fp s' (C+cst l a b) ∧
  WkJ l rs (upd σ0 i6 ⟨167,5,[.agg [.nilfn, .bm 80 [.ptr iw 0 0], .bm 81 [.ptr iw 0 0], .bm 82 [.ptr iw 0 0], .bm 83 [.ptr iw 0 0]]]⟩) iw s' st.σ ∧
  st.s 0=.ptr iw 0 0∧st.s 1=vI b∧st.s 2=vI e∧st.s 6=.ptr i6 0 0) (e - a) ?_ ?_
 ·exact ⟨a,s,rfl,Nat.le_refl _,hae,hrB,rfl,by rw [Hk]; exact hI,hJ6,rfl,rfl,rfl,rfl⟩
 ·rintro q ⟨S,τ⟩ ⟨b,s',rfl,hab,hbe,hbB,heq,hIb,hJb,t0,t1,t2,t6⟩;simp only at hJb t0 t1 t2 t6;refine ad.mix 7 ?_;by_cases hlt:b < e
  ·have q1:((b:Int) < (e:Int))=True:=eq_true (by omega);obtain ⟨h1,h2⟩:=cM he hbB (Nat.le_refl b) hlt;obtain ⟨h3,h4⟩:=dL he hbB hlt;have hbl:b < l.length:=by omega
   have hno:=fM hD.isb hbl;have hsz:=kB hbl;have hidx:=iO l hbl;have hc1:cst l a e=cst l a b+cst l b e:=ku hab hbe he;have hc2:cst l b e=cst l b (b+(szI l b).toNat)+cst l (b+(szI l b).toNat) e:=ku (by omega) (by omega) he;have hc3:cst l b (b+(szI l b).toNat)=4+(ndA l b).words.length+cst l (b+1) (b+(szI l b).toNat):=tC (by omega) (by omega);have hc4:cst l a (b+(szI l b).toNat)=cst l a b+cst l b (b+(szI l b).toNat):=ku hab (by omega) (by omega);have hnd:=iE hbl;have q3:((b:Int)+l[b].size)=((b+(szI l b).toNat:Nat):Int):=by rw [hsz]; omega
   have r2:inR .i64 ((b:Int)+l[b].size):=ak (by omega) (by omega);have hst:=C3 (rs:=rs) he hbB hlt s';rw [hnd] at hst hc3;have c6:=hJb.sub _ _ (ag (id:=i6));obtain ⟨va,vf,w1,g1,g2,_⟩:=hJb.row;obtain ⟨ca,_⟩:=g1.vc;obtain ⟨cf,_⟩:=g2.vc;have hBb:=hIb.bd.mono (C:=288230376151711744) (by omega);have hfin:∀s2,s2=(if l[b].kind=1 then (df l rs (b+(szI l b).toNat - (b+1)) (b+1) (b+(szI l b).toNat) (s'.enter l[b].st)).leave l[b].st
    else if l[b].kind=2 then s'.text rs b l[b] else if l[b].kind=3 then WS.mono l rs s' b l[b] else s'.float rs b l[b])→fp s2 (C+cst l a (b+(szI l b).toNat)):=by
     rintro s2 rfl;rw [hc4,hc3];split
     ·exact (jc (fS hD _ (b+1) (b+(szI l b).toNat) _ _ (Nat.le_refl _) (by omega) (by omega) h4 (eH hIb hno.st)) hno.st).more (by omega)
     ·split
      ·exact (jZ hIb hno b).more (by omega)
      ·split
       ·exact (j6 hIb hno b).more (by omega)
       ·rename_i g1 g2 g3;exact (ja hD hIb hbl hno (by have:=hno.kind; omega)).more (by omega)
   rcases hno.kind with hk | hk | hk | hk
   ·apply sR;simp only [go_sem,seval,q1,t0,t1,t2,t6,w1,c6,hidx,Nd.cells,hk,ca,cf,hb1,hb2,hnf,aq,ai,aj];refine ad.j9 rfl rfl rfl (ET hD hJb hIb (by omega) b hbl (ih (b+1) (b+(szI l b).toNat) _ (by omega) (by omega) (by omega) h4 (by omega)) (by omega) (by omega) h4 h2) ?_;rintro r σ' ⟨rfl,hJ'⟩;have w2':=hJ'.row;obtain ⟨va2,vf2,w2,g12,g22,_⟩:=w2';obtain ⟨ca2,_⟩:=g12.vc;obtain ⟨cf2,_⟩:=g22.vc;apply sR;simp only [go_sem,seval,t0,t1,t2,t6,w2,hidx,Nd.cells,r2,ca2,cf2,aq,ai,aj];refine ⟨_,?_,b+(szI l b).toNat,_,rfl,by omega,by omega,h3,by rw [heq,hst],hfin _ rfl,?_,by simp [t0,t2,t6,q3]⟩
    ·omega
    ·simpa [hk] using hJ'
   ·apply sR;simp only [go_sem,seval,q1,t0,t1,t2,t6,w1,c6,hidx,Nd.cells,hk,ca,cf,hb1,hb2,hnf,aq,ai,aj];refine ad.j9 rfl rfl rfl (Hj hD hJb hBb (by omega) b hbl (by have:=hIb.at'; omega) (by have:=hIb.fl; omega) (hwl _ (List.getElem_mem hbl))) ?_;rintro r σ' ⟨rfl,hJ'⟩;have w2':=hJ'.row;obtain ⟨va2,vf2,w2,g12,g22,_⟩:=w2';obtain ⟨ca2,_⟩:=g12.vc;obtain ⟨cf2,_⟩:=g22.vc;apply sR;simp only [go_sem,seval,t0,t1,t2,t6,w2,hidx,Nd.cells,r2,ca2,cf2,aq,ai,aj];refine ⟨_,?_,b+(szI l b).toNat,_,rfl,by omega,by omega,h3,by rw [heq,hst],hfin _ rfl,?_,by simp [t0,t2,t6,q3]⟩
    ·omega
    ·simpa [hk] using hJ'
   ·apply sR;simp only [go_sem,seval,q1,t0,t1,t2,t6,w1,c6,hidx,Nd.cells,hk,ca,cf,hb1,hb2,hnf,aq,ai,aj];refine ad.j9 rfl rfl rfl (HU hD hJb hBb (by omega) b hbl hk (by have:=hIb.at'; omega) (by have:=hIb.fl; omega)) ?_;rintro r σ' ⟨rfl,hJ'⟩;have w2':=hJ'.row;obtain ⟨va2,vf2,w2,g12,g22,_⟩:=w2';obtain ⟨ca2,_⟩:=g12.vc;obtain ⟨cf2,_⟩:=g22.vc;apply sR;simp only [go_sem,seval,t0,t1,t2,t6,w2,hidx,Nd.cells,r2,ca2,cf2,aq,ai,aj];refine ⟨_,?_,b+(szI l b).toNat,_,rfl,by omega,by omega,h3,by rw [heq,hst],hfin _ rfl,?_,by simp [t0,t2,t6,q3]⟩
    ·omega
    ·simpa [hk] using hJ'
   ·apply sR;simp only [go_sem,seval,q1,t0,t1,t2,t6,w1,c6,hidx,Nd.cells,hk,ca,cf,hb1,hb2,hnf,aq,ai,aj];refine ad.j9 rfl rfl rfl (FO hD hJb hBb (by omega) b hbl (by have:=hIb.at'; omega) (by have:=hIb.fl; omega)) ?_;rintro r σ' ⟨rfl,hJ'⟩;have w2':=hJ'.row;obtain ⟨va2,vf2,w2,g12,g22,_⟩:=w2';obtain ⟨ca2,_⟩:=g12.vc;obtain ⟨cf2,_⟩:=g22.vc;apply sR;simp only [go_sem,seval,t0,t1,t2,t6,w2,hidx,Nd.cells,r2,ca2,cf2,aq,ai,aj];refine ⟨_,?_,b+(szI l b).toNat,_,rfl,by omega,by omega,h3,by rw [heq,hst],hfin _ rfl,?_,by simp [t0,t2,t6,q3]⟩
    ·omega
    ·simpa [hk] using hJ'
  ·have q1:((b:Int) < (e:Int))=False:=eq_false (by omega);apply sR;simp only [go_sem,seval,q1,t0,t1,t2,t6];refine ⟨_,_,aa.refl _,Wk.refl (aa.refl _) _,rfl,?_⟩;have hz:df l rs (e - b) b e s'=s':=by rw [show e - b=0 by omega]; rfl
   rw [heq,hz];exact hJb.narrow h0i n6.symm
open Go.Proofs Go.Proofs.Tryz
def mP (n:Nat) (f:Flo):Flo:={ f with anchor:=max 0 (min f.anchor ((n:Int) - 1)) }
def xL (s:WS):Int:=if (dN (kQ 3) s.floats).2 then max (s.pen.y+s.pen.m) (dN (kQ 3) s.floats).1 else s.pen.y+s.pen.m
def WS.fin (s:WS):WS:={ s with height:=xL s,floats:=s.floats.map (mP s.atoms.length) }
def gm (n j:Nat) (l:List Flo):List Flo:=(l.take j).map (mP n)++l.drop j
theorem me (n j:Nat) (l:List Flo):(gm n j l).length=l.length:=by unfold gm; simp; omega
theorem uN {n j:Nat} {l:List Flo} (h:j < l.length):(gm n j l)[j]?=some l[j]:=by
 unfold gm;rw [List.getElem?_append_right (by simp; omega)];simp [h,Nat.min_eq_left (Nat.le_of_lt h)]
theorem vj {n j:Nat} {l:List Flo} (h:j < l.length):(gm n j l).set j (mP n l[j])=gm n (j+1) l:=by
 unfold gm;have e1:((l.take j).map (mP n)).length=j:=by simp; omega
 have e2:l.drop j=l[j]::l.drop (j+1):=List.drop_eq_getElem_cons h;rw [List.set_append_right _ _ (by omega),e1,Nat.sub_self,e2,List.set_cons_zero,List.take_succ_eq_append_getElem h,List.map_append];simp
theorem WkJ.Iu {l:List Nd} {rs:List Rm} {σ0 τ:af} {iw:Nat} {s:WS} (hJ:WkJ l rs σ0 iw s τ) {va vf:V} {h0:Int} (w:τ iw=some ⟨125,7,[.agg [va,vf,vI h0,vI s.pen.y,vI s.pen.m,aI l,cg rs]]⟩) (h:Int) :
 WkJ l rs σ0 iw { s with height:=h } (upd τ iw ⟨125,7,[.agg [va,vf,vI h,vI s.pen.y,vI s.pen.m,aI l,cg rs]]⟩):=by
 obtain ⟨va',vf',w',g1,g2,g3⟩:=hJ.row;rw [w] at w';simp only [Oi,Ob.mk.injEq,List.cons.injEq,V.agg.injEq,true_and,and_true] at w';obtain ⟨rfl,rfl,_⟩:=w';exact ⟨hJ.sub.aB hJ.no,hJ.no,va,vf,ag,g1.Av,g2.Av,g3⟩
theorem JL {l:List Nd} {rs:List Rm} {σ0 σ:af} {iw:Nat} {s:WS} {C:Nat} (hJ:WkJ l rs σ0 iw s σ) (hI:fp s C) (hC:C≤100000) :
 az prog 51 [.ptr iw 0 0] σ fun r σ'=>r=.tup []∧WkJ l rs σ0 iw s.fin σ':=by
 obtain ⟨va,vf,w1,ha1,hf1,hf2⟩:=hJ.row;obtain ⟨ca,sa⟩:=ha1.vc;obtain ⟨cf,sf⟩:=hf1.vc;have hB:=hI.bd;have hm:=hB.m1;have hm0:=hB.m0;have hy0:=hB.y0;have hyB:=hB.yB;have hfl:=hI.fl;have hal:=hI.at';have hla:dD false va=some (.int .i64 s.atoms.length):=by rw [ha1.len]; simp
 have hlf:dD false vf=some (.int .i64 s.floats.length):=by rw [hf1.len]; simp
 refine e51.r (by simp [c51]) ?_;refine ad.mix 5 ?_;apply sR;simp only [go_sem,seval,c51,w1,ca,cf,aq,ai];refine ad.ay rfl rfl rfl (CH s.pen ⟨by omega,by omega⟩ ⟨by omega,by omega⟩ _) ?_;apply sR;simp only [go_sem,seval,w1,ca,cf,aq,ai];have hJ2:=hJ.Iu w1 (s.pen.y+s.pen.m);have w2:=ag (σ:=σ) (id:=iw) (o:=⟨125,7,[.agg [va,vf,vI (s.pen.y+s.pen.m),vI s.pen.y,vI s.pen.m,aI l,cg rs]]⟩);have hf3:=hf1.Av (o:=⟨125,7,[.agg [va,vf,vI (s.pen.y+s.pen.m),vI s.pen.y,vI s.pen.m,aI l,cg rs]]⟩);generalize upd σ iw ⟨125,7,[.agg [va,vf,vI (s.pen.y+s.pen.m),vI s.pen.y,vI s.pen.m,aI l,cg rs]]⟩=τ2 at *;refine ad.ay rfl rfl rfl (aU.xr (args':=[aJ s.floats,vI 3]) ⟨hf3.FE.at,wkN _,trivial⟩ (zb s.floats 3 (by omega) (hB.flo (by omega))) rfl) ?_;cases hlow:(dN (kQ 3) s.floats).2
 ·have hh:xL s=s.pen.y+s.pen.m:=by unfold xL; rw [hlow]; rfl
  apply sR;simp only [go_sem,seval,w2,ca,cf,hlf,aq,ai];have hJ3:WkJ l rs σ0 iw { s with height:=xL s } τ2:=by rw [hh]; exact hJ2
  refine ad.loop (fun m st=>∃j:Nat,j≤s.floats.length∧m=s.floats.length - j∧WkJ l rs σ0 iw { s with height:=xL s,floats:=gm s.atoms.length j s.floats } st.σ∧st.s 0=.ptr iw 0 0∧st.s 40=vI s.floats.length∧st.s 41=vI j) s.floats.length ?_ ?_
  ·exact ⟨0,by omega,rfl,by simpa [gm] using hJ3,rfl,rfl,rfl⟩
  ·rintro m ⟨S,τ⟩ ⟨j,hj,rfl,hJj,t0,t40,t41⟩;simp only at hJj t0 t40 t41;refine ad.mix 5 ?_;by_cases hlt:j < s.floats.length
   ·have q:((j:Int) < s.floats.length)=True:=eq_true (by omega);obtain ⟨va4,vf4,w4,g1,g2,g3⟩:=hJj.row;simp only at w4 g1 g2 g3;obtain ⟨ca4,_⟩:=g1.vc;have hla4:dD false va4=some (.int .i64 s.atoms.length):=by rw [g1.len]; simp
    have hlen4:=me s.atoms.length j s.floats;rcases g2 with ⟨_,h0⟩ | ⟨id,rfl,h2,h3⟩
    ·exfalso;have:=congrArg List.length h0;rw [List.length_map,hlen4] at this;simp only [List.length_nil] at this; omega
    have hget:=uN (n:=s.atoms.length) hlt;have hset:=vj (n:=s.atoms.length) hlt;have hget2:((gm s.atoms.length j s.floats).map aO)[j]?=some (aO s.floats[j]):=by rw [List.getElem?_map,hget]; rfl
    have hrl:((gm s.atoms.length j s.floats).map aO).length=s.floats.length:=by rw [List.length_map,hlen4]
    have hid:∀n,n=s.floats.length→bD τ 7 (.own id 0 n) (.int .i64 j)=some (.ptr id j 0):=fun n hn=>by subst hn; rw [←hrl]; exact jH h2 (by rw [hrl]; exact hlt)
    generalize hfj:s.floats[j]=f at *;have hen:aO f=.agg [vI f.node,vI f.side,vI f.anchor,vI f.x,vI f.y,vI f.w,vI f.h]:=rfl;rw [hen] at hget2;have r1:inR .i64 ((s.atoms.length:Int) - 1):=ak (by omega) (by omega);have r2:inR .i64 ((j:Int)+1):=ak (by omega) (by omega);have cf4:(V.own id 0 s.floats.length).cells=[.own id 0 s.floats.length]:=rfl;rw [hrl] at w4;apply sR;simp only [go_sem,seval,t0,t40,t41,q,w4,ca4,cf4,hla4,h2,hid _ rfl,hget2,r1,r2,cL,eI,aq,ai];have hne:iw≠id:=(aF.1 h3).1.symm;have hlen5:=me s.atoms.length (j+1) s.floats;refine ⟨_,by omega,j+1,by omega,rfl,⟨hJj.sub.aB (aF.1 h3).2,hJj.no,va4, .own id 0 s.floats.length,by rw [ab hne]; exact w4,?_, .inr ⟨id,by rw [List.length_map,hlen5],?_,h3⟩,fun h=>?_⟩,rfl⟩
    ·rcases g1 with h | ⟨i1,k1,k2,k3⟩
     ·exact .inl h
     ·have hne1:i1≠id:=fun e=>by rw [e,h2] at k2; simp at k2
      exact .inr ⟨i1,k1,by rw [ab hne1]; exact k2,k3⟩
    ·rw [ag,←hset,List.map_set]; rfl
    ·have:=congrArg List.length h;rw [hlen5] at this;simp only [List.length_nil] at this; omega
   ·have q:((j:Int) < s.floats.length)=False:=eq_false (by omega);apply sR;simp only [go_sem,seval,t0,t40,t41,q];refine ⟨_,_,aa.refl _,Wk.refl (aa.refl _) _,rfl,?_⟩;have he:gm s.atoms.length j s.floats=s.floats.map (mP s.atoms.length):=by
     unfold gm;rw [List.take_of_length_le (by omega),List.drop_of_length_le (by omega),List.append_nil]
    rw [he] at hJj;exact hJj
 ·have hh:xL s=max (s.pen.y+s.pen.m) (dN (kQ 3) s.floats).1:=by unfold xL; rw [hlow]; rfl
  generalize (dN (kQ 3) s.floats).1=low at *;apply sR;simp only [go_sem,seval,w2,ca,cf,hlf,cL,aq,ai];have hJ3:=hJ2.Iu w2 (max (s.pen.y+s.pen.m) low);simp only at hJ3;rw [←hh] at hJ3 ⊢;refine ad.loop (fun m st=>∃j:Nat,j≤s.floats.length∧m=s.floats.length - j∧WkJ l rs σ0 iw { s with height:=xL s,floats:=gm s.atoms.length j s.floats } st.σ∧st.s 0=.ptr iw 0 0∧st.s 40=vI s.floats.length∧st.s 41=vI j) s.floats.length ?_ ?_
  ·exact ⟨0,by omega,rfl,by simpa [gm] using hJ3,rfl,rfl,rfl⟩
  ·rintro m ⟨S,τ⟩ ⟨j,hj,rfl,hJj,t0,t40,t41⟩;simp only at hJj t0 t40 t41;refine ad.mix 5 ?_;by_cases hlt:j < s.floats.length
   ·have q:((j:Int) < s.floats.length)=True:=eq_true (by omega);obtain ⟨va4,vf4,w4,g1,g2,g3⟩:=hJj.row;simp only at w4 g1 g2 g3;obtain ⟨ca4,_⟩:=g1.vc;have hla4:dD false va4=some (.int .i64 s.atoms.length):=by rw [g1.len]; simp
    have hlen4:=me s.atoms.length j s.floats;rcases g2 with ⟨_,h0⟩ | ⟨id,rfl,h2,h3⟩
    ·exfalso;have:=congrArg List.length h0;rw [List.length_map,hlen4] at this;simp only [List.length_nil] at this; omega
    have hget:=uN (n:=s.atoms.length) hlt;have hset:=vj (n:=s.atoms.length) hlt;have hget2:((gm s.atoms.length j s.floats).map aO)[j]?=some (aO s.floats[j]):=by rw [List.getElem?_map,hget]; rfl
    have hrl:((gm s.atoms.length j s.floats).map aO).length=s.floats.length:=by rw [List.length_map,hlen4]
    have hid:∀n,n=s.floats.length→bD τ 7 (.own id 0 n) (.int .i64 j)=some (.ptr id j 0):=fun n hn=>by subst hn; rw [←hrl]; exact jH h2 (by rw [hrl]; exact hlt)
    generalize hfj:s.floats[j]=f at *;have hen:aO f=.agg [vI f.node,vI f.side,vI f.anchor,vI f.x,vI f.y,vI f.w,vI f.h]:=rfl;rw [hen] at hget2;have r1:inR .i64 ((s.atoms.length:Int) - 1):=ak (by omega) (by omega);have r2:inR .i64 ((j:Int)+1):=ak (by omega) (by omega);have cf4:(V.own id 0 s.floats.length).cells=[.own id 0 s.floats.length]:=rfl;rw [hrl] at w4;apply sR;simp only [go_sem,seval,t0,t40,t41,q,w4,ca4,cf4,hla4,h2,hid _ rfl,hget2,r1,r2,cL,eI,aq,ai];have hne:iw≠id:=(aF.1 h3).1.symm;have hlen5:=me s.atoms.length (j+1) s.floats;refine ⟨_,by omega,j+1,by omega,rfl,⟨hJj.sub.aB (aF.1 h3).2,hJj.no,va4, .own id 0 s.floats.length,by rw [ab hne]; exact w4,?_, .inr ⟨id,by rw [List.length_map,hlen5],?_,h3⟩,fun h=>?_⟩,rfl⟩
    ·rcases g1 with h | ⟨i1,k1,k2,k3⟩
     ·exact .inl h
     ·have hne1:i1≠id:=fun e=>by rw [e,h2] at k2; simp at k2
      exact .inr ⟨i1,k1,by rw [ab hne1]; exact k2,k3⟩
    ·rw [ag,←hset,List.map_set]; rfl
    ·have:=congrArg List.length h;rw [hlen5] at this;simp only [List.length_nil] at this; omega
   ·have q:((j:Int) < s.floats.length)=False:=eq_false (by omega);apply sR;simp only [go_sem,seval,t0,t40,t41,q];refine ⟨_,_,aa.refl _,Wk.refl (aa.refl _) _,rfl,?_⟩;have he:gm s.atoms.length j s.floats=s.floats.map (mP s.atoms.length):=by
     unfold gm;rw [List.take_of_length_le (by omega),List.drop_of_length_le (by omega),List.append_nil]
    rw [he] at hJj;exact hJj
open Go.Proofs Go.Proofs.Tryz
structure Gal where
 atoms:List Atm
 floats:List Flo
 height:Int
def pY (g:Gal):V:=.agg [bu g.atoms,aJ g.floats,vI g.height]
def gG (l:List Nd) (w:Int):List Rm:=cF l l.length 0 l.length ⟨0,w⟩
def Li (l:List Nd) (w:Int):WS:=(df l (gG l w) l.length 0 l.length ⟨[],[],0,⟨0,0⟩⟩).fin
def cm (l:List Nd) (w:Int):Gal:=⟨(Li l w).atoms,(Li l w).floats,(Li l w).height⟩
theorem oY {l:List Nd} (hb:isB l=true):∀(k a e:Nat) (r:Rm),e≤l.length→bV l a e=true→r.ok→∀q∈cF l k a e r,q.ok
 | 0,_,_,_,_,_,_,q,hq=>by simp [cF] at hq
 | k+1,a,e,r,he,hr,hok,q,hq=>by
   rw [cF] at hq;split at hq
   ·rename_i hlt;obtain ⟨h1,h2⟩:=cM he hr (Nat.le_refl a) hlt;obtain ⟨h3,h4⟩:=dL he hr hlt;rcases List.mem_cons.1 hq with rfl | hq
    ·exact hok
    ·rcases List.mem_append.1 hq with hq | hq
     ·obtain ⟨g1,g2,_⟩:=E3 hb (a:=a) (by omega);exact oY hb k _ _ _ (by omega) h4 (vv hok (by rw [g1]; exact g2)) q hq
     ·exact oY hb k _ _ _ he h3 hok q hq
   ·cases hq
theorem sN {l:List Nd} (hb:isB l=true) (hn:l.length≤2000) {w:Int} (h1:1≤w) (h2:w≤1099511627776):DOk l (gG l w):=by
 have hr:bV l 0 l.length=true:=by simp only [isB,Ba] at hb; exact hb.2
 exact ⟨hn,hb,by unfold gG; rw [kC (Nat.le_refl _) _ _ _ (by omega) (by omega) hr]; omega,oY hb _ _ _ _ (Nat.le_refl _) hr ⟨by simp,by simp,h1,h2⟩⟩
theorem zL (l:List Nd) (hl:dE l) (hb:isB l=true) (hn:l.length≤2000) (hwl:∀n∈l,n.words.length≤10000) (hc:cst l 0 l.length≤50000) (hck:aU prog 25 [aI l] (vI 0)) (w:Int) (h1:1≤w) (h2:w≤1099511627776) :
 aU prog 17 [aI l,vI w] (.tup [pY (cm l w),vI 0]):=fun σ=>by
 refine e17.r (by simp [c17]) ?_;have hs:=aa.refl σ;have hD:=sN hb hn h1 h2;have hr:bV l 0 l.length=true:=by simp only [isB,Ba] at hb; exact hb.2
 refine ad.mix 8 ?_;apply sR;simp only [go_sem,seval,c17];refine ae fun i4 σ4 s4 a4 f4=>?_;have z4:=hs.none f4;replace hs:=hs.trans s4;have hmay:=lW w;rw [show decide (1≤w∧w≤1099511627776)=true by simp; omega] at hmay;simp only [go_sem,seval];refine ad.ay rfl rfl rfl (hmay _) ?_;have qz:((0:Int)≠0)=False:=eq_false (fun h=>h rfl);apply sR;simp only [go_sem,seval];refine ad.ay rfl rfl rfl (hck _) ?_;apply sR;simp only [go_sem,seval,qz];refine ad.ay rfl rfl rfl (HX l hl hb w h1 h2 _) ?_;have hrm:cF l l.length 0 l.length ⟨0,w⟩=gG l w:=rfl;rw [hrm];apply sR;simp only [go_sem,seval,ai,aK,aq,wK];refine ae fun i23 σ23 s23 a23 f23=>?_;have hJ:WkJ l (gG l w) σ4 i23 ⟨[],[],0,⟨0,0⟩⟩ σ23:=⟨s23,f23, .aD, .aD,a23,aM.start,aM.start,fun _=>rfl⟩
 have hI:fp ⟨[],[],0,⟨0,0⟩⟩ 0:=⟨⟨by simp,by simp,by simp,by simp,by simp⟩,by simp,by simp⟩
 have hn0:=eD l;simp only [go_sem,seval,hn0];have hrow:=JD hD hwl (l.length+1) 0 l.length 0 (by omega) (by omega) (Nat.le_refl _) hr (by omega) _ _ _ hJ hI;refine ad.call rfl rfl rfl hrow ?_;rintro r σ5 ⟨rfl,hJ5⟩;have hI5:=fS hD (l.length - 0) 0 l.length ⟨[],[],0,⟨0,0⟩⟩ 0 (by omega) (by omega) (Nat.le_refl _) hr hI;apply sR;simp only [go_sem,seval];refine ad.call rfl rfl rfl (JL hJ5 hI5 (by omega)) ?_;rintro r σ6 ⟨rfl,hJ6⟩;have hgl:cm l w=⟨(df l (gG l w) (l.length - 0) 0 l.length ⟨[],[],0,⟨0,0⟩⟩).fin.atoms,(df l (gG l w) (l.length - 0) 0 l.length ⟨[],[],0,⟨0,0⟩⟩).fin.floats,(df l (gG l w) (l.length - 0) 0 l.length ⟨[],[],0,⟨0,0⟩⟩).fin.height⟩:=rfl;rw [hgl];generalize (df l (gG l w) (l.length - 0) 0 l.length ⟨[],[],0,⟨0,0⟩⟩).fin=s at *;obtain ⟨va,vf,w6,g1,g2,_⟩:=hJ6.row;obtain ⟨ca,sa⟩:=g1.vc;obtain ⟨cf,sf⟩:=g2.vc;have b4:=hJ6.sub _ _ a4;have n423:=ao a4 f23;apply sR;simp only [go_sem,seval,w6,b4,ca,sa,cf,sf,aq,ai,ab n423];have hK:aa σ (aZ σ4 i23):=fun i o h=>by
  rw [aZ,if_neg (fun e=>by rw [e,hs.none f23] at h; cases h)]; exact hs _ _ h
 have key:∀ {e sz:Nat} {v:V} {rows:List V} {o:Ob},aM (aZ σ4 i23) σ6 e sz v rows→aM (aZ σ4 i23) (upd σ6 i4 o) e sz v rows:=fun {e sz v rows o} h=>by
  rcases h with h | ⟨id,k1,k2,k3⟩
  ·exact .inl h
  ·exact .inr ⟨id,k1,by rw [ab (fun e=>by rw [e] at k3; rw [(aF.1 k3).2] at a4; cases a4)]; exact k2,k3⟩
 have hfin:∀o,aa σ (upd σ6 i4 o):=fun o=>(hs.trans hJ6.sub).aB z4;refine ⟨_,σ,hfin _,Wk.tup (vs':=[pY ⟨s.atoms,s.floats,s.height⟩,vI 0]) ⟨Wk.agg (vs':=[bu s.atoms,aJ s.floats,vI s.height]) ⟨(key g1).wk hK (hfin _),(key g2).wk hK (hfin _),Wk.refl (hfin _) _,trivial⟩,Wk.refl (hfin _) _,trivial⟩,rfl,rfl⟩
open Go.Proofs Go.Proofs.Tryz
def tG (node:Int):List Int→Nat
 | []=>0
 | x::r=>if x=node then tG node r+1 else 0
theorem Ik (node:Int):∀l,tG node l≤l.length
 | []=>by simp [tG]
 | x::r=>by
   rw [tG];split
   ·have:=Ik node r; simp only [List.length_cons]; omega
   ·simp
def kz (of:List Int) (fr:Nat) (node:Int):Nat:=tG node (of.drop fr)
theorem uO (of:List Int) (fr:Nat) (node:Int):kz of fr node≤of.length - fr:=by
 have:=Ik node (of.drop fr);rw [List.length_drop] at this;exact this
def okN (x:Nd) (n:Nat):Bool:=if x.kind=2 then decide (1≤n∧n≤x.words.length) else if x.kind=3 then decide (n=1) else decide (n=0)
def yF (of:List Int):List Nd→Nat→Nat→Bool
 | [],_,at'=>decide (at'=of.length)
 | x::r,i,at'=>okN x (kz of at' i) && yF of r (i+1) (at'+kz of at' i)
def px (l:List Nd) (of:List Int):Bool:=yF of l 0 0
def mV (l:List Nd) (of:List Int):V:=.agg [aI l,bj of]
theorem la (l:List Nd) (of:List Int):(mV l of).cells=[aI l,bj of]:=rfl
theorem lg (l:List Nd) (of:List Int):(mV l of).stays=true:=rfl
theorem H6 (l:List Nd) (of:List Int) (hn:of.length≤1000000) (fr:Nat) (hf:fr≤of.length) (node:Int):aU prog 124 [mV l of,vI fr,vI node] (vI (kz of fr node)):=fun σ=>by
 refine Oq.r (by simp [I4]) ?_;have hs:=aa.refl σ;have hl:=eY of;have htl:=uO of fr node;refine ad.mix 8 ?_;apply sR;simp only [go_sem,seval,I4,la,lg,ai,aj,al,aK];refine ae fun i3 σ3 s3 a3 f3=>?_;have z3:=hs.none f3;replace hs:=hs.trans s3;have a3':σ3 i3=some ⟨172,2,[.agg [aI l,bj of]]⟩:=a3;simp only [go_sem,seval];refine ad.loop (fun m st=>∃j:Nat,fr+j≤of.length∧m=of.length - (fr+j)∧kz of fr node=j+tG node (of.drop (fr+j))∧st.σ=σ3∧st.s 1=vI fr∧st.s 2=vI node∧st.s 3=.ptr i3 0 0∧st.s 7=vI j) (of.length - fr) ?_ ?_
 ·exact ⟨0,by omega,by omega,by simp [kz],rfl,rfl,rfl,rfl,rfl⟩
 ·rintro m ⟨S,τ⟩ ⟨j,hj,rfl,ht,hσ,t1,t2,t3,t7⟩;simp only at hσ t1 t2 t3 t7;subst hσ;refine ad.mix 8 ?_;have hjj:(fr:Int)+(j:Int)=((fr+j:Nat):Int):=by omega
  have r1:inR .i64 ((fr:Int)+j):=ak (by omega) (by omega);have r2:inR .i64 ((j:Int)+1):=ak (by omega) (by omega);by_cases hlt:fr+j < of.length
  ·have q:(((fr+j:Nat):Int) < of.length)=True:=eq_true (by omega);have hidx:=fun σ=>gF (σ:=σ) hlt;rw [List.drop_eq_getElem_cons hlt,tG] at ht;generalize of[fr+j]=x at *;rw [hjj] at r1;by_cases hx:x=node
   ·rw [if_pos hx] at ht;have q2:(x=node)=True:=eq_true hx;apply sR;simp only [go_sem,seval,t1,t2,t3,t7,a3',hl,hjj,q,q2,hidx,r1,r2,ai,aj];exact ⟨_,by omega,j+1,by omega,rfl,by rw [ht,show fr+(j+1)=fr+j+1 by omega]; omega,by simp [t1,t2,t3]⟩
   ·rw [if_neg hx] at ht;have q2:(x=node)=False:=eq_false hx;apply sR;simp only [go_sem,seval,t1,t2,t3,t7,a3',hl,hjj,q,q2,hidx,r1,r2,ai,aj];exact ar.pure hs (by rw [ht]; simp)
  ·have q:(((fr+j:Nat):Int) < of.length)=False:=eq_false (by omega);rw [List.drop_of_length_le (by omega),tG] at ht;rw [hjj] at r1;apply sR;simp only [go_sem,seval,t1,t2,t3,t7,a3',hl,hjj,q,r1,r2,ai,aj];exact ar.pure hs (by rw [ht]; simp)
theorem LB (l:List Nd) (hll:l.length≤100000) (of:List Int) (hn:of.length≤1000000) (hm:px l of=true):aU prog 86 [mV l of] (.bool true):=fun σ=>by
 refine e86.r (by simp [c86]) ?_;have hs:=aa.refl σ;have hl:=eY of;have hnl:=eD l;refine ad.mix 7 ?_;apply sR;simp only [go_sem,seval,c86,la,lg,ai,aj,al,aK];refine ae fun i1 σ1 s1 a1 f1=>?_;have z1:=hs.none f1;replace hs:=hs.trans s1;have a1':σ1 i1=some ⟨172,2,[.agg [aI l,bj of]]⟩:=a1;simp only [go_sem,seval,a1',hnl,ai,aj];refine ad.loop (fun m st=>∃(i at':Nat),i≤l.length∧m=l.length - i∧at'≤of.length∧yF of (l.drop i) i at'=true∧aa σ1 st.σ∧st.s 1=.ptr i1 0 0∧st.s 3=vI at'∧st.s 8=aI l∧st.s 9=vI l.length∧st.s 10=vI i) l.length ?_ ?_
 ·exact ⟨0,0,by omega,rfl,by omega,by simpa [px] using hm,aa.refl _,rfl,rfl,rfl,rfl,rfl⟩
 ·rintro m ⟨S,τ⟩ ⟨i,at',hi,rfl,hat,hmk,hsub,t1,t3,t8,t9,t10⟩;simp only at hsub t1 t3 t8 t9 t10;refine ad.mix 7 ?_;have b1:=hsub _ _ a1';by_cases hlt:i < l.length
  ·have q:((i:Int) < l.length)=True:=eq_true (by omega);have hidx:=iO l hlt;rw [List.drop_eq_getElem_cons hlt,yF,Ba] at hmk;obtain ⟨hok,hmk⟩:=hmk;have htl:=uO of at' i;have htc:=H6 l of hn at' hat i;generalize kz of at' i=n at *;generalize l[i]=x at *;apply sR;simp only [go_sem,seval,t1,t3,t8,t9,t10,q,hidx,Nd.cells];refine ae fun i5 σ5 s5 a5 f5=>?_;have c1:=s5 _ _ b1;have n15:=ao b1 f5;simp only [go_sem,seval,a5,c1,t1,t3,t8,t9,t10,ab n15,ai,aj,al];refine ad.ay rfl rfl rfl (htc _) ?_;have hwl:dD false (bj x.words)=some (.int .i64 x.words.length):=eY _;have r1:inR .i64 ((i:Int)+1):=ak (by omega) (by omega);have r2:inR .i64 ((at':Int)+n):=ak (by omega) (by omega);have q5:((at':Int)+n)=((at'+n:Nat):Int):=by omega
   rw [q5] at r2;unfold okN at hok;by_cases k2:x.kind=2
   ·rw [if_pos k2] at hok;simp only [decide_eq_true_eq] at hok;have p1:((n:Int) < 1)=False:=eq_false (by omega);have p2:((n:Int) > x.words.length)=False:=eq_false (by omega);have p0:(x.kind=2)=True:=eq_true k2;apply sR;simp only [go_sem,seval,t1,t3,t8,t9,t10,c1,ab n15,p0,p1,p2,hwl,r1,r2,q5,aj,al];exact ⟨_,by omega,i+1,at'+n,by omega,rfl,by omega,hmk,hsub.trans (s5.aB f5),by simp [t1,t8,t9]⟩
   ·rw [if_neg k2] at hok;have p0:(x.kind=2)=False:=eq_false k2;by_cases k3:x.kind=3
    ·rw [if_pos k3] at hok;simp only [decide_eq_true_eq] at hok;have p3:(x.kind=3)=True:=eq_true k3;have p1:((n:Int)≠1)=False:=eq_false (by omega);apply sR;simp only [go_sem,seval,t1,t3,t8,t9,t10,c1,ab n15,p0,p3,p1,r1,r2,q5,aj,al];exact ⟨_,by omega,i+1,at'+n,by omega,rfl,by omega,hmk,hsub.trans (s5.aB f5),by simp [t1,t8,t9]⟩
    ·rw [if_neg k3] at hok;simp only [decide_eq_true_eq] at hok;have p3:(x.kind=3)=False:=eq_false k3;have p1:((n:Int) > 0)=False:=eq_false (by omega);apply sR;simp only [go_sem,seval,t1,t3,t8,t9,t10,c1,ab n15,p0,p3,p1,r1,r2,q5,aj,al];exact ⟨_,by omega,i+1,at'+n,by omega,rfl,by omega,hmk,hsub.trans (s5.aB f5),by simp [t1,t8,t9]⟩
  ·have q:((i:Int) < l.length)=False:=eq_false (by omega);rw [List.drop_of_length_le (by omega),yF,decide_eq_true_eq] at hmk;have q2:((at':Int)=of.length)=True:=eq_true (by omega);apply sR;simp only [go_sem,seval,t1,t3,t8,t9,t10,q,b1,hl,q2,ai,aj];exact ar.pure (hs.trans hsub) rfl
theorem nX (l:List Nd) (hf:dE l) (hb:isB l=true) (of:List Int) (hn:of.length≤1000000) (hm:px l of=true):aU prog 52 [aI l,bj of] (vI 0):=fun σ=>by
 refine e52.r (by simp [c52]) ?_;have hv:=Bl l hf;rw [hb] at hv;have hl1:=hf.1;refine ad.mix 5 ?_;apply sR;simp only [go_sem,seval,c52];refine ad.ay rfl rfl rfl (hv _) ?_;apply sR;simp only [go_sem,seval,ai,aj,al,aK];refine ad.ay rfl rfl rfl (LB l (by omega) of hn hm _) ?_;apply sR;simp only [go_sem,seval];exact ar.same rfl
open Go.Proofs Go.Proofs.Tryz
def vW (l:List Nd) (a b:Int):Bool:=decide (a≤b∧b < a+szI l a.toNat)
theorem Fh (l:List Nd) (hb:isB l=true) (hn:l.length≤100000) (a:Nat) (ha:a < l.length) (b:Int) (h0:0≤b) (h1:b≤1000000):aU prog 198 [aI l,vI a,vI b] (.bool (vW l a b)):=fun σ=>by
 refine Nn.r (by simp [HF]) ?_;have hidx:=iO l ha;have hsz:=kB ha;have hsb:=pd hb ha;refine ad.mix 7 ?_;unfold vW;rw [Int.toNat_natCast,hsz];rw [hsz] at hsb;by_cases h:(a:Int)≤b
 ·have q:((a:Int)≤b)=True:=eq_true h;have r1:inR .i64 ((a:Int)+l[a].size):=ak (by omega) (by omega);apply sR;simp only [go_sem,seval,HF,q,hidx,Nd.cells,r1];exact ar.same (by simp [h])
 ·have q:((a:Int)≤b)=False:=eq_false h;apply sR;simp only [go_sem,seval,HF,q];exact ar.same (by simp [h])
def hAt (l:List Nd) (of:List Int) (b k:Int):Bool:=if 0≤k∧k < of.length then vW l b (of.getD k.toNat 0) else false
theorem AB (l:List Nd) (hb:isB l=true) (hn:l.length≤100000) (of:List Int) (hon:of.length≤1000000) (hof:∀x∈of,0≤x∧x < l.length) (b:Nat) (hbl:b < l.length) (k:Int) {σ:af} {i4 i9:Nat} (h4:σ i4=some ⟨53,1,[bj of]⟩) (h9:σ i9=some ⟨172,2,[mV l of]⟩) :
 az prog 197 [vI b,vI k, .ptr i4 0 0, .ptr i9 0 0] σ fun r σ'=>r=.bool (hAt l of b k)∧σ'=σ:=by
 refine M8.r (by simp [Gj]) ?_;have hl:=eY of;rw [mV] at h9;refine ad.mix 7 ?_;unfold hAt;by_cases hk0:0≤k
 ·have q0:(k≥0)=True:=eq_true hk0;obtain ⟨j,rfl⟩:∃j:Nat,k=j:=⟨k.toNat,by omega⟩
  by_cases hk1:(j:Int) < of.length
  ·have q1:((j:Int) < of.length)=True:=eq_true hk1;have hjl:j < of.length:=by omega
   have hidx:=fun σ=>gF (σ:=σ) hjl;have hx:=hof _ (List.getElem_mem hjl);have hgd:of.getD j 0=of[j]:=by simp [hjl]
   rw [if_pos ⟨hk0,hk1⟩,Int.toNat_natCast,hgd];apply sR;simp only [go_sem,seval,Gj,q0,q1,h4,h9,hl,hidx,ai,aj];refine Go.cp rfl rfl rfl (Fh l hb hn b hbl of[j] hx.1 (by omega)) ?_;apply sG;simp only [go_sem,seval];exact ar.same rfl
  ·have q1:((j:Int) < of.length)=False:=eq_false hk1;rw [if_neg (fun h=>hk1 h.2)];apply sR;simp only [go_sem,seval,Gj,q0,q1,h4,h9,hl,ai,aj];exact ar.same rfl
 ·have q0:(k≥0)=False:=eq_false hk0;rw [if_neg (fun h=>hk0 h.1)];apply sR;simp only [go_sem,seval,Gj,q0];exact ar.same rfl
structure Ax (l:List Nd) (of:List Int) (k:Int) (i4 i5 i9 i10:Nat) (σ:af):Prop where
 r4:σ i4=some ⟨53,1,[bj of]⟩
 r5:σ i5=some ⟨3,1,[vI k]⟩
 r9:σ i9=some ⟨172,2,[mV l of]⟩
 r10:σ i10=some ⟨234,1,[.fn 197 [.ptr i4 0 0, .ptr i9 0 0]]⟩
theorem Ax.mono {l:List Nd} {of:List Int} {k:Int} {i4 i5 i9 i10:Nat} {σ τ:af} (h:Ax l of k i4 i5 i9 i10 σ) (hs:aa σ τ):Ax l of k i4 i5 i9 i10 τ:=⟨hs _ _ h.r4,hs _ _ h.r5,hs _ _ h.r9,hs _ _ h.r10⟩
theorem Ls (l:List Nd) (hb:isB l=true) (hn:l.length≤100000) (of:List Int) (hon:of.length≤1000000) (hof:∀x∈of,0≤x∧x < l.length) (b:Nat) (hbl:b < l.length) (k:Int) {σ:af} {i4 i5 i9 i10:Nat} (h:Ax l of k i4 i5 i9 i10 σ) :
 az prog 200 [vI b, .ptr i10 0 0, .ptr i5 0 0] σ fun r σ'=>r=.bool (!hAt l of b k)∧σ'=σ:=by
 refine Nb.r (by simp [K0]) ?_;have r5:=h.r5;have r10:=h.r10;refine ad.mix 5 ?_;apply sR;simp only [go_sem,seval,K0,r5,r10];refine ad.ay rfl rfl rfl (AB l hb hn of hon hof b hbl k h.r4 h.r9) ?_;apply sR;simp only [go_sem,seval];exact ar.same rfl
theorem Ka (l:List Nd) (hb:isB l=true) (hn:l.length≤100000) (of:List Int) (hon:of.length≤1000000) (hof:∀x∈of,0≤x∧x < l.length) (b:Nat) (hbl:b < l.length) (k:Int) (hk0:0≤k) (hk1:k≤1000000) {σ:af} {i4 i5 i9 i10:Nat} (h:Ax l of k i4 i5 i9 i10 σ) :
 az prog 201 [vI b, .ptr i10 0 0, .ptr i5 0 0] σ fun r σ'=>r=.bool (!hAt l of b (k - 1))∧σ'=σ:=by
 refine NO.r (by simp [Jp]) ?_;have r5:=h.r5;have r10:=h.r10;have r1:inR .i64 (k - 1):=ak (by omega) (by omega);refine ad.mix 5 ?_;apply sR;simp only [go_sem,seval,Jp,r5,r10,r1];refine ad.ay rfl rfl rfl (AB l hb hn of hon hof b hbl (k - 1) h.r4 h.r9) ?_;apply sR;simp only [go_sem,seval];exact ar.same rfl
theorem KZ (l:List Nd) (hb:isB l=true) (hn:l.length≤100000) (of:List Int) (hon:of.length≤1000000) (hof:∀x∈of,0≤x∧x < l.length) (b:Nat) (hbl:b < l.length) (k:Int) (hk0:0≤k) (hk1:k≤1000000) {σ:af} {i4 i5 i9 i10:Nat} (h:Ax l of k i4 i5 i9 i10 σ) :
 az prog 203 [vI b, .ptr i10 0 0, .ptr i5 0 0] σ fun r σ'=>r=.bool (hAt l of b (k - 1))∧σ'=σ:=by
 refine N9.r (by simp [KK]) ?_;have r5:=h.r5;have r10:=h.r10;have r1:inR .i64 (k - 1):=ak (by omega) (by omega);refine ad.mix 5 ?_;apply sR;simp only [go_sem,seval,KK,r5,r10,r1];refine ad.ay rfl rfl rfl (AB l hb hn of hon hof b hbl (k - 1) h.r4 h.r9) ?_;apply sR;simp only [go_sem,seval];exact ar.same rfl
theorem zc (l:List Nd) (hl:dE l) (hb:isB l=true) (hn:l.length≤100000) (a:Nat) (ha:a < l.length):Iter prog 220 [.rp (aI l), .rp (vI a)] ((abv l a).map fun n=>[vI n]):=by
 refine ⟨LF.c,fun idl J Jx σ0 hy hJ=>?_⟩;refine (LF.r (by simp [IZ]) ?_).2;have hab:=wV l hl hb hn a ha;have hal:=im l (l.length+1) (eo l a);have e0:(abv l a).length≤l.length+1:=hal;have hlen:=eY (abv l a);generalize abv l a=L at *;have ldA:∀σ,bN σ false 1 (.rp (aI l))=some (aI l):=fun σ=>rfl;have ldB:∀σ (n:Int),bN σ false 1 (.rp (vI n))=some (vI n):=fun σ n=>rfl;refine ad.mix 6 ?_;apply sR;simp only [go_sem,seval,IZ,ldA,ldB];refine ad.ay rfl rfl rfl (hab _) ?_;apply sR;simp only [go_sem,seval,hlen];refine ad.loop (fun m st=>∃(j:Nat) (σJ:af),j≤L.length∧m=L.length - j∧J ((L.take j).map fun n=>[vI n]) σJ∧aa σJ st.σ∧st.s 0=.yl idl∧st.s 8=bj L∧st.s 9=vI L.length∧st.s 10=vI j) L.length ?_ ?_
 ·exact ⟨0,σ0,by omega,rfl,by simpa using hJ,aa.refl _,rfl,rfl,rfl,rfl⟩
 ·rintro m ⟨S,τ⟩ ⟨j,σJ,hj,rfl,hJj,hsub,t0,t8,t9,t10⟩;simp only at hsub t0 t8 t9 t10;refine ad.mix 6 ?_;by_cases hlt:j < L.length
  ·have q:((j:Int) < L.length)=True:=eq_true (by omega);have hidx:=fun σ=>gF (σ:=σ) hlt;have htk:L.take (j+1)=L.take j++[L[j]]:=List.take_succ_eq_append_getElem hlt;have e:(L.map fun n=>[vI n])=((L.take j).map fun n=>[vI n])++[vI L[j]]::((L.drop (j+1)).map fun n=>[vI n]):=by
    have e0':L=L.take j++L[j]::L.drop (j+1):=by rw [←List.drop_eq_getElem_cons hlt,List.take_append_drop]
    have:=congrArg (List.map fun n=>[vI n]) e0'
    rwa [List.map_append,List.map_cons] at this
   generalize L[j]=x at *;have r1:inR .i64 ((j:Int)+1):=ak (by omega) (by omega);apply sR;simp only [go_sem,seval,t0,t8,t9,t10,q,hidx];refine ad.kV (Post:=fun b σ2=>∃σJ',bb σJ τ σJ' σ2∧((b=true∧J (((L.take j).map fun n=>[vI n])++[[vI x]]) σJ')∨(b=false∧Jx (((L.take j).map fun n=>[vI n])++[[vI x]]) σJ'))) rfl rfl rfl (hy _ [vI x] _ σJ τ e hJj hsub) ?_;rintro b σ2 ⟨σJ',hbs,hbb⟩;rcases hbb with ⟨rfl,hbb⟩ | ⟨rfl,hbb⟩
   ·apply sR;simp only [go_sem,seval,t0,t8,t9,t10,r1];refine ⟨_,?_,j+1,σJ',by omega,rfl,by rw [htk]; simpa using hbb,hbs.1,by simp [t0,t8,t9]⟩;omega
   ·apply sR;simp only [go_sem,seval,t0];refine ⟨_,σJ',hbs.1,Wk.refl hbs.1 _, .inr ⟨_,?_,hbb⟩⟩;rw [e];exact ⟨(L.drop (j+1)).map fun n=>[vI n],by simp⟩
  ·have q:((j:Int) < L.length)=False:=eq_false (by omega);rw [List.take_of_length_le (by omega)] at hJj;apply sR;simp only [go_sem,seval,t0,t8,t9,t10,q];exact ⟨_,σJ,hsub,Wk.refl hsub _, .inl hJj⟩
theorem El (l:List Nd) (a:Int):aU prog 216 [aI l,vI a] (.fn 220 [.rp (aI l), .rp (vI a)]):=fun σ=>by
 refine NX.r (by simp [J3]) ?_;refine ad.mix 4 ?_;have q1:=ai l;have q2:=aK l;generalize aI l=x at *;apply sR;simp only [go_sem,seval,J3,q1,q2];refine ae fun id1 σ1 s1 a1 f1=>?_;simp only [go_sem,seval];refine ae fun id2 σ2 s2 a2 f2=>?_;simp only [go_sem,seval];exact ⟨_,σ,s1.trans s2,Wk.fn (vs':=[.rp x, .rp (vI a)]) ⟨Wk.ptr (s1.trans s2) (s2 _ _ a1) f1,Wk.ptr (s1.trans s2) a2 (s1.none f2),trivial⟩,rfl,rfl⟩
open Go.Proofs Go.Proofs.Tryz
def chR (l:List Nd) (of:List Int) (k:Int) (p:Int→Bool):List Int:=if 0≤k∧k < of.length then (abv l (of.getD k.toNat 0).toNat).filter p else []
theorem oq {l:List Nd} {a:Nat} (ha:a < l.length):∀x∈abv l a,∃n:Nat,x=n∧n < a:=fun x hx=>by
 have:=Fc l _ _ x hx;have h2:=fg l a;exact ⟨x.toNat,by omega,by omega⟩
theorem pq {p:Int→Bool} {L:List Int} {j:Nat} {x:Int} (h:L[j]?=some x):(L.take (j+1)).filter p=(L.take j).filter p++if p x then [x] else []:=by
 rw [List.take_add_one,h,List.filter_append];cases hp:p x <;> simp [hp]
theorem sc (l:List Nd) (hl:dE l) (hb:isB l=true) (hn:l.length≤100000) (of:List Int) (hon:of.length≤1000000) (hof:∀x∈of,0≤x∧x < l.length) (k:Int) (g:FuncId) (caps:List V) (p:Int→Bool) {σ:af}
 (hg:∀b:Nat,b < l.length→∀τ,aa σ τ→az prog g (vI b::caps) τ fun r σ'=>r=.bool (p b)∧σ'=τ) :
 az prog 199 [mV l of,vI k, .fn g caps] σ fun r σ'=>aa σ σ'∧aM σ σ' 3 1 r ((chR l of k p).map vI)∧(chR l of k p=[]→r=.aD):=by
 refine NG.r (by simp [KQ]) ?_;have hs:=aa.refl σ;have hlo:=eY of;refine ad.mix 9 ?_;apply sR;simp only [go_sem,seval,KQ,la,lg,ai,aj,al,aK];refine ae fun i3 σ3 s3 a3 f3=>?_;have z3:=hs.none f3;replace hs:=hs.trans s3;simp only [go_sem,seval];refine ae fun i5 σ5 s5 a5 f5=>?_;have n35:=ao a3 f5;replace a3:=s5 _ _ a3;have z5:=hs.none f5;replace hs:=hs.trans s5;have a3':σ5 i3=some ⟨172,2,[.agg [aI l,bj of]]⟩:=a3;by_cases hk0:k < 0
 ·have q0:(k < 0)=True:=eq_true hk0;have hc:chR l of k p=[]:=by unfold chR; rw [if_neg (by omega)]
  simp only [go_sem,seval,q0];rw [hc];exact ⟨_,_,aa.refl _,Wk.refl (aa.refl _) _,hs,aM.start,fun _=>rfl⟩
 have q0:(k < 0)=False:=eq_false hk0;obtain ⟨j,rfl⟩:∃j:Nat,k=j:=⟨k.toNat,by omega⟩
 by_cases hk1:(j:Int)≥of.length
 ·have q1:((j:Int)≥of.length)=True:=eq_true hk1;have hc:chR l of j p=[]:=by unfold chR; rw [if_neg (by omega)]
  simp only [go_sem,seval,q0,a3',hlo,q1,ai,aj];rw [hc];exact ⟨_,_,aa.refl _,Wk.refl (aa.refl _) _,hs,aM.start,fun _=>rfl⟩
 have q1:((j:Int)≥of.length)=False:=eq_false hk1;have hjl:j < of.length:=by omega
 have hidx:=fun σ=>gF (σ:=σ) hjl;obtain ⟨hx0,hx1⟩:=hof _ (List.getElem_mem hjl);have hgd:of.getD j 0=of[j]:=by simp [hjl]
 have hc:chR l of j p=(abv l of[j].toNat).filter p:=by unfold chR; rw [if_pos ⟨by omega,by omega⟩,Int.toNat_natCast,hgd]
 rw [hc];simp only [go_sem,seval,q0,a3',hlo,q1,ai,aj];refine ae fun i7 σ7 s7 a7 f7=>?_;have b3:=s7 _ _ a3';have b5:=s7 _ _ a5;simp only [go_sem,seval,b3,hidx,ai,aj];obtain ⟨x,hx⟩:∃x:Nat,of[j]=x:=⟨of[j].toNat,by omega⟩
 rw [hx] at hx1 ⊢;refine ad.ay rfl rfl rfl (El l x _) ?_;have hit:=zc l hl hb hn x (by omega);have hrg:=oq (l:=l) (a:=x) (by omega);have hlL:(abv l x).length≤l.length+1:=im _ _ _;rw [Int.toNat_natCast];generalize abv l x=L at *;apply sR;simp only [go_sem,seval];generalize hS:mix 9 _ _=S;have S5:S 5=.ptr i5 0 0:=by rw [←hS]; rfl
 have S7:S 7=.ptr i7 0 0:=by rw [←hS]; rfl
 have S25:S 25=.fn 220 [.rp (aI l), .rp (vI x)]:=by rw [←hS]; rfl
 clear hS;refine ad.cC (g:=.t 25) (caps:=[.rp (aI l), .rp (vI x)]) S25 hit (fun y hy=>?_) [] (fun pre σJ=>∃v,σJ i7=some ⟨53,1,[v]⟩∧aa σ5 σJ∧aM (aZ σ5 i7) σJ 3 1 v (((L.take pre.length).filter p).map vI)∧((L.take pre.length).filter p=[]→v=.aD))
  (fun _ _ _=>False) ?_ ?_ ?_ ?_ ?_
 ·obtain ⟨t,_,rfl⟩:=List.mem_map.1 hy; rfl
 ·exact ⟨.aD,a7,s7,by simpa using aM.start,fun _=>rfl⟩
 ·rintro pre y post σJ σB hxs ⟨v,J7,Js,Jo,Jn⟩ hsub;obtain ⟨t,hti,rfl⟩:=oI (f:=vI) hxs;obtain ⟨tn,rfl,htn⟩:=hrg t (List.mem_of_getElem? hti);have htk:=pq (p:=p) hti;have hlen:(pre++[[vI (tn:Int)]]).length=pre.length+1:=by simp
  rw [hlen,htk];have hkl:(((L.take pre.length).filter p).map vI).length≤1000001:=by
   rw [List.length_map];have:=List.length_filter_le p (L.take pre.length);rw [List.length_take] at this; omega
  have hvc:v.cells=[v]:=by rcases Jo with ⟨rfl,_⟩ | ⟨_,rfl,_⟩ <;> rfl
  generalize hrows:(((L.take pre.length).filter p).map vI)=rows at *;have c7:=hsub _ _ J7;have c5:=hsub _ _ (Js _ _ a5);generalize hSS:lk S [26] [vI (tn:Int)]=S0;have T5:S0 5=.ptr i5 0 0:=by rw [←hSS]; exact S5
  have T7:S0 7=.ptr i7 0 0:=by rw [←hSS]; exact S7
  have T26:S0 26=vI (tn:Int):=by rw [←hSS]; rfl
  clear hSS;refine ad.mix 9 ?_;apply sR;simp only [go_sem,seval,T5,T7,T26];apply sR;simp only [go_sem,seval,T5,T7,T26,c5];refine ad.ay rfl rfl rfl (hg tn (by omega) _ ((hs.trans Js).trans hsub)) ?_;cases hp:p (tn:Int)
  ·apply sR;simp only [go_sem,seval];refine ⟨_,bb.refl hsub,v,J7,Js,?_,by simpa using Jn⟩;simpa [hrows] using Jo
  ·apply sR;simp only [go_sem,seval,T5,T7,T26,c7,hvc];rw [aH];intro id28 f28;have hBs:=(bb.refl hsub).pf (o:=⟨3,1,[vI (tn:Int)]⟩) f28;have y2:upd σB id28 ⟨3,1,[vI (tn:Int)]⟩ i7=some ⟨53,1,[v]⟩:=by rw [ab (ao c7 f28)]; exact c7
   have a28:upd σB id28 ⟨3,1,[vI (tn:Int)]⟩ id28=some ⟨3,1,[vI (tn:Int)]⟩:=ag;generalize upd σB id28 ⟨3,1,[vI (tn:Int)]⟩=σ8 at *;obtain ⟨idA,hda,hdA⟩:=Jo.C7 hBs.1;have hb2:(rows.length+1)*9≤140737488355328:=by omega
   have k2:aZ σ5 i7 i7≠none:=fun h=>(aF.1 h).1 rfl;have dne:∀(i:Nat) (σx:af),aZ σ5 i7 i≠none→Vc.bz σx idA i=σx i:=fun i σx hk=>by
    cases idA with
    | none=>rfl
    | some a=>exact dh (fun e=>hk (by rw [e]; exact (hdA a rfl).1))
   simp only [go_sem,seval,hda,dk a28,hb2,T7];rw [aH];intro id29 f29;have f29:σ8 id29=none:=f29;have m29:i7≠id29:=ao y2 f29;have f29':Vc.bz σ8 idA id29=none:=by
    cases idA with
    | none=>exact f29
    | some a=>simp only [Vc.bz,del]; split <;> first | rfl | exact f29
   have y2':upd (Vc.bz σ8 idA) id29 ⟨3,1,rows++[vI (tn:Int)]⟩ i7=some ⟨53,1,[v]⟩:=by rw [ab m29,dne _ _ k2]; exact y2
   have hB9:=((hBs.Cl (e:=idA) fun i h=>(hdA i h).2).new (o:=⟨3,1,rows++[vI (tn:Int)]⟩) f29').set (id:=i7) (o:=⟨53,1,[v]⟩) (o':=⟨53,1,[.own id29 0 (rows.length+1)]⟩) (by rw [ab m29,dne _ _ k2]; exact J7);simp only [go_sem,seval,hvc,y2',T7];refine ⟨_,hB9, .own id29 0 (rows.length+1),ag,?_,?_,fun h=>by simp at h⟩
   ·refine aa.aB (fun i o h=>?_) f7;have h1:=Js _ _ h;rw [ab (ao (hBs.1 _ _ h1) f29),dne _ _ (fun hk=>by rw [(aF.1 hk).2] at h; cases h)];exact h1
   ·rw [List.map_append,hrows];refine aM.new (by simp) (by rw [ab m29.symm,ag]; rfl) ?_;rw [aF];refine ⟨m29.symm,?_⟩;cases h:σ5 id29 with
    | none=>rfl
    | some o=>rw [hBs.1 _ _ (Js _ _ h)] at f29; cases f29
 ·rintro σ' ⟨v,J7,Js,Jo,Jn⟩;rw [List.length_map,List.take_length] at Jo Jn;have hvc:v.cells=[v]:=by rcases Jo with ⟨rfl,_⟩ | ⟨_,rfl,_⟩ <;> rfl
  refine ad.mix 9 ?_;apply sR;simp only [go_sem,seval,S7,J7,hvc];refine ⟨_,_,aa.refl _,Wk.refl (aa.refl _) _,hs.trans Js,?_,Jn⟩;rcases Jo with h | ⟨id,h1,h2,h3⟩
  ·exact .inl h
  ·exact .inr ⟨id,h1,h2,hs.none (aF.1 h3).2⟩
 ·intro id h; cases h
 ·rintro pre σ' _ ⟨⟩
open Go.Proofs Go.Proofs.Tryz
def swp (L:List Int) (i j:Nat):List Int:=(L.set i (L.getD j 0)).set j (L.getD i 0)
def ju (L:List Int):Nat→List Int
 | 0=>L
 | t+1=>swp (ju L t) t (L.length - 1 - t)
theorem j5 (L:List Int):∀t,(ju L t).length=L.length
 | 0=>rfl
 | t+1=>by simp [ju,swp,j5 L t]
theorem xI (L:List Int):∀(t:Nat),2*t≤L.length→∀i,i < L.length→(ju L t)[i]?=if i < t∨L.length - t≤i then L[L.length - 1 - i]? else L[i]?
 | 0,_,i,hi=>by rw [ju,if_neg (by omega)]
 | t+1,ht,i,hi=>by
   have ih:=fun i hi=>xI L t (by omega) i hi;have hl:=j5 L t;have e1:(ju L t).getD t 0=L.getD t 0:=by
    rw [List.getD_eq_getElem?_getD,List.getD_eq_getElem?_getD,ih t (by omega),if_neg (by omega)]
   have e2:(ju L t).getD (L.length - 1 - t) 0=L.getD (L.length - 1 - t) 0:=by
    rw [List.getD_eq_getElem?_getD,List.getD_eq_getElem?_getD,ih _ (by omega),if_neg (by omega)]
   rw [ju,swp,e1,e2,List.getElem?_set,List.getElem?_set,List.length_set,hl];have g:∀k,k < L.length→some (L.getD k 0)=L[k]?:=fun k hk=>by simp [hk]
   by_cases h1:L.length - 1 - t=i
   ·rw [if_pos h1,if_pos (by omega),if_pos (by omega),g t (by omega)];congr 1; omega
   ·rw [if_neg h1];by_cases h2:t=i
    ·rw [if_pos h2,if_pos (by omega),if_pos (by omega),g _ (by omega)];congr 1; omega
    ·rw [if_neg h2,ih i hi];by_cases h3:i < t∨L.length - t≤i
     ·rw [if_pos h3,if_pos (by omega)]
     ·rw [if_neg h3,if_neg (by omega)]
theorem EB (L:List Int) {t:Nat} (h1:2*t≤L.length) (h2:L.length≤2*t+1):ju L t=L.reverse:=by
 apply List.ext_getElem?;intro i;by_cases hi:i < L.length
 ·rw [xI L t h1 i hi,List.getElem?_reverse hi];split
  ·rfl
  ·congr 1; omega
 ·rw [List.getElem?_eq_none (by rw [j5]; omega),List.getElem?_eq_none (by simp; omega)]
theorem CY (L:List Int) (hL:L.length≤1000000) {K σ:af} {v:V} (hv:aM K σ 3 1 v (L.map vI)) (hne:L=[]→v=.aD) :
 az prog 202 [v] σ fun r σ'=>r=.tup []∧aM K σ' 3 1 v (L.reverse.map vI)∧∀i o,σ i=some o→(o.elem≠3∨K i≠none)→σ' i=some o:=by
 refine N0.r (by simp [Gs]) ?_;refine ad.mix 5 ?_;rcases hv with ⟨rfl,h0⟩ | ⟨id,rfl,h2,h3⟩
 ·obtain rfl:L=[]:=by simpa using h0
  apply sR;simp only [go_sem,seval,Gs];refine ⟨ak (by omega) (by omega),?_⟩;refine ad.loop (fun m st=>st.σ=σ∧st.s 2=vI 0∧∃z:Int,st.s 3=vI z∧z < 0) 0 ?_ ?_
  ·refine ⟨rfl,rfl,_,rfl,?_⟩;simp
  ·rintro m ⟨S,τ⟩ ⟨hσ,t2,z,t3,hz⟩;simp only at hσ t2 t3;subst hσ;refine ad.mix 5 ?_;have q:((0:Int) < z)=False:=eq_false (by omega);apply sR;simp only [go_sem,seval,t2,t3,q];exact ⟨_,_,aa.refl _,Wk.refl (aa.refl _) _,rfl, .inl ⟨rfl,rfl⟩,fun i o h _=>h⟩
 ·have hn:0 < L.length:=List.length_pos_iff.2 fun e=>by have:=hne e; cases this
  have hlm:(L.map vI).length=L.length:=by simp
  have r1:inR .i64 ((L.length:Int) - 1):=ak (by omega) (by omega);apply sR;simp only [go_sem,seval,Gs,hlm,r1];refine ad.loop (fun m st=>∃t:Nat,2*t≤L.length∧m=L.length - t∧st.σ id=some ⟨3,1,(ju L t).map vI⟩∧(∀i,i≠id→st.σ i=σ i)∧st.s 0=.own id 0 L.length∧st.s 2=vI t∧∃z:Int,st.s 3=vI z∧z=(L.length:Int) - 1 - t) L.length ?_ ?_
  ·exact ⟨0,by omega,by omega,h2,fun _ _=>rfl,rfl,rfl,_,rfl,by simp⟩
  ·rintro m ⟨S,τ⟩ ⟨t,ht,rfl,g1,g2,t0,t2,z,t3,rfl⟩;simp only at g1 g2 t0 t2 t3;refine ad.mix 5 ?_;have hrl:((ju L t).map vI).length=L.length:=by rw [List.length_map,j5]
   by_cases hlt:(t:Int) < (L.length:Int) - 1 - t
   ·have q:((t:Int) < (L.length:Int) - 1 - t)=True:=eq_true hlt;have hj:((L.length:Int) - 1 - t)=((L.length - 1 - t:Nat):Int):=by omega
    obtain ⟨j,hjj⟩:∃j,j=L.length - 1 - t:=⟨_,rfl⟩
    rw [hj,←hjj] at t3 q;have hti:t < (ju L t).length:=by rw [j5]; omega
    have hji:j < (ju L t).length:=by rw [j5]; omega
    have i1:∀n,n=L.length→bD τ 1 (.own id 0 n) (.int .i64 t)=some (.ptr id t 0):=fun n hn=>by subst hn; rw [←hrl]; exact jH g1 (by rw [hrl]; omega)
    have i2:∀n,n=L.length→bD τ 1 (.own id 0 n) (.int .i64 j)=some (.ptr id j 0):=fun n hn=>by subst hn; rw [←hrl]; exact jH g1 (by rw [hrl]; omega)
    have v1:((ju L t).map vI)[t]?=some (vI ((ju L t).getD t 0)):=by simp [hti]
    have v2:((ju L t).map vI)[j]?=some (vI ((ju L t).getD j 0)):=by simp [hji]
    have i3:∀a n,n=L.length→bD (upd τ id ⟨3,1,((ju L t).map vI).set t a⟩) 1 (.own id 0 n) (.int .i64 j)=some (.ptr id j 0):=fun a n hn=>by
     have e:n=(((ju L t).map vI).set t a).length:=by rw [List.length_set,hrl,hn]
     rw [e];exact jH ag (by rw [List.length_set,hrl]; omega)
    have v3:∀a,(((ju L t).map vI).set t a)[j]?=some (vI ((ju L t).getD j 0)):=fun a=>by rw [List.getElem?_set_ne (by omega)]; exact v2
    have r4:inR .i64 ((t:Int)+1):=ak (by omega) (by omega);have r5:inR .i64 ((j:Int) - 1):=ak (by omega) (by omega);apply sR;simp only [go_sem,seval,t0,t2,t3,q,g1,i1 _ rfl,i2 _ rfl,i3 _ _ rfl,v1,v2,v3,r4,r5];refine ⟨_,?_,t+1,by omega,rfl,?_,fun i hi=>?_,by simp [t0],_,rfl,by omega⟩
    ·omega
    ·simp only [ju,swp,List.map_set];rw [hjj]
    ·rw [ab hi]; exact g2 i hi
   ·have q:((t:Int) < (L.length:Int) - 1 - t)=False:=eq_false hlt;apply sR;simp only [go_sem,seval,t0,t2,t3,q];have hr:=EB L ht (by omega);rw [hr] at g1;refine ⟨_,_,aa.refl _,Wk.refl (aa.refl _) _,rfl, .inr ⟨id,by simp,g1,h3⟩,fun i o h hio=>?_⟩;rw [g2 i (fun e=>by subst e; rw [h2] at h; injection h with h; subst h; rcases hio with h | h; exact h rfl; exact h h3)]
    exact h
open Go.Proofs Go.Proofs.Tryz
structure Kn where
 (ends begins both:List Int)
 text:Int
def gE (x:Kn):V:=.agg [bj x.ends,bj x.begins,bj x.both,vI x.text]
def dU (l:List Nd) (of:List Int) (k:Nat):Kn :=
 ⟨chR l of ((k:Int) - 1) (fun b=>!hAt l of b k),(chR l of k (fun b=>!hAt l of b ((k:Int) - 1))).reverse,chR l of k (fun b=>hAt l of b ((k:Int) - 1)),
  if 0 < k∧k < of.length∧of.getD k 0=of.getD (k - 1) 0 then of.getD k 0 else -1⟩
structure KR (l:List Nd) (of:List Int) (k:Int) (i4 i5 i6 i9 i10 i11:Nat) (v:V) (σ0 σ:af):Prop where
 ask:Ax l of k i4 i5 i9 i10 σ
 r6:σ i6=some ⟨223,4,[.agg [.aD, .aD, .aD,vI 0]]⟩
 r11:σ i11=some ⟨223,4,[v]⟩
 sub:aa σ0 σ
 no:σ0 i11=none
 ne:i4≠i11∧i5≠i11∧i6≠i11∧i9≠i11∧i10≠i11
theorem KR.mono {l:List Nd} {of:List Int} {k:Int} {i4 i5 i6 i9 i10 i11:Nat} {v:V} {σ0 σ τ:af} (h:KR l of k i4 i5 i6 i9 i10 i11 v σ0 σ) (hs:aa σ τ):KR l of k i4 i5 i6 i9 i10 i11 v σ0 τ :=
 ⟨h.ask.mono hs,hs _ _ h.r6,hs _ _ h.r11,h.sub.trans hs,h.no,h.ne⟩
theorem KR.put {l:List Nd} {of:List Int} {k:Int} {i4 i5 i6 i9 i10 i11:Nat} {v w:V} {σ0 σ:af} (h:KR l of k i4 i5 i6 i9 i10 i11 v σ0 σ):KR l of k i4 i5 i6 i9 i10 i11 w σ0 (upd σ i11 ⟨223,4,[w]⟩):=by
 obtain ⟨n1,n2,n3,n4,n5⟩:=h.ne;exact ⟨⟨by rw [ab n1]; exact h.ask.r4,by rw [ab n2]; exact h.ask.r5,by rw [ab n4]; exact h.ask.r9,by rw [ab n5]; exact h.ask.r10⟩,by rw [ab n3]; exact h.r6,ag,h.sub.aB h.no,h.no,h.ne⟩
theorem A8 (l:List Nd) (hl:dE l) (hb:isB l=true) (of:List Int) (hon:of.length≤1000000) (hof:∀x∈of,0≤x∧x < l.length) (hm:px l of=true) (k:Nat) (hk:k≤of.length) :
 aU prog 166 [aI l,bj of,vI k] (.tup [gE (dU l of k),vI 0]):=fun σ=>by
 refine NH.r (by simp [Lm]) ?_;have hs:=aa.refl σ;have hlo:=eY of;have hn:l.length≤100000:=by have:=hl.1; omega
 refine ad.mix 12 ?_;apply sR;simp only [go_sem,seval,Lm,ai,aj,al,aK];refine ae fun i4 σ4 s4 a4 f4=>?_;have z4:=hs.none f4;replace hs:=hs.trans s4;simp only [go_sem,seval];refine ae fun i5 σ5 s5 a5 f5=>?_;have n45:=ao a4 f5;replace a4:=s5 _ _ a4;have z5:=hs.none f5;replace hs:=hs.trans s5;simp only [go_sem,seval];refine ae fun i6 σ6 s6 a6 f6=>?_;have n46:=ao a4 f6;replace a4:=s6 _ _ a4;have n56:=ao a5 f6;replace a5:=s6 _ _ a5;have z6:=hs.none f6;replace hs:=hs.trans s6;simp only [go_sem,seval,a4,a5,a6,ai,aj,al];refine ad.ay rfl rfl rfl (nX l hl hb of hon hm _) ?_;have q0:((0:Int)≠0)=False:=eq_false (fun h=>h rfl);have q1:((k:Int) < 0)=False:=eq_false (by omega);have q2:((k:Int) > of.length)=False:=eq_false (by omega);apply sR;simp only [go_sem,seval,q0,q1,q2,a4,a5,a6,hlo,ai,aj,al,aK];refine ae fun i9 σ9 s9 a9 f9=>?_;have n49:=ao a4 f9;replace a4:=s9 _ _ a4;have n59:=ao a5 f9;replace a5:=s9 _ _ a5;have n69:=ao a6 f9;replace a6:=s9 _ _ a6;have z9:=hs.none f9;replace hs:=hs.trans s9;simp only [go_sem,seval,a9,a4,a5,a6,ai,aj,al,aK];generalize hq9:upd _ i9 _=τ9;replace a9:=(congrFun hq9 i9).symm.trans ag;replace a4:=((congrFun hq9 i4).symm.trans (ab n49)).trans a4;replace a5:=((congrFun hq9 i5).symm.trans (ab n59)).trans a5;replace a6:=((congrFun hq9 i6).symm.trans (ab n69)).trans a6;replace hs:=Eq.subst (motive:=aa _) hq9 (hs.aB z9);clear hq9;have hnf:V.nilfn.cells=[.nilfn]:=rfl;refine ae fun i10 σ10 s10 a10 f10=>?_;have n410:=ao a4 f10;replace a4:=s10 _ _ a4;have n510:=ao a5 f10;replace a5:=s10 _ _ a5;have n610:=ao a6 f10;replace a6:=s10 _ _ a6;have n910:=ao a9 f10;replace a9:=s10 _ _ a9;have z10:=hs.none f10;replace hs:=hs.trans s10;simp only [go_sem,seval,a10,hnf];generalize hq10:upd _ i10 _=τ10;replace a10:=(congrFun hq10 i10).symm.trans ag;replace a4:=((congrFun hq10 i4).symm.trans (ab n410)).trans a4;replace a5:=((congrFun hq10 i5).symm.trans (ab n510)).trans a5;replace a6:=((congrFun hq10 i6).symm.trans (ab n610)).trans a6;replace a9:=((congrFun hq10 i9).symm.trans (ab n910)).trans a9;replace hs:=Eq.subst (motive:=aa _) hq10 (hs.aB z10);clear hq10;refine ae fun i11 σ11 s11 a11 f11=>?_;have n411:=ao a4 f11;replace a4:=s11 _ _ a4;have n511:=ao a5 f11;replace a5:=s11 _ _ a5;have n611:=ao a6 f11;replace a6:=s11 _ _ a6;have n911:=ao a9 f11;replace a9:=s11 _ _ a9;have n1011:=ao a10 f11;replace a10:=s11 _ _ a10;have z11:=hs.none f11;replace hs:=hs.trans s11;simp only [go_sem,seval,a11,a10,a9,a5,a4,ab n411,ab n511,ab n611,ab n911,ab n1011,ai,aj];generalize hq11:upd _ i11 _=τ11;replace a11:=(congrFun hq11 i11).symm.trans ag;replace a4:=((congrFun hq11 i4).symm.trans (ab n411)).trans a4;replace a5:=((congrFun hq11 i5).symm.trans (ab n511)).trans a5;replace a6:=((congrFun hq11 i6).symm.trans (ab n611)).trans a6;replace a9:=((congrFun hq11 i9).symm.trans (ab n911)).trans a9;replace a10:=((congrFun hq11 i10).symm.trans (ab n1011)).trans a10;replace hs:=Eq.subst (motive:=aa _) hq11 (hs.aB z11);clear hq11;have hK:KR l of k i4 i5 i6 i9 i10 i11 (.agg [.aD, .aD, .aD,vI (-1)]) σ τ11:=⟨⟨a4,a5,a9,a10⟩,a6,a11,hs,z11,n411,n511,n611,n911,n1011⟩
 clear hs a4 a5 a6 a9 a10 a11;generalize τ11=τ at *;have hτ11:=hK.r11;have hτs:=hK.sub;refine ⟨ak (by omega) (by omega),?_⟩;refine ad.call rfl rfl rfl (sc l hl hb hn of hon hof ((k:Int) - 1) 200 [.ptr i10 0 0, .ptr i5 0 0] (fun b=>!hAt l of b k) (fun b hbl τ' hτ=>Ls l hb hn of hon hof b hbl k (hK.ask.mono hτ))) ?_;rintro v0 σ1 ⟨s1,o0,_⟩;have hK1:=hK.mono s1;clear hK s1;obtain ⟨cv0,sv0⟩:=o0.vc;have c11:=hK1.r11;have c9:=hK1.ask.r9;have c5:=hK1.ask.r5;rw [mV] at c9;apply sR;simp only [go_sem,seval,c11,c9,c5,cv0,sv0,ab n911,ab n511,ai,aj];have hK2:=hK1.put (w:=.agg [v0, .aD, .aD,vI (-1)]);have o0':aM (aZ σ i11) (upd σ1 i11 ⟨223,4,[.agg [v0, .aD, .aD,vI (-1)]]⟩) 3 1 v0 ((chR l of ((k:Int) - 1) (fun b=>!hAt l of b k)).map vI):=by
  rcases o0 with h | ⟨id,g1,g2,g3⟩
  ·exact .inl h
  ·have g3:τ id=none:=g3;have hne:id≠i11:=fun e=>by rw [e,hτ11] at g3; cases g3
   exact .inr ⟨id,g1,by rw [ab hne]; exact g2,aF.2 ⟨hne,hτs.none g3⟩⟩
 generalize upd σ1 i11 ⟨223,4,[.agg [v0, .aD, .aD,vI (-1)]]⟩=τ2 at *;refine ad.call rfl rfl rfl (sc l hl hb hn of hon hof k 201 [.ptr i10 0 0, .ptr i5 0 0] (fun b=>!hAt l of b ((k:Int) - 1)) (fun b hbl τ' hτ=>Ka l hb hn of hon hof b hbl k (by omega) (by omega) (hK2.ask.mono hτ))) ?_;rintro v1 σ3 ⟨s3,o1,n1⟩;have hK3:=hK2.mono s3;have o03:=o0'.mono s3;obtain ⟨cv1,sv1⟩:=o1.vc;have d11:=hK3.r11;have x11:=hK2.r11;apply sR;simp only [go_sem,seval,d11,cv0,sv0,cv1,sv1];have hK4:=hK3.put (w:=.agg [v0,v1, .aD,vI (-1)]);have push:∀ {K σx:af} {v:V} {rows:List V} {o:Ob},K i11≠none→aM K σx 3 1 v rows→aM K (upd σx i11 o) 3 1 v rows:=fun {K σx v rows o} hk h=>by
  rcases h with h | ⟨id,g1,g2,g3⟩
  ·exact .inl h
  ·exact .inr ⟨id,g1,by rw [ab (fun e=>by rw [e] at g3; exact hk g3)]; exact g2,g3⟩
 have kk:aZ σ i11 i11≠none:=fun h=>(aF.1 h).1 rfl;have o1':aM τ2 σ3 3 1 v1 _:=o1;have o04:=push (o:=⟨223,4,[.agg [v0,v1, .aD,vI (-1)]]⟩) kk o03;have o14:=push (o:=⟨223,4,[.agg [v0,v1, .aD,vI (-1)]]⟩) (by rw [x11]; simp) o1';generalize upd σ3 i11 ⟨223,4,[.agg [v0,v1, .aD,vI (-1)]]⟩=τ4 at *;have hcl:∀kk p,(chR l of kk p).length≤1000000:=fun kk p=>by
  unfold chR;split
  ·have h1:=List.length_filter_le p (abv l (of.getD kk.toNat 0).toNat);have h2:=im l (l.length+1) (eo l (of.getD kk.toNat 0).toNat);have h3:(abv l (of.getD kk.toNat 0).toNat).length≤l.length+1:=h2;omega
  ·simp
 refine ad.call rfl rfl rfl (CY _ (hcl _ _) o14 n1) ?_;rintro r σ5 ⟨rfl,o15,hkeep⟩;have y5:=hK2.ask.r5;have hK5:KR l of k i4 i5 i6 i9 i10 i11 (.agg [v0,v1, .aD,vI (-1)]) σ σ5 :=
  ⟨⟨hkeep _ _ hK4.ask.r4 (.inl (by simp)),hkeep _ _ hK4.ask.r5 (.inr (by rw [y5]; simp)),hkeep _ _ hK4.ask.r9 (.inl (by simp)),hkeep _ _ hK4.ask.r10 (.inl (by simp))⟩,hkeep _ _ hK4.r6 (.inl (by simp)),hkeep _ _ hK4.r11 (.inl (by simp)),
    fun i o h=>hkeep _ _ (hK4.sub _ _ h) (.inr (by rw [hK2.sub _ _ h]; simp)),hK4.no,hK4.ne⟩
 have o05:aM (aZ σ i11) σ5 3 1 v0 ((chR l of ((k:Int) - 1) (fun b=>!hAt l of b k)).map vI):=by
  rcases o0' with h | ⟨id,g1,g2,g3⟩
  ·exact .inl h
  ·rcases o04 with ⟨e,_⟩ | ⟨id',e1,e2,_⟩
   ·rw [g1] at e; cases e
   ·rw [g1] at e1;injection e1 with e1 _ _
    subst e1;exact .inr ⟨id,g1,hkeep _ _ e2 (.inr (by rw [g2]; simp)),g3⟩
 have e9:=hK5.ask.r9;have e5:=hK5.ask.r5;have e11:=hK5.r11;rw [mV] at e9;apply sR;simp only [go_sem,seval,e9,e5,e11,ai,aj];refine ad.call rfl rfl rfl (sc l hl hb hn of hon hof k 203 [.ptr i10 0 0, .ptr i5 0 0] (fun b=>hAt l of b ((k:Int) - 1)) (fun b hbl τ' hτ=>KZ l hb hn of hon hof b hbl k (by omega) (by omega) (hK5.ask.mono hτ))) ?_;rintro v2 σ6 ⟨s6,o2,_⟩;have hK6:=hK5.mono s6;have o06:=o05.mono s6;have o16:=o15.mono s6;have o2':aM σ5 σ6 3 1 v2 _:=o2;obtain ⟨cv2,sv2⟩:=o2.vc;have f11:=hK6.r11;have f4:=hK6.ask.r4;have f5:=hK6.ask.r5;have f6:=hK6.r6;have push':∀ {K:af} {τ:af} {v:V} {rows x:List V} {i:Nat} {o:Ob},τ i=some ⟨223,4,x⟩→aM K τ 3 1 v rows→aM K (upd τ i o) 3 1 v rows:=fun {K τ v rows x i o} hi h=>by
  rcases h with h | ⟨id,g1,g2,g3⟩
  ·exact .inl h
  ·refine .inr ⟨id,g1,?_,g3⟩;rw [ab (fun e=>by rw [e,hi] at g2; cases g2)]; exact g2
 have hsK1:aa σ (aZ σ i11):=fun i o h=>by rw [aZ,if_neg (fun e=>by rw [e,hK6.no] at h; cases h)]; exact h
 have fin:∀(t:Int) (o:Ob),t=(dU l of k).text→ar (.tup [.agg [v0,v1,v2,vI t],vI 0]) (upd (upd σ6 i11 ⟨223,4,[.agg [v0,v1,v2,vI t]]⟩) i6 o) fun r σ'=>r=.tup [gE (dU l of k),vI 0]∧σ'=σ:=by
  intro t o ht;have g6:=f6;rw [←ab (σ:=σ6) (o:=⟨223,4,[.agg [v0,v1,v2,vI t]]⟩) n611] at g6;have p0:=push' (o:=o) g6 (push' (o:=⟨223,4,[.agg [v0,v1,v2,vI t]]⟩) f11 o06);have p1:=push' (o:=o) g6 (push' (o:=⟨223,4,[.agg [v0,v1,v2,vI t]]⟩) f11 o16);have p2:=push' (o:=o) g6 (push' (o:=⟨223,4,[.agg [v0,v1,v2,vI t]]⟩) f11 o2');have hst:=((hK6.sub.aB (o:=⟨223,4,[.agg [v0,v1,v2,vI t]]⟩) hK6.no)).aB (o:=o) z6;refine ⟨_,σ,hst,Wk.tup (vs':=[gE (dU l of k),vI 0]) ⟨Wk.agg (vs':=[bj (dU l of k).ends,bj (dU l of k).begins,bj (dU l of k).both,vI (dU l of k).text]) ⟨p0.wk hsK1 hst,p1.wk hK2.sub hst,p2.wk hK5.sub hst,by rw [←ht]; exact Wk.refl hst _,trivial⟩,Wk.refl hst _,trivial⟩,rfl,rfl⟩
 rcases Nat.eq_zero_or_pos k with rfl | h0
 ·have q3:((((0:Nat):Int)) > 0)=False:=eq_false (by omega);have ft:=fin (-1);apply sR;simp only [go_sem,seval,f11,f4,f5,f6,cv0,sv0,cv1,sv1,cv2,sv2,ab n411,ab n511,ab n611,ab n911,ab n1011,q3,ai,aj,al,aK];exact fin _ _ (by simp [dU])
 have q3:((k:Int) > 0)=True:=eq_true (by omega);by_cases h1:k < of.length
 ·have q4:((k:Int) < of.length)=True:=eq_true (by omega);have q5:=ak (m:=((k - 1:Nat):Int)) (by omega) (by omega);have q6:((k:Int) - 1)=((k - 1:Nat):Int):=by omega
  have q7:=fun σ=>gF (σ:=σ) h1;have q8:=fun σ=>gF (σ:=σ) (l:=of) (i:=k - 1) (by omega);have g1:of.getD k 0=of[k]:=by simp [h1]
  have g2:of.getD (k - 1) 0=of[k - 1]:=by have:k - 1 < of.length:=by omega
                                          simp [this]
  by_cases h2:of.getD k 0=of.getD (k - 1) 0
  ·have q9:(of[k]=of[k - 1])=True:=eq_true (by rw [←g1,←g2]; exact h2);apply sR;simp only [go_sem,seval,f11,f4,f5,f6,cv0,sv0,cv1,sv1,cv2,sv2,ab n411,ab n511,ab n611,ab n911,ab n1011,q3,q4,q5,q6,q7,q8,q9,hlo,ai,aj,al,aK];exact fin _ _ (by simp only [dU]; rw [if_pos ⟨h0,h1,h2⟩,g1])
  ·have q9:(of[k]=of[k - 1])=False:=eq_false (by rw [←g1,←g2]; exact h2);apply sR;simp only [go_sem,seval,f11,f4,f5,f6,cv0,sv0,cv1,sv1,cv2,sv2,ab n411,ab n511,ab n611,ab n911,ab n1011,q3,q4,q5,q6,q7,q8,q9,hlo,ai,aj,al,aK];exact fin _ _ (by simp only [dU]; rw [if_neg (fun h=>h2 h.2.2)])
 ·have q4:((k:Int) < of.length)=False:=eq_false (by omega);apply sR;simp only [go_sem,seval,f11,f4,f5,f6,cv0,sv0,cv1,sv1,cv2,sv2,ab n411,ab n511,ab n611,ab n911,ab n1011,q3,q4,hlo,ai,aj,al,aK];exact fin _ _ (by simp only [dU]; rw [if_neg (fun h=>h1 h.2.1)])
open Go.Proofs Go.Proofs.Tryz
def stA (l:List Nd) (b:Int):Sty:=((l[b.toNat]?).map Nd.st).getD Sty.zero
def kT (l:List Nd) (b:Int):List Int:=(if 0 < (stA l b).head then [2] else [])++[(stA l b).before]
def AH (l:List Nd) (x:Kn):List Int:=x.ends.map (fun b=>(stA l b).after)++x.begins.flatMap (kT l)
theorem iP {l:List Nd} {b:Nat} (h:b < l.length):stA l b=l[b].st:=by simp [stA,h]
theorem AF (l:List Nd) (x:Kn) (hE:x.ends.length≤1000000) (hB:x.begins.length≤1000000) (he:∀b∈x.ends,∃n:Nat,b=n∧n < l.length) (hb:∀b∈x.begins,∃n:Nat,b=n∧n < l.length) :
 Iter prog 204 [.rp (gE x), .rp (aI l)] ((AH l x).map fun n=>[vI n]):=by
 refine ⟨LM.c,fun idl J Jx σ0 hy hJ=>?_⟩;refine (LM.r (by simp [JF]) ?_).2;obtain ⟨E,B,C,tx⟩:=x;simp only at hE hB he hb;have hlE:=eY E;have hlB:=eY B;have ldI:∀(σ:af) (X:List Int),bN σ false 1 (.rp (bj X))=some (bj X):=fun σ X=>rfl;have ldN:∀σ:af,bN σ false 1 (.rp (aI l))=some (aI l):=fun σ=>rfl;generalize hT:(AH l ⟨E,B,C,tx⟩).map (fun n=>[vI n])=T at hy ⊢;refine ad.mix 9 ?_;apply sR;simp only [go_sem,seval,JF,gE,ldI,hlE,aj,al];refine ad.eS (fun st=>∃(σJ:af),J ((E.map fun b=>(stA l b).after).map fun n=>[vI n]) σJ∧aa σJ st.σ∧st.s 0=.yl idl∧st.s 1=.rp (gE ⟨E,B,C,tx⟩)∧st.s 2=.rp (aI l))
  (fun m st=>∃(j:Nat) (σJ:af),j≤E.length∧m=E.length - j∧J (((E.take j).map fun b=>(stA l b).after).map fun n=>[vI n]) σJ∧aa σJ st.σ∧st.s 0=.yl idl∧st.s 1=.rp (gE ⟨E,B,C,tx⟩)∧st.s 2=.rp (aI l)∧st.s 10=bj E∧st.s 11=vI E.length∧st.s 12=vI j) E.length ?_ ?_ ?_
 ·exact ⟨0,σ0,by omega,rfl,by simpa using hJ,aa.refl _,rfl,rfl,rfl,rfl,rfl,rfl⟩
 ·rintro m ⟨S,τ⟩ ⟨j,σJ,hj,rfl,hJj,hsub,t0,t1,t2,t10,t11,t12⟩;simp only at hsub t0 t1 t2 t10 t11 t12;refine ad.mix 9 ?_;by_cases hlt:j < E.length
  ·have q:((j:Int) < E.length)=True:=eq_true (by omega);have hidx:=fun σ=>gF (σ:=σ) hlt;have htk:E.take (j+1)=E.take j++[E[j]]:=List.take_succ_eq_append_getElem hlt;obtain ⟨b,hbe,hbl⟩:=he _ (List.getElem_mem hlt);have e0':E=E.take j++E[j]::E.drop (j+1):=by rw [←List.drop_eq_getElem_cons hlt,List.take_append_drop]
   have e:T=(((E.take j).map fun b=>(stA l b).after).map fun n=>[vI n])++[vI l[b].st.after]::((((E.drop (j+1)).map fun b=>(stA l b).after)++B.flatMap (kT l)).map fun n=>[vI n]):=by
    rw [←hT,AH]
    conv=>lhs; rw [e0']
    simp [hbe,iP hbl]
   rw [hbe] at hidx htk;have hnd:=fun σ=>cS (σ:=σ) (l:=l) (a:=b) hbl;have r1:inR .i64 ((j:Int)+1):=ak (by omega) (by omega);apply sR;simp only [go_sem,seval,t0,t1,t2,t10,t11,t12,q,hidx,ldN,hnd,Nd.cells];refine ad.kV (Post:=fun b' σ2=>∃σJ',bb σJ τ σJ' σ2∧((b'=true∧J ((((E.take j).map fun b=>(stA l b).after).map fun n=>[vI n])++[[vI l[b].st.after]]) σJ')∨(b'=false∧Jx ((((E.take j).map fun b=>(stA l b).after).map fun n=>[vI n])++[[vI l[b].st.after]]) σJ'))) rfl rfl rfl (hy _ [vI l[b].st.after] _ σJ τ e hJj hsub) ?_;rintro b' σ2 ⟨σJ',hbs,hbb⟩;rcases hbb with ⟨rfl,hbb⟩ | ⟨rfl,hbb⟩
   ·apply sR;simp only [go_sem,seval,t0,t1,t2,t10,t11,t12,r1];refine ⟨_,?_,j+1,σJ',by omega,rfl,by rw [htk]; simpa [iP hbl] using hbb,hbs.1,by simp [t0,t1,t2,t10,t11]⟩;omega
   ·apply sR;simp only [go_sem,seval,t0,t1,t2,t10,t11,t12];exact ⟨_,σJ',hbs.1,Wk.refl hbs.1 _, .inr ⟨_,⟨_,by rw [e,List.append_assoc]; rfl⟩,hbb⟩⟩
  ·have q:((j:Int) < E.length)=False:=eq_false (by omega);rw [List.take_of_length_le (by omega)] at hJj;apply sR;simp only [go_sem,seval,t0,t1,t2,t10,t11,t12,q];exact ⟨σJ,hJj,hsub⟩
 ·rintro ⟨S,τ⟩ ⟨σJ,hJj,hsub,t0,t1,t2⟩;simp only at hsub t0 t1 t2;generalize hP:((E.map fun b=>(stA l b).after).map fun n=>[vI n])=P1 at *;refine ad.mix 9 ?_;apply sR;simp only [go_sem,seval,t0,t1,t2,gE,ldI,hlB,aj,al];refine ad.loop (fun m st=>∃(j:Nat) (σJ:af),j≤B.length∧m=B.length - j∧J (P1++((B.take j).flatMap (kT l)).map fun n=>[vI n]) σJ∧aa σJ st.σ∧st.s 0=.yl idl∧st.s 2=.rp (aI l)∧st.s 27=bj B∧st.s 28=vI B.length∧st.s 29=vI j) B.length ?_ ?_
  ·exact ⟨0,σJ,by omega,rfl,by simpa using hJj,hsub,t0,t2,rfl,rfl,rfl⟩
  ·clear hJj hsub t0 t1 t2;rintro m ⟨S,τ⟩ ⟨j,σJ,hj,rfl,hJj,hsub,t0,t2,t27,t28,t29⟩;simp only at hsub t0 t2 t27 t28 t29;refine ad.mix 9 ?_;by_cases hlt:j < B.length
   ·have q:((j:Int) < B.length)=True:=eq_true (by omega);have hidx:=fun σ=>gF (σ:=σ) hlt;have htk:B.take (j+1)=B.take j++[B[j]]:=List.take_succ_eq_append_getElem hlt;obtain ⟨b,hbe,hbl⟩:=hb _ (List.getElem_mem hlt);have e0':B=B.take j++B[j]::B.drop (j+1):=by rw [←List.drop_eq_getElem_cons hlt,List.take_append_drop]
    have e:T=(P1++((B.take j).flatMap (kT l)).map fun n=>[vI n])++((kT l b).map fun n=>[vI n])++(((B.drop (j+1)).flatMap (kT l)).map fun n=>[vI n]):=by
     rw [←hT,AH,List.map_append,hP]
     conv=>lhs; rw [e0']
     simp [hbe]
    rw [hbe] at hidx htk;have hnd:=fun σ=>cS (σ:=σ) (l:=l) (a:=b) hbl;have r1:inR .i64 ((j:Int)+1):=ak (by omega) (by omega);have hs:=aa.refl τ;have htk2:(P1++((B.take (j+1)).flatMap (kT l)).map fun n=>[vI n])=(P1++((B.take j).flatMap (kT l)).map fun n=>[vI n])++((kT l b).map fun n=>[vI n]):=by rw [htk]; simp
    generalize (P1++((B.take j).flatMap (kT l)).map fun n=>[vI n])=P2 at *;have hbg:kT l b=(if 0 < l[b].st.head then [2] else [])++[l[b].st.before]:=by rw [kT,iP hbl]
    apply sR;simp only [go_sem,seval,t0,t2,t27,t28,t29,q,hidx,ldN,hnd,Nd.cells];refine ae fun i8 σ8 s8 a8 f8=>?_;have z8:=hs.none f8;replace hs:=hs.trans s8;simp only [go_sem,seval,a8,t0,t2,t27,t28,t29,ldN,hnd,Nd.cells];generalize hq8:upd _ i8 _=τ8;replace a8:=(congrFun hq8 i8).symm.trans ag;replace hs:=Eq.subst (motive:=aa _) hq8 (hs.aB z8);clear hq8;generalize ((B.drop (j+1)).flatMap (kT l)).map (fun n=>[vI n])=R2 at *;refine ⟨fun h0=>?_,fun h0=>?_⟩
    ·have e1:T=P2++[vI 2]::([vI l[b].st.before]::R2):=by rw [e,hbg,if_pos h0]; simp
     have e2:T=(P2++[[vI 2]])++[vI l[b].st.before]::R2:=by rw [e1]; simp
     have e3:(P2++[[vI 2]])++[[vI l[b].st.before]]=P2++(kT l b).map fun n=>[vI n]:=by rw [hbg,if_pos h0]; simp
     have hsub8:aa σJ τ8:=hsub.trans hs;refine ad.kV (Post:=fun b' σ2=>∃σJ',bb σJ τ8 σJ' σ2∧((b'=true∧J (P2++[[vI 2]]) σJ')∨(b'=false∧Jx (P2++[[vI 2]]) σJ'))) rfl rfl rfl (hy _ [vI 2] _ σJ τ8 e1 hJj hsub8) ?_;rintro b' σ2 ⟨σJ',hbs,hbb⟩;rcases hbb with ⟨rfl,hbb⟩ | ⟨rfl,hbb⟩
     ·have a8':=(hbs.2 i8 _ (hsub.none z8) a8).1;apply sR;simp only [go_sem,seval,t0,t2,t27,t28,t29,a8'];refine ad.kV (Post:=fun b' σ3=>∃σJ3,bb σJ' σ2 σJ3 σ3∧((b'=true∧J ((P2++[[vI 2]])++[[vI l[b].st.before]]) σJ3)∨(b'=false∧Jx ((P2++[[vI 2]])++[[vI l[b].st.before]]) σJ3))) rfl rfl rfl (hy _ [vI l[b].st.before] _ σJ' σ2 e2 hbb hbs.1) ?_;rintro b3 σ3 ⟨σJ3,hbs3,hbb3⟩;rcases hbb3 with ⟨rfl,hbb3⟩ | ⟨rfl,hbb3⟩
      ·apply sR;simp only [go_sem,seval,t0,t2,t27,t28,t29,r1];refine ⟨_,?_,j+1,σJ3,by omega,rfl,by rw [htk2,←e3]; exact hbb3,hbs3.1,by simp [t0,t2,t27,t28]⟩;omega
      ·apply sR;simp only [go_sem,seval,t0,t2,t27,t28,t29];exact ⟨_,σJ3,hbs3.1,Wk.refl hbs3.1 _, .inr ⟨_,⟨_,by rw [e2,List.append_assoc]; rfl⟩,hbb3⟩⟩
     ·apply sR;simp only [go_sem,seval,t0,t2,t27,t28,t29];exact ⟨_,σJ',hbs.1,Wk.refl hbs.1 _, .inr ⟨_,⟨_,by rw [e1,List.append_assoc]; rfl⟩,hbb⟩⟩
    ·have e2:T=P2++[vI l[b].st.before]::R2:=by rw [e,hbg,if_neg (by omega)]; simp
     have e3:P2++[[vI l[b].st.before]]=P2++(kT l b).map fun n=>[vI n]:=by rw [hbg,if_neg (by omega)]; simp
     have hsub8:aa σJ τ8:=hsub.trans hs;apply sR;simp only [go_sem,seval,t0,t2,t27,t28,t29,a8];refine ad.kV (Post:=fun b' σ3=>∃σJ3,bb σJ τ8 σJ3 σ3∧((b'=true∧J (P2++[[vI l[b].st.before]]) σJ3)∨(b'=false∧Jx (P2++[[vI l[b].st.before]]) σJ3))) rfl rfl rfl (hy _ [vI l[b].st.before] _ σJ τ8 e2 hJj hsub8) ?_;rintro b3 σ3 ⟨σJ3,hbs3,hbb3⟩;rcases hbb3 with ⟨rfl,hbb3⟩ | ⟨rfl,hbb3⟩
     ·apply sR;simp only [go_sem,seval,t0,t2,t27,t28,t29,r1];refine ⟨_,?_,j+1,σJ3,by omega,rfl,by rw [htk2,←e3]; exact hbb3,hbs3.1,by simp [t0,t2,t27,t28]⟩;omega
     ·apply sR;simp only [go_sem,seval,t0,t2,t27,t28,t29];exact ⟨_,σJ3,hbs3.1,Wk.refl hbs3.1 _, .inr ⟨_,⟨_,by rw [e2,List.append_assoc]; rfl⟩,hbb3⟩⟩
   ·have q:((j:Int) < B.length)=False:=eq_false (by omega);rw [List.take_of_length_le (by omega),←hP,←List.map_append] at hJj;apply sR;simp only [go_sem,seval,t0,t2,t27,t28,t29,q];exact ⟨_,σJ,hsub,Wk.refl hsub _, .inl (hT ▸ hJj)⟩
open Go.Proofs Go.Proofs.Tryz
theorem vV {l:List Nd} {of:List Int} (hof:∀x∈of,0≤x∧x < l.length) {k:Int} {p:Int→Bool}:∀b∈chR l of k p,∃n:Nat,b=n∧n < l.length:=fun b hb=>by
 unfold chR at hb;split at hb
 ·rename_i h;have hlt:k.toNat < of.length:=by omega
  have hgd:of.getD k.toNat 0=of[k.toNat]:=by simp [hlt]
  rw [hgd] at hb;obtain ⟨h0,h1⟩:=hof _ (List.getElem_mem hlt);obtain ⟨n,rfl,hn⟩:=oq (l:=l) (a:=of[k.toNat].toNat) (by omega) b (List.mem_filter.1 hb).1;exact ⟨n,rfl,by omega⟩
 ·cases hb
theorem nU {l:List Nd} (hn:l.length≤100000) {of:List Int} {k:Int} {p:Int→Bool}:(chR l of k p).length≤100001:=by
 unfold chR;split
 ·have h1:=List.length_filter_le p (abv l (of.getD k.toNat 0).toNat);have h2:=im l (l.length+1) (eo l (of.getD k.toNat 0).toNat);have h3:(abv l (of.getD k.toNat 0).toNat).length≤l.length+1:=h2;omega
 ·simp
theorem FT (l:List Nd) (b:Int):(kT l b).length≤2:=by unfold kT; split <;> simp
theorem zp {α β:Type} (f:α→List β) (hf:∀a,(f a).length≤2):∀L:List α,(L.flatMap f).length≤2*L.length
 | []=>by simp
 | a::L=>by
   rw [List.flatMap_cons,List.length_append,List.length_cons];have:=zp f hf L;have:=hf a;omega
def iy (l:List Nd) (of:List Int) (k:Nat):List Int:=if k=of.length then [] else AH l (dU l of k)
theorem yd {l:List Nd} (hn:l.length≤100000) (of:List Int) (k:Nat):(AH l (dU l of k)).length≤1000000:=by
 unfold AH;rw [List.length_append,List.length_map];have h1:=zp (kT l) (FT l) (dU l of k).begins;have h2:(dU l of k).ends.length≤100001:=nU hn;have h3:(dU l of k).begins.length≤100001:=by
  rw [dU,List.length_reverse]; exact nU hn
 omega
theorem FC (l:List Nd) (x:Kn):aU prog 167 [aI l,gE x] (.fn 204 [.rp (gE x), .rp (aI l)]):=fun σ=>by
 refine NZ.r (by simp [Lp]) ?_;refine ad.mix 4 ?_;have q1:=ai l;have q2:=aK l;generalize aI l=y at *;obtain ⟨E,B,C,tx⟩:=x;simp only [gE];apply sR;simp only [go_sem,seval,Lp,q1,q2,aj,al];refine ae fun id1 σ1 s1 a1 f1=>?_;simp only [go_sem,seval,q1,q2,aj,al];refine ae fun id2 σ2 s2 a2 f2=>?_;simp only [go_sem,seval];exact ⟨_,σ,s1.trans s2,Wk.fn (vs':=[.rp (.agg [bj E,bj B,bj C,vI tx]), .rp y]) ⟨Wk.ptr (s1.trans s2) a2 (s1.none f2),Wk.ptr (s1.trans s2) (s2 _ _ a1) f1,trivial⟩,rfl,rfl⟩
theorem B3 (l:List Nd) (hl:dE l) (hb:isB l=true) (of:List Int) (hon:of.length≤1000000) (hof:∀x∈of,0≤x∧x < l.length) (hm:px l of=true) (k:Nat) (hk:k≤of.length) :
 aU prog 125 [aI l,bj of,vI k] (.tup [bj (iy l of k),vI 0]):=fun σ=>by
 refine Nk.r (by simp [KY]) ?_;have hs:=aa.refl σ;have hlo:=eY of;have hn:l.length≤100000:=by have:=hl.1; omega
 refine ad.mix 10 ?_;apply sR;simp only [go_sem,seval,KY];refine ad.ay rfl rfl rfl (A8 l hl hb of hon hof hm k hk _) ?_;apply sR;simp only [go_sem,seval,gE];refine ae fun i8 σ8 s8 a8 f8=>?_;have z8:=hs.none f8;replace hs:=hs.trans s8;have q0:((0:Int)≠0)=False:=eq_false (fun h=>h rfl);by_cases hkk:k=of.length
 ·have q1:((k:Int)=of.length)=True:=eq_true (by omega);simp only [go_sem,seval,a8,hlo,q0,q1,gE,aj,al];rw [iy,if_pos hkk];have hst:=hs.aB (o:=⟨223,4,[gE (dU l of k)]⟩) z8;exact ⟨_,σ,hst,Wk.tup (vs':=[bj [],vI 0]) ⟨(aM.start (e:=3)).wk (aa.refl _) hst,Wk.refl hst _,trivial⟩,rfl,rfl⟩
 ·have q1:((k:Int)=of.length)=False:=eq_false (by omega);simp only [go_sem,seval,a8,hlo,q0,q1,gE,aj,al];refine ad.ay rfl rfl rfl (FC l (dU l of k) _) ?_;apply sR;simp only [go_sem,seval];have hal:=yd hn of k;have hit:=AF l (dU l of k) (Nat.le_trans (nU hn) (by omega)) (by rw [dU,List.length_reverse]; exact Nat.le_trans (nU hn) (by omega)) (vV hof) (fun b hb=>vV hof b (List.mem_reverse.1 hb));refine ad.ay rfl rfl rfl (uT hit hal _) ?_;apply sR;simp only [go_sem,seval];rw [iy,if_neg hkk];have hst:=hs.aB (o:=⟨223,4,[gE (dU l of k)]⟩) z8;exact ⟨_,σ,hst,Wk.refl hst _,rfl,rfl⟩
open Go.Proofs Go.Proofs.Tryz
def lD (out n:Int) (over:Bool):Int:=if over=true∨out=0 then n else out
def jE (out n:Int):Int:=if n=3∨n=4 then lD out n true else if n=2 then lD out n false else out
def cJ (all:List Int):Int:=all.foldl jE 0
theorem wc (n:Int) (over:Bool) (out:Int) {σ:af} {i3:Nat} (h:σ i3=some ⟨3,1,[vI out]⟩) :
 az prog 168 [vI n, .bool over, .ptr i3 0 0] σ fun _ σ'=>σ' i3=some ⟨3,1,[vI (lD out n over)]⟩∧∀i,i≠i3→σ' i=σ i:=by
 refine Nt.r (by simp [Fw]) ?_;refine ad.mix 5 ?_;have fin:∀τ:af,τ i3=some ⟨3,1,[vI (lD out n over)]⟩→(∀i,i≠i3→τ i=σ i)→ar (.tup []) τ fun _ σ'=>σ' i3=some ⟨3,1,[vI (lD out n over)]⟩∧∀i,i≠i3→σ' i=σ i:=fun τ h1 h2 =>
  ⟨_,τ,aa.refl _,Wk.refl (aa.refl _) _,h1,h2⟩
 by_cases h0:over=true∨out=0
 ·have ht:lD out n over=n:=if_pos h0;rw [ht] at fin ⊢;cases over
  ·have q:(out=0)=True:=eq_true (by simpa using h0);apply sR;simp only [go_sem,seval,Fw,h,q];exact fin _ ag fun i hi=>ab hi
  ·apply sR;simp only [go_sem,seval,Fw,h];exact fin _ ag fun i hi=>ab hi
 ·have ht:lD out n over=out:=if_neg h0;rw [ht] at fin ⊢;simp only [not_or,Bool.not_eq_true] at h0;obtain ⟨rfl,h0⟩:=h0;have q:(out=0)=False:=eq_false h0;apply sR;simp only [go_sem,seval,Fw,h,q];exact fin _ h fun i hi=>rfl
theorem D6 (all:List Int) (hal:all.length≤1000000):aU prog 126 [bj all] (vI (cJ all)):=fun σ=>by
 refine OE.r (by simp [Ko]) ?_;have hs:=aa.refl σ;have hla:=eY all;refine ad.mix 8 ?_;apply sR;simp only [go_sem,seval,Ko];refine ae fun i3 σ3 s3 a3 f3=>?_;have z3:=hs.none f3;replace hs:=hs.trans s3;simp only [go_sem,seval,a3,hla];generalize hq3:upd _ i3 _=τ3;replace a3:=(congrFun hq3 i3).symm.trans ag;replace hs:=Eq.subst (motive:=aa _) hq3 (hs.aB z3);clear hq3;refine ad.eS (fun st=>st.σ i3=some ⟨3,1,[vI (cJ all)]⟩∧aa σ st.σ∧st.s 3=.ptr i3 0 0)
  (fun m st=>∃j:Nat,j≤all.length∧m=all.length - j∧st.σ i3=some ⟨3,1,[vI (cJ (all.take j))]⟩∧aa σ st.σ∧st.s 3=.ptr i3 0 0∧st.s 4=.fn 168 [.ptr i3 0 0]∧st.s 9=bj all∧st.s 10=vI all.length∧st.s 11=vI j) all.length ?_ ?_ ?_
 ·exact ⟨0,by omega,rfl,a3,hs,rfl,rfl,rfl,rfl,rfl⟩
 ·clear a3 hs;rintro m ⟨S,τ⟩ ⟨j,hj,rfl,b3,hs,t3,t4,t9,t10,t11⟩;simp only at b3 hs t3 t4 t9 t10 t11;refine ad.mix 8 ?_;by_cases hlt:j < all.length
  ·have q:((j:Int) < all.length)=True:=eq_true (by omega);have hidx:=fun σ=>gF (σ:=σ) hlt;have htk:cJ (all.take (j+1))=jE (cJ (all.take j)) all[j]:=by
    rw [cJ,List.take_succ_eq_append_getElem hlt,List.foldl_append]; rfl
   have r1:inR .i64 ((j:Int)+1):=ak (by omega) (by omega);generalize all[j]=n at *;have sub2:∀ {ρ:af} {o:Ob},ρ i3=some o→(∀i,i≠i3→ρ i=τ i)→aa σ ρ:=fun {ρ o} h1 h2 i x hx=>by
    rw [h2 i (fun e=>by rw [e,z3] at hx; cases hx)]; exact hs _ _ hx
   by_cases h3:n=3
   ·have q3:(n=3)=True:=eq_true h3;have hst:lD (cJ (all.take j)) n true=jE (cJ (all.take j)) n:=by rw [jE,if_pos (.inl h3)]
    apply sR;simp only [go_sem,seval,t3,t4,t9,t10,t11,q,q3,hidx];refine ad.call rfl rfl rfl (wc n true (cJ (all.take j)) b3) ?_;rintro - ρ ⟨g1,g2⟩;apply sR;simp only [go_sem,seval,t3,t4,t9,t10,t11,r1];refine ⟨_,?_,j+1,by omega,rfl,by rw [htk]; exact hst ▸ g1,sub2 g1 g2,by simp [t3,t4,t9,t10]⟩;omega
   ·have q3:(n=3)=False:=eq_false h3;by_cases h4:n=4
    ·have q4:(n=4)=True:=eq_true h4;have hst:lD (cJ (all.take j)) n true=jE (cJ (all.take j)) n:=by rw [jE,if_pos (.inr h4)]
     apply sR;simp only [go_sem,seval,t3,t4,t9,t10,t11,q,q3,q4,hidx];refine ad.call rfl rfl rfl (wc n true (cJ (all.take j)) b3) ?_;rintro - ρ ⟨g1,g2⟩;apply sR;simp only [go_sem,seval,t3,t4,t9,t10,t11,r1];refine ⟨_,?_,j+1,by omega,rfl,by rw [htk]; exact hst ▸ g1,sub2 g1 g2,by simp [t3,t4,t9,t10]⟩;omega
    ·have q4:(n=4)=False:=eq_false h4;by_cases h2:n=2
     ·have q2:(n=2)=True:=eq_true h2;have hst:lD (cJ (all.take j)) n false=jE (cJ (all.take j)) n:=by rw [jE,if_neg (by simp [h3,h4]),if_pos h2]
      apply sR;simp only [go_sem,seval,t3,t4,t9,t10,t11,q,q3,q4,q2,hidx];refine ad.call rfl rfl rfl (wc n false (cJ (all.take j)) b3) ?_;rintro - ρ ⟨g1,g2⟩;apply sR;simp only [go_sem,seval,t3,t4,t9,t10,t11,r1];refine ⟨_,?_,j+1,by omega,rfl,by rw [htk]; exact hst ▸ g1,sub2 g1 g2,by simp [t3,t4,t9,t10]⟩;omega
     ·have q2:(n=2)=False:=eq_false h2;have hst:cJ (all.take j)=jE (cJ (all.take j)) n:=by rw [jE,if_neg (by simp [h3,h4]),if_neg h2]
      apply sR;simp only [go_sem,seval,t3,t4,t9,t10,t11,q,q3,q4,q2,r1,hidx];refine ⟨_,?_,j+1,by omega,rfl,by rw [htk,←hst]; exact b3,hs,by simp [t3,t4,t9,t10]⟩;omega
  ·have q:((j:Int) < all.length)=False:=eq_false (by omega);rw [List.take_of_length_le (by omega)] at b3;apply sR;simp only [go_sem,seval,t3,t4,t9,t10,t11,q];exact ⟨b3,hs⟩
 ·rintro ⟨S,τ⟩ ⟨b3,hs,t3⟩;simp only at b3 hs t3;refine ad.mix 8 ?_;apply sR;simp only [go_sem,seval,t3,b3];exact ⟨_,σ,hs,Wk.refl hs _,rfl,rfl⟩
open Go.Proofs Go.Proofs.Tryz
def iD (l:List Nd) (of:List Int) (k:Nat):Int:=cJ (iy l of k)
theorem tf {l:List Nd} (hn:l.length≤100000) (of:List Int) (k:Nat):(iy l of k).length≤1000000:=by
 unfold iy; split
 ·simp
 ·exact yd hn of k
theorem L6 (l:List Nd) (hl:dE l) (hb:isB l=true) (of:List Int) (hon:of.length≤1000000) (hof:∀x∈of,0≤x∧x < l.length) (hm:px l of=true) (k:Nat) (hk:k≤of.length) :
 aU prog 87 [aI l,bj of,vI k] (.tup [vI (iD l of k),vI 0]):=fun σ=>by
 refine e87.r (by simp [c87]) ?_;have hs:=aa.refl σ;have hn:l.length≤100000:=by have:=hl.1; omega
 refine ad.mix 11 ?_;apply sR;simp only [go_sem,seval,c87];refine ad.ay rfl rfl rfl (B3 l hl hb of hon hof hm k hk _) ?_;apply sR;simp only [go_sem,seval];refine ad.ay rfl rfl rfl (D6 _ (tf hn of k) _) ?_;apply sR;simp only [go_sem,seval];exact ar.pure hs rfl
def xC (l:List Nd) (of:List Int):List Int:=(List.range (of.length+1)).map (iD l of)
theorem IN (l:List Nd) (hl:dE l) (hb:isB l=true) (of:List Int) (hon:of.length≤1000000) (hof:∀x∈of,0≤x∧x < l.length) (hm:px l of=true) :
 aU prog 53 [aI l,bj of] (.tup [bj (xC l of),vI 0]):=fun σ=>by
 refine e53.r (by simp [c53]) ?_;have hs:=aa.refl σ;have hlo:=eY of;refine ad.mix 11 ?_;apply sR;simp only [go_sem,seval,c53];refine ad.ay rfl rfl rfl (nX l hl hb of hon hm _) ?_;have q0:((0:Int)≠0)=False:=eq_false (fun h=>h rfl);have r0:inR .i64 ((of.length:Int)+1):=ak (by omega) (by omega);apply sR;simp only [go_sem,seval,q0,hlo,r0];refine ad.eS (fun st=>aa σ st.σ∧aM σ st.σ 3 1 (st.s 7) ((xC l of).map vI))
  (fun m st=>∃j:Nat,j≤of.length+1∧m=of.length+1 - j∧aa σ st.σ∧aM σ st.σ 3 1 (st.s 7) (((List.range j).map (iD l of)).map vI)∧st.s 0=aI l∧st.s 1=bj of∧st.s 19=vI ((of.length:Int)+1)∧st.s 20=vI j) (of.length+1) ?_ ?_ ?_
 ·exact ⟨0,by omega,rfl,hs,aM.start,rfl,rfl,rfl,rfl⟩
 ·clear hs;rintro m ⟨S,τ⟩ ⟨j,hj,rfl,hs,ho,t0,t1,t19,t20⟩;simp only at hs ho t0 t1 t19 t20;generalize hv7:S 7=v7 at ho;refine ad.mix 11 ?_;by_cases hlt:j < of.length+1
  ·have q:((j:Int) < of.length+1)=True:=eq_true (by omega);have r1:inR .i64 ((j:Int)+1):=ak (by omega) (by omega);have hrows:(((List.range (j+1)).map (iD l of)).map vI)=(((List.range j).map (iD l of)).map vI)++[vI (iD l of j)]:=by
    rw [List.range_succ]; simp
   have hlm:(((List.range j).map (iD l of)).map vI).length=j:=by simp
   apply sR;simp only [go_sem,seval,t0,t1,t19,t20,q];refine ad.ay rfl rfl rfl (L6 l hl hb of hon hof hm j (by omega) _) ?_;generalize ((List.range j).map (iD l of)).map vI=rows at *;apply sR;simp only [go_sem,seval,t0,t1,t19,t20,hv7];refine ae fun i32 σ32 s32 a32 f32=>?_;obtain ⟨idA,hda,hdel,hd1,hd2⟩:=ho.AV s32;have hb2:(rows.length+1)*9≤140737488355328:=by omega
   simp only [go_sem,seval,t0,t1,t19,t20,hv7,hda,dk a32,hb2];refine ew fun i33 σ33 s33 a33 f33=>?_;have k33:=(hdel σ (aa.refl _) σ32 (hs.trans s32)).trans s33;have n33:σ i33=none:=(hs.trans s32).none f33;simp only [go_sem,seval,t0,t1,t19,t20,r1];refine ⟨_,?_,j+1,by omega,rfl,k33,?_,by simp [t0,t1,t19]⟩
   ·omega
   ·rw [hrows];exact aM.new (by simp) a33 n33
  ·have q:((j:Int) < of.length+1)=False:=eq_false (by omega);have hje:j=of.length+1:=by omega
   subst hje;apply sR;simp only [go_sem,seval,t0,t1,t19,t20,q];exact ⟨hs,hv7 ▸ ho⟩
 ·rintro ⟨S,τ⟩ ⟨hs,ho⟩;simp only at hs ho;generalize hv7:S 7=v7 at ho;refine ad.mix 11 ?_;apply sR;simp only [go_sem,seval,hv7];exact ⟨_,σ,hs,Wk.tup (vs':=[bj (xC l of),vI 0]) ⟨ho.wk (aa.refl _) hs,Wk.refl hs _,trivial⟩,rfl,rfl⟩
open Go.Proofs Go.Proofs.Tryz
def ie (l:List Nd) (of:List Int) (k:Int) (x:Kn):V:=.agg [bj x.ends,bj x.begins,bj x.both,vI x.text,aI l,bj of,vI k]
theorem Lu (l:List Nd) (hl:dE l) (hb:isB l=true) (of:List Int) (hon:of.length≤1000000) (hof:∀x∈of,0≤x∧x < l.length) (hm:px l of=true) (k:Nat) (hk:k≤of.length) :
 aU prog 127 [aI l,bj of,vI k] (.tup [ie l of k (dU l of k),vI 0]):=fun σ=>by
 refine MP.r (by simp [IT]) ?_;have hs:=aa.refl σ;refine ad.mix 10 ?_;apply sR;simp only [go_sem,seval,IT];refine ae fun i6 σ6 s6 a6 f6=>?_;have z6:=hs.none f6;replace hs:=hs.trans s6;simp only [go_sem,seval];refine ad.ay rfl rfl rfl (A8 l hl hb of hon hof hm k hk _) ?_;apply sR;simp only [go_sem,seval,gE];refine ae fun i8 σ8 s8 a8 f8=>?_;have n68:=ao a6 f8;replace a6:=s8 _ _ a6;have z8:=hs.none f8;replace hs:=hs.trans s8;simp only [go_sem,seval,a8,a6,ab n68,gE,ai,aj,al,aK];exact ar.pure ((hs.aB z8).aB z6) rfl
theorem E8:aU prog 169 [] (.agg [vI 0,vI 0,vI 0,vI 0,vI 0,vI 2,vI 2,vI 0,vI 0,vI 0,vI 0,vI 0]):=fun σ=>by
 refine Nj.r (by simp [Ja]) ?_;apply sR;simp only [go_sem,seval,Ja];refine ae fun id0 σ0 s0 a0 f0=>?_;simp only [go_sem,seval,a0];exact .pure (s0.aB f0) rfl
def qR (a:Int):List Int→Nat→Int
 | [],_=>-1
 | q::r,i=>if q=a then i else qR a r (i+1)
theorem CZ {a:Int} {p:List Int} {i:Nat} (h:i < p.length):qR a (p.drop i) i=if p[i]=a then (i:Int) else qR a (p.drop (i+1)) (i+1):=by
 rw [List.drop_eq_getElem_cons h,qR]
theorem yU (a:Int):∀(p:List Int) (i:Nat),qR a p i≥0↔a∈p
 | [],_=>by simp [qR]
 | q::r,i=>by
   rw [qR];split
   ·rename_i h; subst h; simp
   ·rename_i h;rw [yU a r (i+1),List.mem_cons];constructor
    ·exact .inr
    ·rintro (rfl | h2)
     ·exact absurd rfl h
     ·exact h2
theorem Eo (p:List Int) (hp:p.length≤1000000000) (a:Int):aU prog 205 [bj p,vI a] (vI (qR a p 0)):=fun σ=>by
 refine M6.r (by simp [K3]) ?_;have hlp:=eY p;refine ad.mix 9 ?_;apply sR;simp only [go_sem,seval,K3,hlp];refine ad.loop (fun m st=>∃(i:Nat),i≤p.length∧m=p.length - i∧qR a p 0=qR a (p.drop i) i∧st.σ=σ∧st.s 0=bj p∧st.s 1=vI a∧st.s 7=vI p.length∧st.s 8=vI i) p.length ?_ ?_
 ·exact ⟨0,by omega,rfl,rfl,rfl,rfl,rfl,rfl,rfl⟩
 ·rintro m ⟨s,σ'⟩ ⟨i,hi,rfl,heq,hσ,h0,h1,h7,h8⟩;simp only at hσ h0 h1 h7 h8;subst hσ;refine ad.mix 9 ?_;by_cases hlt:i < p.length
  ·have q:((i:Int) < p.length)=True:=eq_true (by omega);have hd:=CZ (a:=a) hlt;have hidx:=fun σ=>gF (σ:=σ) hlt;have r1:inR .i64 ((i:Int)+1):=ak (by omega) (by omega);by_cases hc:p[i]=a
   ·have q1:(a=p[i])=True:=eq_true hc.symm;apply sR;simp only [go_sem,seval,h0,h1,h7,h8,q,hidx,q1];refine ar.same ?_;rw [heq,hd,if_pos hc]
   ·have q1:(a=p[i])=False:=eq_false (fun h=>hc h.symm);apply sR;simp only [go_sem,seval,h0,h1,h7,h8,q,hidx,q1,r1];refine ⟨_,?_,i+1,by omega,rfl,?_,by simp [h0,h1,h7]⟩
    ·omega
    ·rw [heq,hd,if_neg hc]
  ·have q:((i:Int) < p.length)=False:=eq_false (by omega);have hie:i=p.length:=by omega
   apply sR;simp only [go_sem,seval,h0,h1,h7,h8,q];refine ar.same ?_;rw [heq,hie,List.drop_length]; rfl
theorem zg (p:List Int) (hp:p.length≤1000000000) (a:Int):aU prog 174 [bj p,vI a] (.bool (decide (a∈p))):=fun σ=>by
 refine Od.r (by simp [Lr]) ?_;apply sR;simp only [go_sem,seval,Lr];refine ad.ay rfl rfl rfl (Eo p hp a _) ?_;have h:=yU a p 0;by_cases ha:a∈p
 ·have q:(qR a p 0≥0)=True:=eq_true (h.2 ha);apply sR;simp only [go_sem,seval,q];exact ar.same (by simp [ha])
 ·have q:(qR a p 0≥0)=False:=eq_false (fun hh=>ha (h.1 hh));apply sR;simp only [go_sem,seval,q];exact ar.same (by simp [ha])
open Go.Proofs Go.Proofs.Tryz
def jP (of:List Int) (t:Int) (k:Nat):Nat→Nat×Nat
 | 0=>(0,0)
 | j+1=>if of.getD j 0=t then if j < k then ((jP of t k j).1+1,(jP of t k j).2) else ((jP of t k j).1,(jP of t k j).2+1) else jP of t k j
def ni (of:List Int) (t:Int) (k:Nat):Nat×Nat:=if t < 0 then (0,0) else jP of t k of.length
theorem B1 (of:List Int) (t:Int) (k:Nat):∀j,(jP of t k j).1≤j∧(jP of t k j).2≤j
 | 0=>by simp [jP]
 | j+1=>by
   have:=B1 of t k j;rw [jP];split
   ·split <;> simp only <;> omega
   ·omega
theorem EY (l:List Nd) (of:List Int) (hon:of.length≤1000000) (k:Nat) (x:Kn) :
 aU prog 171 [ie l of k x] (.tup [vI (ni of x.text k).1,vI (ni of x.text k).2]):=fun σ=>by
 refine Oy.r (by simp [Lc]) ?_;have hs:=aa.refl σ;have hlo:=eY of;obtain ⟨E,B,C,t⟩:=x;simp only;refine ad.mix 6 ?_;apply sR;simp only [go_sem,seval,Lc,ie,ai,aj,al,aK];refine ae fun i1 σ1 s1 a1 f1=>?_;have z1:=hs.none f1;replace hs:=hs.trans s1;unfold ni;by_cases ht:t < 0
 ·have q:(t < 0)=True:=eq_true ht;simp only [go_sem,seval,a1,q,ai,aj,al,aK];exact ar.pure hs (by simp [ht])
 have q:(t < 0)=False:=eq_false ht;rw [if_neg ht];simp only [go_sem,seval,a1,q,hlo,ai,aj,al,aK];refine ad.loop (fun m st=>∃j:Nat,j≤of.length∧m=of.length - j∧st.σ=σ1∧st.s 1=.ptr i1 0 0∧st.s 2=vI (jP of t k j).1∧st.s 3=vI (jP of t k j).2∧st.s 11=bj of∧st.s 12=vI of.length∧st.s 13=vI j) of.length ?_ ?_
 ·exact ⟨0,by omega,rfl,rfl,rfl,rfl,rfl,rfl,rfl,rfl⟩
 ·rintro m ⟨S,τ⟩ ⟨j,hj,rfl,hσ,t1,t2,t3,t11,t12,t13⟩;simp only at hσ t1 t2 t3 t11 t12 t13;subst hσ;refine ad.mix 6 ?_;by_cases hlt:j < of.length
  ·have q0:((j:Int) < of.length)=True:=eq_true (by omega);have r1:inR .i64 ((j:Int)+1):=ak (by omega) (by omega);have hidx:=fun σ=>gF (σ:=σ) hlt;have hgd:of.getD j 0=of[j]:=by simp [hlt]
   have hle:=B1 of t k j;have hst:jP of t k (j+1)=if of[j]=t then if j < k then ((jP of t k j).1+1,(jP of t k j).2) else ((jP of t k j).1,(jP of t k j).2+1) else jP of t k j:=by rw [jP,hgd]
   have r2:inR .i64 (((jP of t k j).1:Int)+1):=ak (by omega) (by omega);have r3:inR .i64 (((jP of t k j).2:Int)+1):=ak (by omega) (by omega);by_cases hn:of[j]=t
   ·have q1:(of[j]≠t)=False:=eq_false (fun h=>h hn);rw [if_pos hn] at hst;by_cases hk:j < k
    ·have q2:((j:Int) < k)=True:=eq_true (by omega);rw [if_pos hk] at hst;apply sR;simp only [go_sem,seval,t1,t2,t3,t11,t12,t13,a1,q0,q1,q2,r1,r2,hidx,ai,aj,al,aK];refine ⟨_,?_,j+1,by omega,rfl,by rw [hst]; simp [t1,t2,t3,t11,t12]⟩;omega
    ·have q2:((j:Int) < k)=False:=eq_false (by omega);rw [if_neg hk] at hst;apply sR;simp only [go_sem,seval,t1,t2,t3,t11,t12,t13,a1,q0,q1,q2,r1,r3,hidx,ai,aj,al,aK];refine ⟨_,?_,j+1,by omega,rfl,by rw [hst]; simp [t1,t2,t3,t11,t12]⟩;omega
   ·have q1:(of[j]≠t)=True:=eq_true hn;rw [if_neg hn] at hst;apply sR;simp only [go_sem,seval,t1,t2,t3,t11,t12,t13,a1,q0,q1,r1,hidx,ai,aj,al,aK];refine ⟨_,?_,j+1,by omega,rfl,by rw [hst]; simp [t1,t2,t3,t11,t12]⟩;omega
  ·have q0:((j:Int) < of.length)=False:=eq_false (by omega);have hje:j=of.length:=by omega
   apply sR;simp only [go_sem,seval,t1,t2,t3,t11,t12,t13,q0];exact ar.pure hs (by rw [hje])
open Go.Proofs Go.Proofs.Tryz
def wD:Sty:=⟨0,0,0,0,0,2,2,0,0,0,0,0⟩
def wI (l:List Nd) (t:Int):Sty:=if 0≤eo l t.toNat then stA l (eo l t.toNat) else wD
def IU (l:List Nd) (of:List Int) (t:Int) (k:Nat):Bool:=if t < 0 then false else decide (((ni of t k).1:Int) < (wI l t).orphans∨((ni of t k).2:Int) < (wI l t).widows)
theorem Ki (l:List Nd) (hl:dE l) (hb:isB l=true) (of:List Int) (hon:of.length≤1000000) (k:Nat) (x:Kn) (hx:x.text < l.length) :
 aU prog 128 [ie l of k x] (.bool (IU l of x.text k)):=fun σ=>by
 refine Ns.r (by simp [JM]) ?_;have hs:=aa.refl σ;have hlc:=fun x=>EY l of hon k x;obtain ⟨E,B,C,t⟩:=x;simp only at hx ⊢;refine ad.mix 7 ?_;apply sR;simp only [go_sem,seval,JM,ie,ai,aj,al,aK];refine ae fun i1 σ1 s1 a1 f1=>?_;have z1:=hs.none f1;replace hs:=hs.trans s1;unfold IU;by_cases ht:t < 0
 ·have q:(t < 0)=True:=eq_true ht;simp only [go_sem,seval,a1,q,ai,aj,al,aK];exact ar.pure hs (by simp [ht])
 have q:(t < 0)=False:=eq_false ht;rw [if_neg ht];obtain ⟨a,rfl⟩:∃a:Nat,t=a:=⟨t.toNat,by omega⟩
 simp only [go_sem,seval,a1,q,ai,aj,al,aK];refine ad.ay rfl rfl rfl (E8 _) ?_;apply sR;simp only [go_sem,seval];refine ae fun i3 σ3 s3 a3 f3=>?_;have n13:=ao a1 f3;replace a1:=s3 _ _ a1;have z3:=hs.none f3;replace hs:=hs.trans s3;simp only [go_sem,seval,a3,a1,ab n13,ai,aj,al,aK];generalize hq3:upd _ i3 _=τ3;replace a3:=(congrFun hq3 i3).symm.trans ag;replace a1:=((congrFun hq3 i1).symm.trans (ab n13)).trans a1;replace hs:=Eq.subst (motive:=aa _) hq3 (hs.aB z3);clear hq3;refine ad.ay rfl rfl rfl (Ah l hl hb a (by omega) _) ?_;have hpr:=fg l a;have hsd:wI l (a:Int)=if 0≤eo l a then stA l (eo l a) else wD:=by simp [wI]
 rw [hsd];by_cases hp:0≤eo l a
 ·have q0:(eo l a≥0)=True:=eq_true hp;obtain ⟨b,hbe⟩:∃b:Nat,eo l a=b:=⟨(eo l a).toNat,by omega⟩
  rw [if_pos hp];rw [hbe] at q0 hpr ⊢;have hbl:b < l.length:=by omega
  have hnd:=fun σ=>cS (σ:=σ) (l:=l) (a:=b) hbl;rw [iP hbl];apply sR;simp only [go_sem,seval,a1,a3,q0,hnd,Nd.cells,ab n13,ai,aj,al,aK];generalize hq4:upd τ3 i3 _=τ4;have b3:τ4 i3=some ⟨71,12,[jg l[b].st]⟩:=by rw [←hq4]; exact ag
  replace hs:aa σ τ4:=by rw [←hq4]; exact hs.aB z3
  clear hq4;generalize l[b].st=st at *;rw [jg] at b3;refine ad.ay rfl rfl rfl (hlc ⟨E,B,C,a⟩ _) ?_;generalize ni of (a:Int) k=L at *;obtain ⟨L1,L2⟩:=L;simp only;by_cases h1:(L1:Int) < st.orphans
  ·have q1:((L1:Int) < st.orphans)=True:=eq_true h1;apply sR;simp only [go_sem,seval,b3,q1,ai,aj,al,aK];exact ar.pure hs (by simp [h1])
  ·have q1:((L1:Int) < st.orphans)=False:=eq_false h1;by_cases h2:(L2:Int) < st.widows
   ·have q2:((L2:Int) < st.widows)=True:=eq_true h2;apply sR;simp only [go_sem,seval,b3,q1,q2,ai,aj,al,aK];exact ar.pure hs (by simp [h2])
   ·have q2:((L2:Int) < st.widows)=False:=eq_false h2;apply sR;simp only [go_sem,seval,b3,q1,q2,ai,aj,al,aK];exact ar.pure hs (by simp [h1,h2])
 ·have q0:(eo l a≥0)=False:=eq_false hp;rw [if_neg hp];apply sR;simp only [go_sem,seval,a1,a3,q0,ab n13,ai,aj,al,aK];have b3:τ3 i3=some ⟨71,12,[jg wD]⟩:=a3;generalize wD=st at *;rw [jg] at b3;refine ad.ay rfl rfl rfl (hlc ⟨E,B,C,a⟩ _) ?_;generalize ni of (a:Int) k=L at *;obtain ⟨L1,L2⟩:=L;simp only;by_cases h1:(L1:Int) < st.orphans
  ·have q1:((L1:Int) < st.orphans)=True:=eq_true h1;apply sR;simp only [go_sem,seval,b3,q1,ai,aj,al,aK];exact ar.pure hs (by simp [h1])
  ·have q1:((L1:Int) < st.orphans)=False:=eq_false h1;by_cases h2:(L2:Int) < st.widows
   ·have q2:((L2:Int) < st.widows)=True:=eq_true h2;apply sR;simp only [go_sem,seval,b3,q1,q2,ai,aj,al,aK];exact ar.pure hs (by simp [h2])
   ·have q2:((L2:Int) < st.widows)=False:=eq_false h2;apply sR;simp only [go_sem,seval,b3,q1,q2,ai,aj,al,aK];exact ar.pure hs (by simp [h1,h2])
open Go.Proofs Go.Proofs.Tryz
def Bs (l:List Nd) (x:Kn):Bool:=x.both.any fun b=>decide ((stA l b).inside=1)
theorem Ai (l:List Nd) (of:List Int) (k:Nat) (x:Kn) {σ:af} {i1:Nat} (h:σ i1=some ⟨225,7,[ie l of k x]⟩) (n:Nat) (hn:n < l.length) :
 az prog 173 [vI n, .ptr i1 0 0] σ fun r σ'=>r=.bool (decide ((stA l n).inside=1))∧σ'=σ:=by
 refine MS.r (by simp [Hp]) ?_;refine ad.mix 4 ?_;have hnd:=fun σ=>cS (σ:=σ) (l:=l) (a:=n) hn;rw [iP hn];rw [ie] at h;by_cases hi:l[n].st.inside=1
 ·have q:(l[n].st.inside=1)=True:=eq_true hi;apply sR;simp only [go_sem,seval,Hp,h,hnd,Nd.cells,q,ai,aj];exact ar.same (by simp [hi])
 ·have q:(l[n].st.inside=1)=False:=eq_false hi;apply sR;simp only [go_sem,seval,Hp,h,hnd,Nd.cells,q,ai,aj];exact ar.same (by simp [hi])
theorem Cc (l:List Nd) (of:List Int) (k:Nat) (x:Kn) (hx:∀b∈x.both,∃n:Nat,b=n∧n < l.length) (hlen:x.both.length≤1000000) :
 aU prog 129 [ie l of k x] (.bool (Bs l x)):=fun σ=>by
 refine Nu.r (by simp [JW]) ?_;have hs:=aa.refl σ;refine ad.mix 3 ?_;apply sR;simp only [go_sem,seval,JW,ie,ai,aj,al,aK];refine ae fun i1 σ1 s1 a1 f1=>?_;have z1:=hs.none f1;replace hs:=hs.trans s1;simp only [go_sem,seval,a1,ai,aj,al,aK];refine ad.ay rfl rfl rfl (lq (p:=fun b=>decide ((stA l b).inside=1)) Reads.ints (by omega) (fun b hb=>by
  obtain ⟨n,rfl,hn⟩:=hx b hb;exact Ai l of k x a1 n hn)) ?_
 apply sR;simp only [go_sem,seval];exact ar.pure hs rfl
theorem AE (l:List Nd) (hl:dE l) (hb:isB l=true) (of:List Int) (hon:of.length≤1000000) (hof:∀x∈of,0≤x∧x < l.length) (hm:px l of=true) (k:Nat) (hk:k≤of.length) (x:Kn) :
 aU prog 130 [ie l of k x] (.bool (decide (1∈iy l of k))):=fun σ=>by
 refine M5.r (by simp [JP]) ?_;have hs:=aa.refl σ;have hn:l.length≤100000:=by have:=hl.1; omega
 refine ad.mix 5 ?_;apply sR;simp only [go_sem,seval,JP,ie,ai,aj,al,aK];refine ae fun i1 σ1 s1 a1 f1=>?_;have z1:=hs.none f1;replace hs:=hs.trans s1;simp only [go_sem,seval,a1,ai,aj,al,aK];refine ad.ay rfl rfl rfl (B3 l hl hb of hon hof hm k hk _) ?_;apply sR;simp only [go_sem,seval];refine ad.ay rfl rfl rfl (zg _ (by have:=tf hn of k; omega) 1 _) ?_;apply sR;simp only [go_sem,seval];exact ar.pure hs rfl
open Go.Proofs Go.Proofs.Tryz
def Fv (s:Int) (j:Nat) (b:Bool):Int:=if b then s+2 ^ j else s
def jJ (l:List Nd) (of:List Int) (k:Nat):Nat→Bool
 | 0=>IU l of (dU l of k).text k
 | 1=>Bs l (dU l of k)
 | _=>decide (1∈iy l of k)
def cY (l:List Nd) (of:List Int) (k:Nat):Nat→Int
 | 0=>0
 | j+1=>Fv (cY l of k j) j (jJ l of k j)
def o5 (l:List Nd) (of:List Int) (k:Nat):Int:=if k=0∨k=of.length then 0 else cY l of k 3
theorem Fa {l:List Nd} {of:List Int} (hof:∀x∈of,0≤x∧x < l.length) (k:Nat):(dU l of k).text < l.length:=by
 rw [dU];simp only;split
 ·rename_i h;have hgd:of.getD k 0=of[k]'h.2.1:=by simp [h.2.1]
  rw [hgd];exact (hof _ (List.getElem_mem h.2.1)).2
 ·omega
theorem MA (l:List Nd) (hl:dE l) (hb:isB l=true) (of:List Int) (hon:of.length≤1000000) (hof:∀x∈of,0≤x∧x < l.length) (hm:px l of=true) (k:Nat) (hk:k≤of.length) :
 aU prog 88 [aI l,bj of,vI k] (.tup [vI (o5 l of k),vI 0]):=fun σ=>by
 refine e88.r (by simp [c88]) ?_;have hs:=aa.refl σ;have hlo:=eY of;have hn:l.length≤100000:=by have:=hl.1; omega
 have hb1:∀(f:FuncId) (a:List V),(V.bm f a).cells=[.bm f a]:=fun _ _=>rfl;have hb2:∀f:FuncId,(V.bm f [.agg [bj (dU l of k).ends,bj (dU l of k).begins,bj (dU l of k).both,vI (dU l of k).text,aI l,bj of,vI k]]).stays=true:=fun _=>rfl;have hnf:V.nilfn.cells=[.nilfn]:=rfl;refine ad.mix 15 ?_;apply sR;simp only [go_sem,seval,c88];refine ad.ay rfl rfl rfl (Lu l hl hb of hon hof hm k hk _) ?_;have hpc:(ie l of k (dU l of k)).stays=true:=rfl;apply sR;simp only [go_sem,seval,ie,hpc];refine ae fun i8 σ8 s8 a8 f8=>?_;have z8:=hs.none f8;replace hs:=hs.trans s8;have q0:((0:Int)≠0)=False:=eq_false (fun h=>h rfl);unfold o5;by_cases hk0:k=0
 ·subst hk0;have q1:(((0:Nat):Int)=0)=True:=eq_true rfl;simp only [go_sem,seval,a8,q0,q1,ai,aj,al,aK];exact ar.pure (hs.aB z8) (by simp)
 have q1:((k:Int)=0)=False:=eq_false (by omega);by_cases hk1:k=of.length
 ·have q2:((k:Int)=of.length)=True:=eq_true (by omega);simp only [go_sem,seval,a8,q0,q1,q2,hlo,ai,aj,al,aK];exact ar.pure (hs.aB z8) (by simp [hk1])
 have q2:((k:Int)=of.length)=False:=eq_false (by omega);rw [if_neg (by omega)];simp only [go_sem,seval,a8,q0,q1,q2,hlo,hb1,hb2,hnf,ai,aj,al,aK];generalize hq8:upd _ i8 _=τ8;replace a8:=(congrFun hq8 i8).symm.trans ag;replace hs:=Eq.subst (motive:=aa _) hq8 (hs.aB z8);clear hq8;refine ae fun i10 σ10 s10 a10 f10=>?_;have n810:=ao a8 f10;replace a8:=s10 _ _ a8;have z10:=hs.none f10;replace hs:=hs.trans s10;simp only [go_sem,seval,a10,hb1,hb2,hnf,ai,aj,al,aK];generalize hq10:upd _ i10 _=τ10;replace a10:=(congrFun hq10 i10).symm.trans ag;replace a8:=((congrFun hq10 i8).symm.trans (ab n810)).trans a8;replace hs:=Eq.subst (motive:=aa _) hq10 (hs.aB z10);clear hq10;have ht:=Fa hof (l:=l) k;have c0:aU prog 128 [ie l of k (dU l of k)] (.bool (jJ l of k 0)):=Ki l hl hb of hon k (dU l of k) ht;have c1:aU prog 129 [ie l of k (dU l of k)] (.bool (jJ l of k 1)):=Cc l of k (dU l of k) (vV hof) (Nat.le_trans (nU hn) (by omega));have c2:aU prog 130 [ie l of k (dU l of k)] (.bool (jJ l of k 2)):=AE l hl hb of hon hof hm k hk (dU l of k);rw [ie] at c0 c1 c2;generalize hpv:V.agg [bj (dU l of k).ends,bj (dU l of k).begins,bj (dU l of k).both,vI (dU l of k).text,aI l,bj of,vI k]=pv at *;refine ad.eS (fun st=>aa σ st.σ∧st.s 11=vI (cY l of k 3))
  (fun m st=>∃j:Nat,j≤3∧m=3 - j∧aa σ st.σ∧st.s 11=vI (cY l of k j)∧st.s 41=.agg [.bm 128 [pv], .bm 129 [pv], .bm 130 [pv]]∧st.s 42=vI j) 3 ?_ ?_ ?_
 ·exact ⟨0,by omega,rfl,hs,rfl,rfl,rfl⟩
 ·clear hs a8 a10;rintro m ⟨S,τ⟩ ⟨j,hj,rfl,hs,t11,t41,t42⟩;simp only at hs t11 t41 t42;refine ad.mix 15 ?_;rcases (by omega:j=0∨j=1∨j=2∨j=3) with rfl | rfl | rfl | rfl
  ·have u42:S 42=vI 0:=t42;have hp:cY l of k 0=0:=rfl;have u11:S 11=vI 0:=by rw [t11,hp]
   apply sR;simp only [go_sem,seval,u11,t41,u42];refine ad.j9 rfl rfl rfl (c0 _) ?_;rintro r σ' ⟨rfl,rfl⟩;cases hv:jJ l of k 0
   ·apply sR;simp only [go_sem,seval,u11,t41,u42];refine ⟨ak (by omega) (by omega),_,?_,1,by omega,rfl,hs,by rw [cY,hp,hv]; rfl,rfl⟩;omega
   ·apply sR;simp only [go_sem,seval,u11,t41,u42];refine ⟨ak (by omega) (by omega),_,?_,1,by omega,rfl,hs,by rw [cY,hp,hv]; rfl,rfl⟩;omega
  ·have u42:S 42=vI 1:=t42;have hp:cY l of k 1=0∨cY l of k 1=1:=by rw [cY,cY,Fv]; split <;> simp
   rcases hp with hp | hp
   ·have:=hp;have u11:S 11=vI 0:=by rw [t11,hp]
    apply sR;simp only [go_sem,seval,u11,t41,u42];refine ad.j9 rfl rfl rfl (c1 _) ?_;rintro r σ' ⟨rfl,rfl⟩;cases hv:jJ l of k 1
    ·apply sR;simp only [go_sem,seval,u11,t41,u42];refine ⟨ak (by omega) (by omega),_,?_,2,by omega,rfl,hs,by rw [cY,hp,hv]; rfl,rfl⟩;omega
    ·apply sR;simp only [go_sem,seval,u11,t41,u42];refine ⟨ak (by omega) (by omega),_,?_,2,by omega,rfl,hs,by rw [cY,hp,hv]; rfl,rfl⟩;omega
   ·have:=hp;have u11:S 11=vI 1:=by rw [t11,hp]
    apply sR;simp only [go_sem,seval,u11,t41,u42];refine ad.j9 rfl rfl rfl (c1 _) ?_;rintro r σ' ⟨rfl,rfl⟩;cases hv:jJ l of k 1
    ·apply sR;simp only [go_sem,seval,u11,t41,u42];refine ⟨ak (by omega) (by omega),_,?_,2,by omega,rfl,hs,by rw [cY,hp,hv]; rfl,rfl⟩;omega
    ·apply sR;simp only [go_sem,seval,u11,t41,u42];refine ⟨ak (by omega) (by omega),_,?_,2,by omega,rfl,hs,by rw [cY,hp,hv]; rfl,rfl⟩;omega
  ·have u42:S 42=vI 2:=t42;have hp:cY l of k 2=0∨cY l of k 2=1∨cY l of k 2=2∨cY l of k 2=3:=by rw [cY,cY,cY,Fv,Fv]; split <;> split <;> simp
   rcases hp with hp | hp | hp | hp
   ·have:=hp;have u11:S 11=vI 0:=by rw [t11,hp]
    apply sR;simp only [go_sem,seval,u11,t41,u42];refine ad.j9 rfl rfl rfl (c2 _) ?_;rintro r σ' ⟨rfl,rfl⟩;cases hv:jJ l of k 2
    ·apply sR;simp only [go_sem,seval,u11,t41,u42];refine ⟨ak (by omega) (by omega),_,?_,3,by omega,rfl,hs,by rw [cY,hp,hv]; rfl,rfl⟩;omega
    ·apply sR;simp only [go_sem,seval,u11,t41,u42];refine ⟨ak (by omega) (by omega),_,?_,3,by omega,rfl,hs,by rw [cY,hp,hv]; rfl,rfl⟩;omega
   ·have:=hp;have u11:S 11=vI 1:=by rw [t11,hp]
    apply sR;simp only [go_sem,seval,u11,t41,u42];refine ad.j9 rfl rfl rfl (c2 _) ?_;rintro r σ' ⟨rfl,rfl⟩;cases hv:jJ l of k 2
    ·apply sR;simp only [go_sem,seval,u11,t41,u42];refine ⟨ak (by omega) (by omega),_,?_,3,by omega,rfl,hs,by rw [cY,hp,hv]; rfl,rfl⟩;omega
    ·apply sR;simp only [go_sem,seval,u11,t41,u42];refine ⟨ak (by omega) (by omega),_,?_,3,by omega,rfl,hs,by rw [cY,hp,hv]; rfl,rfl⟩;omega
   ·have:=hp;have u11:S 11=vI 2:=by rw [t11,hp]
    apply sR;simp only [go_sem,seval,u11,t41,u42];refine ad.j9 rfl rfl rfl (c2 _) ?_;rintro r σ' ⟨rfl,rfl⟩;cases hv:jJ l of k 2
    ·apply sR;simp only [go_sem,seval,u11,t41,u42];refine ⟨ak (by omega) (by omega),_,?_,3,by omega,rfl,hs,by rw [cY,hp,hv]; rfl,rfl⟩;omega
    ·apply sR;simp only [go_sem,seval,u11,t41,u42];refine ⟨ak (by omega) (by omega),_,?_,3,by omega,rfl,hs,by rw [cY,hp,hv]; rfl,rfl⟩;omega
   ·have:=hp;have u11:S 11=vI 3:=by rw [t11,hp]
    apply sR;simp only [go_sem,seval,u11,t41,u42];refine ad.j9 rfl rfl rfl (c2 _) ?_;rintro r σ' ⟨rfl,rfl⟩;cases hv:jJ l of k 2
    ·apply sR;simp only [go_sem,seval,u11,t41,u42];refine ⟨ak (by omega) (by omega),_,?_,3,by omega,rfl,hs,by rw [cY,hp,hv]; rfl,rfl⟩;omega
    ·apply sR;simp only [go_sem,seval,u11,t41,u42];refine ⟨ak (by omega) (by omega),_,?_,3,by omega,rfl,hs,by rw [cY,hp,hv]; rfl,rfl⟩;omega
  ·have u42:S 42=vI 3:=t42;apply sR;simp only [go_sem,seval,t11,t41,u42];exact hs
 ·rintro ⟨S,τ⟩ ⟨hs,t11⟩;simp only at hs t11;refine ad.mix 15 ?_;apply sR;simp only [go_sem,seval,t11];exact ar.pure hs rfl
end Go.Vc
