/- Part 4 of the library of this proof. -/
import Derived.Test.YthlfggpepphopaaGreatW3
set_option linter.all false
set_option maxRecDepth 100000
namespace Go.Vc
open Go.Proofs Go.Proofs.Tryz
section
variable {P:Program} {n:Nat} {st:St} {Q:St→Prop} {k:List It}
theorem Go.cp {i:aG} {l:List aG} {fx:VX} {xs:List VX} {f:FuncId} {caps:List V} {v:V} (hw:bh st.s i.g=some true) (ho:i.op=.call fx xs)
 (hf:fx.ev st.s=.fn f caps) (hc:aU P f (xs.map (·.ev st.s)++caps) v) (h:Go P n (.d l k) ⟨aV st.s i.dst v,st.σ⟩ Q):Go P n (.d (i::l) k) st Q:=by
 refine nu hw ?_;rw [ho];exact ⟨f,caps,v,hf,fun σ1 _=>hc σ1,h⟩
end
theorem mu {σ:af} {id:Nat} {o:Ob} (h:σ id=some o):upd σ id o=σ:=by
 funext i;simp only [upd];split
 ·rename_i e; rw [e,h]
 ·rfl
def Bq (n:Int):Prop:=-1152921504606846976≤n∧n≤1152921504606846976
theorem lW (n:Int):aU prog 24 [vI n] (.bool (decide (1≤n∧n≤1099511627776))):=fun σ=>by
 refine e24.r (by simp [c24]) ?_;apply sR;simp only [go_sem,seval,c24];refine And.intro (fun h=>?_) (fun h=>?_)
 ·exact ar.same (by congr 1; exact decide_eq_decide.2 (by omega))
 ·exact ar.same (by congr 1; exact (decide_eq_false (by omega)).symm)
def dn (n:Int):Int:=max (-1099511627776) (min n 1099511627776)
theorem x8 (n:Int):aU prog 60 [vI n] (vI (dn n)):=fun σ=>by
 refine e60.r (by simp [c60]) ?_;apply sR;simp only [go_sem,seval,c60];exact ar.same (by congr 1; unfold dn; split <;> split <;> omega)
structure Spn where
 (a b:Int)
deriving DecidableEq
def aY (s:Spn):V:=.agg [vI s.a,vI s.b]
theorem qU (s:Spn):aU prog 211 [aY s] (.bool (decide (s.b≤s.a))):=fun σ=>by
 refine NS.r (by simp [Lq]) ?_;apply sR;simp only [go_sem,seval,Lq,aY];refine ae fun i1 σ1 s1 a1 f1=>?_;simp only [go_sem,seval,a1];exact ar.pure s1 rfl
def jh (s:Spn):Int:=if s.b≤s.a then 0 else s.b - s.a
def Bq2 (n:Int):Prop:=-2305843009213693952≤n∧n≤2305843009213693952
theorem EG (s:Spn) (ha:Bq2 s.a) (hb:Bq2 s.b):aU prog 190 [aY s] (vI (jh s)):=fun σ=>by
 obtain ⟨h1,h2⟩:=ha;obtain ⟨h3,h4⟩:=hb;refine MM.r (by simp [I1]) ?_;apply sR;simp only [go_sem,seval,I1,aY];refine ae fun i1 σ1 s1 a1 f1=>?_;simp only [go_sem,seval,a1];refine ad.ay rfl rfl rfl (qU ⟨_,_⟩ _) ?_;apply sR;simp only [go_sem,seval,a1];unfold jh;refine And.intro (fun h=>?_) (fun h=>?_)
 ·rw [if_pos h]; exact ar.pure s1 rfl
 ·rw [if_neg h]; exact ⟨ak (by omega) (by omega),ar.pure s1 rfl⟩
open Go.Proofs Go.Proofs.Tryz
def nq (a b:Spn):Spn:=if a.b≤a.a∨b.b≤b.a∨min a.b b.b≤max a.a b.a then ⟨0,0⟩ else ⟨max a.a b.a,min a.b b.b⟩
theorem cL (a b:Int):(if b > a then b else a)=max a b:=by split <;> omega
theorem eI (a b:Int):(if b < a then b else a)=min a b:=by split <;> omega
theorem KP (x y:Spn):aU prog 221 [aY x,aY y] (aY (nq x y)):=fun σ=>by
 refine NB.r (by simp [JO]) ?_;have hs:=aa.refl σ;refine ad.mix 6 ?_;apply sR;simp only [go_sem,seval,JO,aY];refine ae fun i2 σ2 s2 a2 f2=>?_;have z2:=hs.none f2;replace hs:=hs.trans s2;simp only [go_sem,seval,a2];refine ae fun i3 σ3 s3 a3 f3=>?_;have n23:=ao a2 f3;replace a2:=s3 _ _ a2;have z3:=hs.none f3;replace hs:=hs.trans s3;simp only [go_sem,seval,a3,a2];refine ae fun i4 σ4 s4 a4 f4=>?_;have n24:=ao a2 f4;replace a2:=s4 _ _ a2;have n34:=ao a3 f4;replace a3:=s4 _ _ a3;have z4:=hs.none f4;replace hs:=hs.trans s4;simp only [go_sem,seval,a4,a3,a2];refine ae fun i5 σ5 s5 a5 f5=>?_;have n25:=ao a2 f5;replace a2:=s5 _ _ a2;have n35:=ao a3 f5;replace a3:=s5 _ _ a3;have n45:=ao a4 f5;replace a4:=s5 _ _ a4;have z5:=hs.none f5;replace hs:=hs.trans s5;simp only [go_sem,seval,a5,a4,a3,a2,cL,eI,ab n25,ab n35,ab n45];generalize hq5:upd _ i5 _=τ5;replace a5:=(congrFun hq5 i5).symm.trans ag;replace a2:=((congrFun hq5 i2).symm.trans (ab n25)).trans a2;replace a3:=((congrFun hq5 i3).symm.trans (ab n35)).trans a3;replace a4:=((congrFun hq5 i4).symm.trans (ab n45)).trans a4;replace hs:=Eq.subst (motive:=aa _) hq5 (hs.aB z5);clear hq5;refine ad.ay rfl rfl rfl (qU ⟨_,_⟩ _) ?_;unfold nq;by_cases h1:x.b≤x.a
 ·rw [if_pos (.inl h1),decide_eq_true h1];apply sR;simp only [go_sem,seval,a4,a5];exact ar.pure (hs.aB z4) rfl
 rw [decide_eq_false h1];apply sR;simp only [go_sem,seval,a3,a5,a4];refine ad.ay rfl rfl rfl (qU ⟨_,_⟩ _) ?_;by_cases h2:y.b≤y.a
 ·rw [if_pos (.inr (.inl h2)),decide_eq_true h2];apply sR;simp only [go_sem,seval,a4,a5];exact ar.pure (hs.aB z4) rfl
 rw [decide_eq_false h2];apply sR;simp only [go_sem,seval,a3,a5,a4];refine ad.ay rfl rfl rfl (qU ⟨_,_⟩ _) ?_;by_cases h3:min x.b y.b≤max x.a y.a
 ·rw [if_pos (.inr (.inr h3)),decide_eq_true h3];apply sR;simp only [go_sem,seval,a4,a5];exact ar.pure (hs.aB z4) rfl
 ·rw [if_neg (by omega),decide_eq_false h3];apply sR;simp only [go_sem,seval,a4,a5];exact ar.pure (hs.aB z4) rfl
theorem GN (x y:Spn):aU prog 219 [aY x,aY y] (.bool (decide (nq x y=⟨0,0⟩))):=fun σ=>by
 refine Oc.r (by simp [Lk]) ?_;have hs:=aa.refl σ;refine ad.mix 5 ?_;apply sR;simp only [go_sem,seval,Lk,aY];refine ae fun i2 σ2 s2 a2 f2=>?_;have z2:=hs.none f2;replace hs:=hs.trans s2;simp only [go_sem,seval,a2];refine ae fun i3 σ3 s3 a3 f3=>?_;have n23:=ao a2 f3;replace a2:=s3 _ _ a2;have z3:=hs.none f3;replace hs:=hs.trans s3;simp only [go_sem,seval,a3,a2];refine ad.ay rfl rfl rfl (KP ⟨_,_⟩ ⟨_,_⟩ _) ?_;have e:(⟨x.a,x.b⟩:Spn)=x:=rfl;have e':(⟨y.a,y.b⟩:Spn)=y:=rfl;rw [e,e'];generalize nq x y=m;obtain ⟨u,v⟩:=m;apply sR;simp only [go_sem,seval,aY];refine ar.pure hs ?_;by_cases h1:u=0 <;> by_cases h2:v=0 <;> simp [h1,h2]
structure Rct where
 (x y w h:Int)
deriving DecidableEq
def GH (r:Rct):V:=.agg [vI r.x,vI r.y,vI r.w,vI r.h]
theorem zS (r:Rct) (h1:Bq r.y) (h2:Bq r.h):aU prog 165 [GH r] (aY ⟨r.y,r.y+r.h⟩):=fun σ=>by
 obtain ⟨g1,g2⟩:=h1;obtain ⟨g3,g4⟩:=h2;refine ON.r (by simp [Lo]) ?_;have hs:=aa.refl σ;apply sR;simp only [go_sem,seval,Lo,GH];refine ae fun i1 σ1 s1 a1 f1=>?_;have z1:=hs.none f1;replace hs:=hs.trans s1;simp only [go_sem,seval,a1];refine ae fun i2 σ2 s2 a2 f2=>?_;have n12:=ao a1 f2;replace a1:=s2 _ _ a1;have z2:=hs.none f2;replace hs:=hs.trans s2;simp only [go_sem,seval,a2,a1];exact ⟨ak (by omega) (by omega),ar.pure (hs.aB z2) rfl⟩
theorem EE (r:Rct) (h1:Bq r.x) (h2:Bq r.w):aU prog 213 [GH r] (aY ⟨r.x,r.x+r.w⟩):=fun σ=>by
 obtain ⟨g1,g2⟩:=h1;obtain ⟨g3,g4⟩:=h2;refine Oe.r (by simp [Jq]) ?_;have hs:=aa.refl σ;apply sR;simp only [go_sem,seval,Jq,GH];refine ae fun i1 σ1 s1 a1 f1=>?_;have z1:=hs.none f1;replace hs:=hs.trans s1;simp only [go_sem,seval,a1];refine ae fun i2 σ2 s2 a2 f2=>?_;have n12:=ao a1 f2;replace a1:=s2 _ _ a1;have z2:=hs.none f2;replace hs:=hs.trans s2;simp only [go_sem,seval,a2,a1];exact ⟨ak (by omega) (by omega),ar.pure (hs.aB z2) rfl⟩
structure Pn where
 (y m:Int)
deriving DecidableEq
def gb (p:Pn):V:=.agg [vI p.y,vI p.m]
theorem CH (p:Pn) (h1:Bq p.y) (h2:Bq p.m):aU prog 84 [gb p] (vI (p.y+p.m)):=fun σ=>by
 obtain ⟨g1,g2⟩:=h1;obtain ⟨g3,g4⟩:=h2;refine e84.r (by simp [c84]) ?_;have hs:=aa.refl σ;apply sR;simp only [go_sem,seval,c84,gb];refine ae fun i1 σ1 s1 a1 f1=>?_;have z1:=hs.none f1;replace hs:=hs.trans s1;simp only [go_sem,seval,a1];exact ⟨ak (by omega) (by omega),ar.pure hs rfl⟩
theorem Jl (p:Pn) (y h:Int) (h1:Bq y) (h2:Bq h):aU prog 159 [gb p,vI y,vI h] (gb ⟨y+h,0⟩):=fun σ=>by
 obtain ⟨g1,g2⟩:=h1;obtain ⟨g3,g4⟩:=h2;refine Ow.r (by simp [Jh]) ?_;have hs:=aa.refl σ;apply sR;simp only [go_sem,seval,Jh,gb];refine ae fun i1 σ1 s1 a1 f1=>?_;have z1:=hs.none f1;replace hs:=hs.trans s1;simp only [go_sem,seval,a1];refine ae fun i2 σ2 s2 a2 f2=>?_;have n12:=ao a1 f2;replace a1:=s2 _ _ a1;have z2:=hs.none f2;replace hs:=hs.trans s2;simp only [go_sem,seval,a2,a1];exact ⟨ak (by omega) (by omega),ar.pure (hs.aB z2) rfl⟩
def iL (p:Pn) (low:Int):Pn:=if low > p.y+p.m then ⟨low,0⟩ else p
theorem EK (p:Pn) (low:Int) (h1:Bq p.y) (h2:Bq p.m):aU prog 113 [gb p,vI low] (gb (iL p low)):=fun σ=>by
 refine MN.r (by simp [Jy]) ?_;have hs:=aa.refl σ;refine ad.mix 5 ?_;apply sR;simp only [go_sem,seval,Jy,gb];refine ae fun i2 σ2 s2 a2 f2=>?_;have z2:=hs.none f2;replace hs:=hs.trans s2;simp only [go_sem,seval,a2];refine ae fun i4 σ4 s4 a4 f4=>?_;have n24:=ao a2 f4;replace a2:=s4 _ _ a2;have z4:=hs.none f4;replace hs:=hs.trans s4;simp only [go_sem,seval,a4,a2];refine ad.ay rfl rfl rfl (CH ⟨_,_⟩ h1 h2 _) ?_;unfold iL;by_cases h:low > p.y+p.m
 ·have q:(low > p.y+p.m)=True:=eq_true h;rw [if_pos h];apply sR;simp only [go_sem,seval,a4,a2,q];exact ar.pure (hs.aB z4) rfl
 ·have q:(low > p.y+p.m)=False:=eq_false h;rw [if_neg h];apply sR;simp only [go_sem,seval,a4,a2,q];exact ar.pure (hs.aB z4) rfl
theorem A4 (y m n:Int) {σ:af} {id:Nat} (hid:σ id=some ⟨265,2,[.agg [vI y,vI m]]⟩):az prog 156 [.ptr id 0 0,vI n] σ fun r σ'=>r=.tup []∧σ'=upd σ id ⟨265,2,[.agg [vI y,vI (max m n)]]⟩:=by
 refine M9.r (by simp [Kk]) ?_;apply sR;simp only [go_sem,seval,Kk,hid,cL];exact ⟨_,_,aa.refl _,Wk.refl (aa.refl _) _,rfl,rfl⟩
theorem Ia (y m n:Int) (hy:Bq y) (hm:Bq m) (hn:Bq n) {σ:af} {id:Nat} (hid:σ id=some ⟨265,2,[.agg [vI y,vI m]]⟩):az prog 157 [.ptr id 0 0,vI n] σ fun r σ'=>r=.tup []∧σ'=upd σ id ⟨265,2,[.agg [vI (if n > 0 then y+m+n else y),vI (if n > 0 then 0 else m)]]⟩:=by
 obtain ⟨g1,g2⟩:=hy;obtain ⟨g3,g4⟩:=hm;obtain ⟨g5,g6⟩:=hn;refine Nw.r (by simp [HT]) ?_;by_cases h:n > 0
 ·have q:(n > 0)=True:=eq_true h;rw [if_pos h,if_pos h];apply sR;simp only [go_sem,seval,HT,hid,q];exact ⟨ak (by omega) (by omega),ak (by omega) (by omega),_,_,aa.refl _,Wk.refl (aa.refl _) _,rfl,rfl⟩
 ·have q:(n > 0)=False:=eq_false h;rw [if_neg h,if_neg h];apply sR;simp only [go_sem,seval,HT,hid,q];exact ⟨_,_,aa.refl _,Wk.refl (aa.refl _) _,rfl,(by funext i; simp only [upd]; split <;> simp_all)⟩
open Go.Proofs Go.Proofs.Tryz
structure Flo where
 (node side anchor x y w h:Int)
deriving DecidableEq
def aO (f:Flo):V:=.agg [vI f.node,vI f.side,vI f.anchor,vI f.x,vI f.y,vI f.w,vI f.h]
def aJ (l:List Flo):V:=.sl 7 (l.map aO)
def gC (f:Flo):V:=.agg [vI f.node,vI f.side,vI f.anchor,vI f.x,vI f.y,vI f.w,vI f.h,vI f.x,vI f.y,vI f.w,vI f.h]
def Flo.ok (f:Flo):Prop:=Bq f.x∧Bq f.y∧Bq f.w∧Bq f.h
theorem jK {σ:af} {l:List Flo} {i:Nat} (h:i < l.length):bD σ 7 (aJ l) (.int .i64 i)=some (.rp (aO l[i])):=by simp [aJ,bD,h]
theorem fF (l:List Flo):dD false (aJ l)=some (.int .i64 l.length):=by simp [aJ,dD]
theorem IE (f:Flo):aU prog 164 [aO f] (gC f):=fun σ=>by
 refine MZ.r (by simp [Jw]) ?_;have hs:=aa.refl σ;apply sR;simp only [go_sem,seval,Jw,aO];refine ae fun i1 σ1 s1 a1 f1=>?_;have z1:=hs.none f1;replace hs:=hs.trans s1;simp only [go_sem,seval,a1];refine ae fun i2 σ2 s2 a2 f2=>?_;have n12:=ao a1 f2;replace a1:=s2 _ _ a1;have z2:=hs.none f2;replace hs:=hs.trans s2;simp only [go_sem,seval,a2,a1];exact ar.pure (hs.aB z2) rfl
theorem xp (f:Flo) (hf:f.ok):aU prog 123 [gC f] (vI (f.y+f.h)):=fun σ=>by
 refine M1.r (by simp [Jm]) ?_;have hs:=aa.refl σ;apply sR;simp only [go_sem,seval,Jm,gC];refine ae fun i1 σ1 s1 a1 f1=>?_;have z1:=hs.none f1;replace hs:=hs.trans s1;simp only [go_sem,seval,a1];refine ad.ay rfl rfl rfl (zS ⟨_,_,_,_⟩ hf.2.1 hf.2.2.2 _) ?_;apply sR;simp only [go_sem,seval,aY];exact ar.pure hs rfl
def gS (y high:Int) (f:Flo):Bool:=!decide (nq ⟨f.y,f.y+f.h⟩ ⟨y,y+max high 1⟩=⟨0,0⟩)
theorem Hw (f:Flo) (y high:Int) (hf:f.ok) (hy:Bq2 y) (hh:Bq high):aU prog 212 [gC f,vI y,vI high] (.bool (gS y high f)):=fun σ=>by
 obtain ⟨g1,g2⟩:=hy;obtain ⟨g3,g4⟩:=hh;refine Ok.r (by simp [I7]) ?_;have hs:=aa.refl σ;refine ad.mix 7 ?_;apply sR;simp only [go_sem,seval,I7,gC];refine ae fun i3 σ3 s3 a3 f3=>?_;have z3:=hs.none f3;replace hs:=hs.trans s3;simp only [go_sem,seval,a3];refine ad.ay rfl rfl rfl (zS ⟨_,_,_,_⟩ hf.2.1 hf.2.2.2 _) ?_;apply sR;simp only [go_sem,seval,cL];refine ⟨ak (by omega) (by omega),?_⟩;refine ad.ay rfl rfl rfl (GN ⟨_,_⟩ ⟨_,_⟩ _) ?_;apply sR;simp only [go_sem,seval];rw [show max high 1=max 1 high by omega];exact ar.pure hs (by simp [gS,Int.max_comm])
def jt (f:Flo) (s:Spn):Spn:=if f.side=1 then ⟨max s.a (f.x+f.w),s.b⟩ else ⟨s.a,min s.b f.x⟩
theorem Ib (f:Flo) (s:Spn) (hf:f.ok):aU prog 193 [gC f,aY s] (aY (jt f s)):=fun σ=>by
 refine N4.r (by simp [I8]) ?_;have hs:=aa.refl σ;refine ad.mix 6 ?_;apply sR;simp only [go_sem,seval,I8,gC,aY];refine ae fun i2 σ2 s2 a2 f2=>?_;have z2:=hs.none f2;replace hs:=hs.trans s2;simp only [go_sem,seval,a2];refine ae fun i3 σ3 s3 a3 f3=>?_;have n23:=ao a2 f3;replace a2:=s3 _ _ a2;have z3:=hs.none f3;replace hs:=hs.trans s3;simp only [go_sem,seval,a3,a2];refine ae fun i4 σ4 s4 a4 f4=>?_;have n24:=ao a2 f4;replace a2:=s4 _ _ a2;have n34:=ao a3 f4;replace a3:=s4 _ _ a3;have z4:=hs.none f4;replace hs:=hs.trans s4;simp only [go_sem,seval,a4,a3,a2];refine ad.ay rfl rfl rfl (EE ⟨_,_,_,_⟩ hf.1 hf.2.2.1 _) ?_;apply sR;simp only [go_sem,seval,aY];refine ae fun i5 σ5 s5 a5 f5=>?_;have n25:=ao a2 f5;replace a2:=s5 _ _ a2;have n35:=ao a3 f5;replace a3:=s5 _ _ a3;have n45:=ao a4 f5;replace a4:=s5 _ _ a4;have z5:=hs.none f5;replace hs:=hs.trans s5;unfold jt;by_cases h:f.side=1
 ·have q:(f.side=1)=True:=eq_true h;rw [if_pos h];simp only [go_sem,seval,a5,a4,a3,a2,q,cL,eI,ab n25,ab n35,ab n45,ab n34.symm,ab n35.symm,ab n24,ab n34,ab n45.symm];exact ar.pure (((hs.aB z5).aB z3).aB z4) rfl
 ·have q:(f.side=1)=False:=eq_false h;rw [if_neg h];simp only [go_sem,seval,a5,a4,a3,a2,q,cL,eI,ab n25,ab n35,ab n45,ab n34.symm,ab n35.symm,ab n24,ab n34,ab n45.symm];exact ar.pure (((hs.aB z5).aB z3).aB z4) rfl
open Go.Proofs Go.Proofs.Tryz
theorem ye {α:Type} (p:α→Bool) (l:List α) {i:Nat} (h:i < l.length):(l.take (i+1)).filter p=(l.take i).filter p++if p l[i] then [l[i]] else []:=by
 rw [List.take_succ_eq_append_getElem h,List.filter_append];cases hp:p l[i] <;> simp [hp]
theorem IG (l:List Flo) (y high:Int) (hl:l.length≤1000000) (hok:∀f∈l,f.ok) (hy:Bq2 y) (hh:Bq high) (g:FuncId) (caps:List V) (J:List Flo→af→Prop)
 (hJ:∀pre σ σ',J pre σ→aa σ σ'→J pre σ')
 (hg:∀pre f σ,f∈l→J pre σ→az prog g (gC f::caps) σ fun r σ'=>r=.tup []∧J (pre++[f]) σ') {σ:af} (h0:J [] σ) :
 az prog 191 [aJ l,vI y,vI high, .fn g caps] σ fun r σ'=>r=.tup []∧J (l.filter (gS y high)) σ':=by
 refine NP.r (by simp [Kr]) ?_;refine ad.mix 14 ?_;apply sR;simp only [go_sem,seval,Kr,fF];refine ad.loop (fun m st=>∃i:Nat,i≤l.length∧m=l.length - i∧J ((l.take i).filter (gS y high)) st.σ∧st.s 1=vI y∧st.s 2=vI high∧st.s 3=.fn g caps∧st.s 11=aJ l∧st.s 12=vI l.length∧st.s 13=vI i) l.length ?_ ?_
 ·exact ⟨0,by omega,rfl,h0,rfl,rfl,rfl,rfl,rfl,rfl⟩
 ·rintro m ⟨s,σ'⟩ ⟨i,hi,rfl,hj,k1,k2,k3,k11,k12,k13⟩;simp only at hj k1 k2 k3 k11 k12 k13;refine ad.mix 14 ?_;by_cases hlt:i < l.length
  ·have q:((i:Int) < l.length)=True:=eq_true (by omega);have hix:=fun σ=>jK (σ:=σ) hlt;have hmem:=List.getElem_mem hlt;have hfok:=hok _ hmem;have htk:=ye (gS y high) l hlt;generalize l[i]=f at *;have hs:=aa.refl σ';apply sR;simp only [go_sem,seval,k1,k2,k3,k11,k12,k13,q,hix,aO];refine ae fun i9 σ9 s9 a9 f9=>?_;have z9:=hs.none f9;replace hs:=hs.trans s9;simp only [go_sem,seval,a9,k1,k2,k3,k11,k12,k13];generalize hq9:upd _ i9 _=τ9;replace a9:=(congrFun hq9 i9).symm.trans ag;replace hs:=Eq.subst (motive:=aa _) hq9 (hs.aB z9);clear hq9;refine ad.ay rfl rfl rfl (IE f _) ?_;apply sR;simp only [go_sem,seval,gC];refine ae fun i10 σ10 s10 a10 f10=>?_;have n910:=ao a9 f10;replace a9:=s10 _ _ a9;have z10:=hs.none f10;replace hs:=hs.trans s10;simp only [go_sem,seval,a10,k1,k2,k3,k11,k12,k13];generalize hq10:upd _ i10 _=τ10;replace a10:=(congrFun hq10 i10).symm.trans ag;replace a9:=((congrFun hq10 i9).symm.trans (ab n910)).trans a9;replace hs:=Eq.subst (motive:=aa _) hq10 (hs.aB z10);clear hq10;refine ad.ay rfl rfl rfl (Hw f y high hfok hy hh _) ?_;cases hm:gS y high f
   ·rw [hm] at htk;apply sR;simp only [go_sem,seval,k1,k2,k3,k11,k12,k13];refine ⟨ak (by omega) (by omega),_,by omega,i+1,by omega,rfl,?_,by simp [k1,k2,k3,k11,k12]⟩;rw [htk]; simpa using hJ _ _ _ hj hs
   ·rw [hm] at htk;apply sR;simp only [go_sem,seval,a10,k1,k2,k3,k11,k12,k13];refine ad.call rfl rfl rfl (hg _ f _ hmem (hJ _ _ _ hj hs)) ?_;rintro r σ2 ⟨rfl,hj2⟩;apply sR;simp only [go_sem,seval,k1,k2,k3,k11,k12,k13];refine ⟨ak (by omega) (by omega),_,by omega,i+1,by omega,rfl,?_,by simp [k1,k2,k3,k11,k12]⟩;rw [htk]; simpa using hj2
  ·have q:((i:Int) < l.length)=False:=eq_false (by omega);apply sR;simp only [go_sem,seval,k1,k2,k3,k11,k12,k13,q];obtain rfl:i=l.length:=by omega
   rw [List.take_length] at hj;exact ⟨_,_,aa.refl _,Wk.refl (aa.refl _) _,rfl,hj⟩
def dC (l:List Flo) (y high:Int) (s:Spn):Spn:=(l.filter (gS y high)).foldl (fun s f=>jt f s) s
theorem MB {id:Nat} (f:Flo) (s:Spn) (hf:f.ok) {σ:af} (hid:σ id=some ⟨206,2,[aY s]⟩):az prog 214 [gC f, .ptr id 0 0] σ fun r σ'=>r=.tup []∧∃σ1,aa σ σ1∧σ'=upd σ1 id ⟨206,2,[aY (jt f s)]⟩:=by
 refine NC.r (by simp [Ji]) ?_;have hs:=aa.refl σ;have a1:=hid;rw [aY] at a1;apply sR;simp only [go_sem,seval,Ji,gC];refine ae fun i2 σ2 s2 a2 f2=>?_;have n2:=ao a1 f2;replace a1:=s2 _ _ a1;simp only [go_sem,seval,a2,a1];refine ad.ay rfl rfl rfl (Ib f s hf _) ?_;apply sR;simp only [go_sem,seval,a1,aY];exact ⟨_,_,aa.refl _,Wk.refl (aa.refl _) _,rfl,σ2,s2,rfl⟩
theorem A1 (l:List Flo) (y high:Int) (s:Spn) (hl:l.length≤1000000) (hok:∀f∈l,f.ok) (hy:Bq2 y) (hh:Bq high):aU prog 194 [aJ l,vI y,vI high,aY s] (aY (dC l y high s)):=fun σ=>by
 refine Nx.r (by simp [Kv]) ?_;have hs:=aa.refl σ;refine ad.mix 10 ?_;apply sR;simp only [go_sem,seval,Kv,aY];refine ae fun i7 σ7 s7 a7 f7=>?_;have z7:=hs.none f7;replace hs:=hs.trans s7;simp only [go_sem,seval,a7];refine ae fun i8 σ8 s8 a8 f8=>?_;have n78:=ao a7 f8;replace a7:=s8 _ _ a7;have z8:=hs.none f8;replace hs:=hs.trans s8;simp only [go_sem,seval,a8,a7];refine ae fun i9 σ9 s9 a9 f9=>?_;have n79:=ao a7 f9;replace a7:=s9 _ _ a7;have n89:=ao a8 f9;replace a8:=s9 _ _ a8;have z9:=hs.none f9;replace hs:=hs.trans s9;simp only [go_sem,seval,a9,a8,a7,ab n79,ab n89];generalize hq9:upd _ i9 _=τ9;replace a9:=(congrFun hq9 i9).symm.trans ag;replace a7:=((congrFun hq9 i7).symm.trans (ab n79)).trans a7;replace a8:=((congrFun hq9 i8).symm.trans (ab n89)).trans a8;replace hs:=Eq.subst (motive:=aa _) hq9 (hs.aB z9);clear hq9;refine ad.call rfl rfl rfl (IG l y high hl hok hy hh 214 [.ptr i9 0 0] (fun pre τ=>τ i9=some ⟨206,2,[aY (pre.foldl (fun s f=>jt f s) s)]⟩∧τ i8=some ⟨206,2,[.agg [vI 0,vI 0]]⟩∧aa σ τ) ?_ ?_ ⟨a9,a8,hs⟩) ?_
 ·rintro pre τ τ' ⟨h1,h2,h4⟩ h5;exact ⟨h5 _ _ h1,h5 _ _ h2,h4.trans h5⟩
 ·rintro pre f τ hf ⟨h1,h2,h4⟩;refine (MB f _ (hok f hf) h1).mono ?_;rintro r τ' ⟨rfl,τ1,h5,rfl⟩;refine ⟨rfl,?_,by rw [ab n89]; exact h5 _ _ h2,(h4.trans h5).aB z9⟩;rw [ag,List.foldl_append]; rfl
 ·rintro r τ ⟨rfl,h1,h2,h4⟩;have hcs:aY (List.foldl (fun s f=>jt f s) s (List.filter (gS y high) l))=.agg [vI (dC l y high s).a,vI (dC l y high s).b]:=rfl;rw [hcs] at h1;apply sR;simp only [go_sem,seval,h1,h2];exact ar.pure (h4.aB z8) rfl
open Go.Proofs Go.Proofs.Tryz
def jn (s:Spn) (a:Int×Bool) (f:Flo):Int×Bool:=if jt f s=s∨(a.2=true∧f.y+f.h≥a.1) then a else (f.y+f.h,true)
def fP (l:List Flo) (y high:Int) (s:Spn):Int×Bool:=(l.filter (gS y high)).foldl (jn s) (0,false)
theorem Hx {i1 i2 i3:Nat} (f:Flo) (s:Spn) (a:Int×Bool) (hf:f.ok) (h12:i1≠i2) (h13:i1≠i3) (h23:i2≠i3) {σ:af} (q1:σ i1=some ⟨206,2,[aY s]⟩) (q2:σ i2=some ⟨4,1,[.bool a.2]⟩) (q3:σ i3=some ⟨3,1,[vI a.1]⟩) :
 az prog 192 [gC f, .ptr i1 0 0, .ptr i2 0 0, .ptr i3 0 0] σ fun r σ'=>r=.tup []∧∃σ1,aa σ σ1∧σ'=upd (upd σ1 i3 ⟨3,1,[vI (jn s a f).1]⟩) i2 ⟨4,1,[.bool (jn s a f).2]⟩:=by
 refine Nz.r (by simp [JA]) ?_;refine ad.mix 5 ?_;obtain ⟨u,v⟩:=a;simp only at q2 q3;apply sR;simp only [go_sem,seval,JA,gC];refine ae fun i4 σ4 s4 a4 f4=>?_;have n1:=ao q1 f4;have n2:=ao q2 f4;have n3:=ao q3 f4;replace q1:=s4 _ _ q1;replace q2:=s4 _ _ q2;replace q3:=s4 _ _ q3;have hcut:=Ib f s hf;have hbot:=xp f hf;obtain ⟨s1,s2⟩:=s;rw [aY] at q1;simp only [go_sem,seval,a4,q1,q2,q3];refine Go.cp rfl rfl rfl hcut ?_;unfold jn;generalize jt f ⟨s1,s2⟩=c;obtain ⟨c1,c2⟩:=c;have same:∀σ':af,σ'=σ4→upd (upd σ' i3 ⟨3,1,[vI u]⟩) i2 ⟨4,1,[.bool v]⟩=σ4:=fun σ' e=>by
  subst e;rw [mu q3,mu q2]
 by_cases hc:c1=s1∧c2=s2
 ·obtain ⟨rfl,rfl⟩:=hc;apply sG;simp only [go_sem,seval,q1,aY];refine ⟨_,_,aa.refl _,Wk.refl (aa.refl _) _,rfl,σ4,s4,?_⟩;rw [if_pos (by simp),same _ rfl]
 ·have hd:(decide (c1=s1) && decide (c2=s2))=false:=by
   by_cases h1:c1=s1 <;> by_cases h2:c2=s2 <;> simp_all
  have hne:¬(⟨c1,c2⟩:Spn)=⟨s1,s2⟩:=by simpa using hc
  cases v
  ·rw [if_neg (by simp [hne])];apply sG;simp only [go_sem,seval,q1,q2,a4,aY,hd];refine ad.ay rfl rfl rfl (hbot _) ?_;apply sR;simp only [go_sem,seval,q2,q3,ab h23,a4];exact ⟨_,_,aa.refl _,Wk.refl (aa.refl _) _,rfl,σ4,s4,rfl⟩
  ·apply sG;simp only [go_sem,seval,q1,q2,a4,aY,hd];refine Go.cp rfl rfl rfl hbot ?_;by_cases hb:f.y+f.h≥u
   ·have q:(f.y+f.h≥u)=True:=eq_true hb;apply sG;simp only [go_sem,seval,q3,q];refine ⟨_,_,aa.refl _,Wk.refl (aa.refl _) _,rfl,σ4,s4,?_⟩;rw [if_pos (.inr (by first | exact hb | exact ⟨rfl,hb⟩ | simp [hb])),same _ rfl]
   ·have q:(f.y+f.h≥u)=False:=eq_false hb;rw [if_neg (by simp [hne]; omega)];apply sG;simp only [go_sem,seval,q3,a4,q];refine ad.ay rfl rfl rfl (hbot _) ?_;apply sR;simp only [go_sem,seval,q2,q3,ab h23,a4];exact ⟨_,_,aa.refl _,Wk.refl (aa.refl _) _,rfl,σ4,s4,rfl⟩
theorem EN (l:List Flo) (y high:Int) (s:Spn) (hl:l.length≤1000000) (hok:∀f∈l,f.ok) (hy:Bq2 y) (hh:Bq high):aU prog 161 [aJ l,vI y,vI high,aY s] (.tup [vI (fP l y high s).1, .bool (fP l y high s).2]):=fun σ=>by
 refine Oj.r (by simp [IP]) ?_;have hs:=aa.refl σ;refine ad.mix 12 ?_;apply sR;simp only [go_sem,seval,IP,aY];refine ae fun i7 σ7 s7 a7 f7=>?_;have z7:=hs.none f7;replace hs:=hs.trans s7;simp only [go_sem,seval,a7];refine ae fun i10 σ10 s10 a10 f10=>?_;have n710:=ao a7 f10;replace a7:=s10 _ _ a7;have z10:=hs.none f10;replace hs:=hs.trans s10;simp only [go_sem,seval,a10,a7];refine ae fun i11 σ11 s11 a11 f11=>?_;have n711:=ao a7 f11;replace a7:=s11 _ _ a7;have n1011:=ao a10 f11;replace a10:=s11 _ _ a10;have z11:=hs.none f11;replace hs:=hs.trans s11;simp only [go_sem,seval,a11,a10,a7,ab n711,ab n1011,ab n710,ab n1011.symm];rw [uC n1011,mu a11,mu a10];refine ad.call rfl rfl rfl (IG l y high hl hok hy hh 192 [.ptr i7 0 0, .ptr i11 0 0, .ptr i10 0 0] (fun pre τ=>τ i7=some ⟨206,2,[aY s]⟩∧τ i11=some ⟨4,1,[.bool (pre.foldl (jn s) (0,false)).2]⟩ ∧
  τ i10=some ⟨3,1,[vI (pre.foldl (jn s) (0,false)).1]⟩∧aa σ τ) ?_ ?_ ⟨a7,a11,a10,hs⟩) ?_
 ·rintro pre τ τ' ⟨h1,h2,h3,h4⟩ h5;exact ⟨h5 _ _ h1,h5 _ _ h2,h5 _ _ h3,h4.trans h5⟩
 ·rintro pre f τ hf ⟨h1,h2,h3,h4⟩;refine (Hx f s _ (hok f hf) n711 n710 n1011.symm h1 h2 h3).mono ?_;rintro r τ' ⟨rfl,τ1,h5,rfl⟩;refine ⟨rfl,?_,?_,?_,((h4.trans h5).aB z10).aB z11⟩
  ·rw [ab n711,ab n710]; exact h5 _ _ h1
  ·rw [ag,List.foldl_append]; rfl
  ·rw [ab n1011,ag,List.foldl_append]; rfl
 ·rintro r τ ⟨rfl,h1,h2,h3,h4⟩;apply sR;simp only [go_sem,seval,h2,h3];exact ar.pure h4 rfl
def rF (tell:Flo→Int×Bool) (a:Int×Bool) (f:Flo):Int×Bool:=if (tell f).2=true∧(a.2=false∨(tell f).1 > a.1) then ((tell f).1,true) else a
def dN (tell:Flo→Int×Bool) (l:List Flo):Int×Bool:=l.foldl (rF tell) (0,false)
theorem DP (l:List Flo) (hl:l.length≤1000000) (g:FuncId) (caps:List V) (tell:Flo→Int×Bool) (I:af→Prop) (hI:∀σ σ',I σ→aa σ σ'→I σ')
 (hg:∀f σ,f∈l→I σ→az prog g (gC f::caps) σ fun r σ'=>r=.tup [vI (tell f).1, .bool (tell f).2]∧σ'=σ) {σ:af} (h0:I σ) :
 az prog 121 [aJ l, .fn g caps] σ fun r σ'=>r=.tup [vI (dN tell l).1, .bool (dN tell l).2]∧σ'=σ:=by
 refine Og.r (by simp [Lz]) ?_;refine ad.mix 15 ?_;apply sR;simp only [go_sem,seval,Lz,fF];refine ad.loop (fun m st=>∃i:Nat,i≤l.length∧m=l.length - i∧aa σ st.σ∧st.s 1=.fn g caps∧st.s 6=vI (dN tell (l.take i)).1∧st.s 7=.bool (dN tell (l.take i)).2∧st.s 12=aJ l∧st.s 13=vI l.length∧st.s 14=vI i) l.length ?_ ?_
 ·exact ⟨0,by omega,rfl,aa.refl _,rfl,rfl,rfl,rfl,rfl,rfl⟩
 ·rintro m ⟨s,σ'⟩ ⟨i,hi,rfl,hs,k1,k6,k7,k12,k13,k14⟩;simp only at hs k1 k6 k7 k12 k13 k14;refine ad.mix 15 ?_;by_cases hlt:i < l.length
  ·have q:((i:Int) < l.length)=True:=eq_true (by omega);have hix:=fun σ=>jK (σ:=σ) hlt;have hmem:=List.getElem_mem hlt;have htk:dN tell (l.take (i+1))=rF tell (dN tell (l.take i)) l[i]:=by
    rw [List.take_succ_eq_append_getElem hlt,dN,List.foldl_append]; rfl
   generalize l[i]=f at *;generalize dN tell (l.take i)=a at *;obtain ⟨u,v⟩:=a;simp only at k6 k7;apply sR;simp only [go_sem,seval,k1,k6,k7,k12,k13,k14,q,hix,aO];refine ae fun i9 σ9 s9 a9 f9=>?_;have z9:=hs.none f9;replace hs:=hs.trans s9;simp only [go_sem,seval,a9,k1,k6,k7,k12,k13,k14];generalize hq9:upd _ i9 _=τ9;replace a9:=(congrFun hq9 i9).symm.trans ag;replace hs:=Eq.subst (motive:=aa _) hq9 (hs.aB z9);clear hq9;refine ad.ay rfl rfl rfl (IE f _) ?_;apply sR;simp only [go_sem,seval,k1,k6,k7,k12,k13,k14];refine ad.ay rfl rfl rfl (hg f _ hmem (hI _ _ h0 hs)) ?_;have r1:inR .i64 ((i:Int)+1):=ak (by omega) (by omega);unfold rF at htk;generalize tell f=t at *;obtain ⟨x,is⟩:=t;simp only at htk;cases is
   ·rw [if_neg (by simp)] at htk;apply sR;simp only [go_sem,seval,k1,k6,k7,k12,k13,k14,r1];exact ⟨_,by omega,i+1,by omega,rfl,hs,by simp [k1,k6,k7,k12,k13,htk]⟩
   ·cases v
    ·rw [if_pos (by simp)] at htk;apply sR;simp only [go_sem,seval,k1,k6,k7,k12,k13,k14,r1];exact ⟨_,by omega,i+1,by omega,rfl,hs,by simp [k1,k12,k13,htk]⟩
    ·by_cases hb:x > u
     ·have q2:(x > u)=True:=eq_true hb;rw [if_pos ⟨rfl, .inr hb⟩] at htk;apply sR;simp only [go_sem,seval,k1,k6,k7,k12,k13,k14,r1,q2];exact ⟨_,by omega,i+1,by omega,rfl,hs,by simp [k1,k12,k13,htk]⟩
     ·have q2:(x > u)=False:=eq_false hb;rw [if_neg (by simp [hb])] at htk;apply sR;simp only [go_sem,seval,k1,k6,k7,k12,k13,k14,r1,q2];exact ⟨_,by omega,i+1,by omega,rfl,hs,by simp [k1,k6,k7,k12,k13,htk]⟩
  ·have q:((i:Int) < l.length)=False:=eq_false (by omega);obtain rfl:i=l.length:=by omega
   rw [List.take_length] at k6 k7;apply sR;simp only [go_sem,seval,k1,k6,k7,k12,k13,k14,q];exact ar.pure hs rfl
def N5 (a b:Int):Int:=IntKind.i64.wrap (BitVec.ofInt IntKind.i64.bits a &&& BitVec.ofInt IntKind.i64.bits b).toNat
def kQ (sides:Int) (f:Flo):Int×Bool:=(f.y+f.h,decide (N5 f.side sides≠0))
theorem Kd {i:Nat} (f:Flo) (sides:Int) (hf:f.ok) {σ:af} (q:σ i=some ⟨3,1,[vI sides]⟩):az prog 122 [gC f, .ptr i 0 0] σ fun r σ'=>r=.tup [vI (kQ sides f).1, .bool (kQ sides f).2]∧σ'=σ:=by
 refine N6.r (by simp [K8]) ?_;refine ad.mix 5 ?_;have hs:=aa.refl σ;apply sR;simp only [go_sem,seval,K8,gC];refine ae fun i2 σ2 s2 a2 f2=>?_;have z2:=hs.none f2;replace hs:=hs.trans s2;replace q:=s2 _ _ q;simp only [go_sem,seval,a2,q];refine Go.cp rfl rfl rfl (xp f hf) ?_;apply sG;simp only [go_sem,seval,a2,q];exact ar.pure hs rfl
theorem zb (l:List Flo) (sides:Int) (hl:l.length≤1000000) (hok:∀f∈l,f.ok):aU prog 85 [aJ l,vI sides] (.tup [vI (dN (kQ sides) l).1, .bool (dN (kQ sides) l).2]):=fun σ=>by
 refine e85.r (by simp [c85]) ?_;refine ad.mix 6 ?_;have hs:=aa.refl σ;apply sR;simp only [go_sem,seval,c85];refine ae fun i3 σ3 s3 a3 f3=>?_;have z3:=hs.none f3;replace hs:=hs.trans s3;simp only [go_sem,seval,a3];refine ad.ay rfl rfl rfl (DP l hl 122 [.ptr i3 0 0] (kQ sides) (fun τ=>τ i3=some ⟨3,1,[vI sides]⟩) (fun _ _ h h'=>h' _ _ h) (fun f τ hf h=>Kd f sides (hok f hf) h) a3) ?_;apply sR;simp only [go_sem,seval];exact ar.pure hs rfl
def rQ (f:Flo):Int×Bool:=(f.y,true)
theorem Jt (f:Flo) (hf:f.ok):aU prog 215 [gC f] (.tup [vI (rQ f).1, .bool (rQ f).2]):=fun σ=>by
 refine NL.r (by simp [KH]) ?_;refine ad.mix 4 ?_;have hs:=aa.refl σ;apply sR;simp only [go_sem,seval,KH,gC];refine ae fun i1 σ1 s1 a1 f1=>?_;have z1:=hs.none f1;replace hs:=hs.trans s1;simp only [go_sem,seval,a1];refine ad.ay rfl rfl rfl (zS ⟨_,_,_,_⟩ hf.2.1 hf.2.2.2 _) ?_;apply sR;simp only [go_sem,seval,aY];exact ar.pure hs rfl
theorem Mh (l:List Flo) (hl:l.length≤1000000) (hok:∀f∈l,f.ok):aU prog 195 [aJ l] (.tup [vI (dN rQ l).1, .bool (dN rQ l).2]):=fun σ=>by
 refine NR.r (by simp [Ku]) ?_;refine ad.mix 4 ?_;apply sR;simp only [go_sem,seval,Ku];refine ad.ay rfl rfl rfl (DP l hl 215 [] rQ (fun _=>True) (fun _ _ h _=>h) (fun f τ hf _=>Jt f (hok f hf) τ) trivial) ?_;apply sR;simp only [go_sem,seval];exact ar.same rfl
end Go.Vc
