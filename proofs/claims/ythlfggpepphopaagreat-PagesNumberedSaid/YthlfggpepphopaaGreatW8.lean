/- Part 8 of the library of this proof. -/
import Derived.Test.YthlfggpepphopaaGreatW7
set_option linter.all false
set_option maxHeartbeats 4000000
set_option maxRecDepth 100000
namespace Go.Vc
open Go.Proofs Go.Proofs.Tryz
def xS (l:List Nd) (of:List Int):List Int:=(List.range (of.length+1)).map (o5 l of)
theorem Kb (l:List Nd) (hl:dE l) (hb:isB l=true) (of:List Int) (hon:of.length≤1000000) (hof:∀x∈of,0≤x∧x < l.length) (hm:px l of=true) :
 aU prog 54 [aI l,bj of] (.tup [bj (xS l of),vI 0]):=fun σ=>by
 refine e54.r (by simp [c54]) ?_;have hs:=aa.refl σ;have hlo:=eY of;refine ad.mix 11 ?_;apply sR;simp only [go_sem,seval,c54];refine ad.ay rfl rfl rfl (nX l hl hb of hon hm _) ?_;have q0:((0:Int)≠0)=False:=eq_false (fun h=>h rfl);have r0:inR .i64 ((of.length:Int)+1):=ak (by omega) (by omega);apply sR;simp only [go_sem,seval,q0,hlo,r0];refine ad.eS (fun st=>aa σ st.σ∧aM σ st.σ 3 1 (st.s 7) ((xS l of).map vI))
  (fun m st=>∃j:Nat,j≤of.length+1∧m=of.length+1 - j∧aa σ st.σ∧aM σ st.σ 3 1 (st.s 7) (((List.range j).map (o5 l of)).map vI)∧st.s 0=aI l∧st.s 1=bj of∧st.s 19=vI ((of.length:Int)+1)∧st.s 20=vI j) (of.length+1) ?_ ?_ ?_
 ·exact ⟨0,by omega,rfl,hs,aM.start,rfl,rfl,rfl,rfl⟩
 ·clear hs;rintro m ⟨S,τ⟩ ⟨j,hj,rfl,hs,ho,t0,t1,t19,t20⟩;simp only at hs ho t0 t1 t19 t20;generalize hv7:S 7=v7 at ho;refine ad.mix 11 ?_;by_cases hlt:j < of.length+1
  ·have q:((j:Int) < of.length+1)=True:=eq_true (by omega);have r1:inR .i64 ((j:Int)+1):=ak (by omega) (by omega);have hrows:(((List.range (j+1)).map (o5 l of)).map vI)=(((List.range j).map (o5 l of)).map vI)++[vI (o5 l of j)]:=by
    rw [List.range_succ]; simp
   have hlm:(((List.range j).map (o5 l of)).map vI).length=j:=by simp
   apply sR;simp only [go_sem,seval,t0,t1,t19,t20,q];refine ad.ay rfl rfl rfl (MA l hl hb of hon hof hm j (by omega) _) ?_;generalize ((List.range j).map (o5 l of)).map vI=rows at *;apply sR;simp only [go_sem,seval,t0,t1,t19,t20,hv7];refine ae fun i32 σ32 s32 a32 f32=>?_;obtain ⟨idA,hda,hdel,hd1,hd2⟩:=ho.AV s32;have hb2:(rows.length+1)*9≤140737488355328:=by omega
   simp only [go_sem,seval,t0,t1,t19,t20,hv7,hda,dk a32,hb2];refine ew fun i33 σ33 s33 a33 f33=>?_;have k33:=(hdel σ (aa.refl _) σ32 (hs.trans s32)).trans s33;have n33:σ i33=none:=(hs.trans s32).none f33;simp only [go_sem,seval,t0,t1,t19,t20,r1];refine ⟨_,?_,j+1,by omega,rfl,k33,?_,by simp [t0,t1,t19]⟩
   ·omega
   ·rw [hrows];exact aM.new (by simp) a33 n33
  ·have q:((j:Int) < of.length+1)=False:=eq_false (by omega);have hje:j=of.length+1:=by omega
   subst hje;apply sR;simp only [go_sem,seval,t0,t1,t19,t20,q];exact ⟨hs,hv7 ▸ ho⟩
 ·rintro ⟨S,τ⟩ ⟨hs,ho⟩;simp only at hs ho;generalize hv7:S 7=v7 at ho;refine ad.mix 11 ?_;apply sR;simp only [go_sem,seval,hv7];exact ⟨_,σ,hs,Wk.tup (vs':=[bj (xS l of),vI 0]) ⟨ho.wk (aa.refl _) hs,Wk.refl hs _,trivial⟩,rfl,rfl⟩
open Go.Proofs Go.Proofs.Tryz
structure Brk where
 (cls forced rank:Int)
deriving DecidableEq
def eL (x:Brk):V:=.agg [vI x.cls,vI x.forced,vI x.rank]
def bF (l:List Brk):V:=.sl 3 (l.map eL)
theorem gA (l:List Brk):(bF l).cells=[bF l]:=rfl
theorem gq (l:List Brk):(bF l).stays=true:=rfl
theorem As (l:List Brk):dD false (bF l)=some (.int .i64 l.length):=by simp [bF,dD]
theorem pr {σ:af} {l:List Brk} {i:Nat} (h:i < l.length):bD σ 3 (bF l) (.int .i64 i)=some (.rp (eL l[i])):=by simp [bF,bD,h,eL]
def pE (of:List Int) (k:Nat):Int:=if k=0 then 0 else if k=of.length then 3 else if of.getD k 0=of.getD (k - 1) 0 then 2 else 1
theorem HP (of:List Int) (hon:of.length≤1000000) (k:Nat) (hk:k≤of.length):aU prog 55 [bj of,vI k] (vI (pE of k)):=fun σ=>by
 refine e55.r (by simp [c55]) ?_;have hlo:=eY of;refine ad.mix 6 ?_;unfold pE;rcases Nat.eq_zero_or_pos k with rfl | h0
 ·have q1:(((0:Nat):Int)=0)=True:=eq_true rfl;apply sR;simp only [go_sem,seval,c55,q1];exact ar.same rfl
 have q1:((k:Int)=0)=False:=eq_false (by omega);rw [if_neg (by omega)];by_cases hk1:k=of.length
 ·have q2:((k:Int)=of.length)=True:=eq_true (by omega);rw [if_pos hk1];apply sR;simp only [go_sem,seval,c55,q1,q2,hlo];exact ar.same rfl
 have q2:((k:Int)=of.length)=False:=eq_false (by omega);rw [if_neg hk1];have h1:k < of.length:=by omega
 have q5:=ak (m:=((k - 1:Nat):Int)) (by omega) (by omega);have q6:((k:Int) - 1)=((k - 1:Nat):Int):=by omega
 have q7:=fun σ=>gF (σ:=σ) h1;have q8:=fun σ=>gF (σ:=σ) (l:=of) (i:=k - 1) (by omega);have g1:of.getD k 0=of[k]:=by simp [h1]
 have g2:of.getD (k - 1) 0=of[k - 1]:=by
  have:k - 1 < of.length:=by omega
  simp [this]
 rw [g1,g2];by_cases h2:of[k]=of[k - 1]
 ·have q9:(of[k]=of[k - 1])=True:=eq_true h2;rw [if_pos h2];apply sR;simp only [go_sem,seval,c55,q1,q2,hlo,q5,q6,q7,q8,q9];exact ar.same rfl
 ·have q9:(of[k]=of[k - 1])=False:=eq_false h2;rw [if_neg h2];apply sR;simp only [go_sem,seval,c55,q1,q2,hlo,q5,q6,q7,q8,q9];exact ar.same rfl
open Go.Proofs Go.Proofs.Tryz
def bkR (l:List Nd) (of:List Int) (k:Nat):Brk:=⟨pE of k,iD l of k,if iD l of k=0 then o5 l of k else 0⟩
def nD (l:List Nd) (of:List Int):List Brk:=(List.range (of.length+1)).map (bkR l of)
theorem Ip {σ:af} {f:Nat→Int} {n j:Nat} (h:j < n):bD σ 1 (bj ((List.range n).map f)) (.int .i64 j)=some (.rp (vI (f j))):=by
 rw [gF (by simpa using h)]; simp
theorem FK (l:List Nd) (hl:dE l) (hb:isB l=true) (of:List Int) (hon:of.length≤1000000) (hof:∀x∈of,0≤x∧x < l.length) (hm:px l of=true) :
 aU prog 19 [aI l,bj of] (.tup [bF (nD l of),vI 0]):=fun σ=>by
 refine e19.r (by simp [c19]) ?_;have hs:=aa.refl σ;have hlo:=eY of;refine ad.mix 14 ?_;apply sR;simp only [go_sem,seval,c19];refine ad.ay rfl rfl rfl (nX l hl hb of hon hm _) ?_;have q0:((0:Int)≠0)=False:=eq_false (fun h=>h rfl);have r0:inR .i64 ((of.length:Int)+1):=ak (by omega) (by omega);apply sR;simp only [go_sem,seval,q0,hlo,r0];refine ad.ay rfl rfl rfl (IN l hl hb of hon hof hm _) ?_;apply sR;simp only [go_sem,seval];refine ad.ay rfl rfl rfl (Kb l hl hb of hon hof hm _) ?_;apply sR;simp only [go_sem,seval,hlo,r0];refine ad.eS (fun st=>aa σ st.σ∧aM σ st.σ 67 3 (st.s 11) ((nD l of).map eL))
  (fun m st=>∃j:Nat,j≤of.length+1∧m=of.length+1 - j∧aa σ st.σ∧aM σ st.σ 67 3 (st.s 11) (((List.range j).map (bkR l of)).map eL)∧st.s 0=aI l∧st.s 1=bj of∧st.s 7=bj (xC l of)∧st.s 9=bj (xS l of)∧st.s 34=vI ((of.length:Int)+1)∧st.s 35=vI j) (of.length+1) ?_ ?_ ?_
 ·exact ⟨0,by omega,rfl,hs,aM.start,rfl,rfl,rfl,rfl,rfl,rfl⟩
 ·clear hs;rintro m ⟨S,τ⟩ ⟨j,hj,rfl,hs,ho,t0,t1,t7,t9,t34,t35⟩;simp only at hs ho t0 t1 t7 t9 t34 t35;generalize hv11:S 11=v11 at ho;refine ad.mix 14 ?_;by_cases hlt:j < of.length+1
  ·have q:((j:Int) < of.length+1)=True:=eq_true (by omega);have r1:inR .i64 ((j:Int)+1):=ak (by omega) (by omega);have hrows:(((List.range (j+1)).map (bkR l of)).map eL)=(((List.range j).map (bkR l of)).map eL)++[eL (bkR l of j)]:=by
    rw [List.range_succ]; simp
   have hlm:(((List.range j).map (bkR l of)).map eL).length=j:=by simp
   have hi7:∀σ,bD σ 1 (bj (xC l of)) (.int .i64 j)=some (.rp (vI (iD l of j))):=fun σ=>Ip hlt;have hi9:∀σ,bD σ 1 (bj (xS l of)) (.int .i64 j)=some (.rp (vI (o5 l of j))):=fun σ=>Ip hlt;apply sR;simp only [go_sem,seval,t0,t1,t7,t9,hv11,t34,t35,q];refine Go.cp rfl rfl rfl (HP of hon j (by omega)) ?_;apply sG;simp only [go_sem,seval,t0,t1,t7,t9,hv11,t34,t35,hi7];refine bC fun i13 σ13 s13 a13 f13=>?_;by_cases hz:iD l of j=0
   ·have q2:(iD l of j=0)=True:=eq_true hz;have hbk:eL (bkR l of j)=.agg [vI (pE of j),vI (iD l of j),vI (o5 l of j)]:=by rw [bkR,if_pos hz]; rfl
    simp only [go_sem,seval,a13,t0,t1,t7,t9,hv11,t34,t35,hi7,hi9,q2];generalize hq13:upd _ i13 _=τ13;have s13':aa τ τ13:=by rw [←hq13]; exact s13.aB f13
    clear hq13;refine ae fun i58 σ58 s58 a58 f58=>?_;obtain ⟨idA,hda,hdel,hd1,hd2⟩:=ho.AV (s13'.trans s58);generalize ((List.range j).map (bkR l of)).map eL=rows at *;have hb2:(rows.length+1)*25≤140737488355328:=by omega
    simp only [go_sem,seval,t0,t1,t7,t9,hv11,t34,t35,hda,dk a58,hb2];refine ew fun i59 σ59 s59 a59 f59=>?_;have k59:=(hdel σ (aa.refl _) σ58 (hs.trans (s13'.trans s58))).trans s59;have n59:σ i59=none:=(hs.trans (s13'.trans s58)).none f59;simp only [go_sem,seval,t0,t1,t7,t9,t34,t35,r1];refine ⟨_,?_,j+1,by omega,rfl,k59,?_,by simp [t0,t1,t7,t9,t34]⟩
    ·omega
    ·rw [hrows,hbk];exact aM.new (by simp) a59 n59
   ·have q2:(iD l of j=0)=False:=eq_false hz;have hbk:eL (bkR l of j)=.agg [vI (pE of j),vI (iD l of j),vI 0]:=by rw [bkR,if_neg hz]; rfl
    simp only [go_sem,seval,a13,t0,t1,t7,t9,hv11,t34,t35,hi7,hi9,q2];generalize hq13:upd _ i13 _=τ13;have s13':aa τ τ13:=by rw [←hq13]; exact s13.aB f13
    clear hq13;refine ae fun i58 σ58 s58 a58 f58=>?_;obtain ⟨idA,hda,hdel,hd1,hd2⟩:=ho.AV (s13'.trans s58);generalize ((List.range j).map (bkR l of)).map eL=rows at *;have hb2:(rows.length+1)*25≤140737488355328:=by omega
    simp only [go_sem,seval,t0,t1,t7,t9,hv11,t34,t35,hda,dk a58,hb2];refine ew fun i59 σ59 s59 a59 f59=>?_;have k59:=(hdel σ (aa.refl _) σ58 (hs.trans (s13'.trans s58))).trans s59;have n59:σ i59=none:=(hs.trans (s13'.trans s58)).none f59;simp only [go_sem,seval,t0,t1,t7,t9,t34,t35,r1];refine ⟨_,?_,j+1,by omega,rfl,k59,?_,by simp [t0,t1,t7,t9,t34]⟩
    ·omega
    ·rw [hrows,hbk];exact aM.new (by simp) a59 n59
  ·have q:((j:Int) < of.length+1)=False:=eq_false (by omega);have hje:j=of.length+1:=by omega
   subst hje;apply sR;simp only [go_sem,seval,t0,t1,t7,t9,t34,t35,q];exact ⟨hs,hv11 ▸ ho⟩
 ·rintro ⟨S,τ⟩ ⟨hs,ho⟩;simp only at hs ho;generalize hv11:S 11=v11 at ho;refine ad.mix 14 ?_;apply sR;simp only [go_sem,seval,hv11];exact ⟨_,σ,hs,Wk.tup (vs':=[bF (nD l of),vI 0]) ⟨ho.wk (aa.refl _) hs,Wk.refl hs _,trivial⟩,rfl,rfl⟩
open Go.Proofs Go.Proofs.Tryz
def nt (x:Brk) (first last:Bool):Prop :=
 (first=true→x.cls=0)∧(first=false→last=true→x.cls=3)∧(first=false→last=false→x.cls=1∨x.cls=2) ∧
 (x.forced=0∨(2≤x.forced∧x.forced≤4∧x.cls≠3∧x.cls≠2))∧(x.rank=0∨((x.cls=1∨x.cls=2)∧x.forced=0∧0 < x.rank∧x.rank < 8))
instance (x:Brk) (a b:Bool):Decidable (nt x a b):=by unfold nt; infer_instance
theorem GG (x:Brk) (first last:Bool):aU prog 139 [eL x, .bool first, .bool last] (.bool (decide (nt x first last))):=fun σ=>by
 refine NT.r (by simp [J9]) ?_;have hs:=aa.refl σ;obtain ⟨c,f,r⟩:=x;refine ad.mix 9 ?_;apply sR;simp only [go_sem,seval,J9,eL];refine ae fun i3 σ3 s3 a3 f3=>?_;have z3:=hs.none f3;replace hs:=hs.trans s3;unfold nt;simp only;have C:c=0∨c=1∨c=2∨c=3∨((c=0)=False∧(c=1)=False∧(c=2)=False∧(c=3)=False∧(c≠0)=True∧(c≠3)=True):=by
  by_cases h0:c=0
  ·exact .inl h0
  by_cases h1:c=1
  ·exact .inr (.inl h1)
  by_cases h2:c=2
  ·exact .inr (.inr (.inl h2))
  by_cases h3:c=3
  ·exact .inr (.inr (.inr (.inl h3)))
  ·exact .inr (.inr (.inr (.inr ⟨eq_false h0,eq_false h1,eq_false h2,eq_false h3,eq_true h0,eq_true h3⟩)))
 have F:f=0∨((f=0)=False∧((f < 2)=True∧(2≤f∧f≤4)=False∨(f < 2)=False∧((f > 4)=True∧(2≤f∧f≤4)=False∨(f > 4)=False∧(2≤f)=True∧(f≤4)=True))):=by
  by_cases h0:f=0
  ·exact .inl h0
  refine .inr ⟨eq_false h0,?_⟩;by_cases h1:f < 2
  ·exact .inl ⟨eq_true h1,eq_false (by omega)⟩
  refine .inr ⟨eq_false h1,?_⟩;by_cases h2:f > 4
  ·exact .inl ⟨eq_true h2,eq_false (by omega)⟩
  ·exact .inr ⟨eq_false h2,eq_true (by omega),eq_true (by omega)⟩
 have R:r=0∨((r=0)=False∧((r > 0)=False∧(0 < r)=False∨(r > 0)=True∧(0 < r)=True∧((r < 8)=True∨(r < 8)=False))):=by
  by_cases h0:r=0
  ·exact .inl h0
  refine .inr ⟨eq_false h0,?_⟩;by_cases h1:r > 0
  ·refine .inr ⟨eq_true h1,eq_true h1,?_⟩;by_cases h2:r < 8
   ·exact .inl (eq_true h2)
   ·exact .inr (eq_false h2)
  ·exact .inl ⟨eq_false h1,eq_false (by omega)⟩
 rcases C with rfl | rfl | rfl | rfl | ⟨c0,c1,c2,c3,c4,c5⟩
 ·rcases F with rfl | ⟨f0,⟨f1,f2⟩ | ⟨f1,⟨f2,f3⟩ | ⟨f2,f3,f4⟩⟩⟩
  ·cases first
   ·cases last
    ·simp only [go_sem,seval,a3];exact ar.pure hs (by simp)
    ·simp only [go_sem,seval,a3];exact ar.pure hs (by simp)
   ·cases last
    ·rcases R with rfl | ⟨r0,⟨r1,r2⟩ | ⟨r1,r2,r3 | r3⟩⟩
     ·simp only [go_sem,seval,a3];exact ar.pure hs (by simp)
     ·simp only [go_sem,seval,a3,r0,r1];exact ar.pure hs (by simp [r0,r2])
     ·simp only [go_sem,seval,a3,r0,r1,r3];exact ar.pure hs (by simp [r0,r2,r3])
     ·simp only [go_sem,seval,a3,r0,r1,r3];exact ar.pure hs (by simp [r0,r2,r3])
    ·rcases R with rfl | ⟨r0,⟨r1,r2⟩ | ⟨r1,r2,r3 | r3⟩⟩
     ·simp only [go_sem,seval,a3];exact ar.pure hs (by simp)
     ·simp only [go_sem,seval,a3,r0,r1];exact ar.pure hs (by simp [r0,r2])
     ·simp only [go_sem,seval,a3,r0,r1,r3];exact ar.pure hs (by simp [r0,r2,r3])
     ·simp only [go_sem,seval,a3,r0,r1,r3];exact ar.pure hs (by simp [r0,r2,r3])
  ·cases first
   ·cases last
    ·simp only [go_sem,seval,a3,f0,f1];exact ar.pure hs (by simp [f0,f2])
    ·simp only [go_sem,seval,a3,f0,f1];exact ar.pure hs (by simp [f0,f2])
   ·cases last
    ·simp only [go_sem,seval,a3,f0,f1];exact ar.pure hs (by simp [f0,f2])
    ·simp only [go_sem,seval,a3,f0,f1];exact ar.pure hs (by simp [f0,f2])
  ·cases first
   ·cases last
    ·simp only [go_sem,seval,a3,f0,f1,f2];exact ar.pure hs (by simp [f0,f3])
    ·simp only [go_sem,seval,a3,f0,f1,f2];exact ar.pure hs (by simp [f0,f3])
   ·cases last
    ·simp only [go_sem,seval,a3,f0,f1,f2];exact ar.pure hs (by simp [f0,f3])
    ·simp only [go_sem,seval,a3,f0,f1,f2];exact ar.pure hs (by simp [f0,f3])
  ·cases first
   ·cases last
    ·simp only [go_sem,seval,a3,f0,f1,f2];exact ar.pure hs (by simp [f0,f3,f4])
    ·simp only [go_sem,seval,a3,f0,f1,f2];exact ar.pure hs (by simp [f0,f3,f4])
   ·cases last
    ·rcases R with rfl | ⟨r0,⟨r1,r2⟩ | ⟨r1,r2,r3 | r3⟩⟩
     ·simp only [go_sem,seval,a3,f0,f1,f2];exact ar.pure hs (by simp [f0,f3,f4])
     ·simp only [go_sem,seval,a3,f0,f1,f2,r0,r1];exact ar.pure hs (by simp [f0,f3,f4,r0,r2])
     ·simp only [go_sem,seval,a3,f0,f1,f2,r0,r1,r3];exact ar.pure hs (by simp [f0,f3,f4,r0,r2,r3])
     ·simp only [go_sem,seval,a3,f0,f1,f2,r0,r1,r3];exact ar.pure hs (by simp [f0,f3,f4,r0,r2,r3])
    ·rcases R with rfl | ⟨r0,⟨r1,r2⟩ | ⟨r1,r2,r3 | r3⟩⟩
     ·simp only [go_sem,seval,a3,f0,f1,f2];exact ar.pure hs (by simp [f0,f3,f4])
     ·simp only [go_sem,seval,a3,f0,f1,f2,r0,r1];exact ar.pure hs (by simp [f0,f3,f4,r0,r2])
     ·simp only [go_sem,seval,a3,f0,f1,f2,r0,r1,r3];exact ar.pure hs (by simp [f0,f3,f4,r0,r2,r3])
     ·simp only [go_sem,seval,a3,f0,f1,f2,r0,r1,r3];exact ar.pure hs (by simp [f0,f3,f4,r0,r2,r3])
 ·rcases F with rfl | ⟨f0,⟨f1,f2⟩ | ⟨f1,⟨f2,f3⟩ | ⟨f2,f3,f4⟩⟩⟩
  ·cases first
   ·cases last
    ·rcases R with rfl | ⟨r0,⟨r1,r2⟩ | ⟨r1,r2,r3 | r3⟩⟩
     ·simp only [go_sem,seval,a3];exact ar.pure hs (by simp)
     ·simp only [go_sem,seval,a3,r0,r1];exact ar.pure hs (by simp [r0,r2])
     ·simp only [go_sem,seval,a3,r0,r1,r3];exact ar.pure hs (by simp [r0,r2,r3])
     ·simp only [go_sem,seval,a3,r0,r1,r3];exact ar.pure hs (by simp [r0,r2,r3])
    ·simp only [go_sem,seval,a3];exact ar.pure hs (by simp)
   ·cases last
    ·simp only [go_sem,seval,a3];exact ar.pure hs (by simp)
    ·simp only [go_sem,seval,a3];exact ar.pure hs (by simp)
  ·cases first
   ·cases last
    ·simp only [go_sem,seval,a3,f0,f1];exact ar.pure hs (by simp [f0,f2])
    ·simp only [go_sem,seval,a3,f0,f1];exact ar.pure hs (by simp [f0,f2])
   ·cases last
    ·simp only [go_sem,seval,a3,f0,f1];exact ar.pure hs (by simp [f0,f2])
    ·simp only [go_sem,seval,a3,f0,f1];exact ar.pure hs (by simp [f0,f2])
  ·cases first
   ·cases last
    ·simp only [go_sem,seval,a3,f0,f1,f2];exact ar.pure hs (by simp [f0,f3])
    ·simp only [go_sem,seval,a3,f0,f1,f2];exact ar.pure hs (by simp [f0,f3])
   ·cases last
    ·simp only [go_sem,seval,a3,f0,f1,f2];exact ar.pure hs (by simp [f0,f3])
    ·simp only [go_sem,seval,a3,f0,f1,f2];exact ar.pure hs (by simp [f0,f3])
  ·cases first
   ·cases last
    ·rcases R with rfl | ⟨r0,⟨r1,r2⟩ | ⟨r1,r2,r3 | r3⟩⟩
     ·simp only [go_sem,seval,a3,f0,f1,f2];exact ar.pure hs (by simp [f0,f3,f4])
     ·simp only [go_sem,seval,a3,f0,f1,f2,r0,r1];exact ar.pure hs (by simp [f0,f3,f4,r0,r2])
     ·simp only [go_sem,seval,a3,f0,f1,f2,r0,r1,r3];exact ar.pure hs (by simp [f0,f3,f4,r0,r2,r3])
     ·simp only [go_sem,seval,a3,f0,f1,f2,r0,r1,r3];exact ar.pure hs (by simp [f0,f3,f4,r0,r2,r3])
    ·simp only [go_sem,seval,a3,f0,f1,f2];exact ar.pure hs (by simp [f0,f3,f4])
   ·cases last
    ·simp only [go_sem,seval,a3,f0,f1,f2];exact ar.pure hs (by simp [f0,f3,f4])
    ·simp only [go_sem,seval,a3,f0,f1,f2];exact ar.pure hs (by simp [f0,f3,f4])
 ·rcases F with rfl | ⟨f0,⟨f1,f2⟩ | ⟨f1,⟨f2,f3⟩ | ⟨f2,f3,f4⟩⟩⟩
  ·cases first
   ·cases last
    ·rcases R with rfl | ⟨r0,⟨r1,r2⟩ | ⟨r1,r2,r3 | r3⟩⟩
     ·simp only [go_sem,seval,a3];exact ar.pure hs (by simp)
     ·simp only [go_sem,seval,a3,r0,r1];exact ar.pure hs (by simp [r0,r2])
     ·simp only [go_sem,seval,a3,r0,r1,r3];exact ar.pure hs (by simp [r0,r2,r3])
     ·simp only [go_sem,seval,a3,r0,r1,r3];exact ar.pure hs (by simp [r0,r2,r3])
    ·simp only [go_sem,seval,a3];exact ar.pure hs (by simp)
   ·cases last
    ·simp only [go_sem,seval,a3];exact ar.pure hs (by simp)
    ·simp only [go_sem,seval,a3];exact ar.pure hs (by simp)
  ·cases first
   ·cases last
    ·simp only [go_sem,seval,a3,f0,f1];exact ar.pure hs (by simp [f0,f2])
    ·simp only [go_sem,seval,a3,f0,f1];exact ar.pure hs (by simp [f0,f2])
   ·cases last
    ·simp only [go_sem,seval,a3,f0,f1];exact ar.pure hs (by simp [f0,f2])
    ·simp only [go_sem,seval,a3,f0,f1];exact ar.pure hs (by simp [f0,f2])
  ·cases first
   ·cases last
    ·simp only [go_sem,seval,a3,f0,f1,f2];exact ar.pure hs (by simp [f0,f3])
    ·simp only [go_sem,seval,a3,f0,f1,f2];exact ar.pure hs (by simp [f0,f3])
   ·cases last
    ·simp only [go_sem,seval,a3,f0,f1,f2];exact ar.pure hs (by simp [f0,f3])
    ·simp only [go_sem,seval,a3,f0,f1,f2];exact ar.pure hs (by simp [f0,f3])
  ·cases first
   ·cases last
    ·simp only [go_sem,seval,a3,f0,f1,f2];exact ar.pure hs (by simp [f0,f3,f4])
    ·simp only [go_sem,seval,a3,f0,f1,f2];exact ar.pure hs (by simp [f0,f3,f4])
   ·cases last
    ·simp only [go_sem,seval,a3,f0,f1,f2];exact ar.pure hs (by simp [f0,f3,f4])
    ·simp only [go_sem,seval,a3,f0,f1,f2];exact ar.pure hs (by simp [f0,f3,f4])
 ·rcases F with rfl | ⟨f0,⟨f1,f2⟩ | ⟨f1,⟨f2,f3⟩ | ⟨f2,f3,f4⟩⟩⟩
  ·cases first
   ·cases last
    ·simp only [go_sem,seval,a3];exact ar.pure hs (by simp)
    ·rcases R with rfl | ⟨r0,⟨r1,r2⟩ | ⟨r1,r2,r3 | r3⟩⟩
     ·simp only [go_sem,seval,a3];exact ar.pure hs (by simp)
     ·simp only [go_sem,seval,a3,r0,r1];exact ar.pure hs (by simp [r0,r2])
     ·simp only [go_sem,seval,a3,r0,r1,r3];exact ar.pure hs (by simp [r0,r2,r3])
     ·simp only [go_sem,seval,a3,r0,r1,r3];exact ar.pure hs (by simp [r0,r2,r3])
   ·cases last
    ·simp only [go_sem,seval,a3];exact ar.pure hs (by simp)
    ·simp only [go_sem,seval,a3];exact ar.pure hs (by simp)
  ·cases first
   ·cases last
    ·simp only [go_sem,seval,a3,f0,f1];exact ar.pure hs (by simp [f0,f2])
    ·simp only [go_sem,seval,a3,f0,f1];exact ar.pure hs (by simp [f0,f2])
   ·cases last
    ·simp only [go_sem,seval,a3,f0,f1];exact ar.pure hs (by simp [f0,f2])
    ·simp only [go_sem,seval,a3,f0,f1];exact ar.pure hs (by simp [f0,f2])
  ·cases first
   ·cases last
    ·simp only [go_sem,seval,a3,f0,f1,f2];exact ar.pure hs (by simp [f0,f3])
    ·simp only [go_sem,seval,a3,f0,f1,f2];exact ar.pure hs (by simp [f0,f3])
   ·cases last
    ·simp only [go_sem,seval,a3,f0,f1,f2];exact ar.pure hs (by simp [f0,f3])
    ·simp only [go_sem,seval,a3,f0,f1,f2];exact ar.pure hs (by simp [f0,f3])
  ·cases first
   ·cases last
    ·simp only [go_sem,seval,a3,f0,f1,f2];exact ar.pure hs (by simp [f0,f3,f4])
    ·simp only [go_sem,seval,a3,f0,f1,f2];exact ar.pure hs (by simp [f0,f3,f4])
   ·cases last
    ·simp only [go_sem,seval,a3,f0,f1,f2];exact ar.pure hs (by simp [f0,f3,f4])
    ·simp only [go_sem,seval,a3,f0,f1,f2];exact ar.pure hs (by simp [f0,f3,f4])
 ·rcases F with rfl | ⟨f0,⟨f1,f2⟩ | ⟨f1,⟨f2,f3⟩ | ⟨f2,f3,f4⟩⟩⟩
  ·cases first
   ·cases last
    ·simp only [go_sem,seval,a3,c0,c1,c2,c3,c4,c5];exact ar.pure hs (by simp [c0,c1,c2,c3,c4,c5])
    ·simp only [go_sem,seval,a3,c0,c1,c2,c3,c4,c5];exact ar.pure hs (by simp [c0,c1,c2,c3,c4,c5])
   ·cases last
    ·simp only [go_sem,seval,a3,c0,c1,c2,c3,c4,c5];exact ar.pure hs (by simp [c0,c1,c2,c3,c4,c5])
    ·simp only [go_sem,seval,a3,c0,c1,c2,c3,c4,c5];exact ar.pure hs (by simp [c0,c1,c2,c3,c4,c5])
  ·cases first
   ·cases last
    ·simp only [go_sem,seval,a3,c0,c1,c2,c3,c4,c5,f0,f1];exact ar.pure hs (by simp [c0,c1,c2,c3,c4,c5,f0,f2])
    ·simp only [go_sem,seval,a3,c0,c1,c2,c3,c4,c5,f0,f1];exact ar.pure hs (by simp [c0,c1,c2,c3,c4,c5,f0,f2])
   ·cases last
    ·simp only [go_sem,seval,a3,c0,c1,c2,c3,c4,c5,f0,f1];exact ar.pure hs (by simp [c0,c1,c2,c3,c4,c5,f0,f2])
    ·simp only [go_sem,seval,a3,c0,c1,c2,c3,c4,c5,f0,f1];exact ar.pure hs (by simp [c0,c1,c2,c3,c4,c5,f0,f2])
  ·cases first
   ·cases last
    ·simp only [go_sem,seval,a3,c0,c1,c2,c3,c4,c5,f0,f1,f2];exact ar.pure hs (by simp [c0,c1,c2,c3,c4,c5,f0,f3])
    ·simp only [go_sem,seval,a3,c0,c1,c2,c3,c4,c5,f0,f1,f2];exact ar.pure hs (by simp [c0,c1,c2,c3,c4,c5,f0,f3])
   ·cases last
    ·simp only [go_sem,seval,a3,c0,c1,c2,c3,c4,c5,f0,f1,f2];exact ar.pure hs (by simp [c0,c1,c2,c3,c4,c5,f0,f3])
    ·simp only [go_sem,seval,a3,c0,c1,c2,c3,c4,c5,f0,f1,f2];exact ar.pure hs (by simp [c0,c1,c2,c3,c4,c5,f0,f3])
  ·cases first
   ·cases last
    ·simp only [go_sem,seval,a3,c0,c1,c2,c3,c4,c5,f0,f1,f2];exact ar.pure hs (by simp [c0,c1,c2,c3,c4,c5,f0,f3,f4])
    ·simp only [go_sem,seval,a3,c0,c1,c2,c3,c4,c5,f0,f1,f2];exact ar.pure hs (by simp [c0,c1,c2,c3,c4,c5,f0,f3,f4])
   ·cases last
    ·simp only [go_sem,seval,a3,c0,c1,c2,c3,c4,c5,f0,f1,f2];exact ar.pure hs (by simp [c0,c1,c2,c3,c4,c5,f0,f3,f4])
    ·simp only [go_sem,seval,a3,c0,c1,c2,c3,c4,c5,f0,f1,f2];exact ar.pure hs (by simp [c0,c1,c2,c3,c4,c5,f0,f3,f4])
open Go.Proofs Go.Proofs.Tryz
def bkG (b:List Brk) (i:Nat):Brk:=b.getD i ⟨0,0,0⟩
def gy (b:List Brk) (i:Nat):Bool:=decide (nt (bkG b i) (decide ((i:Int)=0)) (decide ((i:Int)=(b.length:Int) - 1)))
def ub (b:List Brk):Bool:=(List.range b.length).all (gy b) && decide ((b.length:Int) > 0)
theorem Cf {b:List Brk} {j:Nat} (h:(List.range j).all (gy b)=true) (hr:gy b j=true):(List.range (j+1)).all (gy b)=true:=by
 rw [List.range_succ,List.all_append,h]; simp [hr]
theorem JB (b:List Brk) (hb:b.length≤1000000):aU prog 99 [bF b] (.bool (ub b)):=fun σ=>by
 refine e99.r (by simp [c99]) ?_;have hlb:=As b;refine ad.mix 5 ?_;apply sR;simp only [go_sem,seval,c99,hlb];refine ad.eS (fun st=>aa σ st.σ∧st.s 0=bF b∧(List.range b.length).all (gy b)=true)
  (fun m st=>∃j:Nat,j≤b.length∧m=b.length - j∧aa σ st.σ∧(List.range j).all (gy b)=true∧st.s 0=bF b∧st.s 5=bF b∧st.s 6=vI b.length∧st.s 7=vI j) b.length ?_ ?_ ?_
 ·exact ⟨0,by omega,rfl,aa.refl _,rfl,rfl,rfl,rfl,rfl⟩
 ·rintro m ⟨S,τ⟩ ⟨j,hj,rfl,hs,hall,t0,t5,t6,t7⟩;simp only at hs t0 t5 t6 t7;refine ad.mix 5 ?_;by_cases hlt:j < b.length
  ·have q:((j:Int) < b.length)=True:=eq_true (by omega);have r1:inR .i64 ((j:Int)+1):=ak (by omega) (by omega);have r2:inR .i64 ((b.length:Int) - 1):=ak (by omega) (by omega);have hidx:=fun σ=>pr (σ:=σ) hlt;have hg:bkG b j=b[j]:=by simp [bkG,hlt]
   have hra:gy b j=decide (nt b[j] (decide ((j:Int)=0)) (decide ((j:Int)=(b.length:Int) - 1))):=by rw [gy,hg]
   apply sR;simp only [go_sem,seval,t0,t5,t6,t7,q,hidx,eL];refine ae fun i4 σ4 s4 a4 f4=>?_;simp only [go_sem,seval,a4,t0,t5,t6,t7,hlb,r2];generalize hq4:upd σ4 i4 _=τ4;have s4':aa τ τ4:=by rw [←hq4]; exact s4.aB f4
   clear hq4;refine ad.ay rfl rfl rfl (GG b[j] (decide ((j:Int)=0)) (decide ((j:Int)=(b.length:Int) - 1)) _) ?_;rw [←hra];cases hv:gy b j
   ·apply sR;simp only [go_sem,seval,t0,t5,t6,t7];have hm:ub b=false:=by
     rw [ub];have:(List.range b.length).all (gy b)=false:=by
      rw [List.all_eq_false];exact ⟨j,List.mem_range.2 hlt,by simp [hv]⟩
     rw [this]; rfl
    exact ar.pure (hs.trans s4') (by rw [hm])
   ·apply sR;simp only [go_sem,seval,t0,t5,t6,t7,r1];refine ⟨_,?_,j+1,by omega,rfl,hs.trans s4',Cf hall hv,by simp [t0,t5,t6]⟩;omega
  ·have q:((j:Int) < b.length)=False:=eq_false (by omega);have hje:j=b.length:=by omega
   subst hje;apply sR;simp only [go_sem,seval,t0,t5,t6,t7,q];exact ⟨hs,hall⟩
 ·rintro ⟨S,τ⟩ ⟨hs,t0,hall⟩;simp only at hs t0 hall;refine ad.mix 5 ?_;apply sR;simp only [go_sem,seval,t0,hlb];exact ar.pure hs (by rw [ub,hall]; rfl)
open Go.Proofs Go.Proofs.Tryz
def iJ (b:List Brk) (i:Nat):V:=.agg [vI (bkG b i).cls,vI (bkG b i).forced,vI (bkG b i).rank,vI i]
def ur (b:List Brk) (bM to:Int):Nat:=(min to ((b.length:Int) - 1)+1 - max bM 0).toNat
def btw (b:List Brk) (bM to:Int):List Nat:=List.range' (max bM 0).toNat (ur b bM to)
theorem MC (σ:af) (b:List Brk):bN σ false 1 (.rp (bF b))=some (bF b):=rfl
theorem range_split:∀(j s n:Nat),j < n→List.range' s n=List.range' s j++(s+j)::List.range' (s+j+1) (n - j - 1)
 | 0,s,n+1,_=>by simp [List.range']
 | j+1,s,n+1,h=>by
   have:=range_split j (s+1) n (by omega);rw [List.range',this,List.range'];have e1:s+1+j=s+(j+1):=by omega
   have e2:n - j - 1=n+1 - (j+1) - 1:=by omega
   rw [e1,e2]; rfl
theorem pL (s j:Nat):List.range' s (j+1)=List.range' s j++[s+j]:=by
 rw [range_split j s (j+1) (by omega),show j+1 - j - 1=0 by omega]; rfl
theorem EM (b:List Brk) (hb:b.length≤1000000) (bM to:Int):Iter prog 181 [.rp (vI bM), .rp (vI to), .rp (bF b)] ((btw b bM to).map fun i=>[iJ b i]):=by
 refine ⟨LY.c,fun idl J Jx σ0 hy hJ=>?_⟩;refine (LY.r (by simp [K7]) ?_).2;have hlb:=As b;refine ad.mix 6 ?_;apply sR;simp only [go_sem,seval,K7,cL];obtain ⟨s,hsv⟩:∃s:Nat,s=(max bM 0).toNat:=⟨_,rfl⟩
 have hs0:max bM 0=(s:Int):=by omega
 obtain ⟨n,hnv⟩:∃n:Nat,n=ur b bM to:=⟨_,rfl⟩
 have hn1:∀j:Nat,(((s+j:Nat):Int)≤min to ((b.length:Int) - 1))↔j < n:=fun j=>by rw [hnv,ur,hs0]; omega
 rw [btw,←hsv,←hnv] at hy ⊢;rw [hs0];refine ad.loop (fun m st=>∃(j:Nat) (σJ:af),j≤n∧m=n - j∧J ((List.range' s j).map fun i=>[iJ b i]) σJ∧aa σJ st.σ∧st.s 0=.yl idl∧st.s 1=.rp (vI bM)∧st.s 2=.rp (vI to)∧st.s 3=.rp (bF b)∧st.s 5=vI (s+j:Nat)) n ?_ ?_
 ·exact ⟨0,σ0,by omega,rfl,by simpa using hJ,aa.refl _,rfl,rfl,rfl,rfl,rfl⟩
 ·rintro m ⟨S,τ⟩ ⟨j,σJ,hj,rfl,hJj,hsub,t0,t1,t2,t3,t5⟩;simp only at hsub t0 t1 t2 t3 t5;refine ad.mix 6 ?_;have r2:inR .i64 ((b.length:Int) - 1):=ak (by omega) (by omega);by_cases hlt:j < n
  ·have hle:=(hn1 j).2 hlt;have hbl:s+j < b.length:=by omega
   have q:(((s+j:Nat):Int)≤min to ((b.length:Int) - 1))=True:=eq_true hle;have r1:inR .i64 (((s+j:Nat):Int)+1):=ak (by omega) (by omega);have hidx:=fun σ=>pr (σ:=σ) hbl;have hg:bkG b (s+j)=b[s+j]:=by simp [bkG,hbl]
   have hfd:iJ b (s+j)=.agg [vI b[s+j].cls,vI b[s+j].forced,vI b[s+j].rank,vI (s+j:Nat)]:=by rw [iJ,hg]
   have e:((List.range' s n).map fun i=>[iJ b i])=((List.range' s j).map fun i=>[iJ b i])++[iJ b (s+j)]::((List.range' (s+j+1) (n - j - 1)).map fun i=>[iJ b i]):=by
    rw [range_split j s n hlt]; simp
   have htk:((List.range' s (j+1)).map fun i=>[iJ b i])=((List.range' s j).map fun i=>[iJ b i])++[[iJ b (s+j)]]:=by rw [pL]; simp
   have q5:s+(j+1)=s+j+1:=by omega
   generalize s+j=sj at *;apply sR;simp only [go_sem,seval,t0,t1,t2,t3,t5,MC,hlb,r2,eI,q,hidx,eL];rw [←hfd];refine ad.kV (Post:=fun b' σ2=>∃σJ',bb σJ τ σJ' σ2∧((b'=true∧J (((List.range' s j).map fun i=>[iJ b i])++[[iJ b sj]]) σJ')∨(b'=false∧Jx (((List.range' s j).map fun i=>[iJ b i])++[[iJ b sj]]) σJ'))) rfl rfl rfl (hy _ [iJ b sj] _ σJ τ e hJj hsub) ?_;rintro b' σ2 ⟨σJ',hbs,hbb⟩;rcases hbb with ⟨rfl,hbb⟩ | ⟨rfl,hbb⟩
   ·apply sR;simp only [go_sem,seval,t0,t1,t2,t3,t5,r1];refine ⟨_,?_,j+1,σJ',by omega,rfl,by rw [htk]; exact hbb,hbs.1,by simp [t0,t1,t2,t3,q5]⟩;omega
   ·apply sR;simp only [go_sem,seval,t0,t1,t2,t3,t5];exact ⟨_,σJ',hbs.1,Wk.refl hbs.1 _, .inr ⟨_,⟨_,by rw [e,List.append_assoc]; rfl⟩,hbb⟩⟩
  ·have q:(((s+j:Nat):Int)≤min to ((b.length:Int) - 1))=False:=eq_false (fun h=>hlt ((hn1 j).1 h));have hje:j=n:=by omega
   subst hje;generalize s+j=sj at *;apply sR;simp only [go_sem,seval,t0,t1,t2,t3,t5,MC,hlb,r2,eI,q];exact ⟨_,σJ,hsub,Wk.refl hsub _, .inl hJj⟩
open Go.Proofs Go.Proofs.Tryz
structure Fd where
 (b:Brk) (i:Int)
def fk (x:Fd):V:=.agg [vI x.b.cls,vI x.b.forced,vI x.b.rank,vI x.i]
def fK (ah:Fd→Fd→Bool→Bool) (p:Fd×Bool) (x:Fd):Fd×Bool:=if ah x p.1 p.2 then (x,true) else p
def eX (ah:Fd→Fd→Bool→Bool) (xs:List Fd) (d:Fd):Fd×Bool:=xs.foldl (fK ah) (d,false)
theorem tm (ah:Fd→Fd→Bool→Bool) (xs:List Fd) (x:Fd) (d:Fd):eX ah (xs++[x]) d=fK ah (eX ah xs d) x:=by simp [eX,List.foldl_append]
theorem zu {g f:FuncId} {caps:List V} {xs:List Fd} (hit:Iter prog g caps (xs.map fun x=>[fk x])) (d:Fd) (ah:Fd→Fd→Bool→Bool)
 (hf:∀x y s,aU prog f [fk x,fk y, .bool s] (.bool (ah x y s))) :
 aU prog 140 [.fn g caps,fk d, .fn f []] (fk (eX ah xs d).1):=fun σ=>by
 refine OL.r (by simp [KE]) ?_;have hs:=aa.refl σ;have hfc:(V.fn f []).cells=[.fn f []]:=rfl;have hfs:(V.fn f []).stays=true:=rfl;refine ad.mix 10 ?_;apply sR;simp only [go_sem,seval,KE,fk,hfc,hfs];refine ae fun i4 σ4 s4 a4 f4=>?_;have z4:=hs.none f4;replace hs:=hs.trans s4;simp only [go_sem,seval,hfc,hfs];refine ae fun i5 σ5 s5 a5 f5=>?_;have n45:=ao a4 f5;replace a4:=s5 _ _ a4;have z5:=hs.none f5;replace hs:=hs.trans s5;simp only [go_sem,seval,hfc,hfs];refine ae fun i6 σ6 s6 a6 f6=>?_;have n46:=ao a4 f6;replace a4:=s6 _ _ a4;have n56:=ao a5 f6;replace a5:=s6 _ _ a5;have z6:=hs.none f6;replace hs:=hs.trans s6;simp only [go_sem,seval,a4,hfc,hfs];have hs6:=aa.refl σ6;refine ae fun i7 σ7 s7 a7 f7=>?_;simp only [go_sem,seval,a7,hfc,hfs];refine ae fun i8 σ8 s8 a8 f8=>?_;have n78:i7≠i8:=ao a7 f8;have b7:=s8 _ _ a7;simp only [go_sem,seval,b7,a8,ab n78,ab n78.symm,hfc,hfs];generalize hS:mix 10 _ _=S;have S5:S 5=.ptr i5 0 0:=by rw [←hS]; rfl
 have S6:S 6=.ptr i6 0 0:=by rw [←hS]; rfl
 have S7:S 7=.ptr i7 0 0:=by rw [←hS]; rfl
 have S8:S 8=.ptr i8 0 0:=by rw [←hS]; rfl
 have S11:S 11=.fn g caps:=by rw [←hS]; rfl
 clear hS;refine ad.cC (g:=.t 11) (caps:=caps) S11 hit (fun y hy=>?_) [] (fun pre σJ=>σJ i7=some ⟨243,4,[fk (eX ah (xs.take pre.length) d).1]⟩∧σJ i8=some ⟨4,1,[.bool (eX ah (xs.take pre.length) d).2]⟩∧aa σ6 σJ)
  (fun _ _ _=>False) ?_ ?_ ?_ ?_ ?_
 ·obtain ⟨t,_,rfl⟩:=List.mem_map.1 hy; rfl
 ·refine ⟨(ab n78).trans ag,ag,?_⟩;have h7:=(s7.trans s8).aB (id:=i7) (o:=⟨243,4,[.agg [vI d.b.cls,vI d.b.forced,vI d.b.rank,vI d.i]]⟩) f7;exact h7.aB (s7.none f8)
 ·rintro pre y post σJ σB hxs ⟨J7,J8,Js⟩ hsub;obtain ⟨t,hti,rfl⟩:=oI (f:=fk) hxs;have htk:eX ah (xs.take (pre.length+1)) d=fK ah (eX ah (xs.take pre.length) d) t:=by rw [List.take_add_one,hti]; exact tm _ _ _ _
  have hlen:(pre++[[fk t]]).length=pre.length+1:=by simp
  rw [hlen,htk];generalize eX ah (xs.take pre.length) d=p at *;obtain ⟨p1,p2⟩:=p;simp only at J7 J8;have c7:=hsub _ _ J7;have c8:=hsub _ _ J8;have c5:=hsub _ _ (Js _ _ a5);generalize hSS:lk S [12] [fk t]=S0;have T5:S0 5=.ptr i5 0 0:=by rw [←hSS]; exact S5
  have T7:S0 7=.ptr i7 0 0:=by rw [←hSS]; exact S7
  have T8:S0 8=.ptr i8 0 0:=by rw [←hSS]; exact S8
  have T12:S0 12=fk t:=by rw [←hSS]; rfl
  clear hSS;rw [fk] at c7 T12;refine ad.mix 10 ?_;apply sR;simp only [go_sem,seval,T5,T7,T8,T12];rw [aH];intro i9 f9;have m7:i7≠i9:=ao c7 f9;have m8:i8≠i9:=ao c8 f9;have m5:i5≠i9:=ao c5 f9;simp only [go_sem,seval,T5,T7,T8,T12];have hBs:=(bb.refl hsub).pf (o:=⟨243,4,[.agg [vI t.b.cls,vI t.b.forced,vI t.b.rank,vI t.i]]⟩) f9;have d7:=(ab (o:=⟨243,4,[.agg [vI t.b.cls,vI t.b.forced,vI t.b.rank,vI t.i]]⟩) m7).trans c7;have d8:=(ab (o:=⟨243,4,[.agg [vI t.b.cls,vI t.b.forced,vI t.b.rank,vI t.i]]⟩) m8).trans c8;have d5:=(ab (o:=⟨243,4,[.agg [vI t.b.cls,vI t.b.forced,vI t.b.rank,vI t.i]]⟩) m5).trans c5;have d9:upd σB i9 ⟨243,4,[.agg [vI t.b.cls,vI t.b.forced,vI t.b.rank,vI t.i]]⟩ i9=_:=ag;generalize upd σB i9 ⟨243,4,[.agg [vI t.b.cls,vI t.b.forced,vI t.b.rank,vI t.i]]⟩=τ9 at *;apply sR;simp only [go_sem,seval,T5,T7,T8,d5,d7,d8,d9];refine ad.ay rfl rfl rfl (hf t p1 p2 _) ?_;cases hv:ah t p1 p2
  ·apply sR;simp only [go_sem,seval,T5,T7,T8];refine ⟨_,hBs,?_,?_,Js⟩
   ·rw [fK,hv]; exact J7
   ·rw [fK,hv]; exact J8
  ·apply sR;simp only [go_sem,seval,T5,T7,T8,d5,d7,d8,d9,ab n78,ab n78.symm];refine ⟨_,(hBs.set (id:=i7) J7).set (id:=i8) (by rw [ab n78.symm]; exact J8),?_,?_,?_⟩
   ·rw [fK,hv]; exact (ab n78).trans ag
   ·rw [fK,hv]; exact ag
   ·exact (Js.aB f7).aB (s7.none f8)
 ·rintro σ' ⟨J7,J8,Js⟩;rw [List.length_map,List.take_length] at J7 J8;rw [fk] at J7;have e6:=Js _ _ a6;refine ad.mix 10 ?_;apply sR;simp only [go_sem,seval,S6,S7,J7,e6];exact ar.pure ((hs.trans Js).aB z6) rfl
 ·intro id h; cases h
 ·rintro pre σ' _ ⟨⟩
open Go.Proofs Go.Proofs.Tryz
theorem uP (b:List Brk) (bM to:Int):aU prog 141 [bF b,vI bM,vI to] (.fn 181 [.rp (vI bM), .rp (vI to), .rp (bF b)]):=fun σ=>by
 refine Om.r (by simp [JS]) ?_;refine ad.mix 7 ?_;have q1:=gA b;have q2:=gq b;generalize bF b=x at *;apply sR;simp only [go_sem,seval,JS,q1,q2];refine ae fun id1 σ1 s1 a1 f1=>?_;simp only [go_sem,seval,q1,q2];refine ae fun id2 σ2 s2 a2 f2=>?_;simp only [go_sem,seval,q1,q2];refine ae fun id3 σ3 s3 a3 f3=>?_;simp only [go_sem,seval,q1,q2];have hs:=(s1.trans s2).trans s3;exact ⟨_,σ,hs,Wk.fn (vs':=[.rp (vI bM), .rp (vI to), .rp x]) ⟨Wk.ptr hs (s3 _ _ a2) (s1.none f2),Wk.ptr hs a3 ((s1.trans s2).none f3),Wk.ptr hs (s3 _ _ (s2 _ _ a1)) f1,trivial⟩,rfl,rfl⟩
def lH (b:List Brk) (i:Nat):Fd:=⟨bkG b i,i⟩
def yP:Fd:=⟨⟨0,0,0⟩, -1⟩
def gn (x _y:Fd) (s:Bool):Bool:=!s && decide (x.b.forced≠0)
def iF (x y:Fd) (s:Bool):Bool:=!s || decide (x.b.rank≤y.b.rank)
theorem EU (x y:Fd) (s:Bool):aU prog 142 [fk x,fk y, .bool s] (.bool (gn x y s)):=fun σ=>by
 refine NM.r (by simp [KU]) ?_;have hs:=aa.refl σ;obtain ⟨⟨c,f,r⟩,i⟩:=x;obtain ⟨⟨c',f',r'⟩,i'⟩:=y;refine ad.mix 7 ?_;apply sR;simp only [go_sem,seval,KU,fk];refine ae fun i3 σ3 s3 a3 f3=>?_;have z3:=hs.none f3;replace hs:=hs.trans s3;simp only [go_sem,seval];refine ae fun i4 σ4 s4 a4 f4=>?_;have n34:=ao a3 f4;replace a3:=s4 _ _ a3;have z4:=hs.none f4;replace hs:=hs.trans s4;cases s
 ·by_cases h:f≠0
  ·have q:(f≠0)=True:=eq_true h;simp only [go_sem,seval,a3,a4,q];exact ar.pure hs (by simp [gn,h])
  ·have q:(f≠0)=False:=eq_false h;simp only [go_sem,seval,a3,a4,q];exact ar.pure hs (by simp [gn,h])
 ·simp only [go_sem,seval,a3,a4];exact ar.pure hs (by simp [gn])
theorem GC (x y:Fd) (s:Bool):aU prog 143 [fk x,fk y, .bool s] (.bool (iF x y s)):=fun σ=>by
 refine OA.r (by simp [Lh]) ?_;have hs:=aa.refl σ;obtain ⟨⟨c,f,r⟩,i⟩:=x;obtain ⟨⟨c',f',r'⟩,i'⟩:=y;refine ad.mix 7 ?_;apply sR;simp only [go_sem,seval,Lh,fk];refine ae fun i3 σ3 s3 a3 f3=>?_;have z3:=hs.none f3;replace hs:=hs.trans s3;simp only [go_sem,seval];refine ae fun i4 σ4 s4 a4 f4=>?_;have n34:=ao a3 f4;replace a3:=s4 _ _ a3;have z4:=hs.none f4;replace hs:=hs.trans s4;cases s
 ·simp only [go_sem,seval,a3,a4];exact ar.pure hs (by simp [iF])
 ·by_cases h:r≤r'
  ·have q:(r≤r')=True:=eq_true h;simp only [go_sem,seval,a3,a4,q];exact ar.pure hs (by simp [iF,h])
  ·have q:(r≤r')=False:=eq_false h;simp only [go_sem,seval,a3,a4,q];exact ar.pure hs (by simp [iF,h])
def kF (b:List Brk) (bM to:Int):Int:=(eX gn ((btw b bM to).map (lH b)) yP).1.i
def DX (b:List Brk) (bM to:Int):Int:=(eX iF ((btw b bM to).map (lH b)) yP).1.i
theorem vm (b:List Brk) (hb:b.length≤1000000) (bM to:Int):Iter prog 181 [.rp (vI bM), .rp (vI to), .rp (bF b)] (((btw b bM to).map (lH b)).map fun x=>[fk x]):=by
 have h:=EM b hb bM to;rw [List.map_map]; exact h
theorem HB (b:List Brk) (hb:b.length≤1000000) (bM to:Int):aU prog 100 [bF b,vI bM,vI to] (vI (kF b bM to)):=fun σ=>by
 refine NY.r (by simp [Kf]) ?_;have hs:=aa.refl σ;refine ad.mix 8 ?_;apply sR;simp only [go_sem,seval,Kf];refine ad.ay rfl rfl rfl (uP b bM to _) ?_;apply sR;simp only [go_sem,seval];refine ad.ay rfl rfl rfl (zu (vm b hb bM to) yP gn EU _) ?_;have hcl:∀x,(fk x).cells=[vI x.b.cls,vI x.b.forced,vI x.b.rank,vI x.i]:=fun _=>rfl;apply sR;simp only [go_sem,seval,fk];refine ae fun i7 σ7 s7 a7 f7=>?_;have z7:=hs.none f7;replace hs:=hs.trans s7;simp only [go_sem,seval,a7];exact ar.pure (hs.aB z7) rfl
theorem KN (b:List Brk) (hb:b.length≤1000000) (bM to:Int):aU prog 101 [bF b,vI bM,vI to] (vI (DX b bM to)):=fun σ=>by
 refine NU.r (by simp [Jr]) ?_;have hs:=aa.refl σ;refine ad.mix 8 ?_;apply sR;simp only [go_sem,seval,Jr];refine ad.ay rfl rfl rfl (uP b bM to _) ?_;apply sR;simp only [go_sem,seval];refine ad.ay rfl rfl rfl (zu (vm b hb bM to) yP iF GC _) ?_;apply sR;simp only [go_sem,seval,fk];refine ae fun i7 σ7 s7 a7 f7=>?_;have z7:=hs.none f7;replace hs:=hs.trans s7;simp only [go_sem,seval,a7];exact ar.pure (hs.aB z7) rfl
open Go.Proofs Go.Proofs.Tryz
structure Kp where
 (heads:List Int)
 (high body:Int)
def iI (l:List Nd) (x:Kp) (a:Int):Kp:=if (stA l a).head < 1∨x.body - (stA l a).head < 1 then x else ⟨x.heads++[a],x.high+(stA l a).head,x.body - (stA l a).head⟩
structure KpJ (σ0:af) (i7:Nat) (x:Kp) (σ:af):Prop where
 row:∃v,σ i7=some ⟨181,3,[.agg [v,vI x.high,vI x.body]]⟩∧aM (aZ σ0 i7) σ 3 1 v (x.heads.map vI)
 sub:aa σ0 σ
 no:σ0 i7=none
theorem Gx (l:List Nd) (hb:isB l=true) (x:Kp) (hlen:x.heads.length≤1000000) (h0:0≤x.high) (h1:x.high≤4398046511104) (h2:0≤x.body) (h3:x.body≤4398046511104) (a:Nat) (ha:a < l.length)
 {σ0 σJ σB:af} {i7:Nat} (hJ:KpJ σ0 i7 x σJ) (hsub:aa σJ σB) :
 az prog 96 [.ptr i7 0 0,aI l,vI a] σB fun _ σ'=>∃σJ',bb σJ σB σJ' σ'∧KpJ σ0 i7 (iI l x a) σJ':=by
 refine e96.r (by simp [c96]) ?_;have hno:=(fM hb ha).st.head;have hnd:=fun σ=>cS (σ:=σ) (l:=l) (a:=a) ha;obtain ⟨⟨v,J7,Jo⟩,Js,Jn⟩:=hJ;obtain ⟨hds,high,body⟩:=x;simp only at hlen h0 h1 h2 h3 J7 Jo;have hvc:v.cells=[v]:=by rcases Jo with ⟨rfl,_⟩ | ⟨_,rfl,_⟩ <;> rfl
 have c7:=hsub _ _ J7;unfold iI;rw [iP ha];simp only;have same:(l[a].st.head < 1∨body - l[a].st.head < 1)→ar (.tup []) σB fun _ σ'=>∃σJ',bb σJ σB σJ' σ'∧KpJ σ0 i7 (if l[a].st.head < 1∨body - l[a].st.head < 1 then ⟨hds,high,body⟩ else ⟨hds++[(a:Int)],high+l[a].st.head,body - l[a].st.head⟩) σJ':=fun h=>by
  rw [if_pos h];exact ⟨_,σB,aa.refl _,Wk.refl (aa.refl _) _,σJ,bb.refl hsub,⟨v,J7,Jo⟩,Js,Jn⟩
 refine ad.mix 7 ?_;have r1:inR .i64 (body - l[a].st.head):=ak (by omega) (by omega);have r2:inR .i64 (high+l[a].st.head):=ak (by omega) (by omega);by_cases hn:l[a].st.head < 1
 ·have q1:(l[a].st.head < 1)=True:=eq_true hn;have fin:=same (.inl hn);generalize hX:(if l[a].st.head < 1∨body - l[a].st.head < 1 then (⟨hds,high,body⟩:Kp) else ⟨hds++[(a:Int)],high+l[a].st.head,body - l[a].st.head⟩)=X at *;apply sR;simp only [go_sem,seval,c96,hnd,Nd.cells,q1,c7,hvc];exact fin
 have q1:(l[a].st.head < 1)=False:=eq_false hn;by_cases hn2:body - l[a].st.head < 1
 ·have q2:(body - l[a].st.head < 1)=True:=eq_true hn2;have fin:=same (.inr hn2);generalize hX:(if l[a].st.head < 1∨body - l[a].st.head < 1 then (⟨hds,high,body⟩:Kp) else ⟨hds++[(a:Int)],high+l[a].st.head,body - l[a].st.head⟩)=X at *;apply sR;simp only [go_sem,seval,c96,hnd,Nd.cells,q1,r1,q2,c7,hvc];exact fin
 have q2:(body - l[a].st.head < 1)=False:=eq_false hn2;rw [if_neg (by omega)];clear same;apply sR;simp only [go_sem,seval,c96,hnd,Nd.cells,q1,r1,q2,c7,hvc];rw [aH];intro id28 f28;have hrl:(hds.map vI).length≤1000000:=by simpa using hlen
 have hrows:((hds++[(a:Int)]).map vI)=hds.map vI++[vI a]:=by simp
 generalize hds.map vI=rows at *;have hBs:=(bb.refl hsub).pf (o:=⟨3,1,[vI (a:Int)]⟩) f28;have y2:upd σB id28 ⟨3,1,[vI (a:Int)]⟩ i7=_:=(ab (ao c7 f28)).trans c7;have a28:upd σB id28 ⟨3,1,[vI (a:Int)]⟩ id28=some ⟨3,1,[vI (a:Int)]⟩:=ag;generalize upd σB id28 ⟨3,1,[vI (a:Int)]⟩=σ8 at *;obtain ⟨idA,hda,hdA⟩:=Jo.C7 hBs.1;have hb2:(rows.length+1)*9≤140737488355328:=by omega
 have k2:aZ σ0 i7 i7≠none:=fun h=>(aF.1 h).1 rfl;have dne:∀(i:Nat) (σx:af),aZ σ0 i7 i≠none→Vc.bz σx idA i=σx i:=fun i σx hk=>by
  cases idA with
  | none=>rfl
  | some a=>exact dh (fun e=>hk (by rw [e]; exact (hdA a rfl).1))
 simp only [go_sem,seval,hda,dk a28,hb2];rw [aH];intro id29 f29;have f29:σ8 id29=none:=f29;have m29:i7≠id29:=ao y2 f29;have f29':Vc.bz σ8 idA id29=none:=by
  cases idA with
  | none=>exact f29
  | some a=>simp only [Vc.bz,del]; split <;> first | rfl | exact f29
 have y2':upd (Vc.bz σ8 idA) id29 ⟨3,1,rows++[vI (a:Int)]⟩ i7=some ⟨181,3,[.agg [v,vI high,vI body]]⟩:=by rw [ab m29,dne _ _ k2]; exact y2
 have hB9:=((hBs.Cl (e:=idA) fun i h=>(hdA i h).2).new (o:=⟨3,1,rows++[vI (a:Int)]⟩) f29').set (id:=i7) (o:=⟨181,3,[.agg [v,vI high,vI body]]⟩) (o':=⟨181,3,[.agg [.own id29 0 (rows.length+1),vI (high+l[a].st.head),vI (body - l[a].st.head)]]⟩) (by rw [ab m29,dne _ _ k2]; exact J7);simp only [go_sem,seval,hvc,y2',r1,r2];refine ⟨_,_,aa.refl _,Wk.refl (aa.refl _) _,_,hB9,⟨.own id29 0 (rows.length+1),ag,?_⟩,?_,Jn⟩
 ·rw [hrows];refine aM.new (by simp) (by rw [ab m29.symm,ag]) ?_;rw [aF];refine ⟨m29.symm,?_⟩;cases h:σ0 id29 with
  | none=>rfl
  | some o=>rw [hBs.1 _ _ (Js _ _ h)] at f29; cases f29
 ·refine aa.aB (fun i o h=>?_) Jn;have h1:=Js _ _ h;rw [ab (ao (hBs.1 _ _ h1) f29),dne _ _ (fun hk=>by rw [(aF.1 hk).2] at h; cases h)];exact h1
open Go.Proofs Go.Proofs.Tryz
def bwd (L:List Int):List (List V):=(List.range' 0 L.length).map fun q=>[vI ((L.length - 1 - q:Nat):Int),vI (L.getD (L.length - 1 - q) 0)]
theorem E9 (L:List Int) (hL:L.length≤1000000):Iter prog 134 [.rp (bj L)] (bwd L):=by
 refine ⟨LJ.c,fun idl J Jx σ0 hy hJ=>?_⟩;refine (LJ.r (by simp [Ky]) ?_).2;have hlL:=eY L;have ldI:∀(σ:af) (X:List Int),bN σ false 1 (.rp (bj X))=some (bj X):=fun σ X=>rfl;have r2:inR .i64 ((L.length:Int) - 1):=ak (by omega) (by omega);refine ad.mix 4 ?_;apply sR;simp only [go_sem,seval,Ky,ldI,hlL,r2];generalize hT:bwd L=T at hy ⊢
 let F:Nat→List V:=fun q=>[vI ((L.length - 1 - q:Nat):Int),vI (L.getD (L.length - 1 - q) 0)]
 have hTF:T=(List.range' 0 L.length).map F:=hT.symm;refine ad.loop (fun m st=>∃(j:Nat) (σJ:af),j≤L.length∧m=L.length - j∧J ((List.range' 0 j).map F) σJ∧aa σJ st.σ∧st.s 0=.yl idl∧st.s 1=.rp (bj L)∧st.s 3=vI ((L.length:Int) - 1 - j)) L.length ?_ ?_
 ·exact ⟨0,σ0,by omega,rfl,by simpa using hJ,aa.refl _,rfl,rfl,by simp [aV,mix]⟩
 ·rintro m ⟨S,τ⟩ ⟨j,σJ,hj,rfl,hJj,hsub,t0,t1,t3⟩;simp only at hsub t0 t1 t3;refine ad.mix 4 ?_;by_cases hlt:j < L.length
  ·obtain ⟨i,hi⟩:∃i:Nat,i=L.length - 1 - j:=⟨_,rfl⟩
   have hil:i < L.length:=by omega
   have t3':S 3=vI (i:Int):=by rw [t3]; congr 1; omega
   have q:((i:Int)≥0)=True:=eq_true (by omega);have r1:inR .i64 ((i:Int) - 1):=ak (by omega) (by omega);have hidx:=fun σ=>gF (σ:=σ) hil;have hF:F j=[vI (i:Int),vI L[i]]:=by
    show [vI ((L.length - 1 - j:Nat):Int),vI (L.getD (L.length - 1 - j) 0)]=_;rw [←hi]; simp [hil]
   have e:T=((List.range' 0 j).map F)++[vI (i:Int),vI L[i]]::((List.range' (0+j+1) (L.length - j - 1)).map F):=by
    rw [hTF,range_split j 0 L.length hlt,List.map_append,List.map_cons,Nat.zero_add,hF]
   have htk:((List.range' 0 (j+1)).map F)=((List.range' 0 j).map F)++[[vI (i:Int),vI L[i]]]:=by rw [pL,List.map_append,Nat.zero_add,List.map_cons,hF]; rfl
   have q5:(i:Int) - 1=(L.length:Int) - 1 - ((j+1:Nat):Int):=by omega
   apply sR;simp only [go_sem,seval,t0,t1,t3',ldI,q,hidx];refine ad.kV (Post:=fun b' σ2=>∃σJ',bb σJ τ σJ' σ2∧((b'=true∧J (((List.range' 0 j).map F)++[[vI (i:Int),vI L[i]]]) σJ')∨(b'=false∧Jx (((List.range' 0 j).map F)++[[vI (i:Int),vI L[i]]]) σJ'))) rfl rfl rfl (hy _ [vI (i:Int),vI L[i]] _ σJ τ e hJj hsub) ?_;rintro b' σ2 ⟨σJ',hbs,hbb⟩;rcases hbb with ⟨rfl,hbb⟩ | ⟨rfl,hbb⟩
   ·apply sR;simp only [go_sem,seval,t0,t1,t3',r1];refine ⟨_,?_,j+1,σJ',by omega,rfl,by rw [htk]; exact hbb,hbs.1,by simp [t0,t1,q5]⟩;omega
   ·apply sR;simp only [go_sem,seval,t0,t1,t3'];exact ⟨_,σJ',hbs.1,Wk.refl hbs.1 _, .inr ⟨_,⟨_,by rw [e,List.append_assoc]; rfl⟩,hbb⟩⟩
  ·have hje:j=L.length:=by omega
   subst hje;have q:((L.length:Int) - 1 - (L.length:Int)≥0)=False:=eq_false (by omega);apply sR;simp only [go_sem,seval,t0,t1,t3,q];exact ⟨_,σJ,hsub,Wk.refl hsub _, .inl (hTF ▸ hJj)⟩
theorem LR (L:List Int):aU prog 94 [bj L] (.fn 134 [.rp (bj L)]):=fun σ=>by
 refine e94.r (by simp [c94]) ?_;refine ad.mix 3 ?_;apply sR;simp only [go_sem,seval,c94,aj,al];refine ae fun id1 σ1 s1 a1 f1=>?_;simp only [go_sem,seval,aj,al];exact ⟨_,σ,s1,Wk.fn (vs':=[.rp (bj L)]) ⟨Wk.ptr s1 a1 f1,trivial⟩,rfl,rfl⟩
open Go.Proofs Go.Proofs.Tryz
def sP (x:Kp):V:=.agg [bj x.heads,vI x.high,vI x.body]
def fQ (l:List Nd) (L:List Int) (h:Int):Nat→Kp
 | 0=>⟨[],0,h⟩
 | m+1=>iI l (fQ l L h m) (L.getD (L.length - 1 - m) 0)
theorem Dq {l:List Nd} {x:Kp} {a:Int} {m:Nat} {h:Int} (h0:0≤(stA l a).head) (hx:x.heads.length≤m∧0≤x.high∧0≤x.body∧x.high+x.body=h):(iI l x a).heads.length≤m+1∧0≤(iI l x a).high∧0≤(iI l x a).body∧(iI l x a).high+(iI l x a).body=h:=by
 obtain ⟨h1,h2,h3,h4⟩:=hx;unfold iI;split
 ·exact ⟨by omega,h2,h3,h4⟩
 ·simp only [List.length_append,List.length_cons,List.length_nil];omega
theorem n9 {l:List Nd} (hb:isB l=true) {L:List Int} (hL:∀x∈L,∃n:Nat,x=n∧n < l.length) {h:Int} (hh:0≤h):∀m,m≤L.length→(fQ l L h m).heads.length≤m∧0≤(fQ l L h m).high∧0≤(fQ l L h m).body∧(fQ l L h m).high+(fQ l L h m).body=h
 | 0,_=>by simp [fQ]; omega
 | m+1,hm=>by
   have ih:=n9 hb hL hh m (by omega);rw [fQ];refine Dq ?_ ih;have hlt:L.length - 1 - m < L.length:=by omega
   have hg:L.getD (L.length - 1 - m) 0=L[L.length - 1 - m]:=by simp [hlt]
   rw [hg];obtain ⟨n,hn,hnl⟩:=hL _ (List.getElem_mem hlt);rw [hn,iP hnl];exact (fM hb hnl).st.head.1
def vP (l:List Nd) (a:Nat) (h:Int):Kp:=fQ l (abv l a) h (abv l a).length
theorem Eh (l:List Nd) (hl:dE l) (hb:isB l=true) (hn:l.length≤100000) (a:Nat) (ha:a < l.length) (h:Int) (h0:0≤h) (h1:h≤2199023255552) :
 aU prog 62 [aI l,vI a,vI h] (sP (vP l a h)):=fun σ=>by
 refine e62.r (by simp [c62]) ?_;have hs:=aa.refl σ;refine ad.mix 10 ?_;apply sR;simp only [go_sem,seval,c62,ai,aK];refine ae fun i3 σ3 s3 a3 f3=>?_;have z3:=hs.none f3;replace hs:=hs.trans s3;simp only [go_sem,seval];refine ae fun i6 σ6 s6 a6 f6=>?_;have n36:=ao a3 f6;replace a3:=s6 _ _ a3;have z6:=hs.none f6;replace hs:=hs.trans s6;simp only [go_sem,seval,a3,ai];refine ae fun i7 σ7 s7 a7 f7=>?_;have n37:i3≠i7:=ao a3 f7;have n67:i6≠i7:=ao a6 f7;have b3:=s7 _ _ a3;simp only [go_sem,seval,a7,b3,ab n37,ai,aK];have h7:KpJ σ6 i7 ⟨[],0,h⟩ (upd σ7 i7 ⟨181,3,[.agg [.aD,vI 0,vI h]]⟩):=⟨⟨.aD,ag,aM.start⟩,s7.aB f7,f7⟩
 have e3:upd σ7 i7 ⟨181,3,[.agg [.aD,vI 0,vI h]]⟩ i3=_:=(ab n37).trans b3;generalize upd σ7 i7 ⟨181,3,[.agg [.aD,vI 0,vI h]]⟩=τ7 at *;refine ad.ay rfl rfl rfl (wV l hl hb hn a ha _) ?_;have hrg:∀x∈abv l a,∃n:Nat,x=n∧n < l.length:=fun x hx=>by
  obtain ⟨n,h1,h2⟩:=oq ha x hx;exact ⟨n,h1,by omega⟩
 have hlL:(abv l a).length≤l.length+1:=im _ _ _;unfold vP;generalize abv l a=L at *;apply sR;simp only [go_sem,seval];refine ad.ay rfl rfl rfl (LR L _) ?_;apply sR;simp only [go_sem,seval];generalize hS:mix 10 _ _=S;have S3:S 3=.ptr i3 0 0:=by rw [←hS]; rfl
 have S6:S 6=.ptr i6 0 0:=by rw [←hS]; rfl
 have S7:S 7=.ptr i7 0 0:=by rw [←hS]; rfl
 have S16:S 16=.fn 134 [.rp (bj L)]:=by rw [←hS]; rfl
 clear hS;refine ad.cC (g:=.t 16) (caps:=[.rp (bj L)]) S16 (E9 L (by omega)) (fun y hy=>?_) [] (fun pre σJ=>KpJ σ6 i7 (fQ l L h pre.length) σJ)
  (fun _ _ _=>False) ?_ ?_ ?_ ?_ ?_
 ·obtain ⟨t,_,rfl⟩:=List.mem_map.1 hy; rfl
 ·exact h7
 ·rintro pre y post σJ σB hxs hJ hsub;have hpl:pre.length < L.length:=by
   have:=congrArg List.length hxs;simp [bwd] at this; omega
  obtain ⟨i,hi⟩:∃i:Nat,i=L.length - 1 - pre.length:=⟨_,rfl⟩
  have hil:i < L.length:=by omega
  have hy:y=[vI (i:Int),vI (L.getD i 0)]:=by
   have h1:(bwd L)[pre.length]?=some y:=by rw [hxs]; simp
   simp [bwd,hpl] at h1;rw [←h1,hi]; simp
  have hlen:(pre++[y]).length=pre.length+1:=by simp
  have hinv:=n9 hb hrg h0 pre.length (by omega);have hst:fQ l L h (pre.length+1)=iI l (fQ l L h pre.length) (L.getD i 0):=by rw [fQ,hi]
  have hg:L.getD i 0=L[i]:=by simp [hil]
  obtain ⟨n,hne,hnl⟩:=hrg _ (List.getElem_mem hil);rw [hlen,hst,hg,hne];rw [hg,hne] at hy;subst hy;generalize fQ l L h pre.length=x at *;have c3:=hsub _ _ (hJ.sub _ _ a3);generalize hSS:lk S [17,18] [vI (i:Int),vI (n:Int)]=S0;have T3:S0 3=.ptr i3 0 0:=by rw [←hSS]; exact S3
  have T7:S0 7=.ptr i7 0 0:=by rw [←hSS]; exact S7
  have T18:S0 18=vI (n:Int):=by rw [←hSS]; rfl
  clear hSS;refine ad.mix 10 ?_;apply sR;simp only [go_sem,seval,T3,T7,T18];apply sR;simp only [go_sem,seval,T3,T7,T18,c3,ai];have hc:=Gx l hb x (by omega) (by omega) (by omega) (by omega) (by omega) n hnl hJ hsub;rw [←T7] at hc;refine ad.call rfl rfl rfl hc ?_;rintro - σ2 ⟨σJ',hB,hJ'⟩;apply sR;simp only [go_sem,seval];exact ⟨_,hB,hJ'⟩
 ·rintro σ' hJ;have hbl:(bwd L).length=L.length:=by simp [bwd]
  rw [hbl] at hJ;obtain ⟨⟨v,J7,Jo⟩,Js,Jn⟩:=hJ;have hvc:v.cells=[v]:=by rcases Jo with ⟨rfl,_⟩ | ⟨_,rfl,_⟩ <;> rfl
  have e6:=Js _ _ a6;refine ad.mix 10 ?_;apply sR;simp only [go_sem,seval,S6,S7,J7,e6,hvc];have hst:=(hs.trans Js).aB (o:=⟨96,3,[.agg [v,vI (fQ l L h L.length).high,vI (fQ l L h L.length).body]]⟩) z6;have Jo':aM (aZ σ6 i7) (upd σ' i6 ⟨96,3,[.agg [v,vI (fQ l L h L.length).high,vI (fQ l L h L.length).body]]⟩) 3 1 v ((fQ l L h L.length).heads.map vI):=by
   rcases Jo with h | ⟨id,g1,g2,g3⟩
   ·exact .inl h
   ·refine .inr ⟨id,g1,?_,g3⟩;rw [ab (fun e=>by rw [e,aF] at g3; rw [a6] at g3; cases g3.2)]; exact g2
  have hK:aa σ (aZ σ6 i7):=fun i o hh=>by
   rw [aZ,if_neg (fun e=>by rw [e,hs.none f7] at hh; cases hh)]; exact hs _ _ hh
  exact ⟨_,σ,hst,Wk.agg (vs':=[bj (fQ l L h L.length).heads,vI (fQ l L h L.length).high,vI (fQ l L h L.length).body]) ⟨Jo'.wk hK hst,Wk.refl hst _,Wk.refl hst _,trivial⟩,rfl,rfl⟩
 ·intro id h; cases h
 ·rintro pre σ' _ ⟨⟩
open Go.Proofs Go.Proofs.Tryz
def iG (l:List Nd) (h:Int):Bool:=decide (1≤h∧h≤1099511627776) && isB l
theorem Ge (l:List Nd) (hl:dE l) (h:Int):aU prog 61 [aI l,vI h] (.bool (iG l h)):=fun σ=>by
 refine e61.r (by simp [c61]) ?_;refine ad.mix 5 ?_;apply sR;simp only [go_sem,seval,c61];refine ad.ay rfl rfl rfl (lW h _) ?_;unfold iG;cases hd:decide (1≤h∧h≤1099511627776)
 ·apply sR;simp only [go_sem,seval];exact ar.same (by simp)
 ·apply sR;simp only [go_sem,seval];refine ad.ay rfl rfl rfl (Bl l hl _) ?_;apply sR;simp only [go_sem,seval];exact ar.same (by simp)
def qJ (l:List Nd) (a h:Int):Kp:=if iG l h=true∧0≤a∧a < l.length then vP l a.toNat h else ⟨[],0,0⟩
theorem Mp (l:List Nd) (hl:dE l) (a h:Int):aU prog 38 [aI l,vI a,vI h] (sP (qJ l a h)):=fun σ=>by
 refine e38.r (by simp [c38]) ?_;have hs:=aa.refl σ;have hln:=eD l;have hn:l.length≤100000:=by have:=hl.1; omega
 refine ad.mix 7 ?_;apply sR;simp only [go_sem,seval,c38];refine ae fun i6 σ6 s6 a6 f6=>?_;have z6:=hs.none f6;replace hs:=hs.trans s6;simp only [go_sem,seval];refine ad.ay rfl rfl rfl (Ge l hl h _) ?_;have bad:¬(iG l h=true∧0≤a∧a < l.length)→ar (.agg [.aD,vI 0,vI 0]) σ6 fun r σ'=>r=sP (qJ l a h)∧σ'=σ:=fun hb=>by
  rw [qJ,if_neg hb];exact ⟨_,σ,hs,Wk.agg (vs':=[bj [],vI 0,vI 0]) ⟨Wk.aD 1,Wk.refl hs _,Wk.refl hs _,trivial⟩,rfl,rfl⟩
 have a6':upd σ6 i6 ⟨96,3,[.agg [.aD,vI 0,vI 0]]⟩=σ6:=by
  funext i;by_cases hi:i=i6
  ·rw [hi,ag]; exact a6.symm
  ·rw [ab hi]
 cases hm:iG l h
 ·have fin:=bad (by simp [hm]);apply sR;simp only [go_sem,seval,a6];rw [a6'];exact fin
 by_cases h0:a < 0
 ·have q0:(a < 0)=True:=eq_true h0;have fin:=bad (by omega);apply sR;simp only [go_sem,seval,a6,q0];rw [a6'];exact fin
 have q0:(a < 0)=False:=eq_false h0;by_cases h1:a≥l.length
 ·have q1:(a≥l.length)=True:=eq_true h1;have fin:=bad (by omega);apply sR;simp only [go_sem,seval,a6,q0,q1,hln];rw [a6'];exact fin
 have q1:(a≥l.length)=False:=eq_false h1;clear bad a6';obtain ⟨n,rfl⟩:∃n:Nat,a=n:=⟨a.toNat,by omega⟩
 have hb:isB l=true:=by unfold iG at hm; simp at hm; exact hm.2
 have hh:1≤h∧h≤1099511627776:=by unfold iG at hm; simp at hm; exact hm.1
 have hr:qJ l n h=vP l n h:=by rw [qJ,if_pos ⟨hm,by omega,by omega⟩,Int.toNat_natCast]
 rw [hr];apply sR;simp only [go_sem,seval,a6,q0,q1,hln];refine ad.ay rfl rfl rfl (Eh l hl hb hn n (by omega) h (by omega) (by omega) _) ?_;apply sR;simp only [go_sem,seval,a6,sP,aj,al];exact ar.pure (hs.aB z6) rfl
def gJ (l:List Nd) (h:Int):Nat→Int
 | 0=>h
 | j+1=>if (ndA l j).kind=2∨(ndA l j).kind=3 then min (gJ l h j) (vP l j h).body else gJ l h j
def gw (l:List Nd) (h:Int):Int:=if iG l h=true then gJ l h l.length else 0
theorem Gk (l:List Nd) (hl:dE l) (h:Int):aU prog 28 [aI l,vI h] (vI (gw l h)):=fun σ=>by
 refine e28.r (by simp [c28]) ?_;have hs:=aa.refl σ;have hln:=eD l;have hn:l.length≤100000:=by have:=hl.1; omega
 refine ad.mix 8 ?_;apply sR;simp only [go_sem,seval,c28];refine ad.ay rfl rfl rfl (Ge l hl h _) ?_;unfold gw;cases hm:iG l h
 ·apply sR;simp only [go_sem,seval];exact ar.same rfl
 have hb:isB l=true:=by unfold iG at hm; simp at hm; exact hm.2
 have hh:1≤h∧h≤1099511627776:=by unfold iG at hm; simp at hm; exact hm.1
 rw [if_pos rfl];apply sR;simp only [go_sem,seval,hln];refine ad.loop (fun m st=>∃j:Nat,j≤l.length∧m=l.length - j∧aa σ st.σ∧st.s 0=aI l∧st.s 1=vI h∧st.s 5=vI (gJ l h j)∧st.s 13=aI l∧st.s 14=vI l.length∧st.s 15=vI j) l.length ?_ ?_
 ·exact ⟨0,by omega,rfl,hs,rfl,rfl,rfl,rfl,rfl,rfl⟩
 ·clear hs;rintro m ⟨S,τ⟩ ⟨j,hj,rfl,hs,t0,t1,t5,t13,t14,t15⟩;simp only at hs t0 t1 t5 t13 t14 t15;refine ad.mix 8 ?_;by_cases hlt:j < l.length
  ·have q:((j:Int) < l.length)=True:=eq_true (by omega);have r1:inR .i64 ((j:Int)+1):=ak (by omega) (by omega);have hnd:=fun σ=>cS (σ:=σ) (l:=l) (a:=j) hlt;have hst:gJ l h (j+1)=if l[j].kind=2∨l[j].kind=3 then min (gJ l h j) (vP l j h).body else gJ l h j:=by rw [gJ,iE hlt]
   apply sR;simp only [go_sem,seval,t0,t1,t5,t13,t14,t15,q,hnd,Nd.cells];refine ae fun i7 σ7 s7 a7 f7=>?_;by_cases hk:l[j].kind=2
   ·have q1:(l[j].kind=2)=True:=eq_true hk;simp only [go_sem,seval,a7,q1,t0,t1,t5,t13,t14,t15,aj,al];refine ad.ay rfl rfl rfl (Eh l hl hb hn j hlt h (by omega) (by omega) _) ?_;apply sR;simp only [go_sem,seval,t0,t1,t5,t13,t14,t15,sP,r1,eI,aj,al];refine ⟨_,?_,j+1,by omega,rfl,hs.trans (s7.aB f7),by simp [t0,t1,t13,t14,hst,hk]⟩;omega
   ·have q1:(l[j].kind=2)=False:=eq_false hk;by_cases hk3:l[j].kind=3
    ·have q2:(l[j].kind=3)=True:=eq_true hk3;have hk:=hk3;simp only [go_sem,seval,a7,q1,q2,t0,t1,t5,t13,t14,t15,aj,al];refine ad.ay rfl rfl rfl (Eh l hl hb hn j hlt h (by omega) (by omega) _) ?_;apply sR;simp only [go_sem,seval,t0,t1,t5,t13,t14,t15,sP,r1,eI,aj,al];refine ⟨_,?_,j+1,by omega,rfl,hs.trans (s7.aB f7),by simp [t0,t1,t13,t14,hst,hk]⟩;omega
    ·have q2:(l[j].kind=3)=False:=eq_false hk3;simp only [go_sem,seval,a7,q1,q2,t0,t1,t5,t13,t14,t15,r1,aj,al];refine ⟨_,?_,j+1,by omega,rfl,hs.trans (s7.aB f7),by simp [t0,t1,t13,t14,hst,hk,hk3]⟩;omega
  ·have q:((j:Int) < l.length)=False:=eq_false (by omega);have hje:j=l.length:=by omega
   apply sR;simp only [go_sem,seval,t0,t1,t5,t13,t14,t15,q];exact ar.pure hs (by rw [hje])
open Go.Proofs Go.Proofs.Tryz
theorem av (l:List Atm):(bu l).cells=[bu l]:=rfl
theorem ax (l:List Atm):(bu l).stays=true:=rfl
theorem iB (l:List Atm):dD false (bu l)=some (.int .i64 l.length):=by simp [bu,dD]
theorem gV {σ:af} {l:List Atm} {i:Nat} (h:i < l.length):bD σ 8 (bu l) (.int .i64 i)=some (.rp (dd l[i])):=by simp [bu,bD,h,dd]
structure kR (l:List Atm):Prop where
 len:l.length≤1000000000
 rng:∀a∈l, -1152921504606846976≤a.y∧a.y≤1152921504606846976∧0≤a.h∧a.h≤1152921504606846976
theorem vO (l:List Atm) (k:Int):aU prog 137 [bu l,vI k] (.bool (decide (0≤k∧k < l.length))):=fun σ=>by
 refine Na.r (by simp [DT]) ?_;have hl:=iB l;refine ad.mix 5 ?_;by_cases h0:k≥0
 ·have q0:(k≥0)=True:=eq_true h0;by_cases h1:k < l.length
  ·have q1:(k < l.length)=True:=eq_true h1;apply sR;simp only [go_sem,seval,DT,q0,q1,hl];exact ar.same (by simp [h0,h1])
  ·have q1:(k < l.length)=False:=eq_false h1;apply sR;simp only [go_sem,seval,DT,q0,q1,hl];exact ar.same (by simp [h1])
 ·have q0:(k≥0)=False:=eq_false h0;apply sR;simp only [go_sem,seval,DT,q0,hl];exact ar.same (by simp <;> omega)
theorem Dn (a:Atm) (h:-1152921504606846976≤a.y∧a.y≤1152921504606846976∧0≤a.h∧a.h≤1152921504606846976):aU prog 180 [dd a] (vI (a.y+a.h)):=fun σ=>by
 refine OG.r (by simp [KL]) ?_;have hs:=aa.refl σ;have r1:inR .i64 (a.y+a.h):=ak (by omega) (by omega);refine ad.mix 3 ?_;apply sR;simp only [go_sem,seval,KL,dd];refine ae fun i1 σ1 s1 a1 f1=>?_;have z1:=hs.none f1;replace hs:=hs.trans s1;simp only [go_sem,seval,a1,r1];exact ar.pure hs rfl
def atG (l:List Atm) (k:Int):Atm:=l.getD k.toNat ⟨0,0,0,0,0,0,0,0⟩
def gz (l:List Atm) (k:Int):Int:=if 0≤k∧k < l.length then (atG l k).y+(atG l k).h else 0
def mC (l:List Atm) (k:Int):Int:=if 0≤k∧k < l.length then (atG l k).y - gz l (k - 1) else 0
def fV (l:List Atm) (i k:Int):Int:=if (0≤i∧i < l.length)∧(0≤k∧k < l.length) then (atG l k).y - (atG l i).y else 0
theorem bn {l:List Atm} {k:Nat} (h:k < l.length):atG l k=l[k]:=by simp [atG,h]
theorem p9 {l:List Atm} (hl:kR l) (k:Int):-1152921504606846976≤gz l k∧gz l k≤2305843009213693952:=by
 unfold gz;split
 ·rename_i h;obtain ⟨n,rfl⟩:∃n:Nat,k=n:=⟨k.toNat,by omega⟩
  have hn:n < l.length:=by omega
  rw [bn hn];have:=hl.rng _ (List.getElem_mem hn);omega
 ·omega
theorem CQ (l:List Atm) (hl:kR l) (k:Int):aU prog 138 [bu l,vI k] (vI (gz l k)):=fun σ=>by
 refine Of.r (by simp [I5]) ?_;refine ad.mix 5 ?_;apply sR;simp only [go_sem,seval,I5];refine ad.ay rfl rfl rfl (vO l k _) ?_;unfold gz;by_cases h:0≤k∧k < l.length
 ·obtain ⟨n,rfl⟩:∃n:Nat,k=n:=⟨k.toNat,by omega⟩
  have hn:n < l.length:=by omega
  have hd:decide (0≤(n:Int)∧(n:Int) < l.length)=true:=by simp; omega
  have hidx:=fun σ=>gV (σ:=σ) hn;rw [hd,if_pos h,bn hn];apply sR;simp only [go_sem,seval,hidx,dd];refine ad.ay rfl rfl rfl (Dn l[n] (hl.rng _ (List.getElem_mem hn)) _) ?_;apply sR;simp only [go_sem,seval];exact ar.same rfl
 ·have hd:decide (0≤k∧k < l.length)=false:=by simpa using h
  rw [hd,if_neg h];apply sR;simp only [go_sem,seval];exact ar.same rfl
theorem K5 (l:List Atm) (hl:kR l) (k:Int):aU prog 98 [bu l,vI k] (vI (mC l k)):=fun σ=>by
 refine e98.r (by simp [c98]) ?_;refine ad.mix 5 ?_;apply sR;simp only [go_sem,seval,c98];refine ad.ay rfl rfl rfl (vO l k _) ?_;unfold mC;by_cases h:0≤k∧k < l.length
 ·obtain ⟨n,rfl⟩:∃n:Nat,k=n:=⟨k.toNat,by omega⟩
  have hn:n < l.length:=by omega
  have hd:decide (0≤(n:Int)∧(n:Int) < l.length)=true:=by simp; omega
  have hidx:=fun σ=>gV (σ:=σ) hn;have hll:=hl.len;have hy:=hl.rng _ (List.getElem_mem hn);have hbr:=p9 hl ((n:Int) - 1);have r1:inR .i64 ((n:Int) - 1):=ak (by omega) (by omega);have r2:inR .i64 (l[n].y - gz l ((n:Int) - 1)):=ak (by omega) (by omega);rw [hd,if_pos h,bn hn];apply sR;simp only [go_sem,seval,hidx,dd,r1];refine Go.cp rfl rfl rfl (CQ l hl ((n:Int) - 1)) ?_;apply sG;simp only [go_sem,seval,r2];exact ar.same rfl
 ·have hd:decide (0≤k∧k < l.length)=false:=by simpa using h
  rw [hd,if_neg h];apply sR;simp only [go_sem,seval];exact ar.same rfl
theorem Ct (l:List Atm) (hl:kR l) (i k:Int):aU prog 144 [bu l,vI i,vI k] (vI (fV l i k)):=fun σ=>by
 refine Nv.r (by simp [JJ]) ?_;refine ad.mix 8 ?_;apply sR;simp only [go_sem,seval,JJ];refine ad.ay rfl rfl rfl (vO l i _) ?_;unfold fV;by_cases h:0≤i∧i < l.length
 ·have hd:decide (0≤i∧i < l.length)=true:=by simp; omega
  rw [hd];apply sR;simp only [go_sem,seval];refine ad.ay rfl rfl rfl (vO l k _) ?_;by_cases h2:0≤k∧k < l.length
  ·obtain ⟨m,rfl⟩:∃m:Nat,i=m:=⟨i.toNat,by omega⟩
   obtain ⟨n,rfl⟩:∃n:Nat,k=n:=⟨k.toNat,by omega⟩
   have hm:m < l.length:=by omega
   have hn:n < l.length:=by omega
   have hd2:decide (0≤(n:Int)∧(n:Int) < l.length)=true:=by simp; omega
   have hidx:=fun σ=>gV (σ:=σ) hn;have hidx2:=fun σ=>gV (σ:=σ) hm;have hy:=hl.rng _ (List.getElem_mem hn);have hy2:=hl.rng _ (List.getElem_mem hm);have r1:inR .i64 (l[n].y - l[m].y):=ak (by omega) (by omega);rw [hd2,if_pos ⟨h,h2⟩,bn hn,bn hm];apply sR;simp only [go_sem,seval,hidx,hidx2,dd,r1];exact ar.same rfl
  ·have hd2:decide (0≤k∧k < l.length)=false:=by simpa using h2
   rw [hd2,if_neg (fun h=>h2 h.2)];apply sR;simp only [go_sem,seval];exact ar.same rfl
 ·have hd:decide (0≤i∧i < l.length)=false:=by simpa using h
  rw [hd,if_neg (fun h'=>h h'.1)];apply sR;simp only [go_sem,seval];exact ar.same rfl
open Go.Proofs Go.Proofs.Tryz
def eW (b:List Brk) (i fit:Int):Prop:=ub b=true∧0≤i∧i < (b.length:Int) - 1∧i < fit
instance (b:List Brk) (i fit:Int):Decidable (eW b i fit):=by unfold eW; infer_instance
def uh (b:List Brk) (i fit:Int):Int:=if kF b (i+1) fit < 0 then DX b (i+1) fit else kF b (i+1) fit
theorem KO (b:List Brk) (hb:b.length≤1000000) (i fit:Int):aU prog 69 [bF b,vI i,vI fit] (.tup [vI (if eW b i fit then uh b i fit else 0), .bool (decide (eW b i fit))]):=fun σ=>by
 refine e69.r (by simp [c69]) ?_;have hlb:=As b;have r0:inR .i64 ((b.length:Int) - 1):=ak (by omega) (by omega);refine ad.mix 8 ?_;apply sR;simp only [go_sem,seval,c69];refine ad.ay rfl rfl rfl (JB b hb _) ?_;have bad:¬eW b i fit→ar (.tup [vI 0, .bool false]) σ fun r σ'=>r=.tup [vI (if eW b i fit then uh b i fit else 0), .bool (decide (eW b i fit))]∧σ'=σ:=fun h=>ar.same (by rw [if_neg h,decide_eq_false h]);generalize hX:(V.tup [vI (if eW b i fit then uh b i fit else 0), .bool (decide (eW b i fit))])=X at *;cases hm:ub b
 ·have fin:=bad (fun h=>by rw [h.1] at hm; cases hm);apply sR;simp only [go_sem,seval];exact fin
 by_cases h0:i < 0
 ·have q0:(i < 0)=True:=eq_true h0;have fin:=bad (fun h=>by have:=h.2.1; omega);apply sR;simp only [go_sem,seval,q0];exact fin
 have q0:(i < 0)=False:=eq_false h0;by_cases h1:i≥(b.length:Int) - 1
 ·have q1:(i≥(b.length:Int) - 1)=True:=eq_true h1;have fin:=bad (fun h=>by have:=h.2.2.1; omega);apply sR;simp only [go_sem,seval,q0,hlb,r0,q1];exact fin
 have q1:(i≥(b.length:Int) - 1)=False:=eq_false h1;by_cases h2:fit≤i
 ·have q2:(fit≤i)=True:=eq_true h2;have fin:=bad (fun h=>by have:=h.2.2.2; omega);apply sR;simp only [go_sem,seval,q0,hlb,r0,q1,q2];exact fin
 have q2:(fit≤i)=False:=eq_false h2;clear bad;have hok:eW b i fit:=⟨hm,by omega,by omega,by omega⟩
 have r1:inR .i64 (i+1):=ak (by omega) (by omega);rw [if_pos hok,decide_eq_true hok] at hX;subst hX;apply sR;simp only [go_sem,seval,q0,hlb,r0,q1,q2,r1];refine ad.ay rfl rfl rfl (HB b hb (i+1) fit _) ?_;unfold uh;by_cases h3:kF b (i+1) fit < 0
 ·have q3:(kF b (i+1) fit < 0)=True:=eq_true h3;rw [if_pos h3];apply sR;simp only [go_sem,seval,q3,r1];refine ad.ay rfl rfl rfl (KN b hb (i+1) fit _) ?_;apply sR;simp only [go_sem,seval];exact ar.same rfl
 ·have q3:(kF b (i+1) fit < 0)=False:=eq_false h3;rw [if_neg h3];apply sR;simp only [go_sem,seval,q3];exact ar.same rfl
open Go.Proofs Go.Proofs.Tryz
structure Stt where
 (atom done:Int)
 free:Bool
def br (s:Stt):V:=.agg [vI s.atom,vI s.done, .bool s.free]
def se (s:Stt) (l:List Atm):V:=.agg [vI s.atom,vI s.done, .bool s.free,bu l]
def dt (l:List Atm) (s:Stt):Prop:=(0≤s.atom∧s.atom < l.length)∧0≤s.done∧(s.done=0∨s.done < (atG l s.atom).h)
instance (l:List Atm) (s:Stt):Decidable (dt l s):=by unfold dt; infer_instance
theorem AA (l:List Atm) (s:Stt):aU prog 66 [se s l] (.bool (decide (dt l s))):=fun σ=>by
 refine e66.r (by simp [c66]) ?_;have hs:=aa.refl σ;have hl:=iB l;obtain ⟨a,d,fr⟩:=s;refine ad.mix 3 ?_;apply sR;simp only [go_sem,seval,c66,se,av,ax];refine ae fun i1 σ1 s1 a1 f1=>?_;have z1:=hs.none f1;replace hs:=hs.trans s1;by_cases h0:a≥0
 ·have q0:(a≥0)=True:=eq_true h0;by_cases h1:a < l.length
  ·have q1:(a < l.length)=True:=eq_true h1;obtain ⟨n,rfl⟩:∃n:Nat,a=n:=⟨a.toNat,by omega⟩
   have hn:n < l.length:=by omega
   have hidx:=fun σ=>gV (σ:=σ) hn;have hg:=bn hn;by_cases h2:d≥0
   ·have q2:(d≥0)=True:=eq_true h2;by_cases h3:d=0
    ·have q3:(d=0)=True:=eq_true h3;simp only [go_sem,seval,a1,q0,q1,q2,q3,hl,av,ax];have hh:dt l ⟨n,d,fr⟩:=⟨⟨h0,h1⟩,h2, .inl h3⟩
     exact ar.pure hs (by rw [decide_eq_true hh])
    ·have q3:(d=0)=False:=eq_false h3;by_cases h4:d < l[n].h
     ·have q4:(d < l[n].h)=True:=eq_true h4;simp only [go_sem,seval,a1,q0,q1,q2,q3,q4,hl,hidx,dd,av,ax];have hh:dt l ⟨n,d,fr⟩:=⟨⟨h0,h1⟩,h2, .inr (by rw [hg]; exact h4)⟩
      exact ar.pure hs (by rw [decide_eq_true hh])
     ·have q4:(d < l[n].h)=False:=eq_false h4;simp only [go_sem,seval,a1,q0,q1,q2,q3,q4,hl,hidx,dd,av,ax];exact ar.pure hs (by rw [decide_eq_false (fun h:dt l ⟨n,d,fr⟩=>by rcases h.2.2 with h | h; exact h3 h; rw [hg] at h; exact h4 h)])
   ·have q2:(d≥0)=False:=eq_false h2;simp only [go_sem,seval,a1,q0,q1,q2,hl,av,ax];exact ar.pure hs (by rw [decide_eq_false (fun h:dt l ⟨n,d,fr⟩=>h2 h.2.1)])
  ·have q1:(a < l.length)=False:=eq_false h1;simp only [go_sem,seval,a1,q0,q1,hl,av,ax];exact ar.pure hs (by rw [decide_eq_false (fun h:dt l ⟨a,d,fr⟩=>h1 h.1.2)])
 ·have q0:(a≥0)=False:=eq_false h0;simp only [go_sem,seval,a1,q0,hl,av,ax];exact ar.pure hs (by rw [decide_eq_false (fun h:dt l ⟨a,d,fr⟩=>h0 h.1.1)])
theorem pD (l:List Atm) (s:Stt):aU prog 64 [bu l,br s] (.bool (decide (dt l s))):=fun σ=>by
 refine e64.r (by simp [c64]) ?_;have hs:=aa.refl σ;have hc:=AA l s;obtain ⟨a,d,fr⟩:=s;rw [se] at hc;refine ad.mix 5 ?_;apply sR;simp only [go_sem,seval,c64,br,av,ax];refine ae fun i3 σ3 s3 a3 f3=>?_;have z3:=hs.none f3;replace hs:=hs.trans s3;simp only [go_sem,seval,a3,av,ax];refine ad.ay rfl rfl rfl (hc _) ?_;apply sR;simp only [go_sem,seval];exact ar.pure hs rfl
theorem Bi (l:List Atm) (hl:kR l) (s:Stt) (h:dt l s) (hd:s.done≤1152921504606846976):aU prog 67 [se s l] (vI ((atG l s.atom).h - s.done)):=fun σ=>by
 refine e67.r (by simp [c67]) ?_;have hs:=aa.refl σ;obtain ⟨a,d,fr⟩:=s;obtain ⟨⟨h0,h1⟩,h2,h3⟩:=h;simp only at h0 h1 h2 h3 hd ⊢;obtain ⟨n,rfl⟩:∃n:Nat,a=n:=⟨a.toNat,by omega⟩
 have hn:n < l.length:=by omega
 have hidx:=fun σ=>gV (σ:=σ) hn;have hy:=hl.rng _ (List.getElem_mem hn);rw [bn hn];have r1:inR .i64 (l[n].h - d):=ak (by omega) (by omega);refine ad.mix 3 ?_;apply sR;simp only [go_sem,seval,c67,se,av,ax];refine ae fun i1 σ1 s1 a1 f1=>?_;have z1:=hs.none f1;replace hs:=hs.trans s1;simp only [go_sem,seval,a1,hidx,r1,dd,av,ax];exact ar.pure hs rfl
def nV (l:List Atm) (s:Stt) (area:Int):Int:=if dt l s∧s.free=true∧s.done=0∧mC l s.atom+((atG l s.atom).h - s.done)≤area then mC l s.atom else 0
theorem DM {l:List Atm} (hl:kR l) (k:Int):-3458764513820540928≤mC l k∧mC l k≤2305843009213693952:=by
 unfold mC;have hb:=p9 hl (k - 1);split
 ·rename_i h;obtain ⟨n,rfl⟩:∃n:Nat,k=n:=⟨k.toNat,by omega⟩
  have hn:n < l.length:=by omega
  rw [bn hn];have:=hl.rng _ (List.getElem_mem hn);omega
 ·omega
theorem Hy (l:List Atm) (hl:kR l) (s:Stt) (area:Int):aU prog 68 [bu l,br s,vI area] (vI (nV l s area)):=fun σ=>by
 refine e68.r (by simp [c68]) ?_;have hs:=aa.refl σ;have hc:=AA l s;have hlf:=fun h hd=>Bi l hl s h hd;have hgr:=DM hl s.atom;obtain ⟨a,d,fr⟩:=s;rw [se] at hc hlf;simp only at hgr hlf;refine ad.mix 9 ?_;apply sR;simp only [go_sem,seval,c68,br,av,ax];refine ae fun i4 σ4 s4 a4 f4=>?_;have z4:=hs.none f4;replace hs:=hs.trans s4;simp only [go_sem,seval,a4,av,ax];refine ae fun i7 σ7 s7 a7 f7=>?_;have n47:=ao a4 f7;replace a4:=s7 _ _ a4;have z7:=hs.none f7;replace hs:=hs.trans s7;simp only [go_sem,seval,a7,a4,av,ax];refine ad.ay rfl rfl rfl (hc _) ?_;have bad:¬(dt l ⟨a,d,fr⟩∧fr=true∧d=0∧mC l a+((atG l a).h - d)≤area)→nV l ⟨a,d,fr⟩ area=0:=fun h=>if_neg h;by_cases hm:dt l ⟨a,d,fr⟩
 ·rw [decide_eq_true hm];cases fr
  ·apply sR;simp only [go_sem,seval,a7,av,ax];exact ar.pure (hs.aB z7) (by rw [bad (fun h=>by cases h.2.1)])
  have hd0:=hm.2.1;simp only at hd0;by_cases hd:d > 0
  ·have q:(d > 0)=True:=eq_true hd;apply sR;simp only [go_sem,seval,a7,q,av,ax];exact ar.pure (hs.aB z7) (by rw [bad (fun h=>by have:=h.2.2.1; omega)])
  ·have q:(d > 0)=False:=eq_false hd;obtain rfl:d=0:=by omega
   apply sR;simp only [go_sem,seval,a7,q,av,ax];refine ad.ay rfl rfl rfl (K5 l hl a _) ?_;have hlf':=hlf hm (by omega);have hy:0≤(atG l a).h∧(atG l a).h≤1152921504606846976:=by
    obtain ⟨h0,h1⟩:=hm.1;simp only at h0 h1;obtain ⟨n,rfl⟩:∃n:Nat,a=n:=⟨a.toNat,by omega⟩
    have hn:n < l.length:=by omega
    rw [bn hn];exact (hl.rng _ (List.getElem_mem hn)).2.2
   have r1:inR .i64 (mC l a+((atG l a).h - 0)):=ak (by omega) (by omega);apply sR;simp only [go_sem,seval,a7,ag,av,ax];refine ad.ay rfl rfl rfl (hlf' _) ?_;by_cases h4:mC l a+((atG l a).h - 0)≤area
   ·have q4:(mC l a+((atG l a).h - 0)≤area)=True:=eq_true h4;have hk:nV l ⟨a,0,true⟩ area=mC l a:=if_pos ⟨hm,rfl,rfl,h4⟩;rw [hk];apply sR;simp only [go_sem,seval,r1,q4];exact ar.pure (hs.aB z7) rfl
   ·have q4:(mC l a+((atG l a).h - 0)≤area)=False:=eq_false h4;rw [bad (fun h=>h4 h.2.2.2)];apply sR;simp only [go_sem,seval,r1,q4];exact ar.pure (hs.aB z7) rfl
 ·rw [decide_eq_false hm];apply sR;simp only [go_sem,seval,a7,av,ax];exact ar.pure (hs.aB z7) (by rw [bad (fun h=>hm h.1)])
open Go.Proofs Go.Proofs.Tryz
def ia (l:List Atm) (s:Stt):Int:=if dt l s then (atG l s.atom).h - s.done else 0
theorem GQ (l:List Atm) (hl:kR l) (s:Stt) (hd:s.done≤1152921504606846976):aU prog 44 [bu l,br s] (vI (ia l s)):=fun σ=>by
 refine e44.r (by simp [c44]) ?_;have hs:=aa.refl σ;have hc:=AA l s;have hlf:=fun h=>Bi l hl s h hd;unfold ia;obtain ⟨a,d,fr⟩:=s;rw [se] at hc hlf;refine ad.mix 6 ?_;apply sR;simp only [go_sem,seval,c44,br,av,ax];refine ae fun i3 σ3 s3 a3 f3=>?_;have z3:=hs.none f3;replace hs:=hs.trans s3;simp only [go_sem,seval,a3,av,ax];refine ae fun i5 σ5 s5 a5 f5=>?_;have n35:=ao a3 f5;replace a3:=s5 _ _ a3;have z5:=hs.none f5;replace hs:=hs.trans s5;simp only [go_sem,seval,a5,a3,av,ax];refine ad.ay rfl rfl rfl (hc _) ?_;by_cases hm:dt l ⟨a,d,fr⟩
 ·rw [decide_eq_true hm,if_pos hm];apply sR;simp only [go_sem,seval,a5,av,ax];refine ad.ay rfl rfl rfl (hlf hm _) ?_;apply sR;simp only [go_sem,seval];exact ar.pure (hs.aB z5) rfl
 ·rw [decide_eq_false hm,if_neg hm];apply sR;simp only [go_sem,seval];exact ar.pure (hs.aB z5) rfl
def dy (l:List Atm) (s:Stt) (kept shift k:Int):Int:=if dt l s∧s.atom≤k∧k < l.length then fV l s.atom k - s.done+kept+shift else 0
theorem pM {l:List Atm} (hl:kR l) (i k:Int):-2305843009213693952≤fV l i k∧fV l i k≤2305843009213693952:=by
 unfold fV;split
 ·rename_i h;obtain ⟨n,rfl⟩:∃n:Nat,k=n:=⟨k.toNat,by omega⟩
  obtain ⟨m,rfl⟩:∃m:Nat,i=m:=⟨i.toNat,by omega⟩
  have hn:n < l.length:=by omega
  have hm:m < l.length:=by omega
  rw [bn hn,bn hm];have h1:=hl.rng _ (List.getElem_mem hn);have h2:=hl.rng _ (List.getElem_mem hm);omega
 ·omega
theorem zm (l:List Atm) (hl:kR l) (s:Stt) (hd:s.done≤1152921504606846976) (kept shift k:Int) (hk:-1152921504606846976≤kept∧kept≤2305843009213693952) (hsh:0≤shift∧shift≤1152921504606846976) :
 aU prog 104 [bu l,br s,vI kept,vI shift,vI k] (vI (dy l s kept shift k)):=fun σ=>by
 refine N2.r (by simp [Jc]) ?_;have hs:=aa.refl σ;have hc:=pD l s;have hor:=pM hl s.atom k;have hlen:=iB l;have bad:¬(dt l s∧s.atom≤k∧k < l.length)→dy l s kept shift k=0:=fun h=>if_neg h;have good:(dt l s∧s.atom≤k∧k < l.length)→dy l s kept shift k=fV l s.atom k - s.done+kept+shift:=fun h=>if_pos h;generalize dy l s kept shift k=P at *;obtain ⟨a,d,fr⟩:=s;rw [br] at hc;simp only at hor hd good bad;refine ad.mix 11 ?_;apply sR;simp only [go_sem,seval,Jc,br,av,ax];refine ae fun i6 σ6 s6 a6 f6=>?_;have z6:=hs.none f6;replace hs:=hs.trans s6;simp only [go_sem,seval,a6,av,ax];refine ad.ay rfl rfl rfl (hc _) ?_;by_cases hm:dt l ⟨a,d,fr⟩
 ·rw [decide_eq_true hm];by_cases h1:k < a
  ·have q1:(k < a)=True:=eq_true h1;apply sR;simp only [go_sem,seval,a6,q1,av,ax];exact ar.pure hs (by rw [bad (fun h=>by omega)])
  have q1:(k < a)=False:=eq_false h1;by_cases h2:k≥l.length
  ·have q2:(k≥l.length)=True:=eq_true h2;apply sR;simp only [go_sem,seval,a6,q1,q2,hlen,av,ax];exact ar.pure hs (by rw [bad (fun h=>by omega)])
  have q2:(k≥l.length)=False:=eq_false h2;rw [good ⟨hm,by omega,by omega⟩];have hd0:=hm.2.1;simp only at hd0;have r1:inR .i64 (fV l a k - d):=ak (by omega) (by omega);have r2:inR .i64 (fV l a k - d+kept):=ak (by omega) (by omega);have r3:inR .i64 (fV l a k - d+kept+shift):=ak (by omega) (by omega);apply sR;simp only [go_sem,seval,a6,q1,q2,hlen,av,ax];refine Go.cp rfl rfl rfl (Ct l hl a k) ?_;apply sG;simp only [go_sem,seval,a6,r1,r2,r3];exact ar.pure hs rfl
 ·rw [decide_eq_false hm];apply sR;simp only [go_sem,seval,a6,av,ax];exact ar.pure hs (by rw [bad (fun h=>hm h.1)])
open Go.Proofs Go.Proofs.Tryz
theorem H9 {m:Int} (h1:0≤m) (h2:m≤18446744073709551615):inR .u64 m:=by
 unfold inR IntKind.wrap;simp only [IntKind.signed,IntKind.bits];simp;omega
def jU (p:Nat→Bool):Nat→Nat→Nat→Nat
 | 0,i,_=>i
 | f+1,i,j=>if i < j then if p ((i+j) / 2) then jU p f i ((i+j) / 2) else jU p f ((i+j) / 2+1) j else i
def Ap (p:Nat→Bool) (n:Nat):Nat:=jU p n 0 n
theorem mc (p:Nat→Bool):∀(f g i j:Nat),j - i≤f→j - i≤g→jU p f i j=jU p g i j
 | 0,0,_,_,_,_=>rfl
 | 0,g+1,i,j,h,_=>by rw [jU,jU,if_neg (by omega)]
 | f+1,0,i,j,_,h=>by rw [jU,jU,if_neg (by omega)]
 | f+1,g+1,i,j,h1,h2=>by
   rw [jU,jU];split
   ·rename_i hlt;split
    ·exact mc p f g i ((i+j) / 2) (by omega) (by omega)
    ·exact mc p f g ((i+j) / 2+1) j (by omega) (by omega)
   ·rfl
theorem EJ {f:FuncId} {caps:List V} (p:Nat→Bool) (n:Nat) (hn:n≤1000000000) {σ:af} (hf:∀i:Nat,i < n→az prog f (vI i::caps) σ fun r σ'=>r=.bool (p i)∧σ'=σ) :
 az prog 102 [vI n, .fn f caps] σ fun r σ'=>r=vI (Ap p n)∧σ'=σ:=by
 refine Oa.r (by simp [JZ]) ?_;refine ad.mix 8 ?_;apply sR;simp only [go_sem,seval,JZ];refine ad.loop (fun m st=>∃i j:Nat,i≤j∧j≤n∧m=j - i∧Ap p n=jU p (j - i) i j∧st.σ=σ∧st.s 1=.fn f caps∧st.s 5=vI i∧st.s 6=vI j) n ?_ ?_
 ·exact ⟨0,n,by omega,by omega,rfl,rfl,rfl,rfl,rfl,rfl⟩
 ·rintro m ⟨S,τ⟩ ⟨i,j,hij,hjn,rfl,heq,hσ,t1,t5,t6⟩;simp only at hσ t1 t5 t6;subst hσ;refine ad.mix 8 ?_;by_cases hlt:i < j
  ·have q:((i:Int) < j)=True:=eq_true (by omega);have r1:inR .i64 ((i:Int)+j):=ak (by omega) (by omega);apply sR;simp only [go_sem,seval,t1,t5,t6,q,r1];have hh:((i:Int)+j).fdiv (2 ^ min 1 64)=(((i+j) / 2:Nat):Int):=by
    rw [show (2 ^ min 1 64:Int)=2 from rfl,Int.fdiv_eq_ediv_of_nonneg _ (by decide)];omega
   rw [hh];refine ⟨H9 (by omega) (by omega),ak (by omega) (by omega),?_⟩;obtain ⟨k,hk⟩:∃k:Nat,k=(i+j) / 2:=⟨_,rfl⟩
   rw [←hk];obtain ⟨w,hw⟩:∃w:Nat,j - i=w+1:=⟨j - i - 1,by omega⟩
   rw [hw,jU,if_pos hlt,←hk] at heq;refine ad.ay rfl rfl rfl (hf k (by omega)) ?_;have r2:inR .i64 ((k:Int)+1):=ak (by omega) (by omega);cases hp:p k
   ·rw [hp] at heq;apply sR;simp only [go_sem,seval,t1,t5,t6,r2];refine ⟨_,?_,k+1,j,by omega,hjn,rfl,?_,by simp [t1,t6]⟩
    ·omega
    ·rw [heq]; exact mc p _ _ _ _ (by omega) (by omega)
   ·rw [hp] at heq;apply sR;simp only [go_sem,seval,t1,t5,t6];refine ⟨_,?_,i,k,by omega,by omega,rfl,?_,by simp [t1,t5]⟩
    ·omega
    ·rw [heq]; exact mc p _ _ _ _ (by omega) (by omega)
  ·have q:((i:Int) < j)=False:=eq_false (by omega);have hie:i=j:=by omega
   subst hie;apply sR;simp only [go_sem,seval,t1,t5,t6,q];refine ar.same ?_;rw [heq,Nat.sub_self]; rfl
open Go.Proofs Go.Proofs.Tryz
def eV (l:List Atm) (s:Stt) (kept shift body:Int) (n:Nat):Bool:=decide (dy l s kept shift (s.atom+n)+(atG l (s.atom+n)).h > body)
def ld (l:List Atm) (s:Stt) (kept shift body:Int):Int:=if dt l s then s.atom+Ap (eV l s kept shift body) (l.length - s.atom.toNat) else 0
theorem vY (p:Nat→Bool):∀(f i j:Nat),i≤j→jU p f i j≤j
 | 0,i,j,h=>h
 | f+1,i,j,h=>by
   rw [jU];split
   ·split
    ·exact Nat.le_trans (vY p f _ _ (by omega)) (by omega)
    ·exact vY p f _ _ (by omega)
   ·exact h
theorem BP (p:Nat→Bool) (n:Nat):Ap p n≤n:=vY p n 0 n (Nat.zero_le n)
theorem nb {l:List Atm} (hl:kR l) {s:Stt} (hd:s.done≤1152921504606846976) {kept shift:Int} (hk:-1152921504606846976≤kept∧kept≤2305843009213693952) (hsh:0≤shift∧shift≤1152921504606846976) (k:Int) :
 -4611686018427387904≤dy l s kept shift k∧dy l s kept shift k≤5764607523034234880:=by
 unfold dy;have h1:=pM hl s.atom k;split
 ·rename_i h;have:=h.1.2.1;omega
 ·omega
theorem D7 (l:List Atm) (hl:kR l) (s:Stt) (hm:dt l s) (hd:s.done≤1152921504606846976) (kept shift body:Int) (hk:-1152921504606846976≤kept∧kept≤2305843009213693952) (hsh:0≤shift∧shift≤1152921504606846976)
 {σ:af} {i5 i6 i7 i8 i9:Nat} (a5:σ i5=some ⟨34,1,[bu l]⟩) (a6:σ i6=some ⟨24,3,[br s]⟩) (a7:σ i7=some ⟨3,1,[vI kept]⟩) (a8:σ i8=some ⟨3,1,[vI shift]⟩) (a9:σ i9=some ⟨3,1,[vI body]⟩)
 (n:Nat) (hn:n < l.length - s.atom.toNat) :
 az prog 103 [vI n, .ptr i6 0 0, .ptr i5 0 0, .ptr i7 0 0, .ptr i8 0 0, .ptr i9 0 0] σ fun r σ'=>r=.bool (eV l s kept shift body n)∧σ'=σ:=by
 refine OM.r (by simp [HA]) ?_;have hpr:=nb hl hd hk hsh (s.atom+n);have hpc:=zm l hl s hd kept shift (s.atom+n) hk hsh;unfold eV;have hll:=hl.len;obtain ⟨a,d,fr⟩:=s;obtain ⟨h0,h1⟩:=hm.1;rw [br] at a6 hpc;simp only at h0 h1 hn hpr hpc ⊢;obtain ⟨m,rfl⟩:∃m:Nat,a=m:=⟨a.toNat,by omega⟩
 have e1:(m:Int)+(n:Int)=((m+n:Nat):Int):=by omega
 rw [e1] at hpr hpc ⊢;have hmn:m+n < l.length:=by omega
 have hidx:=fun σ=>gV (σ:=σ) hmn;have hy:=hl.rng _ (List.getElem_mem hmn);rw [bn hmn];have r1:inR .i64 ((m+n:Nat):Int):=ak (by omega) (by omega);generalize dy l ⟨m,d,fr⟩ kept shift ((m+n:Nat):Int)=P at *;have r2:inR .i64 (P+l[m+n].h):=ak (by omega) (by omega);generalize m+n=q at *;refine ad.mix 9 ?_;by_cases hb:P+l[q].h > body
 ·have q1:(P+l[q].h > body)=True:=eq_true hb;apply sR;simp only [go_sem,seval,HA,a5,a6,a7,a8,a9,e1,r1,av,ax];refine Go.cp rfl rfl rfl hpc ?_;apply sG;simp only [go_sem,seval,a5,a6,a7,a8,a9,r2,hidx,dd,q1,av,ax];exact ar.same rfl
 ·have q1:(P+l[q].h > body)=False:=eq_false hb;apply sR;simp only [go_sem,seval,HA,a5,a6,a7,a8,a9,e1,r1,av,ax];refine Go.cp rfl rfl rfl hpc ?_;apply sG;simp only [go_sem,seval,a5,a6,a7,a8,a9,r2,hidx,dd,q1,av,ax];exact ar.same rfl
theorem FG (l:List Atm) (hl:kR l) (s:Stt) (hd:s.done≤1152921504606846976) (kept shift body:Int) (hk:-1152921504606846976≤kept∧kept≤2305843009213693952) (hsh:0≤shift∧shift≤1152921504606846976) :
 aU prog 70 [bu l,br s,vI kept,vI shift,vI body] (vI (ld l s kept shift body)):=fun σ=>by
 refine e70.r (by simp [c70]) ?_;have hs:=aa.refl σ;have hc:=pD l s;have hlen:=iB l;have hll:=hl.len;refine ad.mix 12 ?_;have hsc:(br s).cells=[vI s.atom,vI s.done, .bool s.free]:=rfl;have hss:(br s).stays=true:=rfl;apply sR;simp only [go_sem,seval,c70,hsc,hss,av,ax];refine ae fun i5 σ5 s5 a5 f5=>?_;have z5:=hs.none f5;replace hs:=hs.trans s5;simp only [go_sem,seval,hsc,hss,av,ax];refine ae fun i6 σ6 s6 a6 f6=>?_;have n56:=ao a5 f6;replace a5:=s6 _ _ a5;have z6:=hs.none f6;replace hs:=hs.trans s6;simp only [go_sem,seval,hsc,hss,av,ax];refine ae fun i7 σ7 s7 a7 f7=>?_;have n57:=ao a5 f7;replace a5:=s7 _ _ a5;have n67:=ao a6 f7;replace a6:=s7 _ _ a6;have z7:=hs.none f7;replace hs:=hs.trans s7;simp only [go_sem,seval,hsc,hss,av,ax];refine ae fun i8 σ8 s8 a8 f8=>?_;have n58:=ao a5 f8;replace a5:=s8 _ _ a5;have n68:=ao a6 f8;replace a6:=s8 _ _ a6;have n78:=ao a7 f8;replace a7:=s8 _ _ a7;have z8:=hs.none f8;replace hs:=hs.trans s8;simp only [go_sem,seval,hsc,hss,av,ax];refine ae fun i9 σ9 s9 a9 f9=>?_;have n59:=ao a5 f9;replace a5:=s9 _ _ a5;have n69:=ao a6 f9;replace a6:=s9 _ _ a6;have n79:=ao a7 f9;replace a7:=s9 _ _ a7;have n89:=ao a8 f9;replace a8:=s9 _ _ a8;have z9:=hs.none f9;replace hs:=hs.trans s9;have b6:=a6;rw [br] at b6;simp only [go_sem,seval,a5,b6,av,ax];refine ad.ay rfl rfl rfl (hc _) ?_;unfold ld;by_cases hm:dt l s
 ·obtain ⟨h0,h1⟩:=hm.1;obtain ⟨m,hmm⟩:∃m:Nat,s.atom=m:=⟨s.atom.toNat,by omega⟩
  have hn:((l.length:Int) - s.atom)=((l.length - s.atom.toNat:Nat):Int):=by omega
  have r1:inR .i64 ((l.length - s.atom.toNat:Nat):Int):=ak (by omega) (by omega);rw [decide_eq_true hm,if_pos hm];apply sR;simp only [go_sem,seval,a5,b6,hlen,hn,r1,av,ax];refine ad.ay rfl rfl rfl (EJ (eV l s kept shift body) (l.length - s.atom.toNat) (by omega) (fun i hi=>D7 l hl s hm hd kept shift body hk hsh a5 a6 a7 a8 a9 i hi)) ?_;have hse:=BP (eV l s kept shift body) (l.length - s.atom.toNat);have r2:inR .i64 (s.atom+(Ap (eV l s kept shift body) (l.length - s.atom.toNat):Nat)):=ak (by omega) (by omega);apply sR;simp only [go_sem,seval,b6,r2];exact ar.pure hs rfl
 ·rw [decide_eq_false hm,if_neg hm];apply sR;simp only [go_sem,seval];exact ar.pure hs rfl
open Go.Proofs Go.Proofs.Tryz
structure Frg where
 (node atom fr x y w h:Int)
deriving DecidableEq
def aW (f:Frg):V:=.agg [vI f.node,vI f.atom,vI f.fr,vI f.x,vI f.y,vI f.w,vI f.h]
def fj (l:List Atm) (k:Int):Frg:=⟨(atG l k).node,k,0,(atG l k).x,0,(atG l k).w,(atG l k).h⟩
def Frg.bM (f:Frg) (d:Int):Frg:={ f with fr:=d,h:=f.h - d }
def Frg.cut (f:Frg) (a:Int):Frg:={ f with h:=min f.h a }
def iN (l:List Atm) (f:Frg):Stt:=if f.fr+f.h < (atG l f.atom).h then ⟨f.atom,f.fr+f.h,false⟩ else ⟨f.atom+1,0,false⟩
theorem D9 (l:List Atm) (k:Nat) (hk:k < l.length):aU prog 145 [bu l,vI k] (aW (fj l k)):=fun σ=>by
 refine Nl.r (by simp [KF]) ?_;have hs:=aa.refl σ;have hidx:=fun σ=>gV (σ:=σ) hk;rw [fj,bn hk];refine ad.mix 6 ?_;apply sR;simp only [go_sem,seval,KF];refine ae fun i4 σ4 s4 a4 f4=>?_;have z4:=hs.none f4;replace hs:=hs.trans s4;simp only [go_sem,seval,hidx,dd,av,ax];refine ae fun i5 σ5 s5 a5 f5=>?_;have n45:=ao a4 f5;replace a4:=s5 _ _ a4;have z5:=hs.none f5;replace hs:=hs.trans s5;simp only [go_sem,seval,a5,a4,ab n45,av,ax];exact ar.pure ((hs.aB z5).aB z4) rfl
theorem zI (f:Frg) (d:Int) (hr:inR .i64 (f.h - d)) {σ:af} {i:Nat} (h:σ i=some ⟨252,7,[aW f]⟩) :
 az prog 146 [.ptr i 0 0,vI d] σ fun _ σ'=>σ'=upd σ i ⟨252,7,[aW (f.bM d)]⟩:=by
 refine OH.r (by simp [Ld]) ?_;rw [aW] at h;refine ad.mix 4 ?_;generalize hX:(upd σ i ⟨252,7,[aW (f.bM d)]⟩)=X;apply sR;simp only [go_sem,seval,Ld,h,hr];exact ⟨_,_,aa.refl _,Wk.refl (aa.refl _) _,hX⟩
theorem HC (f:Frg) (a:Int) {σ:af} {i:Nat} (h:σ i=some ⟨252,7,[aW f]⟩) :
 az prog 147 [.ptr i 0 0,vI a] σ fun _ σ'=>σ'=upd σ i ⟨252,7,[aW (f.cut a)]⟩:=by
 refine MQ.r (by simp [Lw]) ?_;rw [aW] at h;refine ad.mix 4 ?_;generalize hX:(upd σ i ⟨252,7,[aW (f.cut a)]⟩)=X;apply sR;simp only [go_sem,seval,Lw,h,eI];exact ⟨_,_,aa.refl _,Wk.refl (aa.refl _) _,hX⟩
theorem Ao (l:List Atm) (f:Frg) (k:Nat) (hf:f.atom=k) (hk:k < l.length) (hl:l.length≤1000000000) (hr:inR .i64 (f.fr+f.h)) {σ:af} {i:Nat} (h:σ i=some ⟨252,7,[aW f]⟩) :
 az prog 148 [.ptr i 0 0,bu l] σ fun r σ'=>r=br (iN l f)∧σ'=σ:=by
 refine No.r (by simp [Kt]) ?_;have hs:=aa.refl σ;have hidx:=fun σ=>gV (σ:=σ) hk;obtain ⟨nd,at',fr,x,y,w,hh⟩:=f;simp only at hf hr;subst hf;rw [aW] at h;unfold iN;simp only;rw [bn hk];have r1:inR .i64 ((k:Int)+1):=ak (by omega) (by omega);refine ad.mix 6 ?_;apply sR;simp only [go_sem,seval,Kt];refine ae fun i4 σ4 s4 a4 f4=>?_;have z4:=hs.none f4;replace hs:=hs.trans s4;have b:=s4 _ _ h;have n4:i≠i4:=ao h f4;by_cases hc:fr+hh < l[k].h
 ·have q:(fr+hh < l[k].h)=True:=eq_true hc;rw [if_pos hc];simp only [go_sem,seval,a4,b,hr,r1,q,hidx,dd];exact ar.pure (hs.aB z4) rfl
 ·have q:(fr+hh < l[k].h)=False:=eq_false hc;rw [if_neg hc];simp only [go_sem,seval,a4,b,hr,r1,q,hidx,dd];exact ar.pure (hs.aB z4) rfl
open Go.Proofs Go.Proofs.Tryz
theorem jN {s:Nat→V} {σ:af} {a1 a2:Bool} {n1 n2 d e:Nat} {Post:V→af→Prop} :
 Ret [.cell a1 n1 (.t d), .cell a2 n2 (.t e)] ⟨s,σ⟩ Post=dz (bN σ a1 n1 (s d)) fun v=>dz (bN σ a2 n2 (s e)) fun w=>ar (.tup [v,w]) σ Post:=by
 unfold Ret ar mD;simp only [et,fY,VX.ev];cases bN σ a1 n1 (s d) <;> cases bN σ a2 n2 (s e) <;> simp [dz]
def eR (l:List Atm) (s:Stt) (area:Int):Frg:=((fj l s.atom).bM s.done).cut area
def nI (l:List Atm) (s:Stt) (area:Int):Prop:=dt l s∧1≤area
instance (l:List Atm) (s:Stt) (area:Int):Decidable (nI l s area):=by unfold nI; infer_instance
def jd (l:List Atm) (s:Stt) (area:Int):Frg:=if nI l s area then eR l s area else ⟨0,0,0,0,0,0,0⟩
def dY (l:List Atm) (s:Stt) (area:Int):Stt:=if nI l s area then iN l (eR l s area) else ⟨0,0,false⟩
theorem J4 (l:List Atm) (hl:kR l) (s:Stt) (hd:s.done≤1152921504606846976) (area:Int):aU prog 105 [bu l,br s,vI area] (.tup [aW (jd l s area),br (dY l s area)]):=fun σ=>by
 refine N8.r (by simp [Jk]) ?_;have hs:=aa.refl σ;have hll:=hl.len;have hsc:(br s).cells=[vI s.atom,vI s.done, .bool s.free]:=rfl;have hss:(br s).stays=true:=rfl;refine ad.mix 9 ?_;apply sR;simp only [go_sem,seval,Jk,hsc,hss,av,ax];refine ae fun i4 σ4 s4 a4 f4=>?_;have z4:=hs.none f4;replace hs:=hs.trans s4;simp only [go_sem,seval];refine ae fun i6 σ6 s6 a6 f6=>?_;have n46:=ao a4 f6;replace a4:=s6 _ _ a4;have z6:=hs.none f6;replace hs:=hs.trans s6;simp only [go_sem,seval];refine ae fun i7 σ7 s7 a7 f7=>?_;have n47:=ao a4 f7;replace a4:=s7 _ _ a4;have n67:=ao a6 f7;replace a6:=s7 _ _ a6;have z7:=hs.none f7;replace hs:=hs.trans s7;have b4:=a4;rw [br] at b4;simp only [go_sem,seval,b4,av,ax];refine ad.ay rfl rfl rfl (pD l s _) ?_;have bad:¬nI l s area→(aW (jd l s area)=.agg [vI 0,vI 0,vI 0,vI 0,vI 0,vI 0,vI 0]∧br (dY l s area)=.agg [vI 0,vI 0, .bool false]):=fun h=>by
  rw [jd,dY,if_neg h,if_neg h]; exact ⟨rfl,rfl⟩
 have good:nI l s area→(jd l s area=eR l s area∧dY l s area=iN l (eR l s area)):=fun h=>⟨if_pos h,if_pos h⟩
 generalize jd l s area=X at *;generalize dY l s area=Y at *;by_cases hm:dt l s
 ·rw [decide_eq_true hm];by_cases h1:area < 1
  ·have q1:(area < 1)=True:=eq_true h1;obtain ⟨e1,e2⟩:=bad (fun h=>by have:=h.2; omega);rw [e1,e2];apply sR;simp only [go_sem,seval,a6,a7,ab n67,ab n67.symm,q1,jN];exact ar.pure ((hs.aB z6).aB z7) rfl
  have q1:(area < 1)=False:=eq_false h1;obtain ⟨rfl,rfl⟩:=good ⟨hm,by omega⟩;clear good bad;obtain ⟨h0,h2⟩:=hm.1;obtain ⟨k,hk⟩:∃k:Nat,s.atom=k:=⟨s.atom.toNat,by omega⟩
  have hkl:k < l.length:=by omega
  apply sR;simp only [go_sem,seval,b4,hk,q1,av,ax];refine ad.ay rfl rfl rfl (D9 l k hkl _) ?_;have hfc:∀f,(aW f).cells=[vI f.node,vI f.atom,vI f.fr,vI f.x,vI f.y,vI f.w,vI f.h]:=fun _=>rfl;apply sR;simp only [go_sem,seval];refine ae fun i8 σ8 s8 a8 f8=>?_;have n48:=ao a4 f8;replace a4:=s8 _ _ a4;have n68:=ao a6 f8;replace a6:=s8 _ _ a6;have n78:=ao a7 f8;replace a7:=s8 _ _ a7;have z8:=hs.none f8;replace hs:=hs.trans s8;have hd0:=hm.2.1;have hy:=hl.rng _ (List.getElem_mem hkl);have hdh:s.done=0∨s.done < l[k].h:=by have:=hm.2.2; rw [hk,bn hkl] at this; exact this
  have hph:(fj l k).h=l[k].h:=by rw [fj,bn hkl]
  have hfs:∀f,(aW f).stays=true:=fun _=>rfl;rw [br] at a4;simp only [go_sem,seval,a8,a4,ab n48,hfc,hfs];generalize hq8:upd _ i8 _=τ8;replace a8:=(congrFun hq8 i8).symm.trans ag;replace a4:=((congrFun hq8 i4).symm.trans (ab n48)).trans a4;replace a6:=((congrFun hq8 i6).symm.trans (ab n68)).trans a6;replace a7:=((congrFun hq8 i7).symm.trans (ab n78)).trans a7;replace hs:=Eq.subst (motive:=aa _) hq8 (hs.aB z8);clear hq8;have h8:τ8 i8=some ⟨252,7,[aW (fj l k)]⟩:=a8;refine ad.call rfl rfl rfl (zI (fj l k) s.done (ak (by omega) (by omega)) h8) ?_;rintro - σ9 rfl;generalize hq8:upd _ i8 _=τ8;replace a8:=(congrFun hq8 i8).symm.trans ag;replace a4:=((congrFun hq8 i4).symm.trans (ab n48)).trans a4;replace a6:=((congrFun hq8 i6).symm.trans (ab n68)).trans a6;replace a7:=((congrFun hq8 i7).symm.trans (ab n78)).trans a7;replace hs:=Eq.subst (motive:=aa _) hq8 (hs.aB z8);clear hq8;apply sR;simp only [go_sem,seval];refine ad.call rfl rfl rfl (HC ((fj l k).bM s.done) area a8) ?_;rintro - σ9 rfl;generalize hq8:upd _ i8 _=τ8;replace a8:=(congrFun hq8 i8).symm.trans ag;replace a4:=((congrFun hq8 i4).symm.trans (ab n48)).trans a4;replace a6:=((congrFun hq8 i6).symm.trans (ab n68)).trans a6;replace a7:=((congrFun hq8 i7).symm.trans (ab n78)).trans a7;replace hs:=Eq.subst (motive:=aa _) hq8 (hs.aB z8);clear hq8;have hsl:((fj l k).bM s.done).cut area=eR l s area:=by rw [eR,hk]
  rw [hsl] at a8;have ha:(eR l s area).atom=k:=by rw [←hsl]; rfl
  have hfr:(eR l s area).fr=s.done:=by rw [←hsl]; rfl
  have hhh:(eR l s area).h=min (l[k].h - s.done) area:=by rw [←hsl,←hph]; rfl
  have hbe:=fun (σ1:af) (h1:aa τ8 σ1)=>Ao l (eR l s area) k ha hkl hll (ak (by omega) (by omega)) (h1 _ _ a8);generalize iN l (eR l s area)=Y at *;generalize eR l s area=X at *;have b8:=a8;rw [aW] at b8;apply sR;simp only [go_sem,seval,b8];refine Go.wO rfl rfl rfl (fun σ1 h1=>hbe σ1 h1) ?_;have hyc:(br Y).cells=[vI Y.atom,vI Y.done, .bool Y.free]:=rfl;have hys:(br Y).stays=true:=rfl;apply sG;simp only [go_sem,seval,a6,a7,ab n67,ab n67.symm,hyc,hys,jN];exact ar.pure ((hs.aB z6).aB z7) rfl
 ·rw [decide_eq_false hm];obtain ⟨e1,e2⟩:=bad (fun h=>hm h.1);rw [e1,e2];apply sR;simp only [go_sem,seval,a6,a7,ab n67,ab n67.symm,jN];exact ar.pure ((hs.aB z6).aB z7) rfl
open Go.Proofs Go.Proofs.Tryz
def kL (l:List Atm) (k:Int) (y:Int):Frg:={ fj l k with y:=y }
def dg (l:List Atm) (s:Stt) (kept shift k:Int):Frg :=
 if dt l s∧s.atom≤k∧k < l.length then
  (if k=s.atom then { (kL l k (dy l s kept shift k)).bM s.done with y:=dy l s kept shift k+s.done } else kL l k (dy l s kept shift k))
 else ⟨0,0,0,0,0,0,0⟩
theorem Da (l:List Atm) (hl:kR l) (s:Stt) (hd:s.done≤1152921504606846976) (kept shift k:Int) (hk:-1152921504606846976≤kept∧kept≤2305843009213693952) (hsh:0≤shift∧shift≤1152921504606846976) :
 aU prog 107 [bu l,br s,vI kept,vI shift,vI k] (aW (dg l s kept shift k)):=fun σ=>by
 refine OF.r (by simp [KS]) ?_;have hs:=aa.refl σ;have hlen:=iB l;have hsc:(br s).cells=[vI s.atom,vI s.done, .bool s.free]:=rfl;have hss:(br s).stays=true:=rfl;have hpc:=zm l hl s hd kept shift k hk hsh;have hpr:=nb hl hd hk hsh k;refine ad.mix 12 ?_;apply sR;simp only [go_sem,seval,KS,hsc,hss,av,ax];refine ae fun i6 σ6 s6 a6 f6=>?_;have z6:=hs.none f6;replace hs:=hs.trans s6;simp only [go_sem,seval];refine ae fun i10 σ10 s10 a10 f10=>?_;have n610:=ao a6 f10;replace a6:=s10 _ _ a6;have z10:=hs.none f10;replace hs:=hs.trans s10;rw [br] at a6 hpc;simp only [go_sem,seval,a6,av,ax];refine ad.ay rfl rfl rfl (pD l s _) ?_;have bad:¬(dt l s∧s.atom≤k∧k < l.length)→aW (dg l s kept shift k)=.agg [vI 0,vI 0,vI 0,vI 0,vI 0,vI 0,vI 0]:=fun h=>by
  rw [dg,if_neg h]; rfl
 have good:(dt l s∧s.atom≤k∧k < l.length)→dg l s kept shift k=(if k=s.atom then { (kL l k (dy l s kept shift k)).bM s.done with y:=dy l s kept shift k+s.done } else kL l k (dy l s kept shift k)):=fun h=>if_pos h;generalize dg l s kept shift k=X at *;by_cases hm:dt l s
 ·rw [decide_eq_true hm];by_cases h1:k < s.atom
  ·have q1:(k < s.atom)=True:=eq_true h1;rw [bad (fun h=>by omega)];apply sR;simp only [go_sem,seval,a6,a10,q1,av,ax];exact ar.pure (hs.aB z10) rfl
  have q1:(k < s.atom)=False:=eq_false h1;by_cases h2:k≥l.length
  ·have q2:(k≥l.length)=True:=eq_true h2;rw [bad (fun h=>by omega)];apply sR;simp only [go_sem,seval,a6,a10,q1,q2,hlen,av,ax];exact ar.pure (hs.aB z10) rfl
  have q2:(k≥l.length)=False:=eq_false h2;obtain rfl:=good ⟨hm,by omega,by omega⟩;clear good bad;obtain ⟨h0,h3⟩:=hm.1;obtain ⟨n,rfl⟩:∃n:Nat,k=n:=⟨k.toNat,by omega⟩
  have hnl:n < l.length:=by omega
  apply sR;simp only [go_sem,seval,a6,q1,q2,hlen,av,ax];refine ad.ay rfl rfl rfl (D9 l n hnl _) ?_;have hfc:∀f,(aW f).cells=[vI f.node,vI f.atom,vI f.fr,vI f.x,vI f.y,vI f.w,vI f.h]:=fun _=>rfl;have hfs:∀f,(aW f).stays=true:=fun _=>rfl;generalize dy l s kept shift (n:Int)=P at *;apply sR;simp only [go_sem,seval,hfc,hfs];refine ae fun i11 σ11 s11 a11 f11=>?_;have n611:=ao a6 f11;replace a6:=s11 _ _ a6;have n1011:=ao a10 f11;replace a10:=s11 _ _ a10;have z11:=hs.none f11;replace hs:=hs.trans s11;simp only [go_sem,seval,a11,a6,ab (Ne.symm n611),ab n611,hfc,hfs,av,ax];generalize hq11:upd _ i11 _=τ11;replace a11:=(congrFun hq11 i11).symm.trans ag;replace a6:=((congrFun hq11 i6).symm.trans (ab n611)).trans a6;replace a10:=((congrFun hq11 i10).symm.trans (ab n1011)).trans a10;replace hs:=Eq.subst (motive:=aa _) hq11 (hs.aB z11);clear hq11;refine ad.ay rfl rfl rfl (hpc _) ?_;rw [aW] at a11;have hd0:=hm.2.1;have hy:=hl.rng _ (List.getElem_mem hnl);have hph:(fj l n).h=l[n].h:=by rw [fj,bn hnl]
  by_cases he:(n:Int)=s.atom
  ·have q3:((n:Int)=s.atom)=True:=eq_true he;rw [if_pos he];have r2:inR .i64 (P+s.done):=ak (by omega) (by omega);apply sR;simp only [go_sem,seval,a11,a6,q3,av,ax,ab n611];generalize hq11:upd _ i11 _=τ11;replace a11:=(congrFun hq11 i11).symm.trans ag;replace a6:=((congrFun hq11 i6).symm.trans (ab n611)).trans a6;replace a10:=((congrFun hq11 i10).symm.trans (ab n1011)).trans a10;replace hs:=Eq.subst (motive:=aa _) hq11 (hs.aB z11);clear hq11;have h11:τ11 i11=some ⟨252,7,[aW (kL l n P)]⟩:=a11;refine ad.call rfl rfl rfl (zI (kL l n P) s.done (ak (by show _≤(fj l n).h - s.done; omega) (by show (fj l n).h - s.done≤_; omega)) h11) ?_;rintro - σ9 rfl;generalize hq11:upd _ i11 _=τ11;replace a11:=(congrFun hq11 i11).symm.trans ag;replace a6:=((congrFun hq11 i6).symm.trans (ab n611)).trans a6;replace a10:=((congrFun hq11 i10).symm.trans (ab n1011)).trans a10;replace hs:=Eq.subst (motive:=aa _) hq11 (hs.aB z11);clear hq11;rw [aW] at a11;have r3:inR .i64 (((kL l n P).bM s.done).y+s.done):=r2;apply sR;simp only [go_sem,seval,a11,a6,a10,r3,ab n611,ab n1011];exact ar.pure ((hs.aB z11).aB z10) rfl
  ·have q3:((n:Int)=s.atom)=False:=eq_false he;rw [if_neg he];apply sR;simp only [go_sem,seval,a11,a6,a10,q3,av,ax,ab n611,ab n1011];exact ar.pure ((hs.aB z11).aB z10) rfl
 ·rw [decide_eq_false hm];rw [bad (fun h=>hm h.1)];apply sR;simp only [go_sem,seval,a10];exact ar.pure (hs.aB z10) rfl
open Go.Proofs Go.Proofs.Tryz
def mulR (a n:Int):Int :=
 if dn n≠0∧(dn a > (1099511627776:Int).tdiv (max (dn n) (-dn n))∨dn a < (-1099511627776:Int).tdiv (max (dn n) (-dn n))) then
  (if decide (dn a < 0)=decide (dn n < 0) then 1099511627776 else -1099511627776)
 else dn a*dn n
theorem GJ {A B:Int} (h1:A≤(1099511627776:Int).tdiv (max B (-B))) (h2:(-1099511627776:Int).tdiv (max B (-B))≤A) (hB:B≠0):-1099511627776≤A*B∧A*B≤1099511627776:=by
 obtain ⟨M,hM⟩:∃M,M=max B (-B):=⟨_,rfl⟩
 rw [←hM] at h1 h2;have hM1:1≤M:=by omega
 rw [Int.neg_tdiv] at h2;rw [Int.tdiv_eq_ediv_of_nonneg (by omega)] at h1 h2;have h3:(1099511627776:Int) / M*M≤1099511627776:=Int.ediv_mul_le _ (by omega);have h4:=Int.mul_le_mul_of_nonneg_right h1 (by omega:0≤M);have h5:=Int.mul_le_mul_of_nonneg_right h2 (by omega:0≤M);rw [Int.neg_mul] at h5;rcases (by omega:M=B∨M = -B) with e | e
 ·rw [e] at h4 h5 h3; omega
 ·have hb:B = -M:=by omega
  rw [hb,Int.mul_neg]; omega
theorem MG (a n:Int):aU prog 27 [vI a,vI n] (vI (mulR a n)):=fun σ=>by
 refine e27.r (by simp [c27]) ?_;refine ad.mix 5 ?_;apply sR;simp only [go_sem,seval,c27];refine ad.ay rfl rfl rfl (x8 a _) ?_;apply sR;simp only [go_sem,seval];refine ad.ay rfl rfl rfl (x8 n _) ?_;unfold mulR;have hA:-1099511627776≤dn a∧dn a≤1099511627776:=by unfold dn; omega
 have hB:-1099511627776≤dn n∧dn n≤1099511627776:=by unfold dn; omega
 generalize dn a=A at *;generalize dn n=B at *;have b1:(true == true)=true:=rfl;have b2:(true == false)=false:=rfl;have b3:(false == true)=false:=rfl;have b4:(false == false)=true:=rfl;by_cases h0:B=0
 ·subst h0;have q0:((0:Int)≠0)=False:=eq_false (fun h=>h rfl);have r1:inR .i64 (A*0):=ak (by omega) (by omega);apply sR;simp only [go_sem,seval,q0,r1];exact ar.same (by rw [if_neg (by simp)])
 have q0:(B≠0)=True:=eq_true h0;have hM1:1≤max B (-B)∧max B (-B)≤1099511627776:=by omega
 have qM:(max B (-B)=0)=False:=eq_false (by omega);have rn:inR .i64 (-B):=ak (by omega) (by omega);have t1:0≤(1099511627776:Int).tdiv (max B (-B))∧(1099511627776:Int).tdiv (max B (-B))≤1099511627776:=by
  rw [Int.tdiv_eq_ediv_of_nonneg (by omega)];exact ⟨Int.ediv_nonneg (by omega) (by omega),Int.ediv_le_self _ (by omega)⟩
 have t2:(-1099511627776:Int).tdiv (max B (-B)) = -((1099511627776:Int).tdiv (max B (-B))):=Int.neg_tdiv ..;have hr:=GJ (A:=A) (B:=B);have rq1:inR .i64 ((1099511627776:Int).tdiv (max B (-B))):=ak (by omega) (by omega);have rq2:inR .i64 ((-1099511627776:Int).tdiv (max B (-B))):=ak (by omega) (by omega);by_cases h1:A > (1099511627776:Int).tdiv (max B (-B))
 ·have q1:(A > (1099511627776:Int).tdiv (max B (-B)))=True:=eq_true h1;rw [if_pos ⟨h0, .inl h1⟩];by_cases sA:A < 0
  ·have qA:(A < 0)=True:=eq_true sA;by_cases sB:B < 0
   ·have qB:(B < 0)=True:=eq_true sB;apply sR;simp only [go_sem,seval,q0,Int.zero_sub,rn,cL,qM,rq1,q1,qA,qB,b1,b2,b3,b4];exact ar.same (by first | rfl | simp [sA,sB])
   ·have qB:(B < 0)=False:=eq_false sB;apply sR;simp only [go_sem,seval,q0,Int.zero_sub,rn,cL,qM,rq1,q1,qA,qB,b1,b2,b3,b4];exact ar.same (by first | rfl | simp [sA,sB])
  ·have qA:(A < 0)=False:=eq_false sA;by_cases sB:B < 0
   ·have qB:(B < 0)=True:=eq_true sB;apply sR;simp only [go_sem,seval,q0,Int.zero_sub,rn,cL,qM,rq1,q1,qA,qB,b1,b2,b3,b4];exact ar.same (by first | rfl | simp [sA,sB])
   ·have qB:(B < 0)=False:=eq_false sB;apply sR;simp only [go_sem,seval,q0,Int.zero_sub,rn,cL,qM,rq1,q1,qA,qB,b1,b2,b3,b4];exact ar.same (by first | rfl | simp [sA,sB])
 have q1:(A > (1099511627776:Int).tdiv (max B (-B)))=False:=eq_false h1;by_cases h2:A < (-1099511627776:Int).tdiv (max B (-B))
 ·have q2:(A < (-1099511627776:Int).tdiv (max B (-B)))=True:=eq_true h2;rw [if_pos ⟨h0, .inr h2⟩];by_cases sA:A < 0
  ·have qA:(A < 0)=True:=eq_true sA;by_cases sB:B < 0
   ·have qB:(B < 0)=True:=eq_true sB;apply sR;simp only [go_sem,seval,q0,Int.zero_sub,rn,cL,qM,rq1,q1,rq2,q2,qA,qB,b1,b2,b3,b4];exact ar.same (by first | rfl | simp [sA,sB])
   ·have qB:(B < 0)=False:=eq_false sB;apply sR;simp only [go_sem,seval,q0,Int.zero_sub,rn,cL,qM,rq1,q1,rq2,q2,qA,qB,b1,b2,b3,b4];exact ar.same (by first | rfl | simp [sA,sB])
  ·have qA:(A < 0)=False:=eq_false sA;by_cases sB:B < 0
   ·have qB:(B < 0)=True:=eq_true sB;apply sR;simp only [go_sem,seval,q0,Int.zero_sub,rn,cL,qM,rq1,q1,rq2,q2,qA,qB,b1,b2,b3,b4];exact ar.same (by first | rfl | simp [sA,sB])
   ·have qB:(B < 0)=False:=eq_false sB;apply sR;simp only [go_sem,seval,q0,Int.zero_sub,rn,cL,qM,rq1,q1,rq2,q2,qA,qB,b1,b2,b3,b4];exact ar.same (by first | rfl | simp [sA,sB])
 have q2:(A < (-1099511627776:Int).tdiv (max B (-B)))=False:=eq_false h2;have hr':=hr (by omega) (by omega) h0;have r3:inR .i64 (A*B):=ak (by omega) (by omega);rw [if_neg (fun h=>by rcases h.2 with h | h; exact h1 h; exact h2 h)]
 apply sR;simp only [go_sem,seval,q0,Int.zero_sub,rn,cL,qM,rq1,q1,rq2,q2,r3];exact ar.same rfl
open Go.Proofs Go.Proofs.Tryz
theorem Cy (l:List Flo) (hl:l.length≤1000000):Iter prog 182 [.rp (aJ l)] (l.map fun f=>[aO f]):=by
 refine ⟨LZ.c,fun idl J Jx σ0 hy hJ=>?_⟩;refine (LZ.r (by simp [Lb]) ?_).2;have ldF:∀σ:af,bN σ false 1 (.rp (aJ l))=some (aJ l):=fun σ=>rfl;have hln:=fF l;refine ad.mix 5 ?_;apply sR;simp only [go_sem,seval,Lb,ldF,hln];refine ad.loop (fun m st=>∃(j:Nat) (σJ:af),j≤l.length∧m=l.length - j∧J ((l.take j).map fun f=>[aO f]) σJ∧aa σJ st.σ∧st.s 0=.yl idl∧st.s 5=aJ l∧st.s 6=vI l.length∧st.s 7=vI j) l.length ?_ ?_
 ·exact ⟨0,σ0,by omega,rfl,by simpa using hJ,aa.refl _,rfl,rfl,rfl,rfl⟩
 ·rintro m ⟨S,τ⟩ ⟨j,σJ,hj,rfl,hJj,hsub,t0,t5,t6,t7⟩;simp only at hsub t0 t5 t6 t7;refine ad.mix 5 ?_;by_cases hlt:j < l.length
  ·have q:((j:Int) < l.length)=True:=eq_true (by omega);have r1:inR .i64 ((j:Int)+1):=ak (by omega) (by omega);have hidx:=fun σ=>jK (σ:=σ) hlt;have e0':l=l.take j++l[j]::l.drop (j+1):=by rw [←List.drop_eq_getElem_cons hlt,List.take_append_drop]
   have e:(l.map fun f=>[aO f])=((l.take j).map fun f=>[aO f])++[aO l[j]]::((l.drop (j+1)).map fun f=>[aO f]):=by
    have:=congrArg (List.map fun f=>[aO f]) e0'
    rwa [List.map_append,List.map_cons] at this
   have htk:((l.take (j+1)).map fun f=>[aO f])=((l.take j).map fun f=>[aO f])++[[aO l[j]]]:=by rw [List.take_succ_eq_append_getElem hlt,List.map_append]; rfl
   have hfl:aO l[j]=.agg [vI l[j].node,vI l[j].side,vI l[j].anchor,vI l[j].x,vI l[j].y,vI l[j].w,vI l[j].h]:=rfl;generalize l[j]=x at *;apply sR;simp only [go_sem,seval,t0,t5,t6,t7,q,hidx,hfl];refine ae fun i4 σ4 s4 a4 f4=>?_;simp only [go_sem,seval,a4,t0,t5,t6,t7];generalize hq4:upd σ4 i4 _=τ4;have hs4:aa τ τ4:=by rw [←hq4]; exact s4.aB f4
   clear hq4;refine ad.kV (Post:=fun b' σ2=>∃σJ',bb σJ τ4 σJ' σ2∧((b'=true∧J (((l.take j).map fun f=>[aO f])++[[aO x]]) σJ')∨(b'=false∧Jx (((l.take j).map fun f=>[aO f])++[[aO x]]) σJ'))) rfl rfl rfl (hy _ [aO x] _ σJ τ4 e hJj (hsub.trans hs4)) ?_;rintro b' σ2 ⟨σJ',hbs,hbb⟩;rcases hbb with ⟨rfl,hbb⟩ | ⟨rfl,hbb⟩
   ·apply sR;simp only [go_sem,seval,t0,t5,t6,t7,r1];refine ⟨_,?_,j+1,σJ',by omega,rfl,by rw [htk]; exact hbb,hbs.1,by simp [t0,t5,t6]⟩;omega
   ·apply sR;simp only [go_sem,seval,t0,t5,t6,t7];exact ⟨_,σJ',hbs.1,Wk.refl hbs.1 _, .inr ⟨_,⟨_,by rw [e,List.append_assoc]; rfl⟩,hbb⟩⟩
  ·have q:((j:Int) < l.length)=False:=eq_false (by omega);rw [List.take_of_length_le (by omega)] at hJj;apply sR;simp only [go_sem,seval,t0,t5,t6,t7,q];exact ⟨_,σJ,hsub,Wk.refl hsub _, .inl hJj⟩
theorem Jj (l:List Flo):aU prog 149 [aJ l] (.fn 182 [.rp (aJ l)]):=fun σ=>by
 refine M7.r (by simp [Je]) ?_;refine ad.mix 3 ?_;have q1:=aQ l;have q2:=aS l;generalize aJ l=x at *;apply sR;simp only [go_sem,seval,Je,q1,q2];refine ae fun id1 σ1 s1 a1 f1=>?_;simp only [go_sem,seval,q1,q2];exact ⟨_,σ,s1,Wk.fn (vs':=[.rp x]) ⟨Wk.ptr s1 a1 f1,trivial⟩,rfl,rfl⟩
def oN (bM to:Int) (f:Flo):Bool:=decide (f.anchor < bM∨f.anchor≥to)
theorem Kq (bM to:Int) (f:Flo) {σ:af} {i4 i5:Nat} (a4:σ i4=some ⟨3,1,[vI bM]⟩) (a5:σ i5=some ⟨3,1,[vI to]⟩) :
 az prog 207 [aO f, .ptr i4 0 0, .ptr i5 0 0] σ fun r σ'=>r=.bool (oN bM to f)∧σ'=σ:=by
 refine NK.r (by simp [Kh]) ?_;have hs:=aa.refl σ;refine ad.mix 5 ?_;apply sR;simp only [go_sem,seval,Kh,aO];refine ae fun i3 σ3 s3 a3 f3=>?_;have z3:=hs.none f3;replace hs:=hs.trans s3;have b4:=s3 _ _ a4;have b5:=s3 _ _ a5;by_cases h0:f.anchor < bM
 ·have q0:(f.anchor < bM)=True:=eq_true h0;simp only [go_sem,seval,a3,b4,b5,q0];exact ar.pure hs (by simp [oN,h0])
 ·have q0:(f.anchor < bM)=False:=eq_false h0;by_cases h1:f.anchor≥to
  ·have q1:(f.anchor≥to)=True:=eq_true h1;simp only [go_sem,seval,a3,b4,b5,q0,q1];exact ar.pure hs (by simp [oN,h1])
  ·have q1:(f.anchor≥to)=False:=eq_false h1;simp only [go_sem,seval,a3,b4,b5,q0,q1];exact ar.pure hs (by simp only [oN]; rw [decide_eq_false (by omega)])
open Go.Proofs Go.Proofs.Tryz
def fB (p:Flo→Bool):List Flo→Nat→Int
 | [],_=>-1
 | f::r,i=>if p f then i else fB p r (i+1)
theorem yp {p:Flo→Bool} {l:List Flo} {i:Nat} (h:i < l.length):fB p (l.drop i) i=if p l[i] then (i:Int) else fB p (l.drop (i+1)) (i+1):=by
 rw [List.drop_eq_getElem_cons h,fB]
theorem EX {σ:af} {v:V} (l:List Flo) (hl:l.length≤1000000) (hr:Reads σ 7 true v (l.map aO)) {f:FuncId} {caps:List V} (p:Flo→Bool)
 (hf:∀x∈l,az prog f (aO x::caps) σ fun r σ'=>r=.bool (p x)∧σ'=σ) :
 az prog 217 [v, .fn f caps] σ fun r σ'=>r=vI (fB p l 0)∧σ'=σ:=by
 refine N3.r (by simp [JV]) ?_;have hlv:dD false v=some (.int .i64 l.length):=by rw [hr.1,List.length_map]
 refine ad.mix 6 ?_;apply sR;simp only [go_sem,seval,JV,hlv];refine ad.loop (fun m st=>∃i:Nat,i≤l.length∧m=l.length - i∧fB p l 0=fB p (l.drop i) i∧st.σ=σ∧st.s 0=v∧st.s 1=.fn f caps∧st.s 7=vI l.length∧st.s 8=vI i) l.length ?_ ?_
 ·exact ⟨0,by omega,rfl,rfl,rfl,rfl,rfl,rfl,rfl⟩
 ·rintro m ⟨s,σ'⟩ ⟨i,hi,rfl,heq,hσ,h0,h1,h7,h8⟩;simp only at hσ h0 h1 h7 h8;subst hσ;refine ad.mix 6 ?_;by_cases hlt:i < l.length
  ·have q:((i:Int) < l.length)=True:=eq_true (by omega);have hd:=yp (p:=p) hlt;obtain ⟨a,ha,hla⟩:=hr.2 i (aO l[i]) (by simp [hlt]);have hfx:=hf l[i] (List.getElem_mem hlt);have r1:inR .i64 ((i:Int)+1):=ak (by omega) (by omega);generalize l[i]=x at *;apply sR;simp only [go_sem,seval,h0,h1,h7,h8,q,ha,hla];refine ad.ay rfl rfl rfl hfx ?_;cases hp:p x
   ·rw [hp] at hd;apply sR;simp only [go_sem,seval,h0,h1,h7,h8,r1];refine ⟨_,?_,i+1,by omega,rfl,?_,by simp [h0,h1,h7]⟩
    ·omega
    ·rw [heq,hd]; rfl
   ·rw [hp] at hd;apply sR;simp only [go_sem,seval,h0,h1,h7,h8];refine ar.same ?_;rw [heq,hd]; rfl
  ·have q:((i:Int) < l.length)=False:=eq_false (by omega);have hie:i=l.length:=by omega
   apply sR;simp only [go_sem,seval,h0,h1,h7,h8,q];refine ar.same ?_;rw [heq,hie,List.drop_length]; rfl
open Go.Proofs Go.Proofs.Tryz
theorem EA (l:List Atm) (hl:l.length≤1000000000):aU prog 32 [bu l] (bu l) :=
 wS func32 (e32.b.trans rfl) e32.c (l.map dd) (by simp; omega)
theorem xc (l:List Flo) (hl:l.length≤1000000000):aU prog 33 [aJ l] (aJ l) :=
 wS func33 (e33.b.trans rfl) e33.c (l.map aO) (by simp; omega)
open Go.Proofs Go.Proofs.Tryz
def kg (a:Flo):List Flo→Nat→Int
 | [],_=>-1
 | q::r,i=>if a=q then i else kg a r (i+1)
theorem Dv {a:Flo} {p:List Flo} {i:Nat} (h:i < p.length):kg a (p.drop i) i=if a=p[i] then (i:Int) else kg a (p.drop (i+1)) (i+1):=by
 rw [List.drop_eq_getElem_cons h,kg]
theorem F1 (p:List Flo) (hp:p.length≤1000000000) (a:Flo):aU prog 63 [aJ p,aO a] (vI (kg a p 0)):=fun σ=>by
 refine e63.r (by simp [c63]) ?_;have hs:=aa.refl σ;have hlp:=fF p;have hac:(aO a).cells=[vI a.node,vI a.side,vI a.anchor,vI a.x,vI a.y,vI a.w,vI a.h]:=rfl;have has:(aO a).stays=true:=rfl;have he:∀b:Flo,jS false [0,0,0,0,0,0,0] (.agg [vI a.node,vI a.side,vI a.anchor,vI a.x,vI a.y,vI a.w,vI a.h]) (.agg [vI b.node,vI b.side,vI b.anchor,vI b.x,vI b.y,vI b.w,vI b.h])=some (.bool (decide (a=b))):=fun b=>by
  have:(a=b)↔(a.node=b.node∧a.side=b.side∧a.anchor=b.anchor∧a.x=b.x∧a.y=b.y∧a.w=b.w∧a.h=b.h):=by
   cases a; cases b; simp
  simp only [jS,dT,cj,dO,this];simp
 refine ad.mix 9 ?_;apply sR;simp only [go_sem,seval,c63,hac,has];refine ae fun i3 σ3 s3 a3 f3=>?_;have z3:=hs.none f3;replace hs:=hs.trans s3;simp only [go_sem,seval,hlp,hac,has];rw [aO] at a3;refine ad.loop (fun m st=>∃(i:Nat),i≤p.length∧m=p.length - i∧kg a p 0=kg a (p.drop i) i∧st.σ=σ3∧st.s 0=aJ p∧st.s 3=.ptr i3 0 0∧st.s 7=vI p.length∧st.s 8=vI i) p.length ?_ ?_
 ·exact ⟨0,by omega,rfl,rfl,rfl,rfl,rfl,rfl,rfl⟩
 ·rintro m ⟨s,σ'⟩ ⟨i,hi,rfl,heq,hσ,h0,h3,h7,h8⟩;simp only at hσ h0 h3 h7 h8;subst hσ;refine ad.mix 9 ?_;by_cases hlt:i < p.length
  ·have q:((i:Int) < p.length)=True:=eq_true (by omega);have hd:=Dv (a:=a) hlt;have hidx:=fun σ=>jK (σ:=σ) hlt;have r1:inR .i64 ((i:Int)+1):=ak (by omega) (by omega);have hee:=he p[i];have hfl:aO p[i]=.agg [vI p[i].node,vI p[i].side,vI p[i].anchor,vI p[i].x,vI p[i].y,vI p[i].w,vI p[i].h]:=rfl;by_cases hc:a=p[i]
   ·rw [decide_eq_true hc] at hee;apply sR;simp only [BB,seval,←decide_not,bp,eQ,aE,cG,eG,ed,eF,dQ,cd,kv,gr,bE,fL,dM,eB,cy,cK,bx,ir,de,cI,cc,eff,kc,da,bS,dT,cj,dO,cU,kP,binBV,bT,dq,V.cells,V.stays,Orc.nothing,h0,h3,h7,h8,q,a3,hidx,hfl,hee];refine ar.pure hs ?_;rw [heq,hd,if_pos hc]
   ·rw [decide_eq_false hc] at hee;apply sR;simp only [BB,seval,←decide_not,bp,eQ,aE,cG,eG,ed,eF,dQ,cd,kv,gr,bE,fL,dM,eB,cy,cK,bx,ir,de,cI,cc,eff,kc,da,bS,dT,cj,dO,cU,kP,binBV,bT,dq,V.cells,V.stays,Orc.nothing,h0,h3,h7,h8,q,a3,hidx,hfl,hee,r1];refine ⟨_,?_,i+1,by omega,rfl,?_,by simp [h0,h3,h7]⟩
    ·omega
    ·rw [heq,hd,if_neg hc]
  ·have q:((i:Int) < p.length)=False:=eq_false (by omega);have hie:i=p.length:=by omega
   apply sR;simp only [go_sem,seval,h0,h3,h7,h8,q];refine ar.pure hs ?_;rw [heq,hie,List.drop_length]; rfl
open Go
theorem FzL.same {σ:af} {N:Nat→Prop}:∀(vs:List V),fG vs=true→FzL σ N vs vs
 | [],_=>.nil
 | v::vs,h=>by
   simp only [fG,Ba] at h;exact .cons _ _ _ _ (.same v h.1) (FzL.same vs h.2)
theorem FzL.app {σ:af} {N:Nat→Prop}:∀ {a b c d:List V},FzL σ N a b→FzL σ N c d→FzL σ N (a++c) (b++d)
 | _,_,_,_, .nil,h=>h
 | _,_,_,_, .cons v u vs us h h',h2=>.cons v u _ _ h (FzL.app h' h2)
theorem FzL.one {σ:af} {N:Nat→Prop} {v u:V} (h:Fz σ N v u):FzL σ N [v] [u]:=.cons _ _ _ _ h .nil
theorem aM.fz {K σ:af} {N:Nat→Prop} {e sz:Nat} {v:V} {rows:List V} (h:aM K σ e sz v rows) (hN:∀id,K id=none→N id) (hr:fG rows=true):Fz σ N v (.sl sz rows):=by
 rcases h with ⟨rfl,rfl⟩ | ⟨id,rfl,ho,hk⟩
 ·exact .nil sz
 ·exact .own id 0 rows.length ⟨e,sz,rows⟩ rows ho (hN id hk) (by simp) (by rw [List.drop_zero,List.take_length]; exact FzL.same rows hr)
theorem aM.ab {K σ:af} {e sz:Nat} {v:V} {rows:List V} (h:aM K σ e sz v rows) {id:Nat} {o:Ob} (hK:K id≠none):aM K (upd σ id o) e sz v rows:=by
 rcases h with h | ⟨q,h1,h2,h3⟩
 ·exact .inl h
 ·have:q≠id:=fun e=>hK (by rw [←e]; exact h3);exact .inr ⟨q,h1,by rw [Vc.ab this]; exact h2,h3⟩
theorem Cg (l:List Int):fG (l.map vI)=true:=by
 induction l with
 | nil=>rfl
 | cons x l ih=>rw [List.map_cons,fG,ih]; rfl
abbrev Ma (x:Nd):List V:=[vI x.kind,vI x.size,vI x.st.top,vI x.st.bottom,vI x.st.padTop,vI x.st.padBottom,vI x.st.inset,vI x.st.orphans,vI x.st.widows,vI x.st.head,vI x.st.before,vI x.st.after,vI x.st.inside,vI x.st.clear,vI x.line,vI x.space]
def ndW (x:Nd) (v:V):V:=.agg [vI x.kind,vI x.size,vI x.st.top,vI x.st.bottom,vI x.st.padTop,vI x.st.padBottom,vI x.st.inset,vI x.st.orphans,vI x.st.widows,vI x.st.head,vI x.st.before,vI x.st.after,vI x.st.inside,vI x.st.clear,vI x.line,vI x.space,v,vI x.side,vI x.w,vI x.h]
theorem LC {σ:af} {N:Nat→Prop} {x:Nd} {v:V} (h:Fz σ N v (bj x.words)):Fz σ N (ndW x v) (gN x):=by
 refine .agg _ _ ?_;exact (FzL.same (Ma x) rfl).app ((FzL.one h).app (FzL.same [vI x.side,vI x.w,vI x.h] rfl))
def fo (K σ:af):List Nd→List V→Prop
 | [],[]=>True
 | x::l,r::rows=>(∃w,r=ndW x w∧aM K σ 3 1 w (x.words.map vI))∧fo K σ l rows
 | _,_=>False
theorem aM.kept {K σ σ':af} {id e:Nat} {w:V} {rows rows0:List V} (h:aM K σ 3 1 w rows) (ho:σ id=some ⟨e,20,rows0⟩) (hs:∀i,i≠id→∀o,σ i=some o→σ' i=some o):aM K σ' 3 1 w rows:=by
 rcases h with h | ⟨i,h1,h2,h3⟩
 ·exact .inl h
 ·have hne:i≠id:=fun e=>by subst e; rw [ho] at h2; simp at h2
  exact .inr ⟨i,h1,hs i hne _ h2,h3⟩
theorem fo.kept {K σ σ':af} {id e:Nat} {rows0:List V} (ho:σ id=some ⟨e,20,rows0⟩) (hs:∀i,i≠id→∀o,σ i=some o→σ' i=some o):∀ {l:List Nd} {rows:List V},fo K σ l rows→fo K σ' l rows
 | [],[],_=>trivial
 | _::_,_::_,⟨⟨w,h1,h2⟩,h⟩=>⟨⟨w,h1,h2.kept ho hs⟩,fo.kept ho hs h⟩
 | [],_::_,h=>h.elim
 | _::_,[],h=>h.elim
theorem fo.mono {K σ σ':af} (hs:aa σ σ'):∀ {l:List Nd} {rows:List V},fo K σ l rows→fo K σ' l rows
 | [],[],_=>trivial
 | _::_,_::_,⟨⟨w,h1,h2⟩,h⟩=>⟨⟨w,h1,h2.mono hs⟩,fo.mono hs h⟩
 | [],_::_,h=>h.elim
 | _::_,[],h=>h.elim
theorem aM.LP {K K' σ:af} {e sz:Nat} {v:V} {rows:List V} (h:aM K σ e sz v rows) (hk:aa K' K):aM K' σ e sz v rows:=by
 rcases h with h | ⟨i,h1,h2,h3⟩
 ·exact .inl h
 ·exact .inr ⟨i,h1,h2,hk.none h3⟩
theorem fo.app {K σ:af}:∀ {l l2:List Nd} {rows rows2:List V},fo K σ l rows→fo K σ l2 rows2→fo K σ (l++l2) (rows++rows2)
 | [],_,[],_,_,h2=>h2
 | _::_,_,_::_,_,⟨h1,h⟩,h2=>⟨h1,fo.app h h2⟩
 | [],_,_::_,_,h,_=>h.elim
 | _::_,_,[],_,h,_=>h.elim
theorem fo.fz {K σ:af} {N:Nat→Prop} (hN:∀id,K id=none→N id):∀ {l:List Nd} {rows:List V},fo K σ l rows→FzL σ N rows (l.map gN)
 | [],[],_=>.nil
 | _::_,_::_,⟨⟨w,h1,h2⟩,h⟩=>by
   rw [h1];exact .cons _ _ _ _ (LC (h2.fz hN (Cg _))) (fo.fz hN h)
 | [],_::_,h=>h.elim
 | _::_,[],h=>h.elim
def xO (K σ:af) (v:V) (l:List Nd):Prop:=∃rows,aM K σ 73 20 v rows∧fo K σ l rows
theorem xO.fz {K σ:af} {N:Nat→Prop} {v:V} {l:List Nd} (h:xO K σ v l) (hN:∀id,K id=none→N id):Fz σ N v (aI l):=by
 obtain ⟨rows,ho,hr⟩:=h;have hf:=hr.fz hN;rcases ho with ⟨rfl,rfl⟩ | ⟨id,rfl,ho,hk⟩
 ·cases l with
  | nil=>exact .nil 20
  | cons x l=>exact hr.elim
 ·exact .own id 0 rows.length ⟨_,20,rows⟩ _ ho (hN id hk) (by simp) (by rw [List.drop_zero,List.take_length]; exact hf)
open Go.Proofs Go.Proofs.Tryz
theorem GO (l:List Nd) (hl:l.length≤10000) (σ:af):az prog 29 [aI l] σ fun r σ'=>aa σ σ'∧aM σ σ' 73 20 r (l.map gN):=by
 refine e29.r (by simp [c29]) ?_;refine ad.mix 3 ?_
 (refine ad.bG Orc.nothing 8 ?_; simp only [go_sem,seval,nz,c29])
 refine ad.Ce rfl rfl rfl fun b hb=>?_;cases b
 ·apply sR;simp only [go_sem,seval];refine ae fun id1 σ1 s1 a1 f1=>?_;obtain ⟨idA,hd,hdel⟩:=(aM.new (K:=σ) (e:=73) (sz:=20) (n:=0) (rows:=[]) rfl a1 f1).dst (aa.refl _);have hsrc:∀σ,bK σ 20 (aI l)=some (l.map gN):=fun σ=>by simp [aI,bK]
  have hb2:l.length*177≤140737488355328:=by omega
  simp only [go_sem,seval,hd,hsrc,List.length_map,hb2];refine ew fun id2 σ2 s2 a2 f2=>?_;have hs2:=(hdel σ (aa.refl _) σ1 s1).trans s2;simp only [go_sem,seval];refine ⟨_,_,aa.refl _,Wk.refl (aa.refl _) _,hs2,aM.new (by simp) a2 (s1.none f2)⟩
 ·apply sR;simp only [go_sem,seval];refine ⟨_,_,aa.refl _,Wk.refl (aa.refl _) _,aa.refl _,?_⟩;have:l.map gN=[]:=hb rfl;rw [this];exact aM.start
theorem DU (l:List Int) (hl:l.length≤1000000000) (σ:af):az prog 30 [bj l] σ fun r σ'=>aa σ σ'∧aM σ σ' 3 1 r (l.map vI):=by
 refine e30.r (by simp [c30]) ?_;refine ad.mix 3 ?_
 (refine ad.bG Orc.nothing 8 ?_; simp only [go_sem,seval,nz,c30])
 refine ad.Ce rfl rfl rfl fun b hb=>?_;cases b
 ·apply sR;simp only [go_sem,seval];refine ae fun id1 σ1 s1 a1 f1=>?_;obtain ⟨idA,hd,hdel⟩:=(aM.new (K:=σ) (e:=3) (sz:=1) (n:=0) (rows:=[]) rfl a1 f1).dst (aa.refl _);have hb2:l.length*9≤140737488355328:=by omega
  simp only [go_sem,seval,hd,wx,List.length_map,hb2];refine ew fun id2 σ2 s2 a2 f2=>?_;have hs2:=(hdel σ (aa.refl _) σ1 s1).trans s2;simp only [go_sem,seval];exact ⟨_,_,aa.refl _,Wk.refl (aa.refl _) _,hs2,aM.new (by simp) a2 (s1.none f2)⟩
 ·apply sR;simp only [go_sem,seval];have:l.map vI=[]:=hb rfl;refine ⟨_,_,aa.refl _,Wk.refl (aa.refl _) _,aa.refl _,?_⟩;rw [this];exact aM.start
open Go.Proofs Go.Proofs.Tryz
def GP (K σ:af) (e sz:Nat) (v:V) (rows:List V):Prop:=(v=.aD∧rows=[])∨∃id all,v=.own id 0 rows.length∧σ id=some ⟨e,sz,all⟩∧all.take rows.length=rows∧K id=none
theorem aM.MV {K σ:af} {e sz:Nat} {v:V} {rows:List V} (h:aM K σ e sz v rows):GP K σ e sz v rows:=by
 rcases h with h | ⟨id,h1,h2,h3⟩
 ·exact .inl h
 ·exact .inr ⟨id,rows,h1,h2,List.take_length,h3⟩
theorem GP.wk {K σ:af} {e sz:Nat} {v:V} {rows:List V} (h:GP K σ e sz v rows) {K':af} (hK:aa K' K) (hs:aa K' σ):Wk σ K' v (.sl sz rows):=by
 rcases h with ⟨rfl,rfl⟩ | ⟨id,all,rfl,ho,ht,hk⟩
 ·exact Wk.aD sz
 ·have hl:rows.length≤all.length:=by
   have:=congrArg List.length ht;simp at this; omega
  have:=Wk.own hs ho (hK.none hk) (off:=0) (len:=rows.length) (by simpa using hl);rw [List.drop_zero,ht] at this;exact this
open Go.Proofs Go.Proofs.Tryz
theorem pU {p:Flo→Bool}:∀(l:List Flo) (i:Nat),fB p l i < 0→l.filter (fun f=>!p f)=l
 | [],_,_=>rfl
 | x::l,i,h=>by
   rw [fB] at h;split at h
   ·omega
   ·rename_i hp;have hp':p x=false:=by simpa using hp
    simp only [List.filter_cons,hp',Bool.not_false,if_true,pU l _ h]
theorem qg {p:Flo→Bool}:∀(l:List Flo) (i:Nat),¬fB p l i < 0→∃w:Nat,fB p l i=((i+w:Nat):Int)∧w < l.length∧(l.take w).filter (fun f=>!p f)=l.take w∧∀x,l[w]?=some x→p x=true
 | [],i,h=>by simp [fB] at h
 | x::l,i,h=>by
   rw [fB] at h ⊢;split
   ·rename_i hp;exact ⟨0,by simp,by simp,by simp,fun y hy=>by simp at hy; subst hy; exact hp⟩
   ·rename_i hp;rw [if_neg hp] at h;have hp':p x=false:=by simpa using hp
    obtain ⟨w,h1,h2,h3,h4⟩:=qg l (i+1) h;refine ⟨w+1,by rw [h1]; congr 1; omega,by simp; omega,?_,by simpa using h4⟩;simp only [List.take_succ_cons,List.filter_cons,hp',Bool.not_false,if_true,h3]
theorem sJ {p:Flo→Bool}:∀(l:List Flo) (i:Nat),fB p l i < 0→fB p l i = -1
 | [],_,_=>rfl
 | x::l,i,h=>by
   rw [fB] at h ⊢;split
   ·rename_i hp; rw [if_pos hp] at h; omega
   ·rename_i hp; rw [if_neg hp] at h; exact sJ l _ h
abbrev mO (p:Flo→Bool) (l:List Flo):List Flo:=l.filter fun f=>!p f
theorem Dg {K σ:af} {v:V} (l:List Flo) (hl:l.length≤1000000) (hK:aa K σ) (ho:aM K σ 59 7 v (l.map aO)) {f:FuncId} {caps:List V} (p:Flo→Bool)
 (hf:∀x∈l,∀τ,aa K τ→az prog f (aO x::caps) τ fun r σ'=>r=.bool (p x)∧σ'=τ) :
 az prog 206 [v, .fn f caps] σ fun r σ'=>GP K σ' 59 7 r ((mO p l).map aO)∧aa K σ':=by
 have hr:Reads σ 7 true v (l.map aO):=by
  rcases ho with ⟨rfl,h0⟩ | ⟨id,rfl,h2,h3⟩
  ·rw [h0]; exact ⟨rfl,fun i v h=>by simp at h⟩
  ·refine ⟨by simp [dD],fun i r hi=>⟨_,jH h2 (by have:=List.getElem?_eq_some_iff.1 hi; exact this.1),?_⟩⟩;have hx:∃x,r=aO x:=by
    have:=List.mem_of_getElem? hi;simp only [List.mem_map] at this;obtain ⟨n,_,rfl⟩:=this; exact ⟨n,rfl⟩
   obtain ⟨x,rfl⟩:=hx;simp only [bN,h2,hi,if_true];rw [if_pos ⟨trivial,rfl⟩]; rfl
 refine Ni.r (by simp [JG]) ?_;refine ad.mix 8 ?_;apply sR;simp only [go_sem,seval,JG];refine ad.ay rfl rfl rfl (EX l hl hr p (fun x hx=>hf x hx σ hK)) ?_;generalize hw:fB p l 0=w;by_cases hn:w < 0
 ·have hw1:w = -1:=by rw [←hw]; exact sJ _ _ (by rw [hw]; exact hn)
  have hk:mO p l=l:=pU l 0 (by rw [hw]; exact hn);have q:(w = -1)=True:=eq_true hw1;apply sR;simp only [go_sem,seval,q];rw [hk];exact ⟨_,σ,aa.refl _,Wk.refl (aa.refl _) _,ho.MV,hK⟩
 ·obtain ⟨u0,g0,g1,g2,g3⟩:=qg l 0 (by rw [hw]; exact hn);rw [hw,Nat.zero_add] at g0;subst g0;have q:((u0:Int) = -1)=False:=eq_false (by omega);have r1:inR .i64 ((u0:Int)+1):=ak (by omega) (by omega);obtain ⟨i1,rfl,h2,h3⟩:∃id,v=.own id 0 (l.map aO).length∧σ id=some ⟨59,7,l.map aO⟩∧K id=none:=by
   rcases ho with ⟨_,h0⟩ | h
   ·have:l=[]:=by simpa using h0
    subst this; simp at g1
   ·exact h
  rw [List.length_map] at *;apply sR;simp only [go_sem,seval,q,r1];refine ad.loop (fun m st=>∃(u j:Nat) (cur:List Flo),u < j∧j≤l.length∧m=l.length - j∧cur.length=l.length∧cur.take u=mO p (l.take j)∧(∀q,j≤q→cur[q]?=l[q]?)∧aa K st.σ∧st.σ i1=some ⟨59,7,cur.map aO⟩ ∧
   st.s 0=.own i1 0 l.length∧st.s 1=.fn f caps∧st.s 5=vI u∧∃z:Int,st.s 6=vI z∧z=j) (l.length - (u0+1)) ?_ ?_
  ·refine ⟨u0,u0+1,l,by omega,by omega,rfl,rfl,?_,fun _ _=>rfl,hK,h2,rfl,rfl,rfl,_,rfl,by omega⟩;have hp:=g3 l[u0] (by simp [g1]);rw [List.take_succ_eq_append_getElem g1];have g2':mO p (l.take u0)=l.take u0:=g2;simp only [mO,List.filter_append] at g2' ⊢;rw [g2'];simp [hp]
  ·rintro m ⟨s,τ⟩ ⟨u,j,cur,huj,hjk,rfl,hcl,hct,hcr,hs,a1,h0,h1,h5,z,h6,rfl⟩;simp only at hs a1 h0 h1 h5 h6;refine ad.mix 8 ?_;have hlm:(cur.map aO).length=l.length:=by rw [List.length_map,hcl]
   by_cases hlt:j < l.length
   ·have q1:((j:Int) < l.length)=True:=eq_true (by omega);have hjc:j < cur.length:=by omega
    have huc:u < cur.length:=by omega
    have hfj:l[j]?=some cur[j]:=by rw [←hcr j (Nat.le_refl _)]; simp [hjc]
    have hmem:cur[j]∈l:=List.mem_of_getElem? hfj;have htj:l.take (j+1)=l.take j++[cur[j]]:=by
     rw [List.take_succ_eq_append_getElem hlt];congr 2;rw [List.getElem?_eq_getElem hlt] at hfj;simpa using hfj
    have iX:∀(τ:af) (rows:List V) (k n:Nat),τ i1=some ⟨59,7,rows⟩→rows.length=l.length→n=l.length→k < l.length→bD τ 7 (.own i1 0 n) (.int .i64 k)=some (.ptr i1 k 0):=fun τ rows k n h e hn hk=>by subst hn; rw [←e]; exact jH h (by omega)
    have e1:=iX _ _ j _ a1 hlm rfl hlt;have v1:(cur.map aO)[j]?=some (aO cur[j]):=by simp [hjc]
    have vu:(cur.map aO)[u]?=some (aO cur[u]):=by simp [huc]
    have hset:(cur.set u cur[j]).map aO=(cur.map aO).set u (aO cur[j]):=List.map_set;have hfc:=hf cur[j] hmem;have hfc7:∀f:Flo,(aO f).cells=[vI f.node,vI f.side,vI f.anchor,vI f.x,vI f.y,vI f.w,vI f.h]:=fun _=>rfl;have hsu:(cur.set u cur[j]).take (u+1)=cur.take u++[cur[j]]:=by
     rw [List.take_succ_eq_append_getElem (by simpa using huc),List.take_set,List.set_eq_of_length_le (by simp; omega)];simp
    have r2:inR .i64 ((u:Int)+1):=ak (by omega) (by omega);have r3:inR .i64 ((j:Int)+1):=ak (by omega) (by omega);generalize cur[j]=x at *;generalize cur[u]=y at *;apply sR;simp only [go_sem,seval,h0,h1,h5,h6,q1,a1,e1,v1,hfc7];refine ae fun i7 σ7 s7 a7 f7=>?_;have n17:=ao a1 f7;replace a1:=s7 _ _ a1;have z7:=hs.none f7;replace hs:=hs.trans s7;simp only [go_sem,seval,a7,h0,h1,h5,h6];generalize hq7:upd _ i7 _=τ7;replace a7:=(congrFun hq7 i7).symm.trans ag;replace a1:=((congrFun hq7 i1).symm.trans (ab n17)).trans a1;replace hs:=Eq.subst (motive:=aa _) hq7 (hs.aB z7);clear hq7;refine ad.ay rfl rfl rfl (hfc _ hs) ?_;have e2:=iX _ _ u _ a1 hlm rfl (by omega);cases hp:p x
    ·apply sR;simp only [go_sem,seval,h0,h1,h5,h6,a7,a1,e2,vu,hfc7,r2,r3];refine ⟨_,?_,u+1,j+1,cur.set u x,by omega,by omega,rfl,by simpa using hcl,?_,fun q hq=>?_,hs.aB h3,?_,by simp,_,rfl,by omega⟩
     ·omega
     ·rw [hsu,htj,hct];simp [mO,List.filter_append,hp]
     ·rw [List.getElem?_set_ne (by omega)];exact hcr q (by omega)
     ·rw [hset]; rfl
    ·apply sR;simp only [go_sem,seval,h0,h1,h5,h6,r3];refine ⟨_,?_,u,j+1,cur,by omega,by omega,rfl,hcl,?_,fun q hq=>hcr q (by omega),hs,a1,by simp,_,rfl,by omega⟩
     ·omega
     ·rw [htj,hct];simp [mO,List.filter_append,hp]
   ·have q1:((j:Int) < l.length)=False:=eq_false (by omega);have hjk':j=l.length:=by omega
    subst hjk';rw [List.take_length] at hct;have b3:(0:Int)≤u:=by omega
    have b4:(u:Int)≤l.length:=by omega
    apply sR;simp only [go_sem,seval,h0,h1,h5,h6,q1,a1,b3,b4,Int.le_refl,Int.toNat_natCast];refine ad.clear (id:=i1) (off:=u) (len:=l.length - u) (ob:=⟨59,7,cur.map aO⟩) rfl rfl rfl a1 rfl (by simp; omega) ?_;apply sR;simp only [go_sem,seval,h0,h1,h5,h6,b3,b4,Int.le_refl,Int.toNat_natCast,Nat.sub_zero];have hlu:((mO p l).map aO).length=u:=by rw [List.length_map,←hct,List.length_take]; omega
    refine ⟨_,_,aa.refl _,Wk.refl (aa.refl _) _, .inr ⟨i1,_,by rw [hlu],ag,?_,h3⟩,hs.aB h3⟩;rw [hlu,List.append_assoc,List.take_append_of_le_length (by simp; omega),List.take_take,Nat.min_self,←List.map_take,hct]
open Go.Proofs Go.Proofs.Tryz
def th (l:List Flo) (fr to:Int):List Flo:=mO (oN fr to) l
theorem mA (l:List Flo) (fr to:Int):(th l fr to).length≤l.length:=List.length_filter_le _ _
theorem Fi (l:List Flo) (hl:l.length≤1000000) (fr to:Int):aU prog 183 [aJ l,vI fr,vI to] (aJ (th l fr to)):=fun σ=>by
 refine NF.r (by simp [JX]) ?_;have hs:=aa.refl σ;refine ad.mix 7 ?_;apply sR;simp only [go_sem,seval,JX];refine ae fun i4 σ4 s4 a4 f4=>?_;have z4:=hs.none f4;replace hs:=hs.trans s4;simp only [go_sem,seval];refine ae fun i5 σ5 s5 a5 f5=>?_;have n45:=ao a4 f5;replace a4:=s5 _ _ a4;have z5:=hs.none f5;replace hs:=hs.trans s5;simp only [go_sem,seval];refine ad.call rfl rfl rfl (sM func33 (e33.b.trans rfl) e33.c (l.map aO) (by simp; omega) _) ?_;rintro r σ9 ⟨h9,ho9⟩;apply sR;simp only [go_sem,seval];refine ad.call rfl rfl rfl (Dg l hl h9 ho9 (oN fr to) (fun x _ τ hτ=>Kq fr to x (hτ _ _ a4) (hτ _ _ a5))) ?_;rintro r2 σ10 ⟨hp,h10⟩;apply sR;simp only [go_sem,seval];exact ⟨_,σ,hs.trans h10,hp.wk hs (hs.trans h10),rfl,rfl⟩
def ep (l:List Flo) (s:Stt) (to:Int):List Flo:=th l (if s.done > 0 then s.atom+1 else s.atom) to
theorem D1 (l:List Flo) (hl:l.length≤1000000) (s:Stt) (ha:inR .i64 (s.atom+1)) (to:Int):aU prog 150 [aJ l,br s,vI to] (aJ (ep l s to)):=fun σ=>by
 refine OB.r (by simp [I2]) ?_;have hs:=aa.refl σ;have hsc:(br s).cells=[vI s.atom,vI s.done, .bool s.free]:=rfl;have hss:(br s).stays=true:=rfl;refine ad.mix 7 ?_;apply sR;simp only [go_sem,seval,I2,hsc,hss];refine ae fun i4 σ4 s4 a4 f4=>?_;have z4:=hs.none f4;replace hs:=hs.trans s4;rw [br] at a4;by_cases hd:s.done > 0
 ·have q:(s.done > 0)=True:=eq_true hd;simp only [go_sem,seval,a4,q,ha];refine ad.ay rfl rfl rfl (Fi l hl _ _ _) ?_;apply sR;simp only [go_sem,seval];exact ar.pure hs (by rw [ep,if_pos hd])
 ·have q:(s.done > 0)=False:=eq_false hd;simp only [go_sem,seval,a4,q];refine ad.ay rfl rfl rfl (Fi l hl _ _ _) ?_;apply sR;simp only [go_sem,seval];exact ar.pure hs (by rw [ep,if_neg hd])
open Go.Proofs Go.Proofs.Tryz
def du (v u:V):Prop:=∀a n b m,v=.own a 0 n→u=.own b 0 m→a≠b
theorem du.symm {v u:V} (h:du v u):du u v:=fun a n b m h1 h2 e=>h b m a n h2 h1 e.symm
theorem du.aD (u:V):du .aD u:=fun _ _ _ _ h _=>by cases h
theorem aM.Mw {K σJ σ1:af} {e sz:Nat} {v:V} {rows:List V} (h:aM K σJ e sz v rows) (hs:aa σJ σ1) :
 ∃idA,bR σ1 e sz v=some (rows,idA)∧∀i,idA=some i→K i=none∧(∃o,σJ i=some o)∧v=.own i 0 rows.length:=by
 rcases h with ⟨rfl,rfl⟩ | ⟨id,rfl,ho,hk⟩
 ·exact ⟨none,rfl,fun _ h=>by cases h⟩
 ·refine ⟨some id,?_,fun i h=>by cases h; exact ⟨hk,⟨_,ho⟩,rfl⟩⟩;simp only [bR,hs _ _ ho];rw [if_pos ⟨trivial,trivial,trivial,Nat.le_refl _⟩,List.take_length]
theorem aM.Nr {K σ:af} {e sz:Nat} {v:V} {rows:List V} (h:aM K σ e sz v rows) {idA:Option Nat} (h1:∀i,idA=some i→∀n,v≠.own i 0 n) {id:Nat} {o:Ob} (h2:σ id=none):aM K (upd (Vc.bz σ idA) id o) e sz v rows:=by
 rcases h with h | ⟨a,rfl,ho,hk⟩
 ·exact .inl h
 ·refine .inr ⟨a,rfl,?_,hk⟩;have hai:a≠id:=fun e=>by subst e; rw [ho] at h2; cases h2
  rw [Vc.ab hai];cases idA with
  | none=>exact ho
  | some i =>
    have:a≠i:=fun e=>h1 i rfl _ (by rw [e]);simp only [Vc.bz]; rw [dh this]; exact ho
theorem du.new {σ K:af} {e sz id n:Nat} {u:V} {rows:List V} (hu:aM K σ e sz u rows) (h:σ id=none):du (.own id 0 n) u:=by
 rintro a k b m h1 rfl e;cases h1;subst e;rcases hu with ⟨h,_⟩ | ⟨i,h,h2,_⟩
 ·cases h
 ·cases h; rw [h] at h2; cases h2
structure SoJ (σ0:af) (ix:Nat) (p q:List Flo) (σ:af):Prop where
 row:∃v u,σ ix=some ⟨256,2,[.agg [v,u]]⟩∧aM (aZ σ0 ix) σ 59 7 v (p.map aO)∧aM (aZ σ0 ix) σ 59 7 u (q.map aO)∧du v u
 sub:aa σ0 σ
 no:σ0 ix=none
theorem Er {σ0 σJ σB σ8:af} {ix e sz:Nat} {v u:V} {rows rowsU:List V} (hBs:bb σJ σB σJ σ8) (Js:aa σ0 σJ) (Jn:σ0 ix=none) {ox:Ob} (Jx:σJ ix=some ox)
 (Jv:aM (aZ σ0 ix) σJ e sz v rows) (Ju:aM (aZ σ0 ix) σJ e sz u rowsU) (hap:du v u) :
 ∃idA,bR σ8 e sz v=some (rows,idA)∧∀(id:Nat) (rows':List V) (o':Ob),σ8 id=none →
  ix≠id∧Vc.bz σ8 idA ix=some ox∧aa σ0 (upd (upd (Vc.bz σJ idA) id ⟨e,sz,rows'⟩) ix o')∧bb σJ σB (upd (upd (Vc.bz σJ idA) id ⟨e,sz,rows'⟩) ix o') (upd (upd (Vc.bz σ8 idA) id ⟨e,sz,rows'⟩) ix o') ∧
  aM (aZ σ0 ix) (upd (upd (Vc.bz σJ idA) id ⟨e,sz,rows'⟩) ix o') e sz (.own id 0 rows'.length) rows'∧aM (aZ σ0 ix) (upd (upd (Vc.bz σJ idA) id ⟨e,sz,rows'⟩) ix o') e sz u rowsU∧du (.own id 0 rows'.length) u:=by
 obtain ⟨idA,hda,hdA⟩:=Jv.Mw hBs.1;refine ⟨idA,hda,fun id rows' o' f=>?_⟩;have k2:aZ σ0 ix ix≠none:=fun h=>(aF.1 h).1 rfl;have dne:∀(i:Nat) (σx:af),aZ σ0 ix i≠none→Vc.bz σx idA i=σx i:=fun i σx hk=>by
  cases idA with
  | none=>rfl
  | some a=>exact dh (fun e=>hk (by rw [e]; exact (hdA a rfl).1))
 have c8:=hBs.1 _ _ Jx;have m:ix≠id:=ao c8 f;have fJ:σJ id=none:=by
  cases h:σJ id with
  | none=>rfl
  | some o=>rw [hBs.1 _ _ h] at f; cases f
 have f':Vc.bz σ8 idA id=none:=by
  cases idA with
  | none=>exact f
  | some a=>simp only [Vc.bz,del]; split <;> first | rfl | exact f
 have hk:aZ σ0 ix id=none:=by
  rw [aF];refine ⟨m.symm,?_⟩;cases h:σ0 id with
  | none=>rfl
  | some o=>rw [Js _ _ h] at fJ; cases fJ
 refine ⟨m,by rw [dne _ _ k2]; exact c8,?_,((hBs.Cl (e:=idA) fun i h=>(hdA i h).2.1).new f').set (id:=ix) (o:=ox) (by rw [ab m,dne _ _ k2]; exact Jx),?_,?_,du.new Ju fJ⟩
 ·refine aa.aB (fun i o h=>?_) Jn;have h1:=Js _ _ h;rw [ab (fun e=>by subst e; rw [h1] at fJ; cases fJ),dne _ _ (fun hk=>by rw [(aF.1 hk).2] at h; cases h)];exact h1
 ·exact aM.new rfl (by rw [ab m.symm,ag]) hk
 ·exact (Ju.Nr (fun i h n e=>hap _ _ _ _ (hdA i h).2.2 e rfl) fJ).ab k2
def mM (q:List Flo) (m:Flo) (body:Int):Bool:=decide (q≠[]∨m.y+m.h > body)
theorem Ht (p q:List Flo) (hp:p.length≤1000000) (hq:q.length≤1000000) (f m:Flo) (body:Int) (hr:inR .i64 (m.y+m.h)) {σ0 σJ σB:af} {ix:Nat} (hJ:SoJ σ0 ix p q σJ) (hsub:aa σJ σB) :
 az prog 151 [.ptr ix 0 0,aO f,aO m,vI body] σB fun _ σ'=>∃σJ',bb σJ σB σJ' σ'∧SoJ σ0 ix (if mM q m body then p else p++[m]) (if mM q m body then q++[f] else q) σJ':=by
 refine Np.r (by simp [KV]) ?_;obtain ⟨⟨v,u,Jx,Jv,Ju,hap⟩,Js,Jn⟩:=hJ;obtain ⟨vc,vs⟩:=Jv.vc;obtain ⟨uc,us⟩:=Ju.vc;have hfc:∀f:Flo,(aO f).cells=[vI f.node,vI f.side,vI f.anchor,vI f.x,vI f.y,vI f.w,vI f.h]:=fun _=>rfl;have hfs:∀f:Flo,(aO f).stays=true:=fun _=>rfl;refine ad.mix 5 ?_;apply sR;simp only [go_sem,seval,KV,hfc,hfs];rw [aH];intro i5 f5;have hB5:=(bb.refl hsub).pf (o:=⟨59,7,[aO f]⟩) f5;have a5:upd σB i5 ⟨59,7,[aO f]⟩ i5=some ⟨59,7,[aO f]⟩:=ag;have hagg:∀f:Flo,V.agg [vI f.node,vI f.side,vI f.anchor,vI f.x,vI f.y,vI f.w,vI f.h]=aO f:=fun _=>rfl;generalize hq5:upd σB i5 ⟨59,7,[aO f]⟩=σ5 at *;simp only [go_sem,seval,hfc,hfs];rw [aH];intro i6 f6;have hB6:=hB5.pf (o:=⟨59,7,[aO m]⟩) f6;have a6:upd σ5 i6 ⟨59,7,[aO m]⟩ i6=some ⟨59,7,[aO m]⟩:=ag;replace a5:=(ab (o:=⟨59,7,[aO m]⟩) (ao a5 f6)).trans a5;generalize hq6:upd σ5 i6 ⟨59,7,[aO m]⟩=σ6 at *;have cx:=hB6.1 _ _ Jx;have hlq:dD false u=some (.int .i64 q.length):=by have:=Ju.len; rwa [List.length_map] at this
 have hrq:((q++[f]).map aO)=q.map aO++[aO f]:=by simp
 have hrp:((p++[m]).map aO)=p.map aO++[aO m]:=by simp
 have hql:(q.map aO).length≤1000000:=by simpa using hq
 have hpl:(p.map aO).length≤1000000:=by simpa using hp
 have hql0:(q.map aO).length=q.length:=List.length_map _;rw [aO] at a5 a6;by_cases hl:mM q m body=true
 ·rw [if_pos hl,if_pos hl];by_cases hq0:q=[]
  ·have q13:((q.length:Int) > 0)=False:=by subst hq0; simp
   have qy:(m.y+m.h > body)=True:=by
    simp only [mM,hq0,decide_eq_true_eq] at hl;exact eq_true (hl.resolve_left (by simp))
   simp only [go_sem,seval,cx,vc,uc,hlq,q13,qy,hr,a5,a6];rw [aL];intro i29 f29;have hB7:=hB6.pf (o:=⟨59,7,[(V.agg [vI f.node,vI f.side,vI f.anchor,vI f.x,vI f.y,vI f.w,vI f.h])]⟩) f29;have a29:upd σ6 i29 ⟨59,7,[(V.agg [vI f.node,vI f.side,vI f.anchor,vI f.x,vI f.y,vI f.w,vI f.h])]⟩ i29=some ⟨59,7,[(V.agg [vI f.node,vI f.side,vI f.anchor,vI f.x,vI f.y,vI f.w,vI f.h])]⟩:=ag;generalize hq7:upd σ6 i29 ⟨59,7,[(V.agg [vI f.node,vI f.side,vI f.anchor,vI f.x,vI f.y,vI f.w,vI f.h])]⟩=σ7 at *;obtain ⟨idA,hda,hgr⟩:=Er hB7 Js Jn Jx Ju Jv hap.symm;generalize q.map aO=rows at *;have hb2:(rows.length+1)*57≤140737488355328:=by omega
   simp only [go_sem,seval,hda,dk a29,hb2];rw [aL];intro i30 f30;obtain ⟨m30,hx,g1,g2,g3,g4,g5⟩:=hgr i30 (rows++[(V.agg [vI f.node,vI f.side,vI f.anchor,vI f.x,vI f.y,vI f.w,vI f.h])]) ⟨256,2,[.agg [v, .own i30 0 (rows++[(V.agg [vI f.node,vI f.side,vI f.anchor,vI f.x,vI f.y,vI f.w,vI f.h])]).length]]⟩ f30;have y2:upd (Vc.bz σ7 idA) i30 ⟨59,7,rows++[(V.agg [vI f.node,vI f.side,vI f.anchor,vI f.x,vI f.y,vI f.w,vI f.h])]⟩ ix=_:=(ab m30).trans hx;have hll:(rows++[(V.agg [vI f.node,vI f.side,vI f.anchor,vI f.x,vI f.y,vI f.w,vI f.h])]).length=rows.length+1:=by simp
   rw [hll] at g1 g2 g3 g4 g5;simp only [go_sem,seval,y2,vc,uc,vs,us];refine ⟨_,_,aa.refl _,Wk.refl (aa.refl _) _,_,g2,⟨v,_,ag,g4,?_,g5.symm⟩,g1,Jn⟩;rw [hrq]; exact g3
  ·have q13:((q.length:Int) > 0)=True:=eq_true (by have:=List.length_pos_iff.2 hq0; omega);simp only [go_sem,seval,cx,vc,uc,hlq,q13,a5,a6];rw [aL];intro i29 f29;have hB7:=hB6.pf (o:=⟨59,7,[(V.agg [vI f.node,vI f.side,vI f.anchor,vI f.x,vI f.y,vI f.w,vI f.h])]⟩) f29;have a29:upd σ6 i29 ⟨59,7,[(V.agg [vI f.node,vI f.side,vI f.anchor,vI f.x,vI f.y,vI f.w,vI f.h])]⟩ i29=some ⟨59,7,[(V.agg [vI f.node,vI f.side,vI f.anchor,vI f.x,vI f.y,vI f.w,vI f.h])]⟩:=ag;generalize hq7:upd σ6 i29 ⟨59,7,[(V.agg [vI f.node,vI f.side,vI f.anchor,vI f.x,vI f.y,vI f.w,vI f.h])]⟩=σ7 at *;obtain ⟨idA,hda,hgr⟩:=Er hB7 Js Jn Jx Ju Jv hap.symm;generalize q.map aO=rows at *;have hb2:(rows.length+1)*57≤140737488355328:=by omega
   simp only [go_sem,seval,hda,dk a29,hb2];rw [aL];intro i30 f30;obtain ⟨m30,hx,g1,g2,g3,g4,g5⟩:=hgr i30 (rows++[(V.agg [vI f.node,vI f.side,vI f.anchor,vI f.x,vI f.y,vI f.w,vI f.h])]) ⟨256,2,[.agg [v, .own i30 0 (rows++[(V.agg [vI f.node,vI f.side,vI f.anchor,vI f.x,vI f.y,vI f.w,vI f.h])]).length]]⟩ f30;have y2:upd (Vc.bz σ7 idA) i30 ⟨59,7,rows++[(V.agg [vI f.node,vI f.side,vI f.anchor,vI f.x,vI f.y,vI f.w,vI f.h])]⟩ ix=_:=(ab m30).trans hx;have hll:(rows++[(V.agg [vI f.node,vI f.side,vI f.anchor,vI f.x,vI f.y,vI f.w,vI f.h])]).length=rows.length+1:=by simp
   rw [hll] at g1 g2 g3 g4 g5;simp only [go_sem,seval,y2,vc,uc,vs,us];refine ⟨_,_,aa.refl _,Wk.refl (aa.refl _) _,_,g2,⟨v,_,ag,g4,?_,g5.symm⟩,g1,Jn⟩;rw [hrq]; exact g3
 ·rw [if_neg hl,if_neg hl];simp only [mM,decide_eq_true_eq,not_or,Decidable.not_not] at hl;have q13:((q.length:Int) > 0)=False:=by rw [hl.1]; simp
  have qy:(m.y+m.h > body)=False:=eq_false hl.2;simp only [go_sem,seval,cx,vc,uc,hlq,q13,qy,hr,a5,a6];rw [aL];intro i29 f29;have hB7:=hB6.pf (o:=⟨59,7,[(V.agg [vI m.node,vI m.side,vI m.anchor,vI m.x,vI m.y,vI m.w,vI m.h])]⟩) f29;have a29:upd σ6 i29 ⟨59,7,[(V.agg [vI m.node,vI m.side,vI m.anchor,vI m.x,vI m.y,vI m.w,vI m.h])]⟩ i29=some ⟨59,7,[(V.agg [vI m.node,vI m.side,vI m.anchor,vI m.x,vI m.y,vI m.w,vI m.h])]⟩:=ag;generalize hq7:upd σ6 i29 ⟨59,7,[(V.agg [vI m.node,vI m.side,vI m.anchor,vI m.x,vI m.y,vI m.w,vI m.h])]⟩=σ7 at *;obtain ⟨idA,hda,hgr⟩:=Er hB7 Js Jn Jx Jv Ju hap;generalize p.map aO=rows at *;have hb2:(rows.length+1)*57≤140737488355328:=by omega
  simp only [go_sem,seval,hda,dk a29,hb2];rw [aL];intro i30 f30;obtain ⟨m30,hx,g1,g2,g3,g4,g5⟩:=hgr i30 (rows++[(V.agg [vI m.node,vI m.side,vI m.anchor,vI m.x,vI m.y,vI m.w,vI m.h])]) ⟨256,2,[.agg [.own i30 0 (rows++[(V.agg [vI m.node,vI m.side,vI m.anchor,vI m.x,vI m.y,vI m.w,vI m.h])]).length,u]]⟩ f30;have y2:upd (Vc.bz σ7 idA) i30 ⟨59,7,rows++[(V.agg [vI m.node,vI m.side,vI m.anchor,vI m.x,vI m.y,vI m.w,vI m.h])]⟩ ix=_:=(ab m30).trans hx;have hll:(rows++[(V.agg [vI m.node,vI m.side,vI m.anchor,vI m.x,vI m.y,vI m.w,vI m.h])]).length=rows.length+1:=by simp
  rw [hll] at g1 g2 g3 g4 g5;simp only [go_sem,seval,y2,vc,uc,vs,us];refine ⟨_,_,aa.refl _,Wk.refl (aa.refl _) _,_,g2,⟨_,u,ag,?_,g4,g5⟩,g1,Jn⟩;rw [hrp]; exact g3
open Go.Proofs Go.Proofs.Tryz
theorem bb.from {σJ σ τ σJ' σ':af} (h:bb σJ τ σJ' σ') (hs:aa σ τ):bb σJ σ σJ' σ':=⟨h.1,fun i o h1 h2=>h.2 i o h1 (hs _ _ h2)⟩
def jD (body:Int) (x:List Flo×List Flo) (f m:Flo):List Flo×List Flo:=(if mM x.2 m body then x.1 else x.1++[m],if mM x.2 m body then x.2++[f] else x.2)
def dG (top shift:Int) (f:Flo):Flo:={ f with y:=max 0 (f.y - top)+shift }
def ik (top shift body:Int) (L:List Flo):List Flo×List Flo:=L.foldl (fun x f=>jD body x f (dG top shift f)) ([],[])
theorem Aa (top shift body:Int) (L:List Flo) (f:Flo):ik top shift body (L++[f])=jD body (ik top shift body L) f (dG top shift f):=by
 unfold ik; rw [List.foldl_append]; rfl
theorem lZ (top shift body:Int) (L:List Flo):(ik top shift body L).1.length+(ik top shift body L).2.length=L.length:=by
 have key:∀(L:List Flo) (x:List Flo×List Flo),(L.foldl (fun x f=>jD body x f (dG top shift f)) x).1.length+(L.foldl (fun x f=>jD body x f (dG top shift f)) x).2.length=x.1.length+x.2.length+L.length:=by
  intro L
  induction L with
  | nil=>intro x; rfl
  | cons f L ih =>
    intro x;rw [List.foldl_cons,ih];unfold jD;split <;> simp <;> omega
 have:=key L ([],[]);simpa [ik] using this
def qN (l:List Atm) (s:Stt) (kept:Int):Int:=(atG l s.atom).y+s.done - kept
def dr (l:List Atm) (fl:List Flo) (s:Stt) (to kept shift body:Int):List Flo×List Flo:=if dt l s then ik (qN l s kept) shift body (ep fl s to) else ([],[])
theorem Ft (x:Int):(if x > 0 then x else 0)=max 0 x:=by split <;> omega
theorem Fp (l:List Atm) (hl:kR l) (fl:List Flo) (hfl:fl.length≤1000000) (hfo:∀f∈fl,f.ok) (s:Stt) (hd:s.done≤1152921504606846976) (to kept shift body:Int) (hk:-1152921504606846976≤kept∧kept≤2305843009213693952) (hsh:0≤shift∧shift≤1152921504606846976) :
 aU prog 106 [bu l,aJ fl,br s,vI to,vI kept,vI shift,vI body] (.tup [aJ (dr l fl s to kept shift body).1,aJ (dr l fl s to kept shift body).2]):=fun σ=>by
 refine NQ.r (by simp [KG]) ?_;have hs:=aa.refl σ;have hll:=hl.len;have hsc:(br s).cells=[vI s.atom,vI s.done, .bool s.free]:=rfl;have hss:(br s).stays=true:=rfl;refine ad.mix 20 ?_;apply sR;simp only [go_sem,seval,KG,hsc,hss];refine ae fun i9 σ9 s9 a9 f9=>?_;have z9:=hs.none f9;replace hs:=hs.trans s9;simp only [go_sem,seval];refine ae fun i12 σ12 s12 a12 f12=>?_;have n912:=ao a9 f12;replace a9:=s12 _ _ a9;have z12:=hs.none f12;replace hs:=hs.trans s12;simp only [go_sem,seval];refine ae fun i13 σ13 s13 a13 f13=>?_;have n913:=ao a9 f13;replace a9:=s13 _ _ a9;have n1213:=ao a12 f13;replace a12:=s13 _ _ a12;have z13:=hs.none f13;replace hs:=hs.trans s13;rw [br] at a9;simp only [go_sem,seval,a9,av,ax];refine ad.ay rfl rfl rfl (pD l s _) ?_;unfold dr;by_cases hm:dt l s
 ·rw [decide_eq_true hm,if_pos hm];obtain ⟨h0,h2⟩:=hm.1;obtain ⟨k,hkk⟩:∃k:Nat,s.atom=k:=⟨s.atom.toNat,by omega⟩
  have hkl:k < l.length:=by omega
  have hidx:=fun σ=>gV (σ:=σ) hkl;have hy:=hl.rng _ (List.getElem_mem hkl);have hd0:=hm.2.1;have htop:qN l s kept=l[k].y+s.done - kept:=by rw [qN,hkk,bn hkl]
  have r1:inR .i64 (l[k].y+s.done):=ak (by omega) (by omega);have r2:inR .i64 (l[k].y+s.done - kept):=ak (by omega) (by omega);have htr:-4611686018427387904≤qN l s kept∧qN l s kept≤4611686018427387904:=by rw [htop]; omega
  have hcl:=mA fl (if s.done > 0 then s.atom+1 else s.atom) to;have hcm:∀f∈ep fl s to,f.ok:=fun f hf=>hfo f ((List.mem_filter.1 hf).1);have hca:=D1 fl hfl s (ak (by omega) (by omega)) to;have hcl':(ep fl s to).length≤1000000:=Nat.le_trans hcl hfl;generalize ep fl s to=L at *;rw [hkk] at a9;apply sR;simp only [go_sem,seval,hkk];refine ae fun i16 σ16 s16 a16 f16=>?_;have n916:=ao a9 f16;replace a9:=s16 _ _ a9;have n1216:=ao a12 f16;replace a12:=s16 _ _ a12;have n1316:=ao a13 f16;replace a13:=s16 _ _ a13;have z16:=hs.none f16;replace hs:=hs.trans s16;simp only [go_sem,seval,a16,a9,hidx,dd,r1,r2,av,ax];refine bC fun i17 σ17 s17 a17 f17=>?_;have n917:=ao a9 f17;replace a9:=s17 _ _ a9;have n1217:=ao a12 f17;replace a12:=s17 _ _ a12;have n1317:=ao a13 f17;replace a13:=s17 _ _ a13;have n1617:=ao a16 f17;replace a16:=s17 _ _ a16;have z17:=hs.none f17;replace hs:=hs.trans s17;simp only [go_sem,seval,a17,a9,ab n917,ab n1217,ab n1317,ab n1617];generalize hq17:upd _ i17 _=τ17;replace a17:=(congrFun hq17 i17).symm.trans ag;replace a9:=((congrFun hq17 i9).symm.trans (ab n917)).trans a9;replace a12:=((congrFun hq17 i12).symm.trans (ab n1217)).trans a12;replace a13:=((congrFun hq17 i13).symm.trans (ab n1317)).trans a13;replace a16:=((congrFun hq17 i16).symm.trans (ab n1617)).trans a16;replace hs:=Eq.subst (motive:=aa _) hq17 (hs.aB z17);clear hq17;rw [br,hkk] at hca;refine ad.ay rfl rfl rfl (hca _) ?_;apply sR;simp only [go_sem,seval];refine ad.ay rfl rfl rfl (Jj L _) ?_;apply sR;simp only [go_sem,seval];rw [←htop] at a17;generalize qN l s kept=top at *;generalize hS:mix 20 _ _=S;have S12:S 12=.ptr i12 0 0:=by rw [←hS]; rfl
  have S13:S 13=.ptr i13 0 0:=by rw [←hS]; rfl
  have S16:S 16=.ptr i16 0 0:=by rw [←hS]; rfl
  have S17:S 17=.ptr i17 0 0:=by rw [←hS]; rfl
  have S39:S 39=.fn 182 [.rp (aJ L)]:=by rw [←hS]; rfl
  clear hS;obtain ⟨σ0,hσ0⟩:∃σ0,σ0=del τ17 i16:=⟨_,rfl⟩
  have d0:∀i,i≠i16→σ0 i=τ17 i:=fun i hi=>by rw [hσ0]; exact dh hi
  have b12:σ0 i12=_:=(d0 _ n1216).trans a12;have b13:σ0 i13=_:=(d0 _ n1316).trans a13;have b17:σ0 i17=_:=(d0 _ n1617.symm).trans a17;have b16:σ0 i16=none:=by rw [hσ0]; simp [del]
  have hs0:aa σ σ0:=fun i o h=>by
   rw [d0 i (fun e=>by rw [e,z16] at h; cases h)]; exact hs _ _ h
  have h16:SoJ σ0 i16 [] [] τ17:=⟨⟨.aD, .aD,a16,aM.start,aM.start,du.aD _⟩,hσ0 ▸ aa.wC _ _,b16⟩
  refine ad.cC (g:=.t 39) (caps:=[.rp (aJ L)]) S39 (Cy L hcl') (fun y hy=>?_) [] (fun pre σJ=>SoJ σ0 i16 (ik top shift body (L.take pre.length)).1 (ik top shift body (L.take pre.length)).2 σJ)
   (fun _ _ _=>False) ?_ ?_ ?_ ?_ ?_
  ·obtain ⟨t,_,rfl⟩:=List.mem_map.1 hy; rfl
  ·exact h16
  ·rintro pre y post σJ σB hxs hJ hsub;obtain ⟨f,hf,rfl⟩:=oI hxs;obtain ⟨hlt,hfe⟩:=List.getElem?_eq_some_iff.1 hf;have hlen:(pre++[[aO f]]).length=pre.length+1:=by simp
   have htk:L.take (pre.length+1)=L.take pre.length++[f]:=by rw [List.take_succ_eq_append_getElem hlt,hfe]
   have hkl:=lZ top shift body (L.take pre.length);have hpl:(L.take pre.length).length≤1000000:=by rw [List.length_take]; omega
   rw [hlen,htk,Aa];generalize ik top shift body (L.take pre.length)=x at *;have hfo':=hcm f (List.mem_of_getElem? hf);have a12:=hsub _ _ (hJ.sub _ _ b12);have a13:=hsub _ _ (hJ.sub _ _ b13);have a17:=hsub _ _ (hJ.sub _ _ b17);obtain ⟨o1,o2,o3,o4⟩:=hfo';unfold Bq at o1 o2 o3 o4;have q1:inR .i64 (f.y - top):=ak (by omega) (by omega);have q2:inR .i64 (max 0 (f.y - top)+shift):=ak (by omega) (by omega);generalize hSS:lk S [40] [aO f]=S0;have T12:S0 12=.ptr i12 0 0:=by rw [←hSS]; exact S12
   have T13:S0 13=.ptr i13 0 0:=by rw [←hSS]; exact S13
   have T16:S0 16=.ptr i16 0 0:=by rw [←hSS]; exact S16
   have T17:S0 17=.ptr i17 0 0:=by rw [←hSS]; exact S17
   have T40:S0 40=.agg [vI f.node,vI f.side,vI f.anchor,vI f.x,vI f.y,vI f.w,vI f.h]:=by rw [←hSS]; rfl
   clear hSS;have hs:=aa.refl σB;refine ad.mix 20 ?_;apply sR;simp only [go_sem,seval];refine ae fun i18 σ18 s18 a18 f18=>?_;have n1218:=ao a12 f18;replace a12:=s18 _ _ a12;have n1318:=ao a13 f18;replace a13:=s18 _ _ a13;have n1718:=ao a17 f18;replace a17:=s18 _ _ a17;have z18:=hs.none f18;replace hs:=hs.trans s18;simp only [go_sem,seval,a18,T40];generalize hq18:upd _ i18 _=τ18;replace a18:=(congrFun hq18 i18).symm.trans ag;replace a12:=((congrFun hq18 i12).symm.trans (ab n1218)).trans a12;replace a13:=((congrFun hq18 i13).symm.trans (ab n1318)).trans a13;replace a17:=((congrFun hq18 i17).symm.trans (ab n1718)).trans a17;replace hs:=Eq.subst (motive:=aa _) hq18 (hs.aB z18);clear hq18;apply sR;simp only [go_sem,seval,a18];refine ae fun i19 σ19 s19 a19 f19=>?_;have n1819:=ao a18 f19;replace a18:=s19 _ _ a18;have n1219:=ao a12 f19;replace a12:=s19 _ _ a12;have n1319:=ao a13 f19;replace a13:=s19 _ _ a13;have n1719:=ao a17 f19;replace a17:=s19 _ _ a17;have z19:=hs.none f19;replace hs:=hs.trans s19;simp only [go_sem,seval,a19,a18,a17,a12,a13,T12,T13,T16,T17,ab n1819,ab n1719,ab n1219,ab n1319,q1,q2,Ft];generalize hq19:upd _ i19 _=τ19;replace a19:=(congrFun hq19 i19).symm.trans ag;replace a18:=((congrFun hq19 i18).symm.trans (ab n1819)).trans a18;replace a12:=((congrFun hq19 i12).symm.trans (ab n1219)).trans a12;replace a13:=((congrFun hq19 i13).symm.trans (ab n1319)).trans a13;replace a17:=((congrFun hq19 i17).symm.trans (ab n1719)).trans a17;replace hs:=Eq.subst (motive:=aa _) hq19 (hs.aB z19);clear hq19;have hc:=Ht x.1 x.2 (by omega) (by omega) f (dG top shift f) body (ak (by simp only [dG]; omega) (by simp only [dG]; omega)) hJ (hsub.trans hs);rw [←T16] at hc;refine ad.call rfl rfl rfl hc ?_;rintro - σ2 ⟨σJ',hB,hJ'⟩;apply sR;simp only [go_sem,seval];exact ⟨_,hB.from hs,hJ'⟩
  ·rintro σ' hJ;have hbl:(L.map fun f=>[aO f]).length=L.length:=by simp
   rw [hbl,List.take_length] at hJ;obtain ⟨⟨v,u,Jx,Jv,Ju,_⟩,Js,Jn⟩:=hJ;obtain ⟨vc,vs⟩:=Jv.vc;obtain ⟨uc,us⟩:=Ju.vc;refine ad.mix 20 ?_;apply sR;simp only [go_sem,seval,S16,Jx,vc,uc,vs,us];have hst:=hs0.trans Js;have hK:aa σ (aZ σ0 i16):=fun i o hh=>by
    rw [aZ,if_neg (fun e=>by rw [e,z16] at hh; cases hh)]; exact hs0 _ _ hh
   exact ⟨_,σ,hst,Wk.tup (vs':=[aJ (ik top shift body L).1,aJ (ik top shift body L).2]) ⟨Jv.wk hK hst,Ju.wk hK hst,trivial⟩,rfl,rfl⟩
  ·intro id h; cases h
  ·rintro pre σ' _ ⟨⟩
 ·rw [decide_eq_false hm,if_neg hm];apply sR;simp only [go_sem,seval];exact ⟨_,σ,hs,Wk.tup (vs':=[aJ [],aJ []]) ⟨Wk.aD 7,Wk.aD 7,trivial⟩,rfl,rfl⟩
variable {P:Program} {n:Nat} {st:St} {Q:St→Prop} {k:List It} {μ:Mu} {w:World}
theorem GR {o:Op} {sz:Nat} {xs:List VX} (h:cop P n o=.more (.cpy sz) xs):∃x y t e args argTypes,o=.call { callee:=.builtin .copy,args:=args,argTypes:=argTypes } ∧
 args=#[x,y]∧argTypes[0]?=some t∧P.underlying t=some (.slice e)∧bO P e=true∧P.cellsOf e=sz∧xs=[cx n x,cx n y]:=by
 cases o
 case call c =>
  obtain ⟨callee,args,argTypes⟩:=c;cases callee
  case builtin b =>
   cases b
   case copy =>
    simp only [cop,ct] at h;split at h
    ·rename_i x y t h1 h2;split at h
     ·rename_i e he;split at h
      ·rename_i hz;simp only [VOp.more.injEq,MOp.cpy.injEq] at h;exact ⟨x,y,t,e,args,argTypes,rfl,by apply Array.ext'; simpa using h1,h2,he,hz,h.1,h.2.symm⟩
      ·cases h
     ·cases h
    ·cases h
   all_goals (simp only [cop,ct] at h; (repeat' split at h) <;> cases h)
  all_goals (simp only [cop,ct] at h; (repeat' split at h) <;> cases h)
 case unOp op t x=>cases op <;> simp only [cop,ct] at h <;> cases h
 case makeFunc f a b=>cases f <;> simp only [cop,ct] at h <;> (repeat' split at h) <;> cases h
 all_goals (simp only [cop,ct] at h; (repeat' split at h) <;> cases h)
theorem Dx {F:Fr} {a:Act} (hs:cN F μ st a w) {o:Oper} {x y:Operand} {t e:TypeId} {args:Array Operand} {argTypes:Array TypeId}
 (hoo:o.op=.call { callee:=.builtin .copy,args:=args,argTypes:=argTypes }) (harg:args=#[x,y]) (hty:argTypes[0]?=some t)
 (ht:P.underlying t=some (.slice e)) (hk:bO P e=true) {id off len:Nat} (h1:(cx F.n x).ev st.s=.own id off len) {ob:Ob} (h2:st.σ id=some ob)
 (h3:ob.sz=P.cellsOf e) (h4:off+len≤ob.rows.length) {rows:List V} (h5:bK st.σ (P.cellsOf e) ((cx F.n y).ev st.s)=some rows) (h6:rows.length=len) :
 ∃y w',(execOp a.eval o).run P w=.ok (.value y) w' ∧
  cN F μ ⟨aV st.s (o.dst.filter (· < F.n)) (.int .i64 len),upd st.σ id { ob with rows:=ob.rows.take off++rows++ob.rows.drop (off+len) }⟩ (a.put o.dst y) w':=by
 have hpos:=(dp hk).2.2;have R:=ck hs;have hx:=R x;rw [h1] at hx;simp only [Rep] at hx;obtain ⟨news,hY,n1,n2,n3,n4,n5⟩:=mW (P:=P) hs.sat hpos h5 (R y);have hrun:∀v w',(Builtin.copy_ argTypes o.type #[a.eval x,a.eval y]).run P w=.ok v w'→(execOp a.eval o).run P w=.ok (.value v) w':=by
  intro v w' hw';unfold execOp;rw [hoo];simp [resolve,invoke,Go.builtin,harg,hw']
 have hrep:Rep μ (aC μ st.σ) w (.int .i64 len) (goInt len):=by simp only [Rep]; rfl
 have hcopy:∀b c,a.eval x=.slice b len c→(Builtin.copy_ argTypes o.type #[a.eval x,a.eval y]).run P w=((match b with | some q=>storeCells q news 0 | none=>pure ()).run P w).andThen fun _ w'=>.ok (goInt len) w':=by
  intro b c hX;have hlen:=hY w;have hfc:=n5 w (fun _ _ _ h=>h);rw [h6] at hlen hfc;rw [hX];have hm:Nat.min len len=len:=Nat.min_self len;cases b
  ·simp [Builtin.copy_,hty,run_underlying ht,hlen,hm,bW hk,hfc]
  ·simp [Builtin.copy_,hty,run_underlying ht,hlen,hm,bW hk,hfc]
 have hzero:len=0→∃y w',(execOp a.eval o).run P w=.ok (.value y) w' ∧
  cN F μ ⟨aV st.s (o.dst.filter (· < F.n)) (.int .i64 len),upd st.σ id { ob with rows:=ob.rows.take off++rows++ob.rows.drop (off+len) }⟩ (a.put o.dst y) w':=by
  intro h0;subst h0;have hX:∃b c,a.eval x=.slice b 0 c:=by
   split at hx
   ·exact hx.elim
   ·exact ⟨_,_,hx.1⟩
   ·obtain ⟨o',c,h,_⟩:=hx; exact ⟨_,_,h⟩
  obtain ⟨b,c,hX⟩:=hX;obtain rfl:rows=[]:=List.eq_nil_of_length_eq_zero h6;obtain rfl:news=[]:=List.eq_nil_of_length_eq_zero (by simpa using n4);have hst:upd st.σ id { ob with rows:=ob.rows.take off++[]++ob.rows.drop (off+0) }=st.σ:=by
   funext j;simp only [upd,List.append_nil,Nat.add_zero,List.take_append_drop];split
   ·rename_i e'; rw [e',h2]
   ·rfl
  rw [hst];refine ⟨goInt 0,w,hrun _ w ?_,hs.pure hrep⟩;rw [hcopy b c hX];cases b <;> simp [storeCells]
 split at hx
 ·exact hx.elim
 ·exact hzero hx.2.2
 ·rename_i b szb cap hid;obtain ⟨o',c,hX,c1,c2,c3,hz0⟩:=hx;by_cases h0:len=0
  ·exact hzero h0
  have hob:=hs.sat.obj id ob h2;rw [hid] at hob;obtain ⟨cur,e1,e2,e3,e4,e5,e6,e7⟩:=hob.plain hz0;obtain ⟨g1,xs,g2,g3,g4,g5⟩:=e7.cur e1;have hoff:o'=off*szb:=by
   rcases c3 with c3 | c3
   ·exact c3
   ·omega
  subst hoff;have hs':szb=P.cellsOf e:=by omega
  subst hs';have hbound:off*P.cellsOf e+len*P.cellsOf e≤ob.rows.length*P.cellsOf e:=by rw [←Nat.add_mul]; exact Nat.mul_le_mul_right _ h4
  have hbound2:ob.rows.length*P.cellsOf e≤cap*P.cellsOf e:=Nat.mul_le_mul_right _ e5;rw [h6] at n4;have hst:=run_storeCells_at P b (off*P.cellsOf e) ob.elem news 0 cur w e1 (by rw [n4]; omega) n3;simp only [Nat.add_zero] at hst;refine ⟨goInt len,w.setRow b (cur.toList.take (off*P.cellsOf e)++news++cur.toList.drop (off*P.cellsOf e+news.length)).toArray,hrun _ _ ?_,?_⟩
  ·rw [hcopy _ c hX];simp only [hst,Result.andThen_ok]
  ·have hgrow:w.grownBy (w.setRow b (cur.toList.take (off*P.cellsOf e)++news++cur.toList.drop (off*P.cellsOf e+news.length)).toArray) (some b) :=
    ⟨rfl,rfl,rfl,by simp,fun kk _ hkk=>setRow_other w b kk _ (fun e=>hkk (by rw [e]))⟩
   have hrows':∀q∈ob.rows.take off++rows++ob.rows.drop (off+len),q.cells.length=P.cellsOf e:=by
    intro q hq;simp only [List.mem_append] at hq;rcases hq with (hq | hq) | hq
    ·exact g1 q (List.mem_of_mem_take hq)
    ·exact n1 q hq
    ·exact g1 q (List.mem_of_mem_drop hq)
   have hflat:flat (ob.rows.take off++rows++ob.rows.drop (off+len)) =
    (flat ob.rows).take (off*P.cellsOf e)++flat rows++(flat ob.rows).drop (off*P.cellsOf e+len*P.cellsOf e):=by
    rw [gi,gi,o9 g1];congr 1;rw [vw g1,Nat.add_mul]
   have hch:=hs.sat.change h2 hid (by omega) hgrow _ (ob.rows.take off++rows++ob.rows.drop (off+len)) (xs.take (off*P.cellsOf e)++news++xs.drop (off*P.cellsOf e+news.length))
    (setRow_heap w b cur _ ob.elem _ e1) (by simp only [List.size_toArray,List.length_append,List.length_take,List.length_drop,n4]; rw [Array.length_toList]; omega) (by simp; omega) hrows'
    (by rw [hflat,n4]; exact ((g2.take _).append n2).append (g2.drop _))
    (by intro u hu
        simp only [List.mem_append] at hu;rcases hu with (hu | hu) | hu
        ·exact g3 u (List.mem_of_mem_take hu)
        ·exact n3 u hu
        ·exact g3 u (List.mem_of_mem_drop hu))
    (by intro j u hu
        have:=jT cur.toList xs _ g5 (off*P.cellsOf e) (by rw [n4,g4]; omega) j u hu;simpa using this)
   exact hs.step hch.1 (cH.refl _) hch.2 (by simp) (by simp only [Rep]; rfl)
theorem ad.cpy {i:aG} {l:List aG} {sz:Nat} {xa xb:VX} (hw:bh st.s i.g=some true) (ho:i.op=.more (.cpy sz) [xa,xb])
 {id off len:Nat} (h1:xa.ev st.s=.own id off len) {ob:Ob} (h2:st.σ id=some ob) (h3:ob.sz=sz) (h4:off+len≤ob.rows.length) {rows:List V} (h5:bK st.σ sz (xb.ev st.s)=some rows) (h6:rows.length=len)
 (h:ad P n (.ops l::k) ⟨aV st.s i.dst (.int .i64 len),upd st.σ id { ob with rows:=ob.rows.take off++rows++ob.rows.drop (off+len) }⟩ Q):ad P n (.ops (i::l)::k) st Q:=by
 refine ad.ins (by rw [ho]; simp) hw fun F hn μ a w o all hi hs next Q' hnext=>?_
 subst hn;obtain ⟨hop,hd⟩:=dV hi;rw [ho] at hop;obtain ⟨x,y,t,e,args,argTypes,g1,g2,g3,g4,g5,rfl,hxs⟩:=GR hop;simp only [List.cons.injEq,and_true] at hxs;obtain ⟨rfl,rfl⟩:=hxs;obtain ⟨y,w',hx,hs'⟩:=Dx hs g1 g2 g3 g4 g5 h1 h2 h3 h4 h5 h6;unfold Oper.wp;rw [hx];refine hnext _ _ _ ⟨μ,?_⟩ h;rw [←hd];exact hs'
open Go.Proofs Go.Proofs.Tryz
def cB (body:Int):List Flo→Int→List Flo×List Flo×Int
 | [],sh=>([],[],sh)
 | f::r,sh=>if sh+min f.h body > body then ([],f::r,sh) else ({ f with y:=sh,h:=min f.h body }::(cB body r (sh+min f.h body)).1,(cB body r (sh+min f.h body)).2)
theorem pc {P:List Flo} {j:Nat} (h:j≤P.length):∀σ,cy σ 7 (aJ P) (some (.int .i64 j)) none none=some (aJ (P.drop j)):=fun σ=>by
 have h1:(j:Int)≤P.length:=by omega
 simp only [aJ,cy,bx,List.length_map];rw [if_pos ⟨by omega,h1,Int.le_refl _,Int.le_refl _,trivial⟩,Int.toNat_natCast,Int.toNat_natCast,←List.map_drop,List.take_of_length_le (by simp)]
theorem IJ (P:List Flo) (hP:P.length≤1000000) (body:Int) (hb0:1≤body) (hb1:body≤1099511627776) (hh:∀f∈P,0≤f.h) :
 aU prog 42 [aJ P,vI body] (.tup [aJ (cB body P 0).1,aJ (cB body P 0).2.1,vI (cB body P 0).2.2]):=fun σ=>by
 refine e42.r (by simp [c42]) ?_;have hs:=aa.refl σ;have hlp:=fF P;refine ad.mix 13 ?_;apply sR;simp only [go_sem,seval,c42,hlp];refine ad.eS (fun st=>∃p q sh,cB body P 0=(p,q,sh)∧aa σ st.σ∧aM σ st.σ 59 7 (st.s 4) (p.map aO)∧aM σ st.σ 59 7 (st.s 5) (q.map aO)∧st.s 6=vI sh)
  (fun m st=>∃(j:Nat) (acc:List Flo) (sh:Int),j≤P.length∧m=P.length - j∧acc.length=j∧cB body P 0=(acc++(cB body (P.drop j) sh).1,(cB body (P.drop j) sh).2)∧0≤sh∧sh≤body∧aa σ st.σ∧aM σ st.σ 59 7 (st.s 4) (acc.map aO)∧st.s 5=.aD∧st.s 6=vI sh∧st.s 0=aJ P∧st.s 1=vI body∧st.s 10=aJ P∧st.s 11=vI P.length∧st.s 12=vI j) P.length ?_ ?_ ?_
 ·exact ⟨0,[],0,by omega,rfl,rfl,rfl,by omega,by omega,hs,aM.start,rfl,rfl,rfl,rfl,rfl,rfl,rfl⟩
 ·clear hs;rintro m ⟨S,τ⟩ ⟨j,acc,sh,hj,rfl,hal,heq,h0,h1,hs,ho,t5,t6,t0,t1,t10,t11,t12⟩;simp only at hs ho t5 t6 t0 t1 t10 t11 t12;generalize hv4:S 4=v4 at ho;refine ad.mix 13 ?_;by_cases hlt:j < P.length
  ·have q:((j:Int) < P.length)=True:=eq_true (by omega);have hidx:=fun σ=>jK (σ:=σ) hlt;have hf0:=hh _ (List.getElem_mem hlt);have hd:P.drop j=P[j]::P.drop (j+1):=List.drop_eq_getElem_cons hlt;have hfl:aO P[j]=.agg [vI P[j].node,vI P[j].side,vI P[j].anchor,vI P[j].x,vI P[j].y,vI P[j].w,vI P[j].h]:=rfl;rw [hd,cB] at heq;generalize P[j]=f at *;have hsσ:=hs;replace hs:=aa.refl τ;have r1:inR .i64 ((j:Int)+1):=ak (by omega) (by omega);have r2:inR .i64 (sh+min f.h body):=ak (by omega) (by omega);apply sR;simp only [go_sem,seval,t0,t1,t5,t6,t10,t11,t12,hv4,q,hidx,hfl];refine ae fun i8 σ8 s8 a8 f8=>?_;have z8:=hs.none f8;replace hs:=hs.trans s8;simp only [go_sem,seval,a8,t0,t1,t5,t6,t10,t11,t12,hv4];generalize hq8:upd _ i8 _=τ8;replace a8:=(congrFun hq8 i8).symm.trans ag;replace hs:=Eq.subst (motive:=aa _) hq8 (hs.aB z8);clear hq8;refine ae fun i9 σ9 s9 a9 f9=>?_;have n89:=ao a8 f9;replace a8:=s9 _ _ a8;have z9:=hs.none f9;replace hs:=hs.trans s9;simp only [go_sem,seval,a9,a8,t0,t1,t5,t6,t10,t11,t12,hv4,dc,ab n89,ab n89];generalize hq9:upd _ i9 _=τ9;replace a9:=(congrFun hq9 i9).symm.trans ag;replace a8:=((congrFun hq9 i8).symm.trans (ab n89)).trans a8;replace hs:=Eq.subst (motive:=aa _) hq9 (hs.aB z9);clear hq9;refine ad.qS (by kernel_rfl) [0,1,2,3,4,5,6,7,8] [[],[],[1],[],[1,2,3],[0],[0,5],[0,1,2,3,4,5,6],[0,1,2,3,4,5,6,7]] [0,2,4,6,8,10,12,5,14,16] (by kernel_rfl) (by kernel_rfl) ?_;refine RE.seg (n:=0) [5,14,16] [0,2,4,6,8,10,12] [⟨(.some 18),(.mov (.t 6)),.none⟩,⟨(.some 19),(.fldA .false 6 1 (.t 8)),.none⟩,⟨(.some 20),(.load .false 1 (.t 19)),.none⟩,⟨(.some 21),(.mov (.t 1)),.none⟩,⟨(.some 22),(.minmax .false (.t 20) (.t 21)),.none⟩,⟨(.some 23),(.fldA .false 4 1 (.t 9)),.none⟩,⟨.none,(.store 1 (.t 23) (.t 18)),.none⟩] rfl rfl ?_;apply sG;simp only [go_sem,seval,a9,a8,t6,t1,eI];refine RE.chk rfl rfl rfl rfl rfl trivial (by simp only [go_sem,seval,a9,a8,t6,t1,eI,ab n89,ab n89]) ?_;refine RE.seg (n:=0) [] [14,16] [⟨(.some 24),(.fldA .false 6 1 (.t 9)),.none⟩,⟨.none,(.store 1 (.t 24) (.t 22)),.none⟩] rfl rfl ?_;apply sG;simp only [go_sem,seval,a9,a8,t6,t1,eI,ab n89,ab n89];generalize hq9:upd _ i9 _=τ9;replace a9:=(congrFun hq9 i9).symm.trans ag;replace a8:=((congrFun hq9 i8).symm.trans (ab n89)).trans a8;replace hs:=Eq.subst (motive:=aa _) hq9 (hs.aB z9);clear hq9;by_cases hgt:sh+min f.h body > body
   ·have q1:(sh+min f.h body > body)=True:=eq_true hgt;rw [if_pos hgt] at heq;have r3:inR .i64 ((P.length:Int) - j):=ak (by omega) (by omega);apply sR;simp only [go_sem,seval,a9,a8,t0,t1,t5,t6,t10,t11,t12,hv4,hlp,r2,q1,r3];obtain ⟨n,hn⟩:∃n:Nat,n=P.length - j:=⟨_,rfl⟩
    have hnj:(P.length:Int) - j=(n:Int):=by omega
    rw [hnj];have hbm:(0:Int)≤n∧(n:Int).toNat*57≤140737488355328:=by omega
    simp only [go_sem,seval,hbm];refine ae fun i36 σ36 s36 a36 f36=>?_;have hsl:=pc hj;simp only [BB,seval,←decide_not,bp,eQ,aE,cG,eG,ed,eF,dQ,cd,kv,gr,bE,fL,dM,eB,cK,bx,ir,de,cI,cc,eff,kc,da,bS,jS,dT,cj,dO,cU,kP,binBV,bT,dq,V.cells,V.stays,t0,t5,hsl,Int.toNat_natCast];have hnl:(P.drop j).length=n:=by rw [List.length_drop,hn]
    refine ad.cpy (id:=i36) (off:=0) (len:=n) (rows:=(P.drop j).map aO) rfl rfl rfl a36 rfl (by simp) rfl (by rw [List.length_map,hnl]) ?_;have hrw:(List.replicate (n:Int).toNat (V.agg [vI 0,vI 0,vI 0,vI 0,vI 0,vI 0,vI 0])).take 0++(P.drop j).map aO++(List.replicate (n:Int).toNat (V.agg [vI 0,vI 0,vI 0,vI 0,vI 0,vI 0,vI 0])).drop (0+n)=(P.drop j).map aO:=by
     generalize (P.drop j).map aO=X;simp
    rw [hrw];apply sR;simp only [go_sem,seval,t0,t1,t6,t10,t11,t12,hv4];have hst:=(hsσ.trans (hs.trans s36)).aB (o:=⟨59,7,(P.drop j).map aO⟩) ((hsσ.trans hs).none f36);refine ⟨acc,P.drop j,sh,?_,hst,?_,?_,rfl⟩
    ·rw [heq,List.append_nil,hd]
    ·exact ho.mono ((hs.trans s36).aB (hs.none f36))
    ·exact aM.new (by rw [List.length_map,hnl]) ag ((hsσ.trans hs).none f36)
   ·have q1:(sh+min f.h body > body)=False:=eq_false hgt;rw [if_neg hgt] at heq;apply sR;simp only [go_sem,seval,a9,a8,t0,t1,t5,t6,t10,t11,t12,hv4,r2,q1];refine ae fun i44 σ44 s44 a44 f44=>?_;obtain ⟨idA,hda,hdel,hd1,hd2⟩:=ho.AV (hs.trans s44);have hlm:(acc.map aO).length=j:=by rw [List.length_map,hal]
    have hb2:(j+1)*57≤140737488355328:=by omega
    simp only [go_sem,seval,hda,dk a44,hlm,hb2];refine ew fun i45 σ45 s45 a45 f45=>?_;have b9:=s45 _ _ ((hd2 i9 z9 σ44).trans (s44 _ _ a9));have k45:=(hdel σ (aa.refl _) σ44 (hsσ.trans (hs.trans s44))).trans s45;have n45:σ i45=none:=(hsσ.trans (hs.trans s44)).none f45;simp only [go_sem,seval,t0,t1,t5,t6,t10,t11,t12,b9,r1,r2];refine ⟨_,?_,j+1,acc++[{ f with y:=sh,h:=min f.h body }],sh+min f.h body,by omega,rfl,by simp [hal],?_,by omega,by omega,k45,?_,by simp⟩
    ·omega
    ·rw [heq,List.append_assoc]; rfl
    ·rw [List.map_append];exact aM.new (by simp [hal]) a45 n45
  ·have q:((j:Int) < P.length)=False:=eq_false (by omega);have hje:j=P.length:=by omega
   rw [hje,List.drop_length,cB,List.append_nil] at heq;apply sR;simp only [go_sem,seval,t0,t1,t5,t6,t10,t11,t12,hv4,q];exact ⟨acc,[],sh,heq,hs,hv4 ▸ ho,aM.start,rfl⟩
 ·rintro ⟨S,τ⟩ ⟨p,q,sh,heq,hs,ho,hu,t6⟩;simp only at hs ho hu t6;generalize hv4:S 4=v4 at ho;generalize hv5:S 5=v5 at hu;refine ad.mix 13 ?_;apply sR;simp only [go_sem,seval,hv4,hv5,t6];rw [heq];exact ⟨_,σ,hs,Wk.tup (vs':=[aJ p,aJ q,vI sh]) ⟨ho.wk (aa.refl _) hs,hu.wk (aa.refl _) hs,Wk.refl hs _,trivial⟩,rfl,rfl⟩
open Go.Proofs Go.Proofs.Tryz
structure Bk where
 nodes:List Nd
 (w h:Int)
 atoms:List Atm
 fls:List Flo
 height:Int
 brks:List Brk
def bL (b:Bk):V:=.agg [aI b.nodes,vI b.w,vI b.h,bu b.atoms,aJ b.fls,vI b.height,bF b.brks]
structure Wx where
 heads:V
 (high body:Int)
 s:Stt
 kind:Int
 (hs fs ls:List Frg)
 shift:Int
def cQ (b:Bk) (x:Wx) (vh vf vl:V):Ob:=⟨102,13,[.agg [x.heads,vI x.high,vI x.body, .rp (bL b),vI x.s.atom,vI x.s.done, .bool x.s.free,vI 0,vI x.kind,vh,vf,vl,vI x.shift]]⟩
structure WxJ (b:Bk) (K:af) (ix:Nat) (x:Wx) (σ:af) (vh vf vl:V):Prop where
 row:σ ix=some (cQ b x vh vf vl)
 oh:aM (aZ K ix) σ 57 7 vh (x.hs.map aW)
 of:aM (aZ K ix) σ 57 7 vf (x.fs.map aW)
 ol:aM (aZ K ix) σ 57 7 vl (x.ls.map aW)
 hf:du vh vf
 hl:du vh vl
 fl:du vf vl
 sub:aa K σ
 no:K ix=none
theorem WxJ.mono {b:Bk} {K:af} {ix:Nat} {x:Wx} {σ τ:af} {vh vf vl:V} (h:WxJ b K ix x σ vh vf vl) (hs:aa σ τ):WxJ b K ix x τ vh vf vl :=
 ⟨hs _ _ h.row,h.oh.mono hs,h.of.mono hs,h.ol.mono hs,h.hf,h.hl,h.fl,h.sub.trans hs,h.no⟩
theorem xK {K σ8:af} {ix e sz:Nat} {v:V} {rows:List V} (Js:aa K σ8) (Jn:K ix=none) {ox:Ob} (Jx:σ8 ix=some ox) (Jv:aM (aZ K ix) σ8 e sz v rows) :
 ∃idA,bR σ8 e sz v=some (rows,idA)∧∀(σ9:af) (id:Nat) (rows':List V),aa (Vc.bz σ8 idA) σ9→σ9 id=some ⟨e,sz,rows'⟩→σ8 id=none →
  σ9 ix=some ox∧∀o',aa K (upd σ9 ix o')∧aM (aZ K ix) (upd σ9 ix o') e sz (.own id 0 rows'.length) rows' ∧
  ∀u rowsU,aM (aZ K ix) σ8 e sz u rowsU→du v u→aM (aZ K ix) (upd σ9 ix o') e sz u rowsU∧du (.own id 0 rows'.length) u:=by
 obtain ⟨idA,hda,hdA⟩:=Jv.Mw (aa.refl σ8);have k2:aZ K ix ix≠none:=fun h=>(aF.1 h).1 rfl;have dne:∀(i:Nat),aZ K ix i≠none→Vc.bz σ8 idA i=σ8 i:=fun i hk=>by
  cases idA with
  | none=>rfl
  | some a=>exact dh (fun e=>hk (by rw [e]; exact (hdA a rfl).1))
 refine ⟨idA,hda,fun σ9 id rows' hs9 h9 f=>⟨hs9 _ _ ((dne _ k2).trans Jx),fun o'=>⟨?_,?_,fun u rowsU hu hap=>⟨?_,du.new hu f⟩⟩⟩⟩
 ·refine aa.aB (fun i o h=>hs9 _ _ ((dne _ (fun hk=>?_)).trans (Js _ _ h))) Jn;rw [(aF.1 hk).2] at h; cases h
 ·have m:id≠ix:=fun e=>by rw [e,Jx] at f; cases f
  refine aM.new rfl ((ab m).trans h9) (aF.2 ⟨m,?_⟩);exact Js.none f
 ·rcases hu with h | ⟨a,rfl,h1,h2⟩
  ·exact .inl h
  ·refine .inr ⟨a,rfl,(ab (aF.1 h2).1).trans (hs9 _ _ ?_),h2⟩;cases hA:idA with
   | none=>exact h1
   | some i =>
     have:a≠i:=fun e=>hap _ _ _ _ (hdA i hA).2.2 rfl e.symm;simp only [Vc.bz]; rw [dh this]; exact h1
def jv (high:Int) (f:Flo):Frg:=⟨f.node, -1,0,f.x,f.y+high,f.w,f.h⟩
def Wx.put (x:Wx) (l:List Flo):Wx:={ x with ls:=x.ls++l.map (jv x.high) }
theorem l9 (b:Bk) (l:List Flo) (hl:l.length≤1000000) (x:Wx) (hx:x.ls.length≤1000000) (hr:∀f∈l,inR .i64 (f.y+x.high)) {K σ:af} {i1:Nat} {vh vf vl:V} (hJ:WxJ b K i1 x σ vh vf vl) :
 az prog 43 [.ptr i1 0 0,aJ l] σ fun _ σ'=>∃vl',WxJ b K i1 (x.put l) σ' vh vf vl':=by
 refine e43.r (by simp [c43]) ?_;have hln:=fF l;obtain ⟨ch,sh⟩:=hJ.oh.vc;obtain ⟨cf,sf⟩:=hJ.of.vc;refine ad.mix 9 ?_;apply sR;simp only [go_sem,seval,c43,hln];refine ad.loop (fun m st=>∃(j:Nat) (vl':V),j≤l.length∧m=l.length - j∧WxJ b K i1 (x.put (l.take j)) st.σ vh vf vl'∧st.s 0=.ptr i1 0 0∧st.s 6=aJ l∧st.s 7=vI l.length∧st.s 8=vI j) l.length ?_ ?_
 ·exact ⟨0,vl,by omega,rfl,by simpa [Wx.put] using hJ,rfl,rfl,rfl,rfl⟩
 ·rintro m ⟨S,τ⟩ ⟨j,vl',hj,rfl,hJ,t0,t6,t7,t8⟩;simp only at hJ t0 t6 t7 t8;refine ad.mix 9 ?_;by_cases hlt:j < l.length
  ·have q:((j:Int) < l.length)=True:=eq_true (by omega);have hidx:=fun σ=>jK (σ:=σ) hlt;have hfl:aO l[j]=.agg [vI l[j].node,vI l[j].side,vI l[j].anchor,vI l[j].x,vI l[j].y,vI l[j].w,vI l[j].h]:=rfl;have htk:l.take (j+1)=l.take j++[l[j]]:=List.take_succ_eq_append_getElem hlt;have hput:x.put (l.take (j+1))={ x.put (l.take j) with ls:=(x.put (l.take j)).ls++[jv x.high l[j]] }:=by
    rw [htk]; simp only [Wx.put,List.map_append,List.map_cons,List.map_nil,List.append_assoc]
   have r0:=hr _ (List.getElem_mem hlt);have r1:inR .i64 ((j:Int)+1):=ak (by omega) (by omega);have hyl:((x.put (l.take j)).ls.map aW).length≤2000000:=by simp [Wx.put]; omega
   have hyh:(x.put (l.take j)).high=x.high:=rfl;rw [←hyh] at hput r0;generalize l[j]=f at *;generalize x.put (l.take j)=y at *;have hs:=aa.refl τ;have a1:=hJ.row;rw [cQ] at a1;obtain ⟨cl,sl⟩:=hJ.ol.vc;apply sR;simp only [go_sem,seval,t0,t6,t7,t8,q,hidx,hfl];refine ae fun i5 σ5 s5 a5 f5=>?_;have n15:=ao a1 f5;replace a1:=s5 _ _ a1;have z5:=hs.none f5;replace hs:=hs.trans s5;simp only [go_sem,seval,a5,a1,t0,t6,t7,t8,ab n15,ab n15,r0,ch,sh,cf,sf,cl,sl];generalize hq5:upd _ i5 _=τ5;replace a5:=(congrFun hq5 i5).symm.trans ag;replace a1:=((congrFun hq5 i1).symm.trans (ab n15)).trans a1;replace hs:=Eq.subst (motive:=aa _) hq5 (hs.aB z5);clear hq5;refine bC fun i35 σ35 s35 a35 f35=>?_;have hJ5:=hJ.mono (hs.trans s35);obtain ⟨idA,hda,hgr⟩:=xK hJ5.sub hJ5.no hJ5.row hJ5.ol;generalize hrw:y.ls.map aW=rows at *;have hb2:(rows.length+1)*57≤140737488355328:=by omega
   simp only [go_sem,seval,hda,dk a35,hb2];refine jr fun i36 σ36 s36 a36 f36=>?_;obtain ⟨b1,hg⟩:=hgr σ36 i36 _ s36 a36 f36;rw [cQ] at b1;obtain ⟨g1,g2,g3⟩:=hg (cQ b { y with ls:=y.ls++[jv y.high f] } vh vf (.own i36 0 (rows.length+1)));simp only [go_sem,seval,b1,t0,t6,t7,t8,ch,sh,cf,sf,cl,sl,r1];refine ⟨_,?_,j+1, .own i36 0 (rows.length+1),by omega,rfl,?_,by simp⟩
   ·omega
   ·rw [hput];obtain ⟨k1,k2⟩:=g3 _ _ hJ5.oh hJ5.hl.symm;obtain ⟨k3,k4⟩:=g3 _ _ hJ5.of hJ5.fl.symm;rw [List.length_append] at g2 k2 k4;refine ⟨ag,k1,k3,?_,hJ.hf,k2.symm,k4.symm,g1,hJ.no⟩;show aM _ _ _ _ _ ((y.ls++[jv y.high f]).map aW);rw [List.map_append,hrw];exact g2
  ·have q:((j:Int) < l.length)=False:=eq_false (by omega);have hje:j=l.length:=by omega
   rw [hje,List.take_length] at hJ;apply sR;simp only [go_sem,seval,t0,t6,t7,t8,q];exact ⟨_,_,aa.refl _,Wk.refl (aa.refl _) _,vl',hJ⟩
open Go.Proofs Go.Proofs.Tryz
structure BkOk (b:Bk):Prop where
 at':kR b.atoms
 tight:∀a∈b.atoms, -18014398509481984≤a.y∧a.y≤18014398509481984∧0≤a.h∧a.h≤18014398509481984
 len:b.atoms.length≤900000
 flen:b.fls.length≤1000000
 flo:∀f∈b.fls,f.ok
 brk:b.brks.length=b.atoms.length+1
structure Sta where
 s:Stt
 bJ:List Flo
def cO (x:Sta):V:=.agg [vI x.s.atom,vI x.s.done, .bool x.s.free,aJ x.bJ]
theorem Cb {top shift body:Int}:∀ {L:List Flo} {m:Flo},m∈(ik top shift body L).1→∃f∈L,m=dG top shift f:=by
 have key:∀(L L0:List Flo) (x:List Flo×List Flo),(∀m∈x.1,∃f∈L0,m=dG top shift f)→∀m∈(L.foldl (fun x f=>jD body x f (dG top shift f)) x).1,∃f∈L0++L,m=dG top shift f:=by
  intro L
  induction L with
  | nil=>intro L0 x h m hm; simpa using h m hm
  | cons f L ih =>
    intro L0 x h m hm;rw [List.foldl_cons] at hm;have:=ih (L0++[f]) _ (fun m hm=>?_) m hm
    ·simpa using this
    ·unfold jD at hm;simp only at hm;split at hm
     ·obtain ⟨g,hg,e⟩:=h m hm; exact ⟨g,by simp [hg],e⟩
     ·rcases List.mem_append.1 hm with hm | hm
      ·obtain ⟨g,hg,e⟩:=h m hm; exact ⟨g,by simp [hg],e⟩
      ·simp at hm; exact ⟨f,by simp,hm⟩
 intro L m hm;have:=key L [] ([],[]) (by simp) m hm;simpa using this
theorem ux {b:Bk} (hb:BkOk b) {s:Stt} (hd:s.done≤1152921504606846976) {to kept shift body:Int} (hk:-1152921504606846976≤kept∧kept≤2305843009213693952) (hsh:0≤shift∧shift≤1152921504606846976) :
 (dr b.atoms b.fls s to kept shift body).1.length≤1000000∧∀m∈(dr b.atoms b.fls s to kept shift body).1,0≤m.y∧m.y≤6917529027641081856:=by
 unfold dr;split
 ·rename_i hm;have h1:=lZ (qN b.atoms s kept) shift body (ep b.fls s to);have h2:(ep b.fls s to).length≤b.fls.length:=mA _ _ _;have h3:=hb.flen;refine ⟨by omega,fun m hmm=>?_⟩;obtain ⟨f,hf,rfl⟩:=Cb hmm;have hfo:=hb.flo f (List.mem_filter.1 hf).1;obtain ⟨_,⟨o1,o2⟩,_⟩:=hfo;obtain ⟨h0,h4⟩:=hm.1;have htop:-4611686018427387904≤qN b.atoms s kept:=by
   unfold qN;have:=hm.2.1;obtain ⟨k,hkk⟩:∃k:Nat,s.atom=k:=⟨s.atom.toNat,by omega⟩
   have hkl:k < b.atoms.length:=by omega
   have hy:=hb.at'.rng _ (List.getElem_mem hkl);rw [hkk,bn hkl];omega
  simp only [dG];omega
 ·simp
def cq (high:Int) (f:Frg):Frg:={ f with y:=f.y+high }
def bZ (b:Bk) (x:Wx) (kept:Int) (n:Nat):List Frg:=(List.range n).map fun i:Nat=>cq x.high (dg b.atoms x.s kept x.shift (x.s.atom+(i:Nat)))
def Wx.add (x:Wx) (l:List Frg):Wx:={ x with fs:=x.fs++l }
theorem zW {l:List Atm} (hl:kR l) {s:Stt} (hd0:0≤s.done) (hd:s.done≤1152921504606846976) {kept shift:Int} (hk:-1152921504606846976≤kept∧kept≤2305843009213693952) (hsh:0≤shift∧shift≤1152921504606846976) (k:Int) :
 -4611686018427387904≤(dg l s kept shift k).y∧(dg l s kept shift k).y≤6917529027641081856:=by
 have h:=nb hl hd hk hsh k;unfold dg;split
 ·split
  ·simp only; omega
  ·simp only [kL]; omega
 ·simp
theorem fI (l:List Atm) (σ:af):bN σ false 1 (.rp (bu l))=some (bu l):=rfl
theorem B8 (l:List Flo) (σ:af):bN σ false 1 (.rp (aJ l))=some (aJ l):=rfl
theorem Fx (l:List Brk) (σ:af):bN σ false 1 (.rp (bF l))=some (bF l):=rfl
theorem L3 (l:List Nd) (σ:af):bN σ false 1 (.rp (aI l))=some (aI l):=rfl
theorem WxJ.mT {b:Bk} {K:af} {ix:Nat} {x:Wx} {σ τ:af} {vh vf vl:V} (h:WxJ b K ix x σ vh vf vl) (hs:aa σ τ) {i:Nat} {o:Ob} (h1:σ i=none) (h2:τ i=some o):WxJ b (upd K i o) ix x τ vh vf vl:=by
 have key:∀ {v rows},aM (aZ K ix) σ 57 7 v rows→aM (aZ (upd K i o) ix) τ 57 7 v rows:=fun hv=>by
  rcases hv with h | ⟨a,e,h3,h4⟩
  ·exact .inl h
  ·refine .inr ⟨a,e,hs _ _ h3,aF.2 ⟨(aF.1 h4).1,?_⟩⟩;rw [ab (fun e=>by subst e; rw [h1] at h3; cases h3)]; exact (aF.1 h4).2
 refine ⟨hs _ _ h.row,key h.oh,key h.of,key h.ol,h.hf,h.hl,h.fl,fun a q ha=>?_,?_⟩
 ·by_cases e:a=i
  ·subst e; rw [Vc.ag] at ha; cases ha; exact h2
  ·rw [Vc.ab e] at ha; exact hs _ _ (h.sub _ _ ha)
 ·rw [Vc.ab (fun e=>by subst e; rw [h.row] at h1; cases h1)]; exact h.no
theorem WxJ.narrow {b:Bk} {K:af} {ix i:Nat} {o:Ob} {x:Wx} {σ:af} {vh vf vl:V} (h:WxJ b (upd K i o) ix x σ vh vf vl) (hK:K i=none):WxJ b K ix x σ vh vf vl:=by
 have hk:∀a,upd K i o a=none→K a=none:=fun a ha=>by
  by_cases e:a=i
  ·subst e; exact hK
  ·rwa [Vc.ab e] at ha
 have key:∀ {v rows},aM (aZ (upd K i o) ix) σ 57 7 v rows→aM (aZ K ix) σ 57 7 v rows:=fun hv=>by
  rcases hv with h | ⟨a,e,h3,h4⟩
  ·exact .inl h
  ·exact .inr ⟨a,e,h3,aF.2 ⟨(aF.1 h4).1,hk _ (aF.1 h4).2⟩⟩
 refine ⟨h.row,key h.oh,key h.of,key h.ol,h.hf,h.hl,h.fl,fun a q ha=>h.sub _ _ ?_,hk _ h.no⟩;rw [Vc.ab (fun e=>by subst e; rw [hK] at ha; cases ha)]; exact ha
theorem WxJ.drop {b:Bk} {K:af} {ix i:Nat} {o:Ob} {x:Wx} {σ:af} {vh vf vl:V} (h:WxJ b (upd K i o) ix x σ vh vf vl) (hK:K i=none) (o':Ob):WxJ b K ix x (upd σ i o') vh vf vl:=by
 have hn:ix≠i:=fun e=>by have:=h.no; subst e; rw [Vc.ag] at this; cases this
 have key:∀ {v rows},aM (aZ K ix) σ 57 7 v rows→aM (aZ (upd K i o) ix) σ 57 7 v rows→aM (aZ K ix) (upd σ i o') 57 7 v rows:=fun hv hw=>by
  rcases hv with h | ⟨a,rfl,h3,h4⟩
  ·exact .inl h
  ·refine .inr ⟨a,rfl,?_,h4⟩;rcases hw with ⟨h,_⟩ | ⟨c,h,h5,h6⟩
   ·cases h
   ·cases h;have:a≠i:=fun e=>by subst e; have:=(aF.1 h6).2; rw [Vc.ag] at this; cases this
    rw [Vc.ab this]; exact h3
 have g:=h.narrow hK;refine ⟨(Vc.ab hn).trans h.row,key g.oh h.oh,key g.of h.of,key g.ol h.ol,h.hf,h.hl,h.fl,g.sub.aB hK,g.no⟩
theorem EC (b:Bk) (hb:BkOk b) (x:Wx) (hm:dt b.atoms x.s) (hd:x.s.done≤1152921504606846976) (hx:x.fs.length≤1000000) (hxl:x.ls.length≤1000000) (hh:0≤x.high∧x.high≤1152921504606846976) (kept:Int) (hk:-1152921504606846976≤kept∧kept≤2305843009213693952)
 (hsh:0≤x.shift∧x.shift≤1152921504606846976) (cut:Nat) (hc:x.s.atom≤cut) (hcl:cut≤b.atoms.length) {K σ:af} {i1:Nat} {vh vf vl:V} (hJ:WxJ b K i1 x σ vh vf vl) :
 az prog 72 [.ptr i1 0 0,vI kept,vI cut] σ fun r σ'=>∃vf' vl',r=cO ⟨⟨cut,0,decide ((b.brks.getD cut ⟨0,0,0⟩).forced≠0)⟩,(dr b.atoms b.fls x.s cut kept x.shift x.body).2⟩ ∧
  WxJ b K i1 ((x.add (bZ b x kept (cut - x.s.atom.toNat))).put (dr b.atoms b.fls x.s cut kept x.shift x.body).1) σ' vh vf' vl':=by
 refine e72.r (by simp [c72]) ?_;have hs:=aa.refl σ;have hbk:bL b=.agg [aI b.nodes,vI b.w,vI b.h,bu b.atoms,aJ b.fls,vI b.height,bF b.brks]:=rfl;have a1:=hJ.row;rw [cQ] at a1;obtain ⟨ch,sh⟩:=hJ.oh.vc;obtain ⟨a,haa⟩:∃a:Nat,x.s.atom=a:=⟨x.s.atom.toNat,by have:=hm.1; omega⟩
 obtain ⟨n,hn⟩:∃n,n=cut - x.s.atom.toNat:=⟨_,rfl⟩
 have hnc:a+n=cut:=by omega
 rw [←hn];have hlen:=hb.len;refine ad.mix 13 ?_;apply sR;simp only [go_sem,seval,c72];refine ae fun i6 σ6 s6 a6 f6=>?_;have n16:=ao a1 f6;replace a1:=s6 _ _ a1;have z6:=hs.none f6;replace hs:=hs.trans s6;have hJ6:=hJ.mT s6 f6 a6;have k6:K i6=none:=hJ.sub.none f6;simp only [go_sem,seval,a1,hbk,haa,fI];refine ad.eS (fun st=>∃vf',WxJ b (upd K i6 ⟨27,4,[.agg [vI 0,vI 0, .bool false, .aD]]⟩) i1 (x.add (bZ b x kept n)) st.σ vh vf' vl∧st.s 0=.ptr i1 0 0∧st.s 1=vI kept∧st.s 2=vI cut∧st.s 6=.ptr i6 0 0∧st.s 7=bu b.atoms)
  (fun m st=>∃(j:Nat) (vf':V),j≤n∧m=n - j∧WxJ b (upd K i6 ⟨27,4,[.agg [vI 0,vI 0, .bool false, .aD]]⟩) i1 (x.add (bZ b x kept j)) st.σ vh vf' vl∧st.s 0=.ptr i1 0 0∧st.s 1=vI kept∧st.s 2=vI cut∧st.s 6=.ptr i6 0 0∧st.s 7=bu b.atoms∧∃z:Int,st.s 8=vI z∧z=(a:Int)+j) n ?_ ?_ ?_
 ·exact ⟨0,vf,by omega,rfl,by simpa [Wx.add,bZ] using hJ6,rfl,rfl,rfl,rfl,rfl,_,rfl,by omega⟩
 ·clear hs hJ6 a1 hJ a6;rintro m ⟨S,τ⟩ ⟨j,vf',hj,rfl,hJ,t0,t1,t2,t6,t7,z,t8,hz⟩;simp only at hJ t0 t1 t2 t6 t7 t8;refine ad.mix 13 ?_;by_cases hlt:j < n
  ·have q:(z < (cut:Int))=True:=eq_true (by omega);have hsw:x.add (bZ b x kept (j+1))={ x.add (bZ b x kept j) with fs:=(x.add (bZ b x kept j)).fs++[cq x.high (dg b.atoms x.s kept x.shift z)] }:=by
    simp only [Wx.add,bZ,List.range_succ,List.map_append,List.map_cons,List.map_nil,List.append_assoc];rw [hz,haa]
   have hcall:aU prog 107 [bu b.atoms,br (x.add (bZ b x kept j)).s,vI kept,vI (x.add (bZ b x kept j)).shift,vI z] (aW (dg b.atoms x.s kept x.shift z)):=Da b.atoms hb.at' x.s hd kept x.shift z hk hsh;have hrg:=zW hb.at' hm.2.1 hd hk hsh z;have hyl:((x.add (bZ b x kept j)).fs.map aW).length≤2000000:=by simp [Wx.add,bZ]; omega
   have hyh:(x.add (bZ b x kept j)).high=x.high:=rfl;rw [←hyh] at hsw;generalize dg b.atoms x.s kept x.shift z=w at *;generalize x.add (bZ b x kept j)=y at *;have hs:=aa.refl τ;have a1:=hJ.row;rw [cQ] at a1;rw [br] at hcall;have r1:inR .i64 (z+1):=ak (by omega) (by omega);have r2:inR .i64 (w.y+y.high):=ak (by omega) (by omega);obtain ⟨cf,sf⟩:=hJ.of.vc;obtain ⟨cl,sl⟩:=hJ.ol.vc;apply sR;simp only [go_sem,seval,t0,t1,t2,t6,t7,t8,q,dc];refine ad.DW (by kernel_rfl) 8 (.fork [[],[],[1],[2,1],[3,2,1],[],[],[6],[7,6],[8,7,6],[],[0,4,5,9,10,3,2,1,8,7,6],[],[12,11,0,1,2,3,4,5,6,7,8,9,10]] [0,1,2,3,4,5,6,7,8,9,10] [11,12] [(.leaf [[],[],[1],[2,1],[3,2,1],[],[],[6],[7,6],[8,7,6],[],[0,4,5,9,10,3,2,1,8,7,6],[11,0,4,5,9,10,3,2,1,8,7,6],[11,0,4,5,9,10,3,2,1,8,7,6,12]] [11,12,13]),(.leaf [[],[],[1],[2,1],[3,2,1],[],[],[6],[7,6],[8,7,6],[],[12,0,4,5,9,10,3,2,1,8,7,6],[],[12,11,0,1,2,3,4,5,6,7,8,9,10]] [12,11,13])]) (by kernel_rfl) ?_;refine GT.qh (its:=[0,2,4,6,8,10,12,14,16,18,20]) (by kernel_rfl) ?_;refine RE.seg (n:=0) [] [0,2,4,6,8,10,12,14,16,18,20] [⟨(.some 31),(.mov (.t 7)),.none⟩,⟨(.some 32),(.mov (.t 0)),.none⟩,⟨(.some 33),(.nilCheck (.t 32)),.none⟩,⟨(.some 34),(.fldA .true 4 3 (.t 33)),.none⟩,⟨(.some 35),(.load .true 3 (.t 34)),.none⟩,⟨(.some 36),(.mov (.t 1)),.none⟩,⟨(.some 37),(.mov (.t 0)),.none⟩,⟨(.some 38),(.nilCheck (.t 37)),.none⟩,⟨(.some 39),(.fldA .false 12 1 (.t 38)),.none⟩,⟨(.some 40),(.load .false 1 (.t 39)),.none⟩,⟨(.some 41),(.mov (.t 8)),.none⟩] rfl rfl ?_;apply sG;simp only [go_sem,seval,a1,t0,t1,t7,t8,aW];refine ⟨?_,?_⟩
   ·refine GT.ji (its:=[22,24,26]) (by kernel_rfl) ?_;refine RE.ay rfl rfl rfl rfl rfl (hcall _) ?_;refine RE.seg (n:=0) [] [24,26] [⟨(.some 9),(.alloc 57 7 (.agg [(.int .i64 0),(.int .i64 0),(.int .i64 0),(.int .i64 0),(.int .i64 0),(.int .i64 0),(.int .i64 0)])),.none⟩,⟨.none,(.store 7 (.t 9) (.t 42)),.none⟩] rfl rfl ?_;apply sG;simp only [go_sem,seval,a1,t0,t1,t7,t8,aW];refine bC fun i9 σ9 s9 a9 f9=>?_;have n19:=ao a1 f9;replace a1:=s9 _ _ a1;have z9:=hs.none f9;replace hs:=hs.trans s9;simp only [go_sem,seval,a1,t0,t1,t7,t8,aW,a9];generalize hq9:upd _ i9 _=τ9;replace a9:=(congrFun hq9 i9).symm.trans ag;replace a1:=((congrFun hq9 i1).symm.trans (ab n19)).trans a1;replace hs:=Eq.subst (motive:=aa _) hq9 (hs.aB z9);clear hq9;apply sR;simp only [go_sem,seval,a9,a1,t0,r2,ab n19,ab n19,cf,sf];generalize hq9:upd _ i9 _=τ9;replace a9:=(congrFun hq9 i9).symm.trans ag;replace a1:=((congrFun hq9 i1).symm.trans (ab n19)).trans a1;replace hs:=Eq.subst (motive:=aa _) hq9 (hs.aB z9);clear hq9;refine bC fun i59 σ59 s59 a59 f59=>?_;have hJ9:=(hJ.mono hs).mono s59;obtain ⟨idA,hda,hgr⟩:=xK hJ9.sub hJ9.no hJ9.row hJ9.of;generalize hrw:y.fs.map aW=rows at *;have hb2:(rows.length+1)*57≤140737488355328:=by omega
    simp only [go_sem,seval,hda,dk a59,hb2];refine jr fun i60 σ60 s60 a60 f60=>?_;obtain ⟨b1,hg⟩:=hgr σ60 i60 _ s60 a60 f60;rw [cQ] at b1;obtain ⟨g1,g2,g3⟩:=hg (cQ b { y with fs:=y.fs++[cq y.high w] } vh (.own i60 0 (rows.length+1)) vl);simp only [go_sem,seval,b1,t0,t1,t2,t6,t7,t8,ch,sh,cf,sf,cl,sl,r1];refine ⟨_,?_,j+1, .own i60 0 (rows.length+1),by omega,rfl,?_,_,rfl,by omega⟩
    ·omega
    ·rw [hsw];obtain ⟨k1,k2⟩:=g3 _ _ hJ9.oh hJ9.hf.symm;obtain ⟨k3,k4⟩:=g3 _ _ hJ9.ol hJ9.fl;rw [List.length_append] at g2 k2 k4;refine ⟨?_,k1,?_,k3,k2.symm,hJ.hl,k4,g1,hJ.no⟩
     ·exact ag
     ·show aM _ _ _ _ _ ((y.fs++[cq y.high w]).map aW);rw [List.map_append,hrw];exact g2
   ·refine GT.ji (its:=[24,9,19,22,26]) (by kernel_rfl) ?_;refine RE.seg (n:=0) [9,19,22,26] [24] [⟨(.some 9),(.alloc 57 7 (.agg [(.int .i64 0),(.int .i64 0),(.int .i64 0),(.int .i64 0),(.int .i64 0),(.int .i64 0),(.int .i64 0)])),.none⟩] rfl rfl ?_;apply sG;simp only [go_sem,seval,a1,t0,t1,t7,t8,aW];refine bC fun i9 σ9 s9 a9 f9=>?_;have n19:=ao a1 f9;replace a1:=s9 _ _ a1;have z9:=hs.none f9;replace hs:=hs.trans s9;simp only [go_sem,seval,a1,t0,t1,t7,t8,aW,a9];refine RE.chk rfl rfl rfl rfl rfl trivial (by simp only [go_sem,seval,a1,t0,t1,t7,t8,aW,a9]) ?_;refine RE.chk rfl rfl rfl rfl rfl trivial (by simp only [go_sem,seval,a1,t0,t1,t7,t8,aW,a9]) ?_;refine RE.ay rfl rfl rfl rfl rfl (hcall _) ?_;refine RE.seg (n:=0) [] [26] [⟨.none,(.store 7 (.t 9) (.t 42)),.none⟩] rfl rfl ?_;apply sG;simp only [go_sem,seval,a1,t0,t1,t7,t8,aW,a9];generalize hq9:upd _ i9 _=τ9;replace a9:=(congrFun hq9 i9).symm.trans ag;replace a1:=((congrFun hq9 i1).symm.trans (ab n19)).trans a1;replace hs:=Eq.subst (motive:=aa _) hq9 (hs.aB z9);clear hq9;apply sR;simp only [go_sem,seval,a9,a1,t0,r2,ab n19,ab n19,cf,sf];generalize hq9:upd _ i9 _=τ9;replace a9:=(congrFun hq9 i9).symm.trans ag;replace a1:=((congrFun hq9 i1).symm.trans (ab n19)).trans a1;replace hs:=Eq.subst (motive:=aa _) hq9 (hs.aB z9);clear hq9;refine bC fun i59 σ59 s59 a59 f59=>?_;have hJ9:=(hJ.mono hs).mono s59;obtain ⟨idA,hda,hgr⟩:=xK hJ9.sub hJ9.no hJ9.row hJ9.of;generalize hrw:y.fs.map aW=rows at *;have hb2:(rows.length+1)*57≤140737488355328:=by omega
    simp only [go_sem,seval,hda,dk a59,hb2];refine jr fun i60 σ60 s60 a60 f60=>?_;obtain ⟨b1,hg⟩:=hgr σ60 i60 _ s60 a60 f60;rw [cQ] at b1;obtain ⟨g1,g2,g3⟩:=hg (cQ b { y with fs:=y.fs++[cq y.high w] } vh (.own i60 0 (rows.length+1)) vl);simp only [go_sem,seval,b1,t0,t1,t2,t6,t7,t8,ch,sh,cf,sf,cl,sl,r1];refine ⟨_,?_,j+1, .own i60 0 (rows.length+1),by omega,rfl,?_,_,rfl,by omega⟩
    ·omega
    ·rw [hsw];obtain ⟨k1,k2⟩:=g3 _ _ hJ9.oh hJ9.hf.symm;obtain ⟨k3,k4⟩:=g3 _ _ hJ9.ol hJ9.fl;rw [List.length_append] at g2 k2 k4;refine ⟨?_,k1,?_,k3,k2.symm,hJ.hl,k4,g1,hJ.no⟩
     ·exact ag
     ·show aM _ _ _ _ _ ((y.fs++[cq y.high w]).map aW);rw [List.map_append,hrw];exact g2
  ·have q:(z < (cut:Int))=False:=eq_false (by omega);have hje:j=n:=by omega
   subst hje;apply sR;simp only [go_sem,seval,t0,t1,t2,t6,t7,t8,q];exact ⟨vf',hJ⟩
 ·clear hs hJ6 a1 hJ a6;rintro ⟨S,τ⟩ ⟨vf',hJ,t0,t1,t2,t6,t7⟩;simp only at hJ t0 t1 t2 t6 t7;have hcall:aU prog 106 [bu b.atoms,aJ b.fls,br (x.add (bZ b x kept n)).s,vI cut,vI kept,vI (x.add (bZ b x kept n)).shift,vI (x.add (bZ b x kept n)).body] (.tup [aJ (dr b.atoms b.fls x.s cut kept x.shift x.body).1,aJ (dr b.atoms b.fls x.s cut kept x.shift x.body).2]) :=
   Fp b.atoms hb.at' b.fls hb.flen hb.flo x.s hd cut kept x.shift x.body hk hsh
  have hrg:=ux hb hd (to:=cut) (body:=x.body) hk hsh;have hyl:(x.add (bZ b x kept n)).ls.length≤1000000:=hxl;have hyh:(x.add (bZ b x kept n)).high=x.high:=rfl;rw [br] at hcall;generalize dr b.atoms b.fls x.s cut kept x.shift x.body=R at *;generalize x.add (bZ b x kept n)=y at *;have a1:=hJ.row;rw [cQ] at a1;have hflo:=l9 b R.1 hrg.1 y hyl (fun f hf=>by
   have:=hrg.2 f hf;rw [hyh];exact ak (by omega) (by omega)) hJ
  have hcb:cut < b.brks.length:=by have:=hb.brk; omega
  have hidx:=fun σ=>pr (σ:=σ) hcb;have hgd:b.brks.getD cut ⟨0,0,0⟩=b.brks[cut]:=by simp [hcb]
  rw [hgd];generalize b.brks[cut]=bk at *;refine ad.mix 13 ?_;apply sR;simp only [go_sem,seval,t0,t1,t2,t6,t7,a1,hbk,fI,B8];refine Go.cp rfl rfl rfl hcall ?_;apply sG;simp only [go_sem,seval,t0];refine ad.call rfl rfl rfl hflo ?_;rintro r σ' ⟨vl',hJ'⟩;clear a1;have a1:=hJ'.row;rw [cQ] at a1;have a6:=hJ'.sub _ _ ag;have hs:=aa.refl σ';apply sR;simp only [go_sem,seval,t0,t2,t6,a1,hbk,Fx,hidx,eL];refine ae fun i12 σ12 s12 a12 f12=>?_;have n112:=ao a1 f12;replace a1:=s12 _ _ a1;have n612:=ao a6 f12;replace a6:=s12 _ _ a6;have z12:=hs.none f12;replace hs:=hs.trans s12;simp only [go_sem,seval,a12,a6,t6,aQ,aS,ab n112,ab n612];exact ⟨_,_,aa.refl _,Wk.refl (aa.refl _) _,vf',vl',rfl,(hJ'.mono (hs.aB f12)).drop k6 _⟩
open Go.Proofs Go.Proofs.Tryz
def bB.rt:bB→bB
 | .seq _ b=>b
 | c=>c
theorem fT {i j:Nat} (h:i≠j):(∀(σ:af) (o:Ob),upd σ i o j=σ j)∧∀(σ:af) (o:Ob),upd σ j o i=σ i:=⟨fun _ _=>ab h.symm,fun _ _=>ab h⟩
theorem GB (l:List Atm) (s:Stt) (area:Int):(jd l s area).y=0:=by
 unfold jd;split <;> rfl
def tD (b:Bk) (x:Wx):Wx:=(x.add [cq x.high (jd b.atoms x.s x.body)]).put (dr b.atoms b.fls x.s (x.s.atom+1) 0 0 x.body).1
def uw (b:Bk) (x:Wx):Sta:=⟨dY b.atoms x.s x.body,(dr b.atoms b.fls x.s (x.s.atom+1) 0 0 x.body).2⟩
theorem Hl (b:Bk) (hb:BkOk b) (x:Wx) (hm:dt b.atoms x.s) (hd:x.s.done≤1152921504606846976) (hx:x.fs.length≤1000000) (hxl:x.ls.length≤1000000) (hh:0≤x.high∧x.high≤1152921504606846976) (u v:Int)
 {K σ:af} {i1:Nat} {vh vf vl:V} (hJ:WxJ b K i1 x σ vh vf vl) :
 az prog 71 [.ptr i1 0 0,vI u,vI v] σ fun r σ'=>∃vf' vl',r=cO (uw b x)∧WxJ b K i1 (tD b x) σ' vh vf' vl':=by
 refine e71.r (by simp [c71]) ?_;have hbk:bL b=.agg [aI b.nodes,vI b.w,vI b.h,bu b.atoms,aJ b.fls,vI b.height,bF b.brks]:=rfl;have a1:=hJ.row;rw [cQ] at a1;obtain ⟨ch,sh⟩:=hJ.oh.vc;have hlen:=hb.len;refine ad.mix 12 ?_;have hs:=aa.refl σ;apply sR;simp only [go_sem,seval,c71];refine ae fun i6 σ6 s6 a6 f6=>?_;have n16:=ao a1 f6;replace a1:=s6 _ _ a1;have z6:=hs.none f6;replace hs:=hs.trans s6;have k6:K i6=none:=hJ.sub.none f6;have hJ6:=hJ.mT s6 f6 a6;clear hJ;simp only [go_sem,seval,a1,hbk,fI,dc];have hof:=J4 b.atoms hb.at' x.s hd x.body;have hw0:=GB b.atoms x.s x.body;unfold tD uw;have hcall:=Fp b.atoms hb.at' b.fls hb.flen hb.flo x.s hd (x.s.atom+1) 0 0 x.body (by omega) (by omega);have hrg:=ux hb hd (to:=x.s.atom+1) (kept:=0) (shift:=0) (body:=x.body) (by omega) (by omega);generalize jd b.atoms x.s x.body=w at *;generalize dY b.atoms x.s x.body=nx at *;generalize dr b.atoms b.fls x.s (x.s.atom+1) 0 0 x.body=R at *;rw [br] at hof hcall;obtain ⟨cf,sf⟩:=hJ6.of.vc;obtain ⟨cl,sl⟩:=hJ6.ol.vc;have nc:(br nx).cells=[vI nx.atom,vI nx.done, .bool nx.free]:=rfl;have ns:(br nx).stays=true:=rfl;have fin:∀(S:Nat→V) (τ:af) (i8 i9:Nat),aa σ6 τ→((∀(σ:af) (o:Ob),upd σ i8 o i9=σ i9)∧∀(σ:af) (o:Ob),upd σ i9 o i8=σ i8)→σ6 i8=none→σ6 i9=none→τ i8=some ⟨57,7,[.agg [vI w.node,vI w.atom,vI w.fr,vI w.x,vI w.y,vI w.w,vI w.h]]⟩→τ i9=some ⟨24,3,[.agg [vI nx.atom,vI nx.done, .bool nx.free]]⟩ →
  S 0=.ptr i1 0 0→S 6=.ptr i6 0 0→S 7=bu b.atoms→S 8=.ptr i8 0 0→S 9=.ptr i9 0 0 →
  ad prog 89 [It.code c71.code.rt.rt.rt] ⟨S,τ⟩ fun st=>Ret [.cell true 4 (.t 6)] st fun r σ'=>∃vf' vl',r=cO ⟨nx,R.2⟩∧WxJ b K i1 ((x.add [cq x.high w]).put R.1) σ' vh vf' vl':=by
  intro S τ i8 i9 hsτ hn z8 z9 a8 a9 t0 t6 t7 t8 t9;have n69:=ao a6 z9;have k9:=hJ6.sub.none z9;have hJ:=hJ6.mT hsτ z9 a9;have n18:i1≠i8:=ao a1 z8;have a1:=hJ.row;rw [cQ] at a1;have r2:inR .i64 (w.y+x.high):=ak (by omega) (by omega);have r3:inR .i64 (x.s.atom+1):=ak (by have:=hm.1; omega) (by have:=hm.1; omega);have hs:=aa.refl τ;have z8:=z8;refine ad.mix 12 ?_;apply sR;simp only [go_sem,seval,c71,bB.rt,t0,t6,t7,t8,t9,a8,a1,r2,ab n18,cf,sf];generalize hq8:upd τ i8 _=τ8;have hJ8:WxJ b (upd K i6 ⟨27,4,[.agg [vI 0,vI 0, .bool false, .aD]]⟩) i1 x τ8 vh vf vl:=hJ6.mono (hq8 ▸ hsτ.aB z8);replace a8:=(congrFun hq8 i8).symm.trans ag;replace a9:=((congrFun hq8 i9).symm.trans (hn.1 _ _)).trans a9;replace hJ:=hJ6.mT (hq8 ▸ hsτ.aB z8) z9 a9;clear hq8;refine bC fun i50 σ50 s50 a50 f50=>?_;have hJ9:=hJ.mono s50;obtain ⟨idA,hda,hgr⟩:=xK hJ9.sub hJ9.no hJ9.row hJ9.of;have hfl:(x.fs.map aW).length≤1000000:=by simpa using hx
  generalize hrw:x.fs.map aW=rows at *;have hb2:(rows.length+1)*57≤140737488355328:=by omega
  simp only [go_sem,seval,hda,dk a50,hb2];refine jr fun i51 σ51 s51 a51 f51=>?_;obtain ⟨b1,hg⟩:=hgr σ51 i51 _ s51 a51 f51;rw [cQ] at b1;obtain ⟨g1,g2,g3⟩:=hg (cQ b (x.add [cq x.high w]) vh (.own i51 0 (rows.length+1)) vl);have hJa:WxJ b (upd (upd K i6 ⟨27,4,[.agg [vI 0,vI 0, .bool false, .aD]]⟩) i9 ⟨24,3,[.agg [vI nx.atom,vI nx.done, .bool nx.free]]⟩) i1 (x.add [cq x.high w]) (upd σ51 i1 (cQ b (x.add [cq x.high w]) vh (.own i51 0 (rows.length+1)) vl)) vh (.own i51 0 (rows.length+1)) vl:=by
   obtain ⟨k1,k2⟩:=g3 _ _ hJ9.oh hJ9.hf.symm;obtain ⟨k3,k4⟩:=g3 _ _ hJ9.ol hJ9.fl;rw [List.length_append] at g2 k2 k4;refine ⟨ag,k1,?_,k3,k2.symm,hJ9.hl,k4,g1,hJ9.no⟩;show aM _ _ _ _ _ ((x.fs++[cq x.high w]).map aW);rw [List.map_append,hrw];exact g2
  have hya:(x.add [cq x.high w]).high=x.high:=rfl;have hys:(x.add [cq x.high w]).ls=x.ls:=rfl;have hxl':(x.add [cq x.high w]).ls.length≤1000000:=hxl;generalize hY:x.add [cq x.high w]=y at *;simp only [go_sem,seval,b1,t0,t6,t7,t8,t9,ch,sh,cl,sl,hbk,fI,B8,r3];generalize hq1:upd σ51 i1 _=τ1;have hJb:=hJa;rw [show upd σ51 i1 (cQ b y vh (.own i51 0 (rows.length+1)) vl)=τ1 by rw [←hq1,cQ,←hY]; rfl] at hJb;clear hJa hq1;refine Go.cp rfl rfl rfl hcall ?_;apply sG;simp only [go_sem,seval,t0];refine ad.call rfl rfl rfl (l9 b R.1 hrg.1 y hxl' (fun f hf=>by
   have:=hrg.2 f hf;rw [hya];exact ak (by omega) (by omega)) hJb) ?_
  rintro r σ' ⟨vl',hJ'⟩;have c9:=hJ'.sub _ _ ag;have c6:=hJ'.sub i6 _ ((ab n69).trans ag);apply sR;simp only [go_sem,seval,t6,t9,c9,c6,aQ,aS];exact ⟨_,_,aa.refl _,Wk.refl (aa.refl _) _,_,vl',rfl,(hJ'.narrow k9).drop k6 _⟩
 have a8:True:=trivial;have a9:True:=trivial;have hn:True:=trivial;have hs0:=aa.refl σ6;refine ad.DW (by kernel_rfl) 8 (.fork [[],[],[1],[2,1],[3,2,1],[],[5],[6,5],[7,6,5],[8,7,6,5],[0,4,9,3,2,1,8,7,6,5],[10,0,4,9,3,2,1,8,7,6,5],[11,10,0,4,9,3,2,1,8,7,6,5],[11,10,0,4,9,3,2,1,8,7,6,5],[],[],[14,12,10,0,1,2,3,4,5,6,7,8,9,11,15],[15,13,16,0,1,2,3,4,5,6,7,8,9,10,11,12,14]] [0,1,2,3,4,5,6,7,8,9] [10,14,15] [(.fork [[],[],[1],[2,1],[3,2,1],[],[5],[6,5],[7,6,5],[8,7,6,5],[0,4,9,3,2,1,8,7,6,5],[10,0,4,9,3,2,1,8,7,6,5],[11,10,0,4,9,3,2,1,8,7,6,5],[11,10,0,4,9,3,2,1,8,7,6,5],[10,0,4,9,3,2,1,8,7,6,5],[10,0,4,9,3,2,1,8,7,6,5],[10,0,4,9,3,2,1,8,7,6,5,14,12,11,15],[10,0,4,9,3,2,1,8,7,6,5,15,13,16,11,12,14]] [10,11,12,13] [14,15] [(.leaf [[],[],[1],[2,1],[3,2,1],[],[5],[6,5],[7,6,5],[8,7,6,5],[0,4,9,3,2,1,8,7,6,5],[10,0,4,9,3,2,1,8,7,6,5],[11,10,0,4,9,3,2,1,8,7,6,5],[11,10,0,4,9,3,2,1,8,7,6,5],[10,0,4,9,3,2,1,8,7,6,5],[14,10,0,4,9,3,2,1,8,7,6,5],[14,10,0,4,9,3,2,1,8,7,6,5,12,11,15],[14,10,0,4,9,3,2,1,8,7,6,5,15,13,16,11,12]] [14,15,16,17]),(.leaf [[],[],[1],[2,1],[3,2,1],[],[5],[6,5],[7,6,5],[8,7,6,5],[0,4,9,3,2,1,8,7,6,5],[10,0,4,9,3,2,1,8,7,6,5],[11,10,0,4,9,3,2,1,8,7,6,5],[11,10,0,4,9,3,2,1,8,7,6,5],[15,10,0,4,9,3,2,1,8,7,6,5],[10,0,4,9,3,2,1,8,7,6,5],[15,10,0,4,9,3,2,1,8,7,6,5,14,12,11],[15,10,0,4,9,3,2,1,8,7,6,5,13,16,11,12,14]] [15,14,16,17])]),(.fork [[],[],[1],[2,1],[3,2,1],[],[5],[6,5],[7,6,5],[8,7,6,5],[14,0,4,9,3,2,1,8,7,6,5],[14,10,0,4,9,3,2,1,8,7,6,5],[14,11,10,0,4,9,3,2,1,8,7,6,5],[14,11,10,0,4,9,3,2,1,8,7,6,5],[],[14],[14,12,10,0,1,2,3,4,5,6,7,8,9,11,15],[14,15,13,16,0,1,2,3,4,5,6,7,8,9,10,11,12]] [14] [10,15] [(.leaf [[],[],[1],[2,1],[3,2,1],[],[5],[6,5],[7,6,5],[8,7,6,5],[14,0,4,9,3,2,1,8,7,6,5],[14,10,0,4,9,3,2,1,8,7,6,5],[14,11,10,0,4,9,3,2,1,8,7,6,5],[14,11,10,0,4,9,3,2,1,8,7,6,5],[],[10,14,0,4,9,3,2,1,8,7,6,5],[10,14,0,4,9,3,2,1,8,7,6,5,12,11,15],[10,14,0,4,9,3,2,1,8,7,6,5,15,13,16,11,12]] [10,11,12,13,15,16,17]),(.leaf [[],[],[1],[2,1],[3,2,1],[],[5],[6,5],[7,6,5],[8,7,6,5],[15,14,0,4,9,3,2,1,8,7,6,5],[15,14,10,0,4,9,3,2,1,8,7,6,5],[15,14,11,10,0,4,9,3,2,1,8,7,6,5],[15,14,11,10,0,4,9,3,2,1,8,7,6,5],[],[14],[15,14,12,10,0,1,2,3,4,5,6,7,8,9,11],[15,14,13,16,0,1,2,3,4,5,6,7,8,9,10,11,12]] [15,10,11,12,13,16,17])]),(.fork [[],[],[1],[2,1],[3,2,1],[],[5],[6,5],[7,6,5],[8,7,6,5],[15,0,4,9,3,2,1,8,7,6,5],[15,10,0,4,9,3,2,1,8,7,6,5],[15,11,10,0,4,9,3,2,1,8,7,6,5],[15,11,10,0,4,9,3,2,1,8,7,6,5],[15],[],[15,14,12,10,0,1,2,3,4,5,6,7,8,9,11],[15,13,16,0,1,2,3,4,5,6,7,8,9,10,11,12,14]] [15] [10,14] [(.leaf [[],[],[1],[2,1],[3,2,1],[],[5],[6,5],[7,6,5],[8,7,6,5],[15,0,4,9,3,2,1,8,7,6,5],[15,10,0,4,9,3,2,1,8,7,6,5],[15,11,10,0,4,9,3,2,1,8,7,6,5],[15,11,10,0,4,9,3,2,1,8,7,6,5],[10,15,0,4,9,3,2,1,8,7,6,5],[],[10,15,0,4,9,3,2,1,8,7,6,5,14,12,11],[10,15,0,4,9,3,2,1,8,7,6,5,13,16,11,12,14]] [10,11,12,13,14,16,17]),(.leaf [[],[],[1],[2,1],[3,2,1],[],[5],[6,5],[7,6,5],[8,7,6,5],[14,15,0,4,9,3,2,1,8,7,6,5],[14,15,10,0,4,9,3,2,1,8,7,6,5],[14,15,11,10,0,4,9,3,2,1,8,7,6,5],[14,15,11,10,0,4,9,3,2,1,8,7,6,5],[15],[],[14,15,12,10,0,1,2,3,4,5,6,7,8,9,11],[14,15,13,16,0,1,2,3,4,5,6,7,8,9,10,11,12]] [14,10,11,12,13,16,17])])]) (by kernel_rfl) ?_;refine GT.LH (its:=[0,2,4,6,8,10,12,14,16,18]) (by kernel_rfl) ?_;refine RE.seg (n:=0) [] [0,2,4,6,8,10,12,14,16,18] [⟨(.some 21),(.mov (.t 7)),.none⟩,⟨(.some 22),(.mov (.t 0)),.none⟩,⟨(.some 23),(.nilCheck (.t 22)),.none⟩,⟨(.some 24),(.fldA .true 4 3 (.t 23)),.none⟩,⟨(.some 25),(.load .true 3 (.t 24)),.none⟩,⟨(.some 26),(.mov (.t 0)),.none⟩,⟨(.some 27),(.nilCheck (.t 26)),.none⟩,⟨(.some 28),(.fldA .true 0 3 (.t 27)),.none⟩,⟨(.some 29),(.fldA .false 2 1 (.t 28)),.none⟩,⟨(.some 30),(.load .false 1 (.t 29)),.none⟩] rfl rfl ?_;apply sG;simp only [go_sem,seval,a1,aW,nc,ns,a8,a9,hn];refine ⟨?_,?_,?_⟩
 ·refine GT.qh (its:=[20,22,24,26]) (by kernel_rfl) ?_;refine RE.ay rfl rfl rfl rfl rfl (hof _) ?_;refine RE.seg (n:=0) [] [22,24,26] [⟨(.some 20),(.mov (.t 31)),.none⟩,⟨(.some 32),(.ext 0 (.t 20)),.none⟩,⟨(.some 33),(.ext 1 (.t 20)),.none⟩] rfl rfl ?_;apply sG;simp only [go_sem,seval,a1,aW,nc,ns,a8,a9,hn];refine ⟨?_,?_⟩
  ·refine GT.ji (its:=[28,30,32,34]) (by kernel_rfl) ?_;refine RE.seg (n:=0) [] [28,30,32,34] [⟨(.some 8),(.alloc 57 7 (.agg [(.int .i64 0),(.int .i64 0),(.int .i64 0),(.int .i64 0),(.int .i64 0),(.int .i64 0),(.int .i64 0)])),.none⟩,⟨(.some 9),(.alloc 24 3 (.agg [(.int .i64 0),(.int .i64 0),(.bool .false)])),.none⟩,⟨.none,(.store 7 (.t 8) (.t 32)),.none⟩,⟨.none,(.store 3 (.t 9) (.t 33)),.none⟩] rfl rfl ?_;apply sG;simp only [go_sem,seval,a1,aW,nc,ns,a8,a9,hn];refine bC fun i8 σ8 s8 a8 f8=>?_;replace a1:=s8 _ _ a1
   try replace hn:=fT (ao a9 f8).symm
   try replace a9:=s8 _ _ a9
   have z8:=hs0.none f8;replace hs0:=hs0.trans s8;simp only [go_sem,seval,a1,aW,nc,ns,a8,a9,hn];refine bC fun i9 σ9 s9 a9 f9=>?_;replace a1:=s9 _ _ a1
   try replace hn:=fT (ao a8 f9)
   try replace a8:=s9 _ _ a8
   have z9:=hs0.none f9;replace hs0:=hs0.trans s9;simp only [go_sem,seval,a1,aW,nc,ns,a8,a9,hn];exact fin _ _ i8 i9 ((hs0.aB z8).aB z9) hn z8 z9 ((hn.2 _ _).trans ag) ag rfl rfl rfl rfl rfl
  ·refine GT.ji (its:=[30,28,32,34]) (by kernel_rfl) ?_;refine RE.seg (n:=0) [] [30,28,32,34] [⟨(.some 9),(.alloc 24 3 (.agg [(.int .i64 0),(.int .i64 0),(.bool .false)])),.none⟩,⟨(.some 8),(.alloc 57 7 (.agg [(.int .i64 0),(.int .i64 0),(.int .i64 0),(.int .i64 0),(.int .i64 0),(.int .i64 0),(.int .i64 0)])),.none⟩,⟨.none,(.store 7 (.t 8) (.t 32)),.none⟩,⟨.none,(.store 3 (.t 9) (.t 33)),.none⟩] rfl rfl ?_;apply sG;simp only [go_sem,seval,a1,aW,nc,ns,a8,a9,hn];refine bC fun i9 σ9 s9 a9 f9=>?_;replace a1:=s9 _ _ a1
   try replace hn:=fT (ao a8 f9)
   try replace a8:=s9 _ _ a8
   have z9:=hs0.none f9;replace hs0:=hs0.trans s9;simp only [go_sem,seval,a1,aW,nc,ns,a8,a9,hn];refine bC fun i8 σ8 s8 a8 f8=>?_;replace a1:=s8 _ _ a1
   try replace hn:=fT (ao a9 f8).symm
   try replace a9:=s8 _ _ a9
   have z8:=hs0.none f8;replace hs0:=hs0.trans s8;simp only [go_sem,seval,a1,aW,nc,ns,a8,a9,hn];exact fin _ _ i8 i9 ((hs0.aB z8).aB z9) hn z8 z9 ((hn.2 _ _).trans ag) ag rfl rfl rfl rfl rfl
 ·refine GT.qh (its:=[28,9,19]) (by kernel_rfl) ?_;refine RE.seg (n:=0) [9,19] [28] [⟨(.some 8),(.alloc 57 7 (.agg [(.int .i64 0),(.int .i64 0),(.int .i64 0),(.int .i64 0),(.int .i64 0),(.int .i64 0),(.int .i64 0)])),.none⟩] rfl rfl ?_;apply sG;simp only [go_sem,seval,a1,aW,nc,ns,a8,a9,hn];refine bC fun i8 σ8 s8 a8 f8=>?_;replace a1:=s8 _ _ a1
  try replace hn:=fT (ao a9 f8).symm
  try replace a9:=s8 _ _ a9
  have z8:=hs0.none f8;replace hs0:=hs0.trans s8;simp only [go_sem,seval,a1,aW,nc,ns,a8,a9,hn];refine RE.chk rfl rfl rfl rfl rfl trivial (by simp only [go_sem,seval,a1,aW,nc,ns,a8,a9,hn]) ?_;refine RE.chk rfl rfl rfl rfl rfl trivial (by simp only [go_sem,seval,a1,aW,nc,ns,a8,a9,hn]) ?_;refine ⟨?_,?_⟩
  ·refine GT.ji (its:=[20,22,24,26,30,32,34]) (by kernel_rfl) ?_;refine RE.ay rfl rfl rfl rfl rfl (hof _) ?_;refine RE.seg (n:=0) [] [22,24,26,30,32,34] [⟨(.some 20),(.mov (.t 31)),.none⟩,⟨(.some 32),(.ext 0 (.t 20)),.none⟩,⟨(.some 33),(.ext 1 (.t 20)),.none⟩,⟨(.some 9),(.alloc 24 3 (.agg [(.int .i64 0),(.int .i64 0),(.bool .false)])),.none⟩,⟨.none,(.store 7 (.t 8) (.t 32)),.none⟩,⟨.none,(.store 3 (.t 9) (.t 33)),.none⟩] rfl rfl ?_;apply sG;simp only [go_sem,seval,a1,aW,nc,ns,a8,a9,hn];refine bC fun i9 σ9 s9 a9 f9=>?_;replace a1:=s9 _ _ a1
   try replace hn:=fT (ao a8 f9)
   try replace a8:=s9 _ _ a8
   have z9:=hs0.none f9;replace hs0:=hs0.trans s9;simp only [go_sem,seval,a1,aW,nc,ns,a8,a9,hn];exact fin _ _ i8 i9 ((hs0.aB z8).aB z9) hn z8 z9 ((hn.2 _ _).trans ag) ag rfl rfl rfl rfl rfl
  ·refine GT.ji (its:=[30,9,19,20,22,24,26,32,34]) (by kernel_rfl) ?_;refine RE.seg (n:=0) [9,19,20,22,24,26,32,34] [30] [⟨(.some 9),(.alloc 24 3 (.agg [(.int .i64 0),(.int .i64 0),(.bool .false)])),.none⟩] rfl rfl ?_;apply sG;simp only [go_sem,seval,a1,aW,nc,ns,a8,a9,hn];refine bC fun i9 σ9 s9 a9 f9=>?_;replace a1:=s9 _ _ a1
   try replace hn:=fT (ao a8 f9)
   try replace a8:=s9 _ _ a8
   have z9:=hs0.none f9;replace hs0:=hs0.trans s9;simp only [go_sem,seval,a1,aW,nc,ns,a8,a9,hn];refine RE.chk rfl rfl rfl rfl rfl trivial (by simp only [go_sem,seval,a1,aW,nc,ns,a8,a9,hn]) ?_;refine RE.chk rfl rfl rfl rfl rfl trivial (by simp only [go_sem,seval,a1,aW,nc,ns,a8,a9,hn]) ?_;refine RE.ay rfl rfl rfl rfl rfl (hof _) ?_;refine RE.seg (n:=0) [] [22,24,26,32,34] [⟨(.some 20),(.mov (.t 31)),.none⟩,⟨(.some 32),(.ext 0 (.t 20)),.none⟩,⟨(.some 33),(.ext 1 (.t 20)),.none⟩,⟨.none,(.store 7 (.t 8) (.t 32)),.none⟩,⟨.none,(.store 3 (.t 9) (.t 33)),.none⟩] rfl rfl ?_;apply sG;simp only [go_sem,seval,a1,aW,nc,ns,a8,a9,hn];exact fin _ _ i8 i9 ((hs0.aB z8).aB z9) hn z8 z9 ((hn.2 _ _).trans ag) ag rfl rfl rfl rfl rfl
 ·refine GT.qh (its:=[30,9,19]) (by kernel_rfl) ?_;refine RE.seg (n:=0) [9,19] [30] [⟨(.some 9),(.alloc 24 3 (.agg [(.int .i64 0),(.int .i64 0),(.bool .false)])),.none⟩] rfl rfl ?_;apply sG;simp only [go_sem,seval,a1,aW,nc,ns,a8,a9,hn];refine bC fun i9 σ9 s9 a9 f9=>?_;replace a1:=s9 _ _ a1
  try replace hn:=fT (ao a8 f9)
  try replace a8:=s9 _ _ a8
  have z9:=hs0.none f9;replace hs0:=hs0.trans s9;simp only [go_sem,seval,a1,aW,nc,ns,a8,a9,hn];refine RE.chk rfl rfl rfl rfl rfl trivial (by simp only [go_sem,seval,a1,aW,nc,ns,a8,a9,hn]) ?_;refine RE.chk rfl rfl rfl rfl rfl trivial (by simp only [go_sem,seval,a1,aW,nc,ns,a8,a9,hn]) ?_;refine ⟨?_,?_⟩
  ·refine GT.ji (its:=[20,22,24,26,28,32,34]) (by kernel_rfl) ?_;refine RE.ay rfl rfl rfl rfl rfl (hof _) ?_;refine RE.seg (n:=0) [] [22,24,26,28,32,34] [⟨(.some 20),(.mov (.t 31)),.none⟩,⟨(.some 32),(.ext 0 (.t 20)),.none⟩,⟨(.some 33),(.ext 1 (.t 20)),.none⟩,⟨(.some 8),(.alloc 57 7 (.agg [(.int .i64 0),(.int .i64 0),(.int .i64 0),(.int .i64 0),(.int .i64 0),(.int .i64 0),(.int .i64 0)])),.none⟩,⟨.none,(.store 7 (.t 8) (.t 32)),.none⟩,⟨.none,(.store 3 (.t 9) (.t 33)),.none⟩] rfl rfl ?_;apply sG;simp only [go_sem,seval,a1,aW,nc,ns,a8,a9,hn];refine bC fun i8 σ8 s8 a8 f8=>?_;replace a1:=s8 _ _ a1
   try replace hn:=fT (ao a9 f8).symm
   try replace a9:=s8 _ _ a9
   have z8:=hs0.none f8;replace hs0:=hs0.trans s8;simp only [go_sem,seval,a1,aW,nc,ns,a8,a9,hn];exact fin _ _ i8 i9 ((hs0.aB z8).aB z9) hn z8 z9 ((hn.2 _ _).trans ag) ag rfl rfl rfl rfl rfl
  ·refine GT.ji (its:=[28,9,19,20,22,24,26,32,34]) (by kernel_rfl) ?_;refine RE.seg (n:=0) [9,19,20,22,24,26,32,34] [28] [⟨(.some 8),(.alloc 57 7 (.agg [(.int .i64 0),(.int .i64 0),(.int .i64 0),(.int .i64 0),(.int .i64 0),(.int .i64 0),(.int .i64 0)])),.none⟩] rfl rfl ?_;apply sG;simp only [go_sem,seval,a1,aW,nc,ns,a8,a9,hn];refine bC fun i8 σ8 s8 a8 f8=>?_;replace a1:=s8 _ _ a1
   try replace hn:=fT (ao a9 f8).symm
   try replace a9:=s8 _ _ a9
   have z8:=hs0.none f8;replace hs0:=hs0.trans s8;simp only [go_sem,seval,a1,aW,nc,ns,a8,a9,hn];refine RE.chk rfl rfl rfl rfl rfl trivial (by simp only [go_sem,seval,a1,aW,nc,ns,a8,a9,hn]) ?_;refine RE.chk rfl rfl rfl rfl rfl trivial (by simp only [go_sem,seval,a1,aW,nc,ns,a8,a9,hn]) ?_;refine RE.ay rfl rfl rfl rfl rfl (hof _) ?_;refine RE.seg (n:=0) [] [22,24,26,32,34] [⟨(.some 20),(.mov (.t 31)),.none⟩,⟨(.some 32),(.ext 0 (.t 20)),.none⟩,⟨(.some 33),(.ext 1 (.t 20)),.none⟩,⟨.none,(.store 7 (.t 8) (.t 32)),.none⟩,⟨.none,(.store 3 (.t 9) (.t 33)),.none⟩] rfl rfl ?_;apply sG;simp only [go_sem,seval,a1,aW,nc,ns,a8,a9,hn];exact fin _ _ i8 i9 ((hs0.aB z8).aB z9) hn z8 z9 ((hn.2 _ _).trans ag) ag rfl rfl rfl rfl rfl
end Go.Vc
