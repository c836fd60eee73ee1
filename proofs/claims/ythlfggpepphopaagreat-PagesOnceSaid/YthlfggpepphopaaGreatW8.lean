/- Part 8 of the library of this proof. -/
import Derived.Test.YthlfggpepphopaaGreatW7
set_option linter.all false
set_option maxHeartbeats 4000000
set_option maxRecDepth 100000
namespace Go.Vc
open Go.Proofs Go.Proofs.Tryz
def wW (l:List Nd) (of:List Int):List Int:=(List.range (of.length+1)).map (pg l of)
theorem JR (l:List Nd) (hl:dJ l) (hb:isB l=true) (of:List Int) (hon:of.length≤1000000) (hof:∀x∈of,0≤x∧x < l.length) (hm:px l of=true) :
 aV prog 54 [aJ l,bh of] (.tup [bh (wW l of),vI 0]):=fun σ=>by
 refine e54.r (by simp [c54]) ?_;have hs:=aa.refl σ;have hlo:=eS of;refine ad.mix 11 ?_;apply sR;simp only [go_sem,seval,c54];refine ad.az rfl rfl rfl (nF l hl hb of hon hm _) ?_;have q0:((0:Int)≠0)=False:=eq_false (fun h=>h rfl);have r0:inR .i64 ((of.length:Int)+1):=ak (by omega) (by omega);apply sR;simp only [go_sem,seval,q0,hlo,r0];refine ad.eD (fun st=>aa σ st.σ∧aM σ st.σ 3 1 (st.s 7) ((wW l of).map vI))
  (fun m st=>∃j:Nat,j≤of.length+1∧m=of.length+1 - j∧aa σ st.σ∧aM σ st.σ 3 1 (st.s 7) (((List.range j).map (pg l of)).map vI)∧st.s 0=aJ l∧st.s 1=bh of∧st.s 19=vI ((of.length:Int)+1)∧st.s 20=vI j) (of.length+1) ?_ ?_ ?_
 ·exact ⟨0,by omega,rfl,hs,aM.start,rfl,rfl,rfl,rfl⟩
 ·clear hs;rintro m ⟨S,τ⟩ ⟨j,hj,rfl,hs,ho,t0,t1,t19,t20⟩;simp only at hs ho t0 t1 t19 t20;generalize hv7:S 7=v7 at ho;refine ad.mix 11 ?_;by_cases hlt:j < of.length+1
  ·have q:((j:Int) < of.length+1)=True:=eq_true (by omega);have r1:inR .i64 ((j:Int)+1):=ak (by omega) (by omega);have hrows:(((List.range (j+1)).map (pg l of)).map vI)=(((List.range j).map (pg l of)).map vI)++[vI (pg l of j)]:=by
    rw [List.range_succ]; simp
   have hlm:(((List.range j).map (pg l of)).map vI).length=j:=by simp
   apply sR;simp only [go_sem,seval,t0,t1,t19,t20,q];refine ad.az rfl rfl rfl (Lz l hl hb of hon hof hm j (by omega) _) ?_;generalize ((List.range j).map (pg l of)).map vI=rows at *;apply sR;simp only [go_sem,seval,t0,t1,t19,t20,hv7];refine ae fun i32 σ32 s32 a32 f32=>?_;obtain ⟨idA,hda,hdel,hd1,hd2⟩:=ho.yP s32;have hb2:(rows.length+1)*9≤140737488355328:=by omega
   simp only [go_sem,seval,t0,t1,t19,t20,hv7,hda,di a32,hb2];refine er fun i33 σ33 s33 a33 f33=>?_;have k33:=(hdel σ (aa.refl _) σ32 (hs.trans s32)).trans s33;have n33:σ i33=none:=(hs.trans s32).none f33;simp only [go_sem,seval,t0,t1,t19,t20,r1];refine ⟨_,?_,j+1,by omega,rfl,k33,?_,by simp [t0,t1,t19]⟩
   ·omega
   ·rw [hrows];exact aM.new (by simp) a33 n33
  ·have q:((j:Int) < of.length+1)=False:=eq_false (by omega);have hje:j=of.length+1:=by omega
   subst hje;apply sR;simp only [go_sem,seval,t0,t1,t19,t20,q];exact ⟨hs,hv7 ▸ ho⟩
 ·rintro ⟨S,τ⟩ ⟨hs,ho⟩;simp only at hs ho;generalize hv7:S 7=v7 at ho;refine ad.mix 11 ?_;apply sR;simp only [go_sem,seval,hv7];exact ⟨_,σ,hs,Wk.tup (vs':=[bh (wW l of),vI 0]) ⟨ho.wk (aa.refl _) hs,Wk.refl hs _,trivial⟩,rfl,rfl⟩
open Go.Proofs Go.Proofs.Tryz
structure Brk where
 (cls forced rank:Int)
deriving DecidableEq
def fC (x:Brk):V:=.agg [vI x.cls,vI x.forced,vI x.rank]
def bM (l:List Brk):V:=.sl 3 (l.map fC)
theorem gw (l:List Brk):(bM l).cells=[bM l]:=rfl
theorem gr (l:List Brk):(bM l).stays=true:=rfl
theorem Aa (l:List Brk):dK false (bM l)=some (.int .i64 l.length):=by simp [bM,dK]
theorem wI {σ:af} {l:List Brk} {i:Nat} (h:i < l.length):bF σ 3 (bM l) (.int .i64 i)=some (.rp (fC l[i])):=by simp [bM,bF,h,fC]
def o5 (of:List Int) (k:Nat):Int:=if k=0 then 0 else if k=of.length then 3 else if of.getD k 0=of.getD (k - 1) 0 then 2 else 1
theorem HR (of:List Int) (hon:of.length≤1000000) (k:Nat) (hk:k≤of.length):aV prog 55 [bh of,vI k] (vI (o5 of k)):=fun σ=>by
 refine e55.r (by simp [c55]) ?_;have hlo:=eS of;refine ad.mix 6 ?_;unfold o5;rcases Nat.eq_zero_or_pos k with rfl | h0
 ·have q1:(((0:Nat):Int)=0)=True:=eq_true rfl;apply sR;simp only [go_sem,seval,c55,q1];exact au.same rfl
 have q1:((k:Int)=0)=False:=eq_false (by omega);rw [if_neg (by omega)];by_cases hk1:k=of.length
 ·have q2:((k:Int)=of.length)=True:=eq_true (by omega);rw [if_pos hk1];apply sR;simp only [go_sem,seval,c55,q1,q2,hlo];exact au.same rfl
 have q2:((k:Int)=of.length)=False:=eq_false (by omega);rw [if_neg hk1];have h1:k < of.length:=by omega
 have q5:=ak (m:=((k - 1:Nat):Int)) (by omega) (by omega);have q6:((k:Int) - 1)=((k - 1:Nat):Int):=by omega
 have q7:=fun σ=>gk (σ:=σ) h1;have q8:=fun σ=>gk (σ:=σ) (l:=of) (i:=k - 1) (by omega);have g1:of.getD k 0=of[k]:=by simp [h1]
 have g2:of.getD (k - 1) 0=of[k - 1]:=by
  have:k - 1 < of.length:=by omega
  simp [this]
 rw [g1,g2];by_cases h2:of[k]=of[k - 1]
 ·have q9:(of[k]=of[k - 1])=True:=eq_true h2;rw [if_pos h2];apply sR;simp only [go_sem,seval,c55,q1,q2,hlo,q5,q6,q7,q8,q9];exact au.same rfl
 ·have q9:(of[k]=of[k - 1])=False:=eq_false h2;rw [if_neg h2];apply sR;simp only [go_sem,seval,c55,q1,q2,hlo,q5,q6,q7,q8,q9];exact au.same rfl
open Go.Proofs Go.Proofs.Tryz
def bkR (l:List Nd) (of:List Int) (k:Nat):Brk:=⟨o5 of k,iJ l of k,if iJ l of k=0 then pg l of k else 0⟩
def qG (l:List Nd) (of:List Int):List Brk:=(List.range (of.length+1)).map (bkR l of)
theorem Ii {σ:af} {f:Nat→Int} {n j:Nat} (h:j < n):bF σ 1 (bh ((List.range n).map f)) (.int .i64 j)=some (.rp (vI (f j))):=by
 rw [gk (by simpa using h)]; simp
theorem KS (l:List Nd) (hl:dJ l) (hb:isB l=true) (of:List Int) (hon:of.length≤1000000) (hof:∀x∈of,0≤x∧x < l.length) (hm:px l of=true) :
 aV prog 19 [aJ l,bh of] (.tup [bM (qG l of),vI 0]):=fun σ=>by
 refine e19.r (by simp [c19]) ?_;have hs:=aa.refl σ;have hlo:=eS of;refine ad.mix 14 ?_;apply sR;simp only [go_sem,seval,c19];refine ad.az rfl rfl rfl (nF l hl hb of hon hm _) ?_;have q0:((0:Int)≠0)=False:=eq_false (fun h=>h rfl);have r0:inR .i64 ((of.length:Int)+1):=ak (by omega) (by omega);apply sR;simp only [go_sem,seval,q0,hlo,r0];refine ad.az rfl rfl rfl (I1 l hl hb of hon hof hm _) ?_;apply sR;simp only [go_sem,seval];refine ad.az rfl rfl rfl (JR l hl hb of hon hof hm _) ?_;apply sR;simp only [go_sem,seval,hlo,r0];refine ad.eD (fun st=>aa σ st.σ∧aM σ st.σ 67 3 (st.s 11) ((qG l of).map fC))
  (fun m st=>∃j:Nat,j≤of.length+1∧m=of.length+1 - j∧aa σ st.σ∧aM σ st.σ 67 3 (st.s 11) (((List.range j).map (bkR l of)).map fC)∧st.s 0=aJ l∧st.s 1=bh of∧st.s 7=bh (x6 l of)∧st.s 9=bh (wW l of)∧st.s 34=vI ((of.length:Int)+1)∧st.s 35=vI j) (of.length+1) ?_ ?_ ?_
 ·exact ⟨0,by omega,rfl,hs,aM.start,rfl,rfl,rfl,rfl,rfl,rfl⟩
 ·clear hs;rintro m ⟨S,τ⟩ ⟨j,hj,rfl,hs,ho,t0,t1,t7,t9,t34,t35⟩;simp only at hs ho t0 t1 t7 t9 t34 t35;generalize hv11:S 11=v11 at ho;refine ad.mix 14 ?_;by_cases hlt:j < of.length+1
  ·have q:((j:Int) < of.length+1)=True:=eq_true (by omega);have r1:inR .i64 ((j:Int)+1):=ak (by omega) (by omega);have hrows:(((List.range (j+1)).map (bkR l of)).map fC)=(((List.range j).map (bkR l of)).map fC)++[fC (bkR l of j)]:=by
    rw [List.range_succ]; simp
   have hlm:(((List.range j).map (bkR l of)).map fC).length=j:=by simp
   have hi7:∀σ,bF σ 1 (bh (x6 l of)) (.int .i64 j)=some (.rp (vI (iJ l of j))):=fun σ=>Ii hlt;have hi9:∀σ,bF σ 1 (bh (wW l of)) (.int .i64 j)=some (.rp (vI (pg l of j))):=fun σ=>Ii hlt;apply sR;simp only [go_sem,seval,t0,t1,t7,t9,hv11,t34,t35,q];refine Go.ct rfl rfl rfl (HR of hon j (by omega)) ?_;apply sG;simp only [go_sem,seval,t0,t1,t7,t9,hv11,t34,t35,hi7];refine bz fun i13 σ13 s13 a13 f13=>?_;by_cases hz:iJ l of j=0
   ·have q2:(iJ l of j=0)=True:=eq_true hz;have hbk:fC (bkR l of j)=.agg [vI (o5 of j),vI (iJ l of j),vI (pg l of j)]:=by rw [bkR,if_pos hz]; rfl
    simp only [go_sem,seval,a13,t0,t1,t7,t9,hv11,t34,t35,hi7,hi9,q2];generalize hq13:upd _ i13 _=τ13;have s13':aa τ τ13:=by rw [←hq13]; exact s13.aD f13
    clear hq13;refine ae fun i58 σ58 s58 a58 f58=>?_;obtain ⟨idA,hda,hdel,hd1,hd2⟩:=ho.yP (s13'.trans s58);generalize ((List.range j).map (bkR l of)).map fC=rows at *;have hb2:(rows.length+1)*25≤140737488355328:=by omega
    simp only [go_sem,seval,t0,t1,t7,t9,hv11,t34,t35,hda,di a58,hb2];refine er fun i59 σ59 s59 a59 f59=>?_;have k59:=(hdel σ (aa.refl _) σ58 (hs.trans (s13'.trans s58))).trans s59;have n59:σ i59=none:=(hs.trans (s13'.trans s58)).none f59;simp only [go_sem,seval,t0,t1,t7,t9,t34,t35,r1];refine ⟨_,?_,j+1,by omega,rfl,k59,?_,by simp [t0,t1,t7,t9,t34]⟩
    ·omega
    ·rw [hrows,hbk];exact aM.new (by simp) a59 n59
   ·have q2:(iJ l of j=0)=False:=eq_false hz;have hbk:fC (bkR l of j)=.agg [vI (o5 of j),vI (iJ l of j),vI 0]:=by rw [bkR,if_neg hz]; rfl
    simp only [go_sem,seval,a13,t0,t1,t7,t9,hv11,t34,t35,hi7,hi9,q2];generalize hq13:upd _ i13 _=τ13;have s13':aa τ τ13:=by rw [←hq13]; exact s13.aD f13
    clear hq13;refine ae fun i58 σ58 s58 a58 f58=>?_;obtain ⟨idA,hda,hdel,hd1,hd2⟩:=ho.yP (s13'.trans s58);generalize ((List.range j).map (bkR l of)).map fC=rows at *;have hb2:(rows.length+1)*25≤140737488355328:=by omega
    simp only [go_sem,seval,t0,t1,t7,t9,hv11,t34,t35,hda,di a58,hb2];refine er fun i59 σ59 s59 a59 f59=>?_;have k59:=(hdel σ (aa.refl _) σ58 (hs.trans (s13'.trans s58))).trans s59;have n59:σ i59=none:=(hs.trans (s13'.trans s58)).none f59;simp only [go_sem,seval,t0,t1,t7,t9,t34,t35,r1];refine ⟨_,?_,j+1,by omega,rfl,k59,?_,by simp [t0,t1,t7,t9,t34]⟩
    ·omega
    ·rw [hrows,hbk];exact aM.new (by simp) a59 n59
  ·have q:((j:Int) < of.length+1)=False:=eq_false (by omega);have hje:j=of.length+1:=by omega
   subst hje;apply sR;simp only [go_sem,seval,t0,t1,t7,t9,t34,t35,q];exact ⟨hs,hv11 ▸ ho⟩
 ·rintro ⟨S,τ⟩ ⟨hs,ho⟩;simp only at hs ho;generalize hv11:S 11=v11 at ho;refine ad.mix 14 ?_;apply sR;simp only [go_sem,seval,hv11];exact ⟨_,σ,hs,Wk.tup (vs':=[bM (qG l of),vI 0]) ⟨ho.wk (aa.refl _) hs,Wk.refl hs _,trivial⟩,rfl,rfl⟩
open Go.Proofs Go.Proofs.Tryz
def nm (x:Brk) (first last:Bool):Prop :=
 (first=true→x.cls=0)∧(first=false→last=true→x.cls=3)∧(first=false→last=false→x.cls=1∨x.cls=2) ∧
 (x.forced=0∨(2≤x.forced∧x.forced≤4∧x.cls≠3∧x.cls≠2))∧(x.rank=0∨((x.cls=1∨x.cls=2)∧x.forced=0∧0 < x.rank∧x.rank < 8))
instance (x:Brk) (a b:Bool):Decidable (nm x a b):=by unfold nm; infer_instance
theorem GO (x:Brk) (first last:Bool):aV prog 139 [fC x, .bool first, .bool last] (.bool (decide (nm x first last))):=fun σ=>by
 refine NU.r (by simp [JU]) ?_;have hs:=aa.refl σ;obtain ⟨c,f,r⟩:=x;refine ad.mix 9 ?_;apply sR;simp only [go_sem,seval,JU,fC];refine ae fun i3 σ3 s3 a3 f3=>?_;have z3:=hs.none f3;replace hs:=hs.trans s3;unfold nm;simp only;have C:c=0∨c=1∨c=2∨c=3∨((c=0)=False∧(c=1)=False∧(c=2)=False∧(c=3)=False∧(c≠0)=True∧(c≠3)=True):=by
  by_cases h0:c=0
  ·exact .inl h0
  by_cases h1:c=1
  ·exact .inr (.inl h1)
  by_cases h2:c=2
  ·exact .inr (.inr (.inl h2))
  by_cases h3:c=3
  ·exact .inr (.inr (.inr (.inl h3)))
  ·exact .inr (.inr (.inr (.inr ⟨eq_false h0,eq_false h1,eq_false h2,eq_false h3,eq_true h0,eq_true h3⟩)))
 have F:f=0∨((f=0)=False∧((f < 2)=True∧(2≤f∧f≤4)=False∨(f < 2)=False∧((f > 4)=True∧(2≤f∧f≤4)=False∨(f > 4)=False∧(2≤f)=True∧(f≤4)=True))):=by
  by_cases h0:f=0
  ·exact .inl h0
  refine .inr ⟨eq_false h0,?_⟩;by_cases h1:f < 2
  ·exact .inl ⟨eq_true h1,eq_false (by omega)⟩
  refine .inr ⟨eq_false h1,?_⟩;by_cases h2:f > 4
  ·exact .inl ⟨eq_true h2,eq_false (by omega)⟩
  ·exact .inr ⟨eq_false h2,eq_true (by omega),eq_true (by omega)⟩
 have R:r=0∨((r=0)=False∧((r > 0)=False∧(0 < r)=False∨(r > 0)=True∧(0 < r)=True∧((r < 8)=True∨(r < 8)=False))):=by
  by_cases h0:r=0
  ·exact .inl h0
  refine .inr ⟨eq_false h0,?_⟩;by_cases h1:r > 0
  ·refine .inr ⟨eq_true h1,eq_true h1,?_⟩;by_cases h2:r < 8
   ·exact .inl (eq_true h2)
   ·exact .inr (eq_false h2)
  ·exact .inl ⟨eq_false h1,eq_false (by omega)⟩
 rcases C with rfl | rfl | rfl | rfl | ⟨c0,c1,c2,c3,c4,c5⟩
 ·rcases F with rfl | ⟨f0,⟨f1,f2⟩ | ⟨f1,⟨f2,f3⟩ | ⟨f2,f3,f4⟩⟩⟩
  ·cases first
   ·cases last
    ·simp only [go_sem,seval,a3];exact au.pure hs (by simp)
    ·simp only [go_sem,seval,a3];exact au.pure hs (by simp)
   ·cases last
    ·rcases R with rfl | ⟨r0,⟨r1,r2⟩ | ⟨r1,r2,r3 | r3⟩⟩
     ·simp only [go_sem,seval,a3];exact au.pure hs (by simp)
     ·simp only [go_sem,seval,a3,r0,r1];exact au.pure hs (by simp [r0,r2])
     ·simp only [go_sem,seval,a3,r0,r1,r3];exact au.pure hs (by simp [r0,r2,r3])
     ·simp only [go_sem,seval,a3,r0,r1,r3];exact au.pure hs (by simp [r0,r2,r3])
    ·rcases R with rfl | ⟨r0,⟨r1,r2⟩ | ⟨r1,r2,r3 | r3⟩⟩
     ·simp only [go_sem,seval,a3];exact au.pure hs (by simp)
     ·simp only [go_sem,seval,a3,r0,r1];exact au.pure hs (by simp [r0,r2])
     ·simp only [go_sem,seval,a3,r0,r1,r3];exact au.pure hs (by simp [r0,r2,r3])
     ·simp only [go_sem,seval,a3,r0,r1,r3];exact au.pure hs (by simp [r0,r2,r3])
  ·cases first
   ·cases last
    ·simp only [go_sem,seval,a3,f0,f1];exact au.pure hs (by simp [f0,f2])
    ·simp only [go_sem,seval,a3,f0,f1];exact au.pure hs (by simp [f0,f2])
   ·cases last
    ·simp only [go_sem,seval,a3,f0,f1];exact au.pure hs (by simp [f0,f2])
    ·simp only [go_sem,seval,a3,f0,f1];exact au.pure hs (by simp [f0,f2])
  ·cases first
   ·cases last
    ·simp only [go_sem,seval,a3,f0,f1,f2];exact au.pure hs (by simp [f0,f3])
    ·simp only [go_sem,seval,a3,f0,f1,f2];exact au.pure hs (by simp [f0,f3])
   ·cases last
    ·simp only [go_sem,seval,a3,f0,f1,f2];exact au.pure hs (by simp [f0,f3])
    ·simp only [go_sem,seval,a3,f0,f1,f2];exact au.pure hs (by simp [f0,f3])
  ·cases first
   ·cases last
    ·simp only [go_sem,seval,a3,f0,f1,f2];exact au.pure hs (by simp [f0,f3,f4])
    ·simp only [go_sem,seval,a3,f0,f1,f2];exact au.pure hs (by simp [f0,f3,f4])
   ·cases last
    ·rcases R with rfl | ⟨r0,⟨r1,r2⟩ | ⟨r1,r2,r3 | r3⟩⟩
     ·simp only [go_sem,seval,a3,f0,f1,f2];exact au.pure hs (by simp [f0,f3,f4])
     ·simp only [go_sem,seval,a3,f0,f1,f2,r0,r1];exact au.pure hs (by simp [f0,f3,f4,r0,r2])
     ·simp only [go_sem,seval,a3,f0,f1,f2,r0,r1,r3];exact au.pure hs (by simp [f0,f3,f4,r0,r2,r3])
     ·simp only [go_sem,seval,a3,f0,f1,f2,r0,r1,r3];exact au.pure hs (by simp [f0,f3,f4,r0,r2,r3])
    ·rcases R with rfl | ⟨r0,⟨r1,r2⟩ | ⟨r1,r2,r3 | r3⟩⟩
     ·simp only [go_sem,seval,a3,f0,f1,f2];exact au.pure hs (by simp [f0,f3,f4])
     ·simp only [go_sem,seval,a3,f0,f1,f2,r0,r1];exact au.pure hs (by simp [f0,f3,f4,r0,r2])
     ·simp only [go_sem,seval,a3,f0,f1,f2,r0,r1,r3];exact au.pure hs (by simp [f0,f3,f4,r0,r2,r3])
     ·simp only [go_sem,seval,a3,f0,f1,f2,r0,r1,r3];exact au.pure hs (by simp [f0,f3,f4,r0,r2,r3])
 ·rcases F with rfl | ⟨f0,⟨f1,f2⟩ | ⟨f1,⟨f2,f3⟩ | ⟨f2,f3,f4⟩⟩⟩
  ·cases first
   ·cases last
    ·rcases R with rfl | ⟨r0,⟨r1,r2⟩ | ⟨r1,r2,r3 | r3⟩⟩
     ·simp only [go_sem,seval,a3];exact au.pure hs (by simp)
     ·simp only [go_sem,seval,a3,r0,r1];exact au.pure hs (by simp [r0,r2])
     ·simp only [go_sem,seval,a3,r0,r1,r3];exact au.pure hs (by simp [r0,r2,r3])
     ·simp only [go_sem,seval,a3,r0,r1,r3];exact au.pure hs (by simp [r0,r2,r3])
    ·simp only [go_sem,seval,a3];exact au.pure hs (by simp)
   ·cases last
    ·simp only [go_sem,seval,a3];exact au.pure hs (by simp)
    ·simp only [go_sem,seval,a3];exact au.pure hs (by simp)
  ·cases first
   ·cases last
    ·simp only [go_sem,seval,a3,f0,f1];exact au.pure hs (by simp [f0,f2])
    ·simp only [go_sem,seval,a3,f0,f1];exact au.pure hs (by simp [f0,f2])
   ·cases last
    ·simp only [go_sem,seval,a3,f0,f1];exact au.pure hs (by simp [f0,f2])
    ·simp only [go_sem,seval,a3,f0,f1];exact au.pure hs (by simp [f0,f2])
  ·cases first
   ·cases last
    ·simp only [go_sem,seval,a3,f0,f1,f2];exact au.pure hs (by simp [f0,f3])
    ·simp only [go_sem,seval,a3,f0,f1,f2];exact au.pure hs (by simp [f0,f3])
   ·cases last
    ·simp only [go_sem,seval,a3,f0,f1,f2];exact au.pure hs (by simp [f0,f3])
    ·simp only [go_sem,seval,a3,f0,f1,f2];exact au.pure hs (by simp [f0,f3])
  ·cases first
   ·cases last
    ·rcases R with rfl | ⟨r0,⟨r1,r2⟩ | ⟨r1,r2,r3 | r3⟩⟩
     ·simp only [go_sem,seval,a3,f0,f1,f2];exact au.pure hs (by simp [f0,f3,f4])
     ·simp only [go_sem,seval,a3,f0,f1,f2,r0,r1];exact au.pure hs (by simp [f0,f3,f4,r0,r2])
     ·simp only [go_sem,seval,a3,f0,f1,f2,r0,r1,r3];exact au.pure hs (by simp [f0,f3,f4,r0,r2,r3])
     ·simp only [go_sem,seval,a3,f0,f1,f2,r0,r1,r3];exact au.pure hs (by simp [f0,f3,f4,r0,r2,r3])
    ·simp only [go_sem,seval,a3,f0,f1,f2];exact au.pure hs (by simp [f0,f3,f4])
   ·cases last
    ·simp only [go_sem,seval,a3,f0,f1,f2];exact au.pure hs (by simp [f0,f3,f4])
    ·simp only [go_sem,seval,a3,f0,f1,f2];exact au.pure hs (by simp [f0,f3,f4])
 ·rcases F with rfl | ⟨f0,⟨f1,f2⟩ | ⟨f1,⟨f2,f3⟩ | ⟨f2,f3,f4⟩⟩⟩
  ·cases first
   ·cases last
    ·rcases R with rfl | ⟨r0,⟨r1,r2⟩ | ⟨r1,r2,r3 | r3⟩⟩
     ·simp only [go_sem,seval,a3];exact au.pure hs (by simp)
     ·simp only [go_sem,seval,a3,r0,r1];exact au.pure hs (by simp [r0,r2])
     ·simp only [go_sem,seval,a3,r0,r1,r3];exact au.pure hs (by simp [r0,r2,r3])
     ·simp only [go_sem,seval,a3,r0,r1,r3];exact au.pure hs (by simp [r0,r2,r3])
    ·simp only [go_sem,seval,a3];exact au.pure hs (by simp)
   ·cases last
    ·simp only [go_sem,seval,a3];exact au.pure hs (by simp)
    ·simp only [go_sem,seval,a3];exact au.pure hs (by simp)
  ·cases first
   ·cases last
    ·simp only [go_sem,seval,a3,f0,f1];exact au.pure hs (by simp [f0,f2])
    ·simp only [go_sem,seval,a3,f0,f1];exact au.pure hs (by simp [f0,f2])
   ·cases last
    ·simp only [go_sem,seval,a3,f0,f1];exact au.pure hs (by simp [f0,f2])
    ·simp only [go_sem,seval,a3,f0,f1];exact au.pure hs (by simp [f0,f2])
  ·cases first
   ·cases last
    ·simp only [go_sem,seval,a3,f0,f1,f2];exact au.pure hs (by simp [f0,f3])
    ·simp only [go_sem,seval,a3,f0,f1,f2];exact au.pure hs (by simp [f0,f3])
   ·cases last
    ·simp only [go_sem,seval,a3,f0,f1,f2];exact au.pure hs (by simp [f0,f3])
    ·simp only [go_sem,seval,a3,f0,f1,f2];exact au.pure hs (by simp [f0,f3])
  ·cases first
   ·cases last
    ·simp only [go_sem,seval,a3,f0,f1,f2];exact au.pure hs (by simp [f0,f3,f4])
    ·simp only [go_sem,seval,a3,f0,f1,f2];exact au.pure hs (by simp [f0,f3,f4])
   ·cases last
    ·simp only [go_sem,seval,a3,f0,f1,f2];exact au.pure hs (by simp [f0,f3,f4])
    ·simp only [go_sem,seval,a3,f0,f1,f2];exact au.pure hs (by simp [f0,f3,f4])
 ·rcases F with rfl | ⟨f0,⟨f1,f2⟩ | ⟨f1,⟨f2,f3⟩ | ⟨f2,f3,f4⟩⟩⟩
  ·cases first
   ·cases last
    ·simp only [go_sem,seval,a3];exact au.pure hs (by simp)
    ·rcases R with rfl | ⟨r0,⟨r1,r2⟩ | ⟨r1,r2,r3 | r3⟩⟩
     ·simp only [go_sem,seval,a3];exact au.pure hs (by simp)
     ·simp only [go_sem,seval,a3,r0,r1];exact au.pure hs (by simp [r0,r2])
     ·simp only [go_sem,seval,a3,r0,r1,r3];exact au.pure hs (by simp [r0,r2,r3])
     ·simp only [go_sem,seval,a3,r0,r1,r3];exact au.pure hs (by simp [r0,r2,r3])
   ·cases last
    ·simp only [go_sem,seval,a3];exact au.pure hs (by simp)
    ·simp only [go_sem,seval,a3];exact au.pure hs (by simp)
  ·cases first
   ·cases last
    ·simp only [go_sem,seval,a3,f0,f1];exact au.pure hs (by simp [f0,f2])
    ·simp only [go_sem,seval,a3,f0,f1];exact au.pure hs (by simp [f0,f2])
   ·cases last
    ·simp only [go_sem,seval,a3,f0,f1];exact au.pure hs (by simp [f0,f2])
    ·simp only [go_sem,seval,a3,f0,f1];exact au.pure hs (by simp [f0,f2])
  ·cases first
   ·cases last
    ·simp only [go_sem,seval,a3,f0,f1,f2];exact au.pure hs (by simp [f0,f3])
    ·simp only [go_sem,seval,a3,f0,f1,f2];exact au.pure hs (by simp [f0,f3])
   ·cases last
    ·simp only [go_sem,seval,a3,f0,f1,f2];exact au.pure hs (by simp [f0,f3])
    ·simp only [go_sem,seval,a3,f0,f1,f2];exact au.pure hs (by simp [f0,f3])
  ·cases first
   ·cases last
    ·simp only [go_sem,seval,a3,f0,f1,f2];exact au.pure hs (by simp [f0,f3,f4])
    ·simp only [go_sem,seval,a3,f0,f1,f2];exact au.pure hs (by simp [f0,f3,f4])
   ·cases last
    ·simp only [go_sem,seval,a3,f0,f1,f2];exact au.pure hs (by simp [f0,f3,f4])
    ·simp only [go_sem,seval,a3,f0,f1,f2];exact au.pure hs (by simp [f0,f3,f4])
 ·rcases F with rfl | ⟨f0,⟨f1,f2⟩ | ⟨f1,⟨f2,f3⟩ | ⟨f2,f3,f4⟩⟩⟩
  ·cases first
   ·cases last
    ·simp only [go_sem,seval,a3,c0,c1,c2,c3,c4,c5];exact au.pure hs (by simp [c0,c1,c2,c3,c4,c5])
    ·simp only [go_sem,seval,a3,c0,c1,c2,c3,c4,c5];exact au.pure hs (by simp [c0,c1,c2,c3,c4,c5])
   ·cases last
    ·simp only [go_sem,seval,a3,c0,c1,c2,c3,c4,c5];exact au.pure hs (by simp [c0,c1,c2,c3,c4,c5])
    ·simp only [go_sem,seval,a3,c0,c1,c2,c3,c4,c5];exact au.pure hs (by simp [c0,c1,c2,c3,c4,c5])
  ·cases first
   ·cases last
    ·simp only [go_sem,seval,a3,c0,c1,c2,c3,c4,c5,f0,f1];exact au.pure hs (by simp [c0,c1,c2,c3,c4,c5,f0,f2])
    ·simp only [go_sem,seval,a3,c0,c1,c2,c3,c4,c5,f0,f1];exact au.pure hs (by simp [c0,c1,c2,c3,c4,c5,f0,f2])
   ·cases last
    ·simp only [go_sem,seval,a3,c0,c1,c2,c3,c4,c5,f0,f1];exact au.pure hs (by simp [c0,c1,c2,c3,c4,c5,f0,f2])
    ·simp only [go_sem,seval,a3,c0,c1,c2,c3,c4,c5,f0,f1];exact au.pure hs (by simp [c0,c1,c2,c3,c4,c5,f0,f2])
  ·cases first
   ·cases last
    ·simp only [go_sem,seval,a3,c0,c1,c2,c3,c4,c5,f0,f1,f2];exact au.pure hs (by simp [c0,c1,c2,c3,c4,c5,f0,f3])
    ·simp only [go_sem,seval,a3,c0,c1,c2,c3,c4,c5,f0,f1,f2];exact au.pure hs (by simp [c0,c1,c2,c3,c4,c5,f0,f3])
   ·cases last
    ·simp only [go_sem,seval,a3,c0,c1,c2,c3,c4,c5,f0,f1,f2];exact au.pure hs (by simp [c0,c1,c2,c3,c4,c5,f0,f3])
    ·simp only [go_sem,seval,a3,c0,c1,c2,c3,c4,c5,f0,f1,f2];exact au.pure hs (by simp [c0,c1,c2,c3,c4,c5,f0,f3])
  ·cases first
   ·cases last
    ·simp only [go_sem,seval,a3,c0,c1,c2,c3,c4,c5,f0,f1,f2];exact au.pure hs (by simp [c0,c1,c2,c3,c4,c5,f0,f3,f4])
    ·simp only [go_sem,seval,a3,c0,c1,c2,c3,c4,c5,f0,f1,f2];exact au.pure hs (by simp [c0,c1,c2,c3,c4,c5,f0,f3,f4])
   ·cases last
    ·simp only [go_sem,seval,a3,c0,c1,c2,c3,c4,c5,f0,f1,f2];exact au.pure hs (by simp [c0,c1,c2,c3,c4,c5,f0,f3,f4])
    ·simp only [go_sem,seval,a3,c0,c1,c2,c3,c4,c5,f0,f1,f2];exact au.pure hs (by simp [c0,c1,c2,c3,c4,c5,f0,f3,f4])
open Go.Proofs Go.Proofs.Tryz
def bkG (b:List Brk) (i:Nat):Brk:=b.getD i ⟨0,0,0⟩
def gm (b:List Brk) (i:Nat):Bool:=decide (nm (bkG b i) (decide ((i:Int)=0)) (decide ((i:Int)=(b.length:Int) - 1)))
def tX (b:List Brk):Bool:=(List.range b.length).all (gm b) && decide ((b.length:Int) > 0)
theorem CH {b:List Brk} {j:Nat} (h:(List.range j).all (gm b)=true) (hr:gm b j=true):(List.range (j+1)).all (gm b)=true:=by
 rw [List.range_succ,List.all_append,h]; simp [hr]
theorem J5 (b:List Brk) (hb:b.length≤1000000):aV prog 99 [bM b] (.bool (tX b)):=fun σ=>by
 refine e99.r (by simp [c99]) ?_;have hlb:=Aa b;refine ad.mix 5 ?_;apply sR;simp only [go_sem,seval,c99,hlb];refine ad.eD (fun st=>aa σ st.σ∧st.s 0=bM b∧(List.range b.length).all (gm b)=true)
  (fun m st=>∃j:Nat,j≤b.length∧m=b.length - j∧aa σ st.σ∧(List.range j).all (gm b)=true∧st.s 0=bM b∧st.s 5=bM b∧st.s 6=vI b.length∧st.s 7=vI j) b.length ?_ ?_ ?_
 ·exact ⟨0,by omega,rfl,aa.refl _,rfl,rfl,rfl,rfl,rfl⟩
 ·rintro m ⟨S,τ⟩ ⟨j,hj,rfl,hs,hall,t0,t5,t6,t7⟩;simp only at hs t0 t5 t6 t7;refine ad.mix 5 ?_;by_cases hlt:j < b.length
  ·have q:((j:Int) < b.length)=True:=eq_true (by omega);have r1:inR .i64 ((j:Int)+1):=ak (by omega) (by omega);have r2:inR .i64 ((b.length:Int) - 1):=ak (by omega) (by omega);have hidx:=fun σ=>wI (σ:=σ) hlt;have hg:bkG b j=b[j]:=by simp [bkG,hlt]
   have hra:gm b j=decide (nm b[j] (decide ((j:Int)=0)) (decide ((j:Int)=(b.length:Int) - 1))):=by rw [gm,hg]
   apply sR;simp only [go_sem,seval,t0,t5,t6,t7,q,hidx,fC];refine ae fun i4 σ4 s4 a4 f4=>?_;simp only [go_sem,seval,a4,t0,t5,t6,t7,hlb,r2];generalize hq4:upd σ4 i4 _=τ4;have s4':aa τ τ4:=by rw [←hq4]; exact s4.aD f4
   clear hq4;refine ad.az rfl rfl rfl (GO b[j] (decide ((j:Int)=0)) (decide ((j:Int)=(b.length:Int) - 1)) _) ?_;rw [←hra];cases hv:gm b j
   ·apply sR;simp only [go_sem,seval,t0,t5,t6,t7];have hm:tX b=false:=by
     rw [tX];have:(List.range b.length).all (gm b)=false:=by
      rw [List.all_eq_false];exact ⟨j,List.mem_range.2 hlt,by simp [hv]⟩
     rw [this]; rfl
    exact au.pure (hs.trans s4') (by rw [hm])
   ·apply sR;simp only [go_sem,seval,t0,t5,t6,t7,r1];refine ⟨_,?_,j+1,by omega,rfl,hs.trans s4',CH hall hv,by simp [t0,t5,t6]⟩;omega
  ·have q:((j:Int) < b.length)=False:=eq_false (by omega);have hje:j=b.length:=by omega
   subst hje;apply sR;simp only [go_sem,seval,t0,t5,t6,t7,q];exact ⟨hs,hall⟩
 ·rintro ⟨S,τ⟩ ⟨hs,t0,hall⟩;simp only at hs t0 hall;refine ad.mix 5 ?_;apply sR;simp only [go_sem,seval,t0,hlb];exact au.pure hs (by rw [tX,hall]; rfl)
open Go.Proofs Go.Proofs.Tryz
def ir (b:List Brk) (i:Nat):V:=.agg [vI (bkG b i).cls,vI (bkG b i).forced,vI (bkG b i).rank,vI i]
def tY (b:List Brk) (bJ to:Int):Nat:=(min to ((b.length:Int) - 1)+1 - max bJ 0).toNat
def btw (b:List Brk) (bJ to:Int):List Nat:=List.range' (max bJ 0).toNat (tY b bJ to)
theorem Mr (σ:af) (b:List Brk):bO σ false 1 (.rp (bM b))=some (bM b):=rfl
theorem range_split:∀(j s n:Nat),j < n→List.range' s n=List.range' s j++(s+j)::List.range' (s+j+1) (n - j - 1)
 | 0,s,n+1,_=>by simp [List.range']
 | j+1,s,n+1,h=>by
   have:=range_split j (s+1) n (by omega);rw [List.range',this,List.range'];have e1:s+1+j=s+(j+1):=by omega
   have e2:n - j - 1=n+1 - (j+1) - 1:=by omega
   rw [e1,e2]; rfl
theorem pS (s j:Nat):List.range' s (j+1)=List.range' s j++[s+j]:=by
 rw [range_split j s (j+1) (by omega),show j+1 - j - 1=0 by omega]; rfl
theorem D0 (b:List Brk) (hb:b.length≤1000000) (bJ to:Int):Iter prog 181 [.rp (vI bJ), .rp (vI to), .rp (bM b)] ((btw b bJ to).map fun i=>[ir b i]):=by
 refine ⟨Mt.c,fun idl J Jx σ0 hy hJ=>?_⟩;refine (Mt.r (by simp [KU]) ?_).2;have hlb:=Aa b;refine ad.mix 6 ?_;apply sR;simp only [go_sem,seval,KU,cG];obtain ⟨s,hsv⟩:∃s:Nat,s=(max bJ 0).toNat:=⟨_,rfl⟩
 have hs0:max bJ 0=(s:Int):=by omega
 obtain ⟨n,hnv⟩:∃n:Nat,n=tY b bJ to:=⟨_,rfl⟩
 have hn1:∀j:Nat,(((s+j:Nat):Int)≤min to ((b.length:Int) - 1))↔j < n:=fun j=>by rw [hnv,tY,hs0]; omega
 rw [btw,←hsv,←hnv] at hy ⊢;rw [hs0];refine ad.loop (fun m st=>∃(j:Nat) (σJ:af),j≤n∧m=n - j∧J ((List.range' s j).map fun i=>[ir b i]) σJ∧aa σJ st.σ∧st.s 0=.yl idl∧st.s 1=.rp (vI bJ)∧st.s 2=.rp (vI to)∧st.s 3=.rp (bM b)∧st.s 5=vI (s+j:Nat)) n ?_ ?_
 ·exact ⟨0,σ0,by omega,rfl,by simpa using hJ,aa.refl _,rfl,rfl,rfl,rfl,rfl⟩
 ·rintro m ⟨S,τ⟩ ⟨j,σJ,hj,rfl,hJj,hsub,t0,t1,t2,t3,t5⟩;simp only at hsub t0 t1 t2 t3 t5;refine ad.mix 6 ?_;have r2:inR .i64 ((b.length:Int) - 1):=ak (by omega) (by omega);by_cases hlt:j < n
  ·have hle:=(hn1 j).2 hlt;have hbl:s+j < b.length:=by omega
   have q:(((s+j:Nat):Int)≤min to ((b.length:Int) - 1))=True:=eq_true hle;have r1:inR .i64 (((s+j:Nat):Int)+1):=ak (by omega) (by omega);have hidx:=fun σ=>wI (σ:=σ) hbl;have hg:bkG b (s+j)=b[s+j]:=by simp [bkG,hbl]
   have hfd:ir b (s+j)=.agg [vI b[s+j].cls,vI b[s+j].forced,vI b[s+j].rank,vI (s+j:Nat)]:=by rw [ir,hg]
   have e:((List.range' s n).map fun i=>[ir b i])=((List.range' s j).map fun i=>[ir b i])++[ir b (s+j)]::((List.range' (s+j+1) (n - j - 1)).map fun i=>[ir b i]):=by
    rw [range_split j s n hlt]; simp
   have htk:((List.range' s (j+1)).map fun i=>[ir b i])=((List.range' s j).map fun i=>[ir b i])++[[ir b (s+j)]]:=by rw [pS]; simp
   have q5:s+(j+1)=s+j+1:=by omega
   generalize s+j=sj at *;apply sR;simp only [go_sem,seval,t0,t1,t2,t3,t5,Mr,hlb,r2,ew,q,hidx,fC];rw [←hfd];refine ad.lA (Post:=fun b' σ2=>∃σJ',bc σJ τ σJ' σ2∧((b'=true∧J (((List.range' s j).map fun i=>[ir b i])++[[ir b sj]]) σJ')∨(b'=false∧Jx (((List.range' s j).map fun i=>[ir b i])++[[ir b sj]]) σJ'))) rfl rfl rfl (hy _ [ir b sj] _ σJ τ e hJj hsub) ?_;rintro b' σ2 ⟨σJ',hbs,hbb⟩;rcases hbb with ⟨rfl,hbb⟩ | ⟨rfl,hbb⟩
   ·apply sR;simp only [go_sem,seval,t0,t1,t2,t3,t5,r1];refine ⟨_,?_,j+1,σJ',by omega,rfl,by rw [htk]; exact hbb,hbs.1,by simp [t0,t1,t2,t3,q5]⟩;omega
   ·apply sR;simp only [go_sem,seval,t0,t1,t2,t3,t5];exact ⟨_,σJ',hbs.1,Wk.refl hbs.1 _, .inr ⟨_,⟨_,by rw [e,List.append_assoc]; rfl⟩,hbb⟩⟩
  ·have q:(((s+j:Nat):Int)≤min to ((b.length:Int) - 1))=False:=eq_false (fun h=>hlt ((hn1 j).1 h));have hje:j=n:=by omega
   subst hje;generalize s+j=sj at *;apply sR;simp only [go_sem,seval,t0,t1,t2,t3,t5,Mr,hlb,r2,ew,q];exact ⟨_,σJ,hsub,Wk.refl hsub _, .inl hJj⟩
open Go.Proofs Go.Proofs.Tryz
structure Fd where
 (b:Brk) (i:Int)
def eZ (x:Fd):V:=.agg [vI x.b.cls,vI x.b.forced,vI x.b.rank,vI x.i]
def fE (ah:Fd→Fd→Bool→Bool) (p:Fd×Bool) (x:Fd):Fd×Bool:=if ah x p.1 p.2 then (x,true) else p
def eT (ah:Fd→Fd→Bool→Bool) (xs:List Fd) (d:Fd):Fd×Bool:=xs.foldl (fE ah) (d,false)
theorem sq (ah:Fd→Fd→Bool→Bool) (xs:List Fd) (x:Fd) (d:Fd):eT ah (xs++[x]) d=fE ah (eT ah xs d) x:=by simp [eT,List.foldl_append]
theorem zj {g f:FuncId} {caps:List V} {xs:List Fd} (hit:Iter prog g caps (xs.map fun x=>[eZ x])) (d:Fd) (ah:Fd→Fd→Bool→Bool)
 (hf:∀x y s,aV prog f [eZ x,eZ y, .bool s] (.bool (ah x y s))) :
 aV prog 140 [.fn g caps,eZ d, .fn f []] (eZ (eT ah xs d).1):=fun σ=>by
 refine Nj.r (by simp [IP]) ?_;have hs:=aa.refl σ;have hfc:(V.fn f []).cells=[.fn f []]:=rfl;have hfs:(V.fn f []).stays=true:=rfl;refine ad.mix 10 ?_;apply sR;simp only [go_sem,seval,IP,eZ,hfc,hfs];refine ae fun i4 σ4 s4 a4 f4=>?_;have z4:=hs.none f4;replace hs:=hs.trans s4;simp only [go_sem,seval,hfc,hfs];refine ae fun i5 σ5 s5 a5 f5=>?_;have n45:=ao a4 f5;replace a4:=s5 _ _ a4;have z5:=hs.none f5;replace hs:=hs.trans s5;simp only [go_sem,seval,hfc,hfs];refine ae fun i6 σ6 s6 a6 f6=>?_;have n46:=ao a4 f6;replace a4:=s6 _ _ a4;have n56:=ao a5 f6;replace a5:=s6 _ _ a5;have z6:=hs.none f6;replace hs:=hs.trans s6;simp only [go_sem,seval,a4,hfc,hfs];have hs6:=aa.refl σ6;refine ae fun i7 σ7 s7 a7 f7=>?_;simp only [go_sem,seval,a7,hfc,hfs];refine ae fun i8 σ8 s8 a8 f8=>?_;have n78:i7≠i8:=ao a7 f8;have b7:=s8 _ _ a7;simp only [go_sem,seval,b7,a8,ab n78,ab n78.symm,hfc,hfs];generalize hS:mix 10 _ _=S;have S5:S 5=.ptr i5 0 0:=by rw [←hS]; rfl
 have S6:S 6=.ptr i6 0 0:=by rw [←hS]; rfl
 have S7:S 7=.ptr i7 0 0:=by rw [←hS]; rfl
 have S8:S 8=.ptr i8 0 0:=by rw [←hS]; rfl
 have S11:S 11=.fn g caps:=by rw [←hS]; rfl
 clear hS;refine ad.cu (g:=.t 11) (caps:=caps) S11 hit (fun y hy=>?_) [] (fun pre σJ=>σJ i7=some ⟨243,4,[eZ (eT ah (xs.take pre.length) d).1]⟩∧σJ i8=some ⟨4,1,[.bool (eT ah (xs.take pre.length) d).2]⟩∧aa σ6 σJ)
  (fun _ _ _=>False) ?_ ?_ ?_ ?_ ?_
 ·obtain ⟨t,_,rfl⟩:=List.mem_map.1 hy; rfl
 ·refine ⟨(ab n78).trans ag,ag,?_⟩;have h7:=(s7.trans s8).aD (id:=i7) (o:=⟨243,4,[.agg [vI d.b.cls,vI d.b.forced,vI d.b.rank,vI d.i]]⟩) f7;exact h7.aD (s7.none f8)
 ·rintro pre y post σJ σB hxs ⟨J7,J8,Js⟩ hsub;obtain ⟨t,hti,rfl⟩:=nI (f:=eZ) hxs;have htk:eT ah (xs.take (pre.length+1)) d=fE ah (eT ah (xs.take pre.length) d) t:=by rw [List.take_add_one,hti]; exact sq _ _ _ _
  have hlen:(pre++[[eZ t]]).length=pre.length+1:=by simp
  rw [hlen,htk];generalize eT ah (xs.take pre.length) d=p at *;obtain ⟨p1,p2⟩:=p;simp only at J7 J8;have c7:=hsub _ _ J7;have c8:=hsub _ _ J8;have c5:=hsub _ _ (Js _ _ a5);generalize hSS:kR S [12] [eZ t]=S0;have T5:S0 5=.ptr i5 0 0:=by rw [←hSS]; exact S5
  have T7:S0 7=.ptr i7 0 0:=by rw [←hSS]; exact S7
  have T8:S0 8=.ptr i8 0 0:=by rw [←hSS]; exact S8
  have T12:S0 12=eZ t:=by rw [←hSS]; rfl
  clear hSS;rw [eZ] at c7 T12;refine ad.mix 10 ?_;apply sR;simp only [go_sem,seval,T5,T7,T8,T12];rw [aH];intro i9 f9;have m7:i7≠i9:=ao c7 f9;have m8:i8≠i9:=ao c8 f9;have m5:i5≠i9:=ao c5 f9;simp only [go_sem,seval,T5,T7,T8,T12];have hBs:=(bc.refl hsub).pj (o:=⟨243,4,[.agg [vI t.b.cls,vI t.b.forced,vI t.b.rank,vI t.i]]⟩) f9;have d7:=(ab (o:=⟨243,4,[.agg [vI t.b.cls,vI t.b.forced,vI t.b.rank,vI t.i]]⟩) m7).trans c7;have d8:=(ab (o:=⟨243,4,[.agg [vI t.b.cls,vI t.b.forced,vI t.b.rank,vI t.i]]⟩) m8).trans c8;have d5:=(ab (o:=⟨243,4,[.agg [vI t.b.cls,vI t.b.forced,vI t.b.rank,vI t.i]]⟩) m5).trans c5;have d9:upd σB i9 ⟨243,4,[.agg [vI t.b.cls,vI t.b.forced,vI t.b.rank,vI t.i]]⟩ i9=_:=ag;generalize upd σB i9 ⟨243,4,[.agg [vI t.b.cls,vI t.b.forced,vI t.b.rank,vI t.i]]⟩=τ9 at *;apply sR;simp only [go_sem,seval,T5,T7,T8,d5,d7,d8,d9];refine ad.az rfl rfl rfl (hf t p1 p2 _) ?_;cases hv:ah t p1 p2
  ·apply sR;simp only [go_sem,seval,T5,T7,T8];refine ⟨_,hBs,?_,?_,Js⟩
   ·rw [fE,hv]; exact J7
   ·rw [fE,hv]; exact J8
  ·apply sR;simp only [go_sem,seval,T5,T7,T8,d5,d7,d8,d9,ab n78,ab n78.symm];refine ⟨_,(hBs.set (id:=i7) J7).set (id:=i8) (by rw [ab n78.symm]; exact J8),?_,?_,?_⟩
   ·rw [fE,hv]; exact (ab n78).trans ag
   ·rw [fE,hv]; exact ag
   ·exact (Js.aD f7).aD (s7.none f8)
 ·rintro σ' ⟨J7,J8,Js⟩;rw [List.length_map,List.take_length] at J7 J8;rw [eZ] at J7;have e6:=Js _ _ a6;refine ad.mix 10 ?_;apply sR;simp only [go_sem,seval,S6,S7,J7,e6];exact au.pure ((hs.trans Js).aD z6) rfl
 ·intro id h; cases h
 ·rintro pre σ' _ ⟨⟩
open Go.Proofs Go.Proofs.Tryz
theorem uw (b:List Brk) (bJ to:Int):aV prog 141 [bM b,vI bJ,vI to] (.fn 181 [.rp (vI bJ), .rp (vI to), .rp (bM b)]):=fun σ=>by
 refine NF.r (by simp [IA]) ?_;refine ad.mix 7 ?_;have q1:=gw b;have q2:=gr b;generalize bM b=x at *;apply sR;simp only [go_sem,seval,IA,q1,q2];refine ae fun id1 σ1 s1 a1 f1=>?_;simp only [go_sem,seval,q1,q2];refine ae fun id2 σ2 s2 a2 f2=>?_;simp only [go_sem,seval,q1,q2];refine ae fun id3 σ3 s3 a3 f3=>?_;simp only [go_sem,seval,q1,q2];have hs:=(s1.trans s2).trans s3;exact ⟨_,σ,hs,Wk.fn (vs':=[.rp (vI bJ), .rp (vI to), .rp x]) ⟨Wk.ptr hs (s3 _ _ a2) (s1.none f2),Wk.ptr hs a3 ((s1.trans s2).none f3),Wk.ptr hs (s3 _ _ (s2 _ _ a1)) f1,trivial⟩,rfl,rfl⟩
def kS (b:List Brk) (i:Nat):Fd:=⟨bkG b i,i⟩
def yy:Fd:=⟨⟨0,0,0⟩, -1⟩
def gn (x _y:Fd) (s:Bool):Bool:=!s && decide (x.b.forced≠0)
def iu (x y:Fd) (s:Bool):Bool:=!s || decide (x.b.rank≤y.b.rank)
theorem ES (x y:Fd) (s:Bool):aV prog 142 [eZ x,eZ y, .bool s] (.bool (gn x y s)):=fun σ=>by
 refine Nf.r (by simp [Iw]) ?_;have hs:=aa.refl σ;obtain ⟨⟨c,f,r⟩,i⟩:=x;obtain ⟨⟨c',f',r'⟩,i'⟩:=y;refine ad.mix 7 ?_;apply sR;simp only [go_sem,seval,Iw,eZ];refine ae fun i3 σ3 s3 a3 f3=>?_;have z3:=hs.none f3;replace hs:=hs.trans s3;simp only [go_sem,seval];refine ae fun i4 σ4 s4 a4 f4=>?_;have n34:=ao a3 f4;replace a3:=s4 _ _ a3;have z4:=hs.none f4;replace hs:=hs.trans s4;cases s
 ·by_cases h:f≠0
  ·have q:(f≠0)=True:=eq_true h;simp only [go_sem,seval,a3,a4,q];exact au.pure hs (by simp [gn,h])
  ·have q:(f≠0)=False:=eq_false h;simp only [go_sem,seval,a3,a4,q];exact au.pure hs (by simp [gn,h])
 ·simp only [go_sem,seval,a3,a4];exact au.pure hs (by simp [gn])
theorem Ho (x y:Fd) (s:Bool):aV prog 143 [eZ x,eZ y, .bool s] (.bool (iu x y s)):=fun σ=>by
 refine MG.r (by simp [Jd]) ?_;have hs:=aa.refl σ;obtain ⟨⟨c,f,r⟩,i⟩:=x;obtain ⟨⟨c',f',r'⟩,i'⟩:=y;refine ad.mix 7 ?_;apply sR;simp only [go_sem,seval,Jd,eZ];refine ae fun i3 σ3 s3 a3 f3=>?_;have z3:=hs.none f3;replace hs:=hs.trans s3;simp only [go_sem,seval];refine ae fun i4 σ4 s4 a4 f4=>?_;have n34:=ao a3 f4;replace a3:=s4 _ _ a3;have z4:=hs.none f4;replace hs:=hs.trans s4;cases s
 ·simp only [go_sem,seval,a3,a4];exact au.pure hs (by simp [iu])
 ·by_cases h:r≤r'
  ·have q:(r≤r')=True:=eq_true h;simp only [go_sem,seval,a3,a4,q];exact au.pure hs (by simp [iu,h])
  ·have q:(r≤r')=False:=eq_false h;simp only [go_sem,seval,a3,a4,q];exact au.pure hs (by simp [iu,h])
def ky (b:List Brk) (bJ to:Int):Int:=(eT gn ((btw b bJ to).map (kS b)) yy).1.i
def Dy (b:List Brk) (bJ to:Int):Int:=(eT iu ((btw b bJ to).map (kS b)) yy).1.i
theorem uU (b:List Brk) (hb:b.length≤1000000) (bJ to:Int):Iter prog 181 [.rp (vI bJ), .rp (vI to), .rp (bM b)] (((btw b bJ to).map (kS b)).map fun x=>[eZ x]):=by
 have h:=D0 b hb bJ to;rw [List.map_map]; exact h
theorem GY (b:List Brk) (hb:b.length≤1000000) (bJ to:Int):aV prog 100 [bM b,vI bJ,vI to] (vI (ky b bJ to)):=fun σ=>by
 refine Mv.r (by simp [Jk]) ?_;have hs:=aa.refl σ;refine ad.mix 8 ?_;apply sR;simp only [go_sem,seval,Jk];refine ad.az rfl rfl rfl (uw b bJ to _) ?_;apply sR;simp only [go_sem,seval];refine ad.az rfl rfl rfl (zj (uU b hb bJ to) yy gn ES _) ?_;have hcl:∀x,(eZ x).cells=[vI x.b.cls,vI x.b.forced,vI x.b.rank,vI x.i]:=fun _=>rfl;apply sR;simp only [go_sem,seval,eZ];refine ae fun i7 σ7 s7 a7 f7=>?_;have z7:=hs.none f7;replace hs:=hs.trans s7;simp only [go_sem,seval,a7];exact au.pure (hs.aD z7) rfl
theorem KW (b:List Brk) (hb:b.length≤1000000) (bJ to:Int):aV prog 101 [bM b,vI bJ,vI to] (vI (Dy b bJ to)):=fun σ=>by
 refine NA.r (by simp [KX]) ?_;have hs:=aa.refl σ;refine ad.mix 8 ?_;apply sR;simp only [go_sem,seval,KX];refine ad.az rfl rfl rfl (uw b bJ to _) ?_;apply sR;simp only [go_sem,seval];refine ad.az rfl rfl rfl (zj (uU b hb bJ to) yy iu Ho _) ?_;apply sR;simp only [go_sem,seval,eZ];refine ae fun i7 σ7 s7 a7 f7=>?_;have z7:=hs.none f7;replace hs:=hs.trans s7;simp only [go_sem,seval,a7];exact au.pure (hs.aD z7) rfl
open Go.Proofs Go.Proofs.Tryz
structure Kp where
 (heads:List Int)
 (high body:Int)
def iy (l:List Nd) (x:Kp) (a:Int):Kp:=if (stA l a).head < 1∨x.body - (stA l a).head < 1 then x else ⟨x.heads++[a],x.high+(stA l a).head,x.body - (stA l a).head⟩
structure KpJ (σ0:af) (i7:Nat) (x:Kp) (σ:af):Prop where
 row:∃v,σ i7=some ⟨181,3,[.agg [v,vI x.high,vI x.body]]⟩∧aM (bb σ0 i7) σ 3 1 v (x.heads.map vI)
 sub:aa σ0 σ
 no:σ0 i7=none
theorem Gc (l:List Nd) (hb:isB l=true) (x:Kp) (hlen:x.heads.length≤1000000) (h0:0≤x.high) (h1:x.high≤4398046511104) (h2:0≤x.body) (h3:x.body≤4398046511104) (a:Nat) (ha:a < l.length)
 {σ0 σJ σB:af} {i7:Nat} (hJ:KpJ σ0 i7 x σJ) (hsub:aa σJ σB) :
 av prog 96 [.ptr i7 0 0,aJ l,vI a] σB fun _ σ'=>∃σJ',bc σJ σB σJ' σ'∧KpJ σ0 i7 (iy l x a) σJ':=by
 refine e96.r (by simp [c96]) ?_;have hno:=(fI hb ha).st.head;have hnd:=fun σ=>cT (σ:=σ) (l:=l) (a:=a) ha;obtain ⟨⟨v,J7,Jo⟩,Js,Jn⟩:=hJ;obtain ⟨hds,high,body⟩:=x;simp only at hlen h0 h1 h2 h3 J7 Jo;have hvc:v.cells=[v]:=by rcases Jo with ⟨rfl,_⟩ | ⟨_,rfl,_⟩ <;> rfl
 have c7:=hsub _ _ J7;unfold iy;rw [iL ha];simp only;have same:(l[a].st.head < 1∨body - l[a].st.head < 1)→au (.tup []) σB fun _ σ'=>∃σJ',bc σJ σB σJ' σ'∧KpJ σ0 i7 (if l[a].st.head < 1∨body - l[a].st.head < 1 then ⟨hds,high,body⟩ else ⟨hds++[(a:Int)],high+l[a].st.head,body - l[a].st.head⟩) σJ':=fun h=>by
  rw [if_pos h];exact ⟨_,σB,aa.refl _,Wk.refl (aa.refl _) _,σJ,bc.refl hsub,⟨v,J7,Jo⟩,Js,Jn⟩
 refine ad.mix 7 ?_;have r1:inR .i64 (body - l[a].st.head):=ak (by omega) (by omega);have r2:inR .i64 (high+l[a].st.head):=ak (by omega) (by omega);by_cases hn:l[a].st.head < 1
 ·have q1:(l[a].st.head < 1)=True:=eq_true hn;have fin:=same (.inl hn);generalize hX:(if l[a].st.head < 1∨body - l[a].st.head < 1 then (⟨hds,high,body⟩:Kp) else ⟨hds++[(a:Int)],high+l[a].st.head,body - l[a].st.head⟩)=X at *;apply sR;simp only [go_sem,seval,c96,hnd,Nd.cells,q1,c7,hvc];exact fin
 have q1:(l[a].st.head < 1)=False:=eq_false hn;by_cases hn2:body - l[a].st.head < 1
 ·have q2:(body - l[a].st.head < 1)=True:=eq_true hn2;have fin:=same (.inr hn2);generalize hX:(if l[a].st.head < 1∨body - l[a].st.head < 1 then (⟨hds,high,body⟩:Kp) else ⟨hds++[(a:Int)],high+l[a].st.head,body - l[a].st.head⟩)=X at *;apply sR;simp only [go_sem,seval,c96,hnd,Nd.cells,q1,r1,q2,c7,hvc];exact fin
 have q2:(body - l[a].st.head < 1)=False:=eq_false hn2;rw [if_neg (by omega)];clear same;apply sR;simp only [go_sem,seval,c96,hnd,Nd.cells,q1,r1,q2,c7,hvc];rw [aH];intro id28 f28;have hrl:(hds.map vI).length≤1000000:=by simpa using hlen
 have hrows:((hds++[(a:Int)]).map vI)=hds.map vI++[vI a]:=by simp
 generalize hds.map vI=rows at *;have hBs:=(bc.refl hsub).pj (o:=⟨3,1,[vI (a:Int)]⟩) f28;have y2:upd σB id28 ⟨3,1,[vI (a:Int)]⟩ i7=_:=(ab (ao c7 f28)).trans c7;have a28:upd σB id28 ⟨3,1,[vI (a:Int)]⟩ id28=some ⟨3,1,[vI (a:Int)]⟩:=ag;generalize upd σB id28 ⟨3,1,[vI (a:Int)]⟩=σ8 at *;obtain ⟨idA,hda,hdA⟩:=Jo.Di hBs.1;have hb2:(rows.length+1)*9≤140737488355328:=by omega
 have k2:bb σ0 i7 i7≠none:=fun h=>(aF.1 h).1 rfl;have dne:∀(i:Nat) (σx:af),bb σ0 i7 i≠none→Vc.bw σx idA i=σx i:=fun i σx hk=>by
  cases idA with
  | none=>rfl
  | some a=>exact dh (fun e=>hk (by rw [e]; exact (hdA a rfl).1))
 simp only [go_sem,seval,hda,di a28,hb2];rw [aH];intro id29 f29;have f29:σ8 id29=none:=f29;have m29:i7≠id29:=ao y2 f29;have f29':Vc.bw σ8 idA id29=none:=by
  cases idA with
  | none=>exact f29
  | some a=>simp only [Vc.bw,del]; split <;> first | rfl | exact f29
 have y2':upd (Vc.bw σ8 idA) id29 ⟨3,1,rows++[vI (a:Int)]⟩ i7=some ⟨181,3,[.agg [v,vI high,vI body]]⟩:=by rw [ab m29,dne _ _ k2]; exact y2
 have hB9:=((hBs.CI (e:=idA) fun i h=>(hdA i h).2).new (o:=⟨3,1,rows++[vI (a:Int)]⟩) f29').set (id:=i7) (o:=⟨181,3,[.agg [v,vI high,vI body]]⟩) (o':=⟨181,3,[.agg [.own id29 0 (rows.length+1),vI (high+l[a].st.head),vI (body - l[a].st.head)]]⟩) (by rw [ab m29,dne _ _ k2]; exact J7);simp only [go_sem,seval,hvc,y2',r1,r2];refine ⟨_,_,aa.refl _,Wk.refl (aa.refl _) _,_,hB9,⟨.own id29 0 (rows.length+1),ag,?_⟩,?_,Jn⟩
 ·rw [hrows];refine aM.new (by simp) (by rw [ab m29.symm,ag]) ?_;rw [aF];refine ⟨m29.symm,?_⟩;cases h:σ0 id29 with
  | none=>rfl
  | some o=>rw [hBs.1 _ _ (Js _ _ h)] at f29; cases f29
 ·refine aa.aD (fun i o h=>?_) Jn;have h1:=Js _ _ h;rw [ab (ao (hBs.1 _ _ h1) f29),dne _ _ (fun hk=>by rw [(aF.1 hk).2] at h; cases h)];exact h1
open Go.Proofs Go.Proofs.Tryz
def bwd (L:List Int):List (List V):=(List.range' 0 L.length).map fun q=>[vI ((L.length - 1 - q:Nat):Int),vI (L.getD (L.length - 1 - q) 0)]
theorem Fj (L:List Int) (hL:L.length≤1000000):Iter prog 134 [.rp (bh L)] (bwd L):=by
 refine ⟨L5.c,fun idl J Jx σ0 hy hJ=>?_⟩;refine (L5.r (by simp [Jq]) ?_).2;have hlL:=eS L;have ldI:∀(σ:af) (X:List Int),bO σ false 1 (.rp (bh X))=some (bh X):=fun σ X=>rfl;have r2:inR .i64 ((L.length:Int) - 1):=ak (by omega) (by omega);refine ad.mix 4 ?_;apply sR;simp only [go_sem,seval,Jq,ldI,hlL,r2];generalize hT:bwd L=T at hy ⊢
 let F:Nat→List V:=fun q=>[vI ((L.length - 1 - q:Nat):Int),vI (L.getD (L.length - 1 - q) 0)]
 have hTF:T=(List.range' 0 L.length).map F:=hT.symm;refine ad.loop (fun m st=>∃(j:Nat) (σJ:af),j≤L.length∧m=L.length - j∧J ((List.range' 0 j).map F) σJ∧aa σJ st.σ∧st.s 0=.yl idl∧st.s 1=.rp (bh L)∧st.s 3=vI ((L.length:Int) - 1 - j)) L.length ?_ ?_
 ·exact ⟨0,σ0,by omega,rfl,by simpa using hJ,aa.refl _,rfl,rfl,by simp [aW,mix]⟩
 ·rintro m ⟨S,τ⟩ ⟨j,σJ,hj,rfl,hJj,hsub,t0,t1,t3⟩;simp only at hsub t0 t1 t3;refine ad.mix 4 ?_;by_cases hlt:j < L.length
  ·obtain ⟨i,hi⟩:∃i:Nat,i=L.length - 1 - j:=⟨_,rfl⟩
   have hil:i < L.length:=by omega
   have t3':S 3=vI (i:Int):=by rw [t3]; congr 1; omega
   have q:((i:Int)≥0)=True:=eq_true (by omega);have r1:inR .i64 ((i:Int) - 1):=ak (by omega) (by omega);have hidx:=fun σ=>gk (σ:=σ) hil;have hF:F j=[vI (i:Int),vI L[i]]:=by
    show [vI ((L.length - 1 - j:Nat):Int),vI (L.getD (L.length - 1 - j) 0)]=_;rw [←hi]; simp [hil]
   have e:T=((List.range' 0 j).map F)++[vI (i:Int),vI L[i]]::((List.range' (0+j+1) (L.length - j - 1)).map F):=by
    rw [hTF,range_split j 0 L.length hlt,List.map_append,List.map_cons,Nat.zero_add,hF]
   have htk:((List.range' 0 (j+1)).map F)=((List.range' 0 j).map F)++[[vI (i:Int),vI L[i]]]:=by rw [pS,List.map_append,Nat.zero_add,List.map_cons,hF]; rfl
   have q5:(i:Int) - 1=(L.length:Int) - 1 - ((j+1:Nat):Int):=by omega
   apply sR;simp only [go_sem,seval,t0,t1,t3',ldI,q,hidx];refine ad.lA (Post:=fun b' σ2=>∃σJ',bc σJ τ σJ' σ2∧((b'=true∧J (((List.range' 0 j).map F)++[[vI (i:Int),vI L[i]]]) σJ')∨(b'=false∧Jx (((List.range' 0 j).map F)++[[vI (i:Int),vI L[i]]]) σJ'))) rfl rfl rfl (hy _ [vI (i:Int),vI L[i]] _ σJ τ e hJj hsub) ?_;rintro b' σ2 ⟨σJ',hbs,hbb⟩;rcases hbb with ⟨rfl,hbb⟩ | ⟨rfl,hbb⟩
   ·apply sR;simp only [go_sem,seval,t0,t1,t3',r1];refine ⟨_,?_,j+1,σJ',by omega,rfl,by rw [htk]; exact hbb,hbs.1,by simp [t0,t1,q5]⟩;omega
   ·apply sR;simp only [go_sem,seval,t0,t1,t3'];exact ⟨_,σJ',hbs.1,Wk.refl hbs.1 _, .inr ⟨_,⟨_,by rw [e,List.append_assoc]; rfl⟩,hbb⟩⟩
  ·have hje:j=L.length:=by omega
   subst hje;have q:((L.length:Int) - 1 - (L.length:Int)≥0)=False:=eq_false (by omega);apply sR;simp only [go_sem,seval,t0,t1,t3,q];exact ⟨_,σJ,hsub,Wk.refl hsub _, .inl (hTF ▸ hJj)⟩
theorem LX (L:List Int):aV prog 94 [bh L] (.fn 134 [.rp (bh L)]):=fun σ=>by
 refine e94.r (by simp [c94]) ?_;refine ad.mix 3 ?_;apply sR;simp only [go_sem,seval,c94,aj,al];refine ae fun id1 σ1 s1 a1 f1=>?_;simp only [go_sem,seval,aj,al];exact ⟨_,σ,s1,Wk.fn (vs':=[.rp (bh L)]) ⟨Wk.ptr s1 a1 f1,trivial⟩,rfl,rfl⟩
open Go.Proofs Go.Proofs.Tryz
def rH (x:Kp):V:=.agg [bh x.heads,vI x.high,vI x.body]
def fP (l:List Nd) (L:List Int) (h:Int):Nat→Kp
 | 0=>⟨[],0,h⟩
 | m+1=>iy l (fP l L h m) (L.getD (L.length - 1 - m) 0)
theorem C6 {l:List Nd} {x:Kp} {a:Int} {m:Nat} {h:Int} (h0:0≤(stA l a).head) (hx:x.heads.length≤m∧0≤x.high∧0≤x.body∧x.high+x.body=h):(iy l x a).heads.length≤m+1∧0≤(iy l x a).high∧0≤(iy l x a).body∧(iy l x a).high+(iy l x a).body=h:=by
 obtain ⟨h1,h2,h3,h4⟩:=hx;unfold iy;split
 ·exact ⟨by omega,h2,h3,h4⟩
 ·simp only [List.length_append,List.length_cons,List.length_nil];omega
theorem nK {l:List Nd} (hb:isB l=true) {L:List Int} (hL:∀x∈L,∃n:Nat,x=n∧n < l.length) {h:Int} (hh:0≤h):∀m,m≤L.length→(fP l L h m).heads.length≤m∧0≤(fP l L h m).high∧0≤(fP l L h m).body∧(fP l L h m).high+(fP l L h m).body=h
 | 0,_=>by simp [fP]; omega
 | m+1,hm=>by
   have ih:=nK hb hL hh m (by omega);rw [fP];refine C6 ?_ ih;have hlt:L.length - 1 - m < L.length:=by omega
   have hg:L.getD (L.length - 1 - m) 0=L[L.length - 1 - m]:=by simp [hlt]
   rw [hg];obtain ⟨n,hn,hnl⟩:=hL _ (List.getElem_mem hlt);rw [hn,iL hnl];exact (fI hb hnl).st.head.1
def wE (l:List Nd) (a:Nat) (h:Int):Kp:=fP l (abv l a) h (abv l a).length
theorem DE (l:List Nd) (hl:dJ l) (hb:isB l=true) (hn:l.length≤100000) (a:Nat) (ha:a < l.length) (h:Int) (h0:0≤h) (h1:h≤2199023255552) :
 aV prog 62 [aJ l,vI a,vI h] (rH (wE l a h)):=fun σ=>by
 refine e62.r (by simp [c62]) ?_;have hs:=aa.refl σ;refine ad.mix 10 ?_;apply sR;simp only [go_sem,seval,c62,ai,aI];refine ae fun i3 σ3 s3 a3 f3=>?_;have z3:=hs.none f3;replace hs:=hs.trans s3;simp only [go_sem,seval];refine ae fun i6 σ6 s6 a6 f6=>?_;have n36:=ao a3 f6;replace a3:=s6 _ _ a3;have z6:=hs.none f6;replace hs:=hs.trans s6;simp only [go_sem,seval,a3,ai];refine ae fun i7 σ7 s7 a7 f7=>?_;have n37:i3≠i7:=ao a3 f7;have n67:i6≠i7:=ao a6 f7;have b3:=s7 _ _ a3;simp only [go_sem,seval,a7,b3,ab n37,ai,aI];have h7:KpJ σ6 i7 ⟨[],0,h⟩ (upd σ7 i7 ⟨181,3,[.agg [.aC,vI 0,vI h]]⟩):=⟨⟨.aC,ag,aM.start⟩,s7.aD f7,f7⟩
 have e3:upd σ7 i7 ⟨181,3,[.agg [.aC,vI 0,vI h]]⟩ i3=_:=(ab n37).trans b3;generalize upd σ7 i7 ⟨181,3,[.agg [.aC,vI 0,vI h]]⟩=τ7 at *;refine ad.az rfl rfl rfl (xC l hl hb hn a ha _) ?_;have hrg:∀x∈abv l a,∃n:Nat,x=n∧n < l.length:=fun x hx=>by
  obtain ⟨n,h1,h2⟩:=nP ha x hx;exact ⟨n,h1,by omega⟩
 have hlL:(abv l a).length≤l.length+1:=ig _ _ _;unfold wE;generalize abv l a=L at *;apply sR;simp only [go_sem,seval];refine ad.az rfl rfl rfl (LX L _) ?_;apply sR;simp only [go_sem,seval];generalize hS:mix 10 _ _=S;have S3:S 3=.ptr i3 0 0:=by rw [←hS]; rfl
 have S6:S 6=.ptr i6 0 0:=by rw [←hS]; rfl
 have S7:S 7=.ptr i7 0 0:=by rw [←hS]; rfl
 have S16:S 16=.fn 134 [.rp (bh L)]:=by rw [←hS]; rfl
 clear hS;refine ad.cu (g:=.t 16) (caps:=[.rp (bh L)]) S16 (Fj L (by omega)) (fun y hy=>?_) [] (fun pre σJ=>KpJ σ6 i7 (fP l L h pre.length) σJ)
  (fun _ _ _=>False) ?_ ?_ ?_ ?_ ?_
 ·obtain ⟨t,_,rfl⟩:=List.mem_map.1 hy; rfl
 ·exact h7
 ·rintro pre y post σJ σB hxs hJ hsub;have hpl:pre.length < L.length:=by
   have:=congrArg List.length hxs;simp [bwd] at this; omega
  obtain ⟨i,hi⟩:∃i:Nat,i=L.length - 1 - pre.length:=⟨_,rfl⟩
  have hil:i < L.length:=by omega
  have hy:y=[vI (i:Int),vI (L.getD i 0)]:=by
   have h1:(bwd L)[pre.length]?=some y:=by rw [hxs]; simp
   simp [bwd,hpl] at h1;rw [←h1,hi]; simp
  have hlen:(pre++[y]).length=pre.length+1:=by simp
  have hinv:=nK hb hrg h0 pre.length (by omega);have hst:fP l L h (pre.length+1)=iy l (fP l L h pre.length) (L.getD i 0):=by rw [fP,hi]
  have hg:L.getD i 0=L[i]:=by simp [hil]
  obtain ⟨n,hne,hnl⟩:=hrg _ (List.getElem_mem hil);rw [hlen,hst,hg,hne];rw [hg,hne] at hy;subst hy;generalize fP l L h pre.length=x at *;have c3:=hsub _ _ (hJ.sub _ _ a3);generalize hSS:kR S [17,18] [vI (i:Int),vI (n:Int)]=S0;have T3:S0 3=.ptr i3 0 0:=by rw [←hSS]; exact S3
  have T7:S0 7=.ptr i7 0 0:=by rw [←hSS]; exact S7
  have T18:S0 18=vI (n:Int):=by rw [←hSS]; rfl
  clear hSS;refine ad.mix 10 ?_;apply sR;simp only [go_sem,seval,T3,T7,T18];apply sR;simp only [go_sem,seval,T3,T7,T18,c3,ai];have hc:=Gc l hb x (by omega) (by omega) (by omega) (by omega) (by omega) n hnl hJ hsub;rw [←T7] at hc;refine ad.call rfl rfl rfl hc ?_;rintro - σ2 ⟨σJ',hB,hJ'⟩;apply sR;simp only [go_sem,seval];exact ⟨_,hB,hJ'⟩
 ·rintro σ' hJ;have hbl:(bwd L).length=L.length:=by simp [bwd]
  rw [hbl] at hJ;obtain ⟨⟨v,J7,Jo⟩,Js,Jn⟩:=hJ;have hvc:v.cells=[v]:=by rcases Jo with ⟨rfl,_⟩ | ⟨_,rfl,_⟩ <;> rfl
  have e6:=Js _ _ a6;refine ad.mix 10 ?_;apply sR;simp only [go_sem,seval,S6,S7,J7,e6,hvc];have hst:=(hs.trans Js).aD (o:=⟨96,3,[.agg [v,vI (fP l L h L.length).high,vI (fP l L h L.length).body]]⟩) z6;have Jo':aM (bb σ6 i7) (upd σ' i6 ⟨96,3,[.agg [v,vI (fP l L h L.length).high,vI (fP l L h L.length).body]]⟩) 3 1 v ((fP l L h L.length).heads.map vI):=by
   rcases Jo with h | ⟨id,g1,g2,g3⟩
   ·exact .inl h
   ·refine .inr ⟨id,g1,?_,g3⟩;rw [ab (fun e=>by rw [e,aF] at g3; rw [a6] at g3; cases g3.2)]; exact g2
  have hK:aa σ (bb σ6 i7):=fun i o hh=>by
   rw [bb,if_neg (fun e=>by rw [e,hs.none f7] at hh; cases hh)]; exact hs _ _ hh
  exact ⟨_,σ,hst,Wk.agg (vs':=[bh (fP l L h L.length).heads,vI (fP l L h L.length).high,vI (fP l L h L.length).body]) ⟨Jo'.wk hK hst,Wk.refl hst _,Wk.refl hst _,trivial⟩,rfl,rfl⟩
 ·intro id h; cases h
 ·rintro pre σ' _ ⟨⟩
open Go.Proofs Go.Proofs.Tryz
def iB (l:List Nd) (h:Int):Bool:=decide (1≤h∧h≤1099511627776) && isB l
theorem Et (l:List Nd) (hl:dJ l) (h:Int):aV prog 61 [aJ l,vI h] (.bool (iB l h)):=fun σ=>by
 refine e61.r (by simp [c61]) ?_;refine ad.mix 5 ?_;apply sR;simp only [go_sem,seval,c61];refine ad.az rfl rfl rfl (pk h _) ?_;unfold iB;cases hd:decide (1≤h∧h≤1099511627776)
 ·apply sR;simp only [go_sem,seval];exact au.same (by simp)
 ·apply sR;simp only [go_sem,seval];refine ad.az rfl rfl rfl (BR l hl _) ?_;apply sR;simp only [go_sem,seval];exact au.same (by simp)
def qL (l:List Nd) (a h:Int):Kp:=if iB l h=true∧0≤a∧a < l.length then wE l a.toNat h else ⟨[],0,0⟩
theorem Mc (l:List Nd) (hl:dJ l) (a h:Int):aV prog 38 [aJ l,vI a,vI h] (rH (qL l a h)):=fun σ=>by
 refine e38.r (by simp [c38]) ?_;have hs:=aa.refl σ;have hln:=eE l;have hn:l.length≤100000:=by have:=hl.1; omega
 refine ad.mix 7 ?_;apply sR;simp only [go_sem,seval,c38];refine ae fun i6 σ6 s6 a6 f6=>?_;have z6:=hs.none f6;replace hs:=hs.trans s6;simp only [go_sem,seval];refine ad.az rfl rfl rfl (Et l hl h _) ?_;have bad:¬(iB l h=true∧0≤a∧a < l.length)→au (.agg [.aC,vI 0,vI 0]) σ6 fun r σ'=>r=rH (qL l a h)∧σ'=σ:=fun hb=>by
  rw [qL,if_neg hb];exact ⟨_,σ,hs,Wk.agg (vs':=[bh [],vI 0,vI 0]) ⟨Wk.aC 1,Wk.refl hs _,Wk.refl hs _,trivial⟩,rfl,rfl⟩
 have a6':upd σ6 i6 ⟨96,3,[.agg [.aC,vI 0,vI 0]]⟩=σ6:=by
  funext i;by_cases hi:i=i6
  ·rw [hi,ag]; exact a6.symm
  ·rw [ab hi]
 cases hm:iB l h
 ·have fin:=bad (by simp [hm]);apply sR;simp only [go_sem,seval,a6];rw [a6'];exact fin
 by_cases h0:a < 0
 ·have q0:(a < 0)=True:=eq_true h0;have fin:=bad (by omega);apply sR;simp only [go_sem,seval,a6,q0];rw [a6'];exact fin
 have q0:(a < 0)=False:=eq_false h0;by_cases h1:a≥l.length
 ·have q1:(a≥l.length)=True:=eq_true h1;have fin:=bad (by omega);apply sR;simp only [go_sem,seval,a6,q0,q1,hln];rw [a6'];exact fin
 have q1:(a≥l.length)=False:=eq_false h1;clear bad a6';obtain ⟨n,rfl⟩:∃n:Nat,a=n:=⟨a.toNat,by omega⟩
 have hb:isB l=true:=by unfold iB at hm; simp at hm; exact hm.2
 have hh:1≤h∧h≤1099511627776:=by unfold iB at hm; simp at hm; exact hm.1
 have hr:qL l n h=wE l n h:=by rw [qL,if_pos ⟨hm,by omega,by omega⟩,Int.toNat_natCast]
 rw [hr];apply sR;simp only [go_sem,seval,a6,q0,q1,hln];refine ad.az rfl rfl rfl (DE l hl hb hn n (by omega) h (by omega) (by omega) _) ?_;apply sR;simp only [go_sem,seval,a6,rH,aj,al];exact au.pure (hs.aD z6) rfl
def gJ (l:List Nd) (h:Int):Nat→Int
 | 0=>h
 | j+1=>if (ndA l j).kind=2∨(ndA l j).kind=3 then min (gJ l h j) (wE l j h).body else gJ l h j
def gx (l:List Nd) (h:Int):Int:=if iB l h=true then gJ l h l.length else 0
theorem F0 (l:List Nd) (hl:dJ l) (h:Int):aV prog 28 [aJ l,vI h] (vI (gx l h)):=fun σ=>by
 refine e28.r (by simp [c28]) ?_;have hs:=aa.refl σ;have hln:=eE l;have hn:l.length≤100000:=by have:=hl.1; omega
 refine ad.mix 8 ?_;apply sR;simp only [go_sem,seval,c28];refine ad.az rfl rfl rfl (Et l hl h _) ?_;unfold gx;cases hm:iB l h
 ·apply sR;simp only [go_sem,seval];exact au.same rfl
 have hb:isB l=true:=by unfold iB at hm; simp at hm; exact hm.2
 have hh:1≤h∧h≤1099511627776:=by unfold iB at hm; simp at hm; exact hm.1
 rw [if_pos rfl];apply sR;simp only [go_sem,seval,hln];refine ad.loop (fun m st=>∃j:Nat,j≤l.length∧m=l.length - j∧aa σ st.σ∧st.s 0=aJ l∧st.s 1=vI h∧st.s 5=vI (gJ l h j)∧st.s 13=aJ l∧st.s 14=vI l.length∧st.s 15=vI j) l.length ?_ ?_
 ·exact ⟨0,by omega,rfl,hs,rfl,rfl,rfl,rfl,rfl,rfl⟩
 ·clear hs;rintro m ⟨S,τ⟩ ⟨j,hj,rfl,hs,t0,t1,t5,t13,t14,t15⟩;simp only at hs t0 t1 t5 t13 t14 t15;refine ad.mix 8 ?_;by_cases hlt:j < l.length
  ·have q:((j:Int) < l.length)=True:=eq_true (by omega);have r1:inR .i64 ((j:Int)+1):=ak (by omega) (by omega);have hnd:=fun σ=>cT (σ:=σ) (l:=l) (a:=j) hlt;have hst:gJ l h (j+1)=if l[j].kind=2∨l[j].kind=3 then min (gJ l h j) (wE l j h).body else gJ l h j:=by rw [gJ,ij hlt]
   apply sR;simp only [go_sem,seval,t0,t1,t5,t13,t14,t15,q,hnd,Nd.cells];refine ae fun i7 σ7 s7 a7 f7=>?_;by_cases hk:l[j].kind=2
   ·have q1:(l[j].kind=2)=True:=eq_true hk;simp only [go_sem,seval,a7,q1,t0,t1,t5,t13,t14,t15,aj,al];refine ad.az rfl rfl rfl (DE l hl hb hn j hlt h (by omega) (by omega) _) ?_;apply sR;simp only [go_sem,seval,t0,t1,t5,t13,t14,t15,rH,r1,ew,aj,al];refine ⟨_,?_,j+1,by omega,rfl,hs.trans (s7.aD f7),by simp [t0,t1,t13,t14,hst,hk]⟩;omega
   ·have q1:(l[j].kind=2)=False:=eq_false hk;by_cases hk3:l[j].kind=3
    ·have q2:(l[j].kind=3)=True:=eq_true hk3;have hk:=hk3;simp only [go_sem,seval,a7,q1,q2,t0,t1,t5,t13,t14,t15,aj,al];refine ad.az rfl rfl rfl (DE l hl hb hn j hlt h (by omega) (by omega) _) ?_;apply sR;simp only [go_sem,seval,t0,t1,t5,t13,t14,t15,rH,r1,ew,aj,al];refine ⟨_,?_,j+1,by omega,rfl,hs.trans (s7.aD f7),by simp [t0,t1,t13,t14,hst,hk]⟩;omega
    ·have q2:(l[j].kind=3)=False:=eq_false hk3;simp only [go_sem,seval,a7,q1,q2,t0,t1,t5,t13,t14,t15,r1,aj,al];refine ⟨_,?_,j+1,by omega,rfl,hs.trans (s7.aD f7),by simp [t0,t1,t13,t14,hst,hk,hk3]⟩;omega
  ·have q:((j:Int) < l.length)=False:=eq_false (by omega);have hje:j=l.length:=by omega
   apply sR;simp only [go_sem,seval,t0,t1,t5,t13,t14,t15,q];exact au.pure hs (by rw [hje])
open Go.Proofs Go.Proofs.Tryz
theorem ax (l:List Atm):(bt l).cells=[bt l]:=rfl
theorem ay (l:List Atm):(bt l).stays=true:=rfl
theorem gT (l:List Atm):dK false (bt l)=some (.int .i64 l.length):=by simp [bt,dK]
theorem gQ {σ:af} {l:List Atm} {i:Nat} (h:i < l.length):bF σ 8 (bt l) (.int .i64 i)=some (.rp (db l[i])):=by simp [bt,bF,h,db]
structure kM (l:List Atm):Prop where
 len:l.length≤1000000000
 rng:∀a∈l, -1152921504606846976≤a.y∧a.y≤1152921504606846976∧0≤a.h∧a.h≤1152921504606846976
theorem vZ (l:List Atm) (k:Int):aV prog 137 [bt l,vI k] (.bool (decide (0≤k∧k < l.length))):=fun σ=>by
 refine NG.r (by simp [Fb]) ?_;have hl:=gT l;refine ad.mix 5 ?_;by_cases h0:k≥0
 ·have q0:(k≥0)=True:=eq_true h0;by_cases h1:k < l.length
  ·have q1:(k < l.length)=True:=eq_true h1;apply sR;simp only [go_sem,seval,Fb,q0,q1,hl];exact au.same (by simp [h0,h1])
  ·have q1:(k < l.length)=False:=eq_false h1;apply sR;simp only [go_sem,seval,Fb,q0,q1,hl];exact au.same (by simp [h1])
 ·have q0:(k≥0)=False:=eq_false h0;apply sR;simp only [go_sem,seval,Fb,q0,hl];exact au.same (by simp <;> omega)
theorem De (a:Atm) (h:-1152921504606846976≤a.y∧a.y≤1152921504606846976∧0≤a.h∧a.h≤1152921504606846976):aV prog 180 [db a] (vI (a.y+a.h)):=fun σ=>by
 refine M0.r (by simp [Iy]) ?_;have hs:=aa.refl σ;have r1:inR .i64 (a.y+a.h):=ak (by omega) (by omega);refine ad.mix 3 ?_;apply sR;simp only [go_sem,seval,Iy,db];refine ae fun i1 σ1 s1 a1 f1=>?_;have z1:=hs.none f1;replace hs:=hs.trans s1;simp only [go_sem,seval,a1,r1];exact au.pure hs rfl
def atG (l:List Atm) (k:Int):Atm:=l.getD k.toNat ⟨0,0,0,0,0,0,0,0⟩
def gi (l:List Atm) (k:Int):Int:=if 0≤k∧k < l.length then (atG l k).y+(atG l k).h else 0
def mr (l:List Atm) (k:Int):Int:=if 0≤k∧k < l.length then (atG l k).y - gi l (k - 1) else 0
def fT (l:List Atm) (i k:Int):Int:=if (0≤i∧i < l.length)∧(0≤k∧k < l.length) then (atG l k).y - (atG l i).y else 0
theorem bj {l:List Atm} {k:Nat} (h:k < l.length):atG l k=l[k]:=by simp [atG,h]
theorem qk {l:List Atm} (hl:kM l) (k:Int):-1152921504606846976≤gi l k∧gi l k≤2305843009213693952:=by
 unfold gi;split
 ·rename_i h;obtain ⟨n,rfl⟩:∃n:Nat,k=n:=⟨k.toNat,by omega⟩
  have hn:n < l.length:=by omega
  rw [bj hn];have:=hl.rng _ (List.getElem_mem hn);omega
 ·omega
theorem CB (l:List Atm) (hl:kM l) (k:Int):aV prog 138 [bt l,vI k] (vI (gi l k)):=fun σ=>by
 refine Oq.r (by simp [K4]) ?_;refine ad.mix 5 ?_;apply sR;simp only [go_sem,seval,K4];refine ad.az rfl rfl rfl (vZ l k _) ?_;unfold gi;by_cases h:0≤k∧k < l.length
 ·obtain ⟨n,rfl⟩:∃n:Nat,k=n:=⟨k.toNat,by omega⟩
  have hn:n < l.length:=by omega
  have hd:decide (0≤(n:Int)∧(n:Int) < l.length)=true:=by simp; omega
  have hidx:=fun σ=>gQ (σ:=σ) hn;rw [hd,if_pos h,bj hn];apply sR;simp only [go_sem,seval,hidx,db];refine ad.az rfl rfl rfl (De l[n] (hl.rng _ (List.getElem_mem hn)) _) ?_;apply sR;simp only [go_sem,seval];exact au.same rfl
 ·have hd:decide (0≤k∧k < l.length)=false:=by simpa using h
  rw [hd,if_neg h];apply sR;simp only [go_sem,seval];exact au.same rfl
theorem Kb (l:List Atm) (hl:kM l) (k:Int):aV prog 98 [bt l,vI k] (vI (mr l k)):=fun σ=>by
 refine e98.r (by simp [c98]) ?_;refine ad.mix 5 ?_;apply sR;simp only [go_sem,seval,c98];refine ad.az rfl rfl rfl (vZ l k _) ?_;unfold mr;by_cases h:0≤k∧k < l.length
 ·obtain ⟨n,rfl⟩:∃n:Nat,k=n:=⟨k.toNat,by omega⟩
  have hn:n < l.length:=by omega
  have hd:decide (0≤(n:Int)∧(n:Int) < l.length)=true:=by simp; omega
  have hidx:=fun σ=>gQ (σ:=σ) hn;have hll:=hl.len;have hy:=hl.rng _ (List.getElem_mem hn);have hbr:=qk hl ((n:Int) - 1);have r1:inR .i64 ((n:Int) - 1):=ak (by omega) (by omega);have r2:inR .i64 (l[n].y - gi l ((n:Int) - 1)):=ak (by omega) (by omega);rw [hd,if_pos h,bj hn];apply sR;simp only [go_sem,seval,hidx,db,r1];refine Go.ct rfl rfl rfl (CB l hl ((n:Int) - 1)) ?_;apply sG;simp only [go_sem,seval,r2];exact au.same rfl
 ·have hd:decide (0≤k∧k < l.length)=false:=by simpa using h
  rw [hd,if_neg h];apply sR;simp only [go_sem,seval];exact au.same rfl
theorem B8 (l:List Atm) (hl:kM l) (i k:Int):aV prog 144 [bt l,vI i,vI k] (vI (fT l i k)):=fun σ=>by
 refine Oe.r (by simp [Kk]) ?_;refine ad.mix 8 ?_;apply sR;simp only [go_sem,seval,Kk];refine ad.az rfl rfl rfl (vZ l i _) ?_;unfold fT;by_cases h:0≤i∧i < l.length
 ·have hd:decide (0≤i∧i < l.length)=true:=by simp; omega
  rw [hd];apply sR;simp only [go_sem,seval];refine ad.az rfl rfl rfl (vZ l k _) ?_;by_cases h2:0≤k∧k < l.length
  ·obtain ⟨m,rfl⟩:∃m:Nat,i=m:=⟨i.toNat,by omega⟩
   obtain ⟨n,rfl⟩:∃n:Nat,k=n:=⟨k.toNat,by omega⟩
   have hm:m < l.length:=by omega
   have hn:n < l.length:=by omega
   have hd2:decide (0≤(n:Int)∧(n:Int) < l.length)=true:=by simp; omega
   have hidx:=fun σ=>gQ (σ:=σ) hn;have hidx2:=fun σ=>gQ (σ:=σ) hm;have hy:=hl.rng _ (List.getElem_mem hn);have hy2:=hl.rng _ (List.getElem_mem hm);have r1:inR .i64 (l[n].y - l[m].y):=ak (by omega) (by omega);rw [hd2,if_pos ⟨h,h2⟩,bj hn,bj hm];apply sR;simp only [go_sem,seval,hidx,hidx2,db,r1];exact au.same rfl
  ·have hd2:decide (0≤k∧k < l.length)=false:=by simpa using h2
   rw [hd2,if_neg (fun h=>h2 h.2)];apply sR;simp only [go_sem,seval];exact au.same rfl
 ·have hd:decide (0≤i∧i < l.length)=false:=by simpa using h
  rw [hd,if_neg (fun h'=>h h'.1)];apply sR;simp only [go_sem,seval];exact au.same rfl
open Go.Proofs Go.Proofs.Tryz
def eQ (b:List Brk) (i fit:Int):Prop:=tX b=true∧0≤i∧i < (b.length:Int) - 1∧i < fit
instance (b:List Brk) (i fit:Int):Decidable (eQ b i fit):=by unfold eQ; infer_instance
def tS (b:List Brk) (i fit:Int):Int:=if ky b (i+1) fit < 0 then Dy b (i+1) fit else ky b (i+1) fit
theorem JO (b:List Brk) (hb:b.length≤1000000) (i fit:Int):aV prog 69 [bM b,vI i,vI fit] (.tup [vI (if eQ b i fit then tS b i fit else 0), .bool (decide (eQ b i fit))]):=fun σ=>by
 refine e69.r (by simp [c69]) ?_;have hlb:=Aa b;have r0:inR .i64 ((b.length:Int) - 1):=ak (by omega) (by omega);refine ad.mix 8 ?_;apply sR;simp only [go_sem,seval,c69];refine ad.az rfl rfl rfl (J5 b hb _) ?_;have bad:¬eQ b i fit→au (.tup [vI 0, .bool false]) σ fun r σ'=>r=.tup [vI (if eQ b i fit then tS b i fit else 0), .bool (decide (eQ b i fit))]∧σ'=σ:=fun h=>au.same (by rw [if_neg h,decide_eq_false h]);generalize hX:(V.tup [vI (if eQ b i fit then tS b i fit else 0), .bool (decide (eQ b i fit))])=X at *;cases hm:tX b
 ·have fin:=bad (fun h=>by rw [h.1] at hm; cases hm);apply sR;simp only [go_sem,seval];exact fin
 by_cases h0:i < 0
 ·have q0:(i < 0)=True:=eq_true h0;have fin:=bad (fun h=>by have:=h.2.1; omega);apply sR;simp only [go_sem,seval,q0];exact fin
 have q0:(i < 0)=False:=eq_false h0;by_cases h1:i≥(b.length:Int) - 1
 ·have q1:(i≥(b.length:Int) - 1)=True:=eq_true h1;have fin:=bad (fun h=>by have:=h.2.2.1; omega);apply sR;simp only [go_sem,seval,q0,hlb,r0,q1];exact fin
 have q1:(i≥(b.length:Int) - 1)=False:=eq_false h1;by_cases h2:fit≤i
 ·have q2:(fit≤i)=True:=eq_true h2;have fin:=bad (fun h=>by have:=h.2.2.2; omega);apply sR;simp only [go_sem,seval,q0,hlb,r0,q1,q2];exact fin
 have q2:(fit≤i)=False:=eq_false h2;clear bad;have hok:eQ b i fit:=⟨hm,by omega,by omega,by omega⟩
 have r1:inR .i64 (i+1):=ak (by omega) (by omega);rw [if_pos hok,decide_eq_true hok] at hX;subst hX;apply sR;simp only [go_sem,seval,q0,hlb,r0,q1,q2,r1];refine ad.az rfl rfl rfl (GY b hb (i+1) fit _) ?_;unfold tS;by_cases h3:ky b (i+1) fit < 0
 ·have q3:(ky b (i+1) fit < 0)=True:=eq_true h3;rw [if_pos h3];apply sR;simp only [go_sem,seval,q3,r1];refine ad.az rfl rfl rfl (KW b hb (i+1) fit _) ?_;apply sR;simp only [go_sem,seval];exact au.same rfl
 ·have q3:(ky b (i+1) fit < 0)=False:=eq_false h3;rw [if_neg h3];apply sR;simp only [go_sem,seval,q3];exact au.same rfl
open Go.Proofs Go.Proofs.Tryz
structure Stt where
 (atom done:Int)
 free:Bool
def bo (s:Stt):V:=.agg [vI s.atom,vI s.done, .bool s.free]
def sW (s:Stt) (l:List Atm):V:=.agg [vI s.atom,vI s.done, .bool s.free,bt l]
def dp (l:List Atm) (s:Stt):Prop:=(0≤s.atom∧s.atom < l.length)∧0≤s.done∧(s.done=0∨s.done < (atG l s.atom).h)
instance (l:List Atm) (s:Stt):Decidable (dp l s):=by unfold dp; infer_instance
theorem zO (l:List Atm) (s:Stt):aV prog 66 [sW s l] (.bool (decide (dp l s))):=fun σ=>by
 refine e66.r (by simp [c66]) ?_;have hs:=aa.refl σ;have hl:=gT l;obtain ⟨a,d,fr⟩:=s;refine ad.mix 3 ?_;apply sR;simp only [go_sem,seval,c66,sW,ax,ay];refine ae fun i1 σ1 s1 a1 f1=>?_;have z1:=hs.none f1;replace hs:=hs.trans s1;by_cases h0:a≥0
 ·have q0:(a≥0)=True:=eq_true h0;by_cases h1:a < l.length
  ·have q1:(a < l.length)=True:=eq_true h1;obtain ⟨n,rfl⟩:∃n:Nat,a=n:=⟨a.toNat,by omega⟩
   have hn:n < l.length:=by omega
   have hidx:=fun σ=>gQ (σ:=σ) hn;have hg:=bj hn;by_cases h2:d≥0
   ·have q2:(d≥0)=True:=eq_true h2;by_cases h3:d=0
    ·have q3:(d=0)=True:=eq_true h3;simp only [go_sem,seval,a1,q0,q1,q2,q3,hl,ax,ay];have hh:dp l ⟨n,d,fr⟩:=⟨⟨h0,h1⟩,h2, .inl h3⟩
     exact au.pure hs (by rw [decide_eq_true hh])
    ·have q3:(d=0)=False:=eq_false h3;by_cases h4:d < l[n].h
     ·have q4:(d < l[n].h)=True:=eq_true h4;simp only [go_sem,seval,a1,q0,q1,q2,q3,q4,hl,hidx,db,ax,ay];have hh:dp l ⟨n,d,fr⟩:=⟨⟨h0,h1⟩,h2, .inr (by rw [hg]; exact h4)⟩
      exact au.pure hs (by rw [decide_eq_true hh])
     ·have q4:(d < l[n].h)=False:=eq_false h4;simp only [go_sem,seval,a1,q0,q1,q2,q3,q4,hl,hidx,db,ax,ay];exact au.pure hs (by rw [decide_eq_false (fun h:dp l ⟨n,d,fr⟩=>by rcases h.2.2 with h | h; exact h3 h; rw [hg] at h; exact h4 h)])
   ·have q2:(d≥0)=False:=eq_false h2;simp only [go_sem,seval,a1,q0,q1,q2,hl,ax,ay];exact au.pure hs (by rw [decide_eq_false (fun h:dp l ⟨n,d,fr⟩=>h2 h.2.1)])
  ·have q1:(a < l.length)=False:=eq_false h1;simp only [go_sem,seval,a1,q0,q1,hl,ax,ay];exact au.pure hs (by rw [decide_eq_false (fun h:dp l ⟨a,d,fr⟩=>h1 h.1.2)])
 ·have q0:(a≥0)=False:=eq_false h0;simp only [go_sem,seval,a1,q0,hl,ax,ay];exact au.pure hs (by rw [decide_eq_false (fun h:dp l ⟨a,d,fr⟩=>h0 h.1.1)])
theorem pd (l:List Atm) (s:Stt):aV prog 64 [bt l,bo s] (.bool (decide (dp l s))):=fun σ=>by
 refine e64.r (by simp [c64]) ?_;have hs:=aa.refl σ;have hc:=zO l s;obtain ⟨a,d,fr⟩:=s;rw [sW] at hc;refine ad.mix 5 ?_;apply sR;simp only [go_sem,seval,c64,bo,ax,ay];refine ae fun i3 σ3 s3 a3 f3=>?_;have z3:=hs.none f3;replace hs:=hs.trans s3;simp only [go_sem,seval,a3,ax,ay];refine ad.az rfl rfl rfl (hc _) ?_;apply sR;simp only [go_sem,seval];exact au.pure hs rfl
theorem A4 (l:List Atm) (hl:kM l) (s:Stt) (h:dp l s) (hd:s.done≤1152921504606846976):aV prog 67 [sW s l] (vI ((atG l s.atom).h - s.done)):=fun σ=>by
 refine e67.r (by simp [c67]) ?_;have hs:=aa.refl σ;obtain ⟨a,d,fr⟩:=s;obtain ⟨⟨h0,h1⟩,h2,h3⟩:=h;simp only at h0 h1 h2 h3 hd ⊢;obtain ⟨n,rfl⟩:∃n:Nat,a=n:=⟨a.toNat,by omega⟩
 have hn:n < l.length:=by omega
 have hidx:=fun σ=>gQ (σ:=σ) hn;have hy:=hl.rng _ (List.getElem_mem hn);rw [bj hn];have r1:inR .i64 (l[n].h - d):=ak (by omega) (by omega);refine ad.mix 3 ?_;apply sR;simp only [go_sem,seval,c67,sW,ax,ay];refine ae fun i1 σ1 s1 a1 f1=>?_;have z1:=hs.none f1;replace hs:=hs.trans s1;simp only [go_sem,seval,a1,hidx,r1,db,ax,ay];exact au.pure hs rfl
def oe (l:List Atm) (s:Stt) (area:Int):Int:=if dp l s∧s.free=true∧s.done=0∧mr l s.atom+((atG l s.atom).h - s.done)≤area then mr l s.atom else 0
theorem Fu {l:List Atm} (hl:kM l) (k:Int):-3458764513820540928≤mr l k∧mr l k≤2305843009213693952:=by
 unfold mr;have hb:=qk hl (k - 1);split
 ·rename_i h;obtain ⟨n,rfl⟩:∃n:Nat,k=n:=⟨k.toNat,by omega⟩
  have hn:n < l.length:=by omega
  rw [bj hn];have:=hl.rng _ (List.getElem_mem hn);omega
 ·omega
theorem HC (l:List Atm) (hl:kM l) (s:Stt) (area:Int):aV prog 68 [bt l,bo s,vI area] (vI (oe l s area)):=fun σ=>by
 refine e68.r (by simp [c68]) ?_;have hs:=aa.refl σ;have hc:=zO l s;have hlf:=fun h hd=>A4 l hl s h hd;have hgr:=Fu hl s.atom;obtain ⟨a,d,fr⟩:=s;rw [sW] at hc hlf;simp only at hgr hlf;refine ad.mix 9 ?_;apply sR;simp only [go_sem,seval,c68,bo,ax,ay];refine ae fun i4 σ4 s4 a4 f4=>?_;have z4:=hs.none f4;replace hs:=hs.trans s4;simp only [go_sem,seval,a4,ax,ay];refine ae fun i7 σ7 s7 a7 f7=>?_;have n47:=ao a4 f7;replace a4:=s7 _ _ a4;have z7:=hs.none f7;replace hs:=hs.trans s7;simp only [go_sem,seval,a7,a4,ax,ay];refine ad.az rfl rfl rfl (hc _) ?_;have bad:¬(dp l ⟨a,d,fr⟩∧fr=true∧d=0∧mr l a+((atG l a).h - d)≤area)→oe l ⟨a,d,fr⟩ area=0:=fun h=>if_neg h;by_cases hm:dp l ⟨a,d,fr⟩
 ·rw [decide_eq_true hm];cases fr
  ·apply sR;simp only [go_sem,seval,a7,ax,ay];exact au.pure (hs.aD z7) (by rw [bad (fun h=>by cases h.2.1)])
  have hd0:=hm.2.1;simp only at hd0;by_cases hd:d > 0
  ·have q:(d > 0)=True:=eq_true hd;apply sR;simp only [go_sem,seval,a7,q,ax,ay];exact au.pure (hs.aD z7) (by rw [bad (fun h=>by have:=h.2.2.1; omega)])
  ·have q:(d > 0)=False:=eq_false hd;obtain rfl:d=0:=by omega
   apply sR;simp only [go_sem,seval,a7,q,ax,ay];refine ad.az rfl rfl rfl (Kb l hl a _) ?_;have hlf':=hlf hm (by omega);have hy:0≤(atG l a).h∧(atG l a).h≤1152921504606846976:=by
    obtain ⟨h0,h1⟩:=hm.1;simp only at h0 h1;obtain ⟨n,rfl⟩:∃n:Nat,a=n:=⟨a.toNat,by omega⟩
    have hn:n < l.length:=by omega
    rw [bj hn];exact (hl.rng _ (List.getElem_mem hn)).2.2
   have r1:inR .i64 (mr l a+((atG l a).h - 0)):=ak (by omega) (by omega);apply sR;simp only [go_sem,seval,a7,ag,ax,ay];refine ad.az rfl rfl rfl (hlf' _) ?_;by_cases h4:mr l a+((atG l a).h - 0)≤area
   ·have q4:(mr l a+((atG l a).h - 0)≤area)=True:=eq_true h4;have hk:oe l ⟨a,0,true⟩ area=mr l a:=if_pos ⟨hm,rfl,rfl,h4⟩;rw [hk];apply sR;simp only [go_sem,seval,r1,q4];exact au.pure (hs.aD z7) rfl
   ·have q4:(mr l a+((atG l a).h - 0)≤area)=False:=eq_false h4;rw [bad (fun h=>h4 h.2.2.2)];apply sR;simp only [go_sem,seval,r1,q4];exact au.pure (hs.aD z7) rfl
 ·rw [decide_eq_false hm];apply sR;simp only [go_sem,seval,a7,ax,ay];exact au.pure (hs.aD z7) (by rw [bad (fun h=>hm h.1)])
open Go.Proofs Go.Proofs.Tryz
def ie (l:List Atm) (s:Stt):Int:=if dp l s then (atG l s.atom).h - s.done else 0
theorem GZ (l:List Atm) (hl:kM l) (s:Stt) (hd:s.done≤1152921504606846976):aV prog 44 [bt l,bo s] (vI (ie l s)):=fun σ=>by
 refine e44.r (by simp [c44]) ?_;have hs:=aa.refl σ;have hc:=zO l s;have hlf:=fun h=>A4 l hl s h hd;unfold ie;obtain ⟨a,d,fr⟩:=s;rw [sW] at hc hlf;refine ad.mix 6 ?_;apply sR;simp only [go_sem,seval,c44,bo,ax,ay];refine ae fun i3 σ3 s3 a3 f3=>?_;have z3:=hs.none f3;replace hs:=hs.trans s3;simp only [go_sem,seval,a3,ax,ay];refine ae fun i5 σ5 s5 a5 f5=>?_;have n35:=ao a3 f5;replace a3:=s5 _ _ a3;have z5:=hs.none f5;replace hs:=hs.trans s5;simp only [go_sem,seval,a5,a3,ax,ay];refine ad.az rfl rfl rfl (hc _) ?_;by_cases hm:dp l ⟨a,d,fr⟩
 ·rw [decide_eq_true hm,if_pos hm];apply sR;simp only [go_sem,seval,a5,ax,ay];refine ad.az rfl rfl rfl (hlf hm _) ?_;apply sR;simp only [go_sem,seval];exact au.pure (hs.aD z5) rfl
 ·rw [decide_eq_false hm,if_neg hm];apply sR;simp only [go_sem,seval];exact au.pure (hs.aD z5) rfl
def du (l:List Atm) (s:Stt) (kept shift k:Int):Int:=if dp l s∧s.atom≤k∧k < l.length then fT l s.atom k - s.done+kept+shift else 0
theorem p7 {l:List Atm} (hl:kM l) (i k:Int):-2305843009213693952≤fT l i k∧fT l i k≤2305843009213693952:=by
 unfold fT;split
 ·rename_i h;obtain ⟨n,rfl⟩:∃n:Nat,k=n:=⟨k.toNat,by omega⟩
  obtain ⟨m,rfl⟩:∃m:Nat,i=m:=⟨i.toNat,by omega⟩
  have hn:n < l.length:=by omega
  have hm:m < l.length:=by omega
  rw [bj hn,bj hm];have h1:=hl.rng _ (List.getElem_mem hn);have h2:=hl.rng _ (List.getElem_mem hm);omega
 ·omega
theorem xA (l:List Atm) (hl:kM l) (s:Stt) (hd:s.done≤1152921504606846976) (kept shift k:Int) (hk:-1152921504606846976≤kept∧kept≤2305843009213693952) (hsh:0≤shift∧shift≤1152921504606846976) :
 aV prog 104 [bt l,bo s,vI kept,vI shift,vI k] (vI (du l s kept shift k)):=fun σ=>by
 refine N7.r (by simp [JN]) ?_;have hs:=aa.refl σ;have hc:=pd l s;have hor:=p7 hl s.atom k;have hlen:=gT l;have bad:¬(dp l s∧s.atom≤k∧k < l.length)→du l s kept shift k=0:=fun h=>if_neg h;have good:(dp l s∧s.atom≤k∧k < l.length)→du l s kept shift k=fT l s.atom k - s.done+kept+shift:=fun h=>if_pos h;generalize du l s kept shift k=P at *;obtain ⟨a,d,fr⟩:=s;rw [bo] at hc;simp only at hor hd good bad;refine ad.mix 11 ?_;apply sR;simp only [go_sem,seval,JN,bo,ax,ay];refine ae fun i6 σ6 s6 a6 f6=>?_;have z6:=hs.none f6;replace hs:=hs.trans s6;simp only [go_sem,seval,a6,ax,ay];refine ad.az rfl rfl rfl (hc _) ?_;by_cases hm:dp l ⟨a,d,fr⟩
 ·rw [decide_eq_true hm];by_cases h1:k < a
  ·have q1:(k < a)=True:=eq_true h1;apply sR;simp only [go_sem,seval,a6,q1,ax,ay];exact au.pure hs (by rw [bad (fun h=>by omega)])
  have q1:(k < a)=False:=eq_false h1;by_cases h2:k≥l.length
  ·have q2:(k≥l.length)=True:=eq_true h2;apply sR;simp only [go_sem,seval,a6,q1,q2,hlen,ax,ay];exact au.pure hs (by rw [bad (fun h=>by omega)])
  have q2:(k≥l.length)=False:=eq_false h2;rw [good ⟨hm,by omega,by omega⟩];have hd0:=hm.2.1;simp only at hd0;have r1:inR .i64 (fT l a k - d):=ak (by omega) (by omega);have r2:inR .i64 (fT l a k - d+kept):=ak (by omega) (by omega);have r3:inR .i64 (fT l a k - d+kept+shift):=ak (by omega) (by omega);apply sR;simp only [go_sem,seval,a6,q1,q2,hlen,ax,ay];refine Go.ct rfl rfl rfl (B8 l hl a k) ?_;apply sG;simp only [go_sem,seval,a6,r1,r2,r3];exact au.pure hs rfl
 ·rw [decide_eq_false hm];apply sR;simp only [go_sem,seval,a6,ax,ay];exact au.pure hs (by rw [bad (fun h=>hm h.1)])
open Go.Proofs Go.Proofs.Tryz
theorem Hq {m:Int} (h1:0≤m) (h2:m≤18446744073709551615):inR .u64 m:=by
 unfold inR IntKind.wrap;simp only [IntKind.signed,IntKind.bits];simp;omega
def jL (p:Nat→Bool):Nat→Nat→Nat→Nat
 | 0,i,_=>i
 | f+1,i,j=>if i < j then if p ((i+j) / 2) then jL p f i ((i+j) / 2) else jL p f ((i+j) / 2+1) j else i
def Ad (p:Nat→Bool) (n:Nat):Nat:=jL p n 0 n
theorem mj (p:Nat→Bool):∀(f g i j:Nat),j - i≤f→j - i≤g→jL p f i j=jL p g i j
 | 0,0,_,_,_,_=>rfl
 | 0,g+1,i,j,h,_=>by rw [jL,jL,if_neg (by omega)]
 | f+1,0,i,j,_,h=>by rw [jL,jL,if_neg (by omega)]
 | f+1,g+1,i,j,h1,h2=>by
   rw [jL,jL];split
   ·rename_i hlt;split
    ·exact mj p f g i ((i+j) / 2) (by omega) (by omega)
    ·exact mj p f g ((i+j) / 2+1) j (by omega) (by omega)
   ·rfl
theorem Fg {f:FuncId} {caps:List V} (p:Nat→Bool) (n:Nat) (hn:n≤1000000000) {σ:af} (hf:∀i:Nat,i < n→av prog f (vI i::caps) σ fun r σ'=>r=.bool (p i)∧σ'=σ) :
 av prog 102 [vI n, .fn f caps] σ fun r σ'=>r=vI (Ad p n)∧σ'=σ:=by
 refine Nb.r (by simp [JX]) ?_;refine ad.mix 8 ?_;apply sR;simp only [go_sem,seval,JX];refine ad.loop (fun m st=>∃i j:Nat,i≤j∧j≤n∧m=j - i∧Ad p n=jL p (j - i) i j∧st.σ=σ∧st.s 1=.fn f caps∧st.s 5=vI i∧st.s 6=vI j) n ?_ ?_
 ·exact ⟨0,n,by omega,by omega,rfl,rfl,rfl,rfl,rfl,rfl⟩
 ·rintro m ⟨S,τ⟩ ⟨i,j,hij,hjn,rfl,heq,hσ,t1,t5,t6⟩;simp only at hσ t1 t5 t6;subst hσ;refine ad.mix 8 ?_;by_cases hlt:i < j
  ·have q:((i:Int) < j)=True:=eq_true (by omega);have r1:inR .i64 ((i:Int)+j):=ak (by omega) (by omega);apply sR;simp only [go_sem,seval,t1,t5,t6,q,r1];have hh:((i:Int)+j).fdiv (2 ^ min 1 64)=(((i+j) / 2:Nat):Int):=by
    rw [show (2 ^ min 1 64:Int)=2 from rfl,Int.fdiv_eq_ediv_of_nonneg _ (by decide)];omega
   rw [hh];refine ⟨Hq (by omega) (by omega),ak (by omega) (by omega),?_⟩;obtain ⟨k,hk⟩:∃k:Nat,k=(i+j) / 2:=⟨_,rfl⟩
   rw [←hk];obtain ⟨w,hw⟩:∃w:Nat,j - i=w+1:=⟨j - i - 1,by omega⟩
   rw [hw,jL,if_pos hlt,←hk] at heq;refine ad.az rfl rfl rfl (hf k (by omega)) ?_;have r2:inR .i64 ((k:Int)+1):=ak (by omega) (by omega);cases hp:p k
   ·rw [hp] at heq;apply sR;simp only [go_sem,seval,t1,t5,t6,r2];refine ⟨_,?_,k+1,j,by omega,hjn,rfl,?_,by simp [t1,t6]⟩
    ·omega
    ·rw [heq]; exact mj p _ _ _ _ (by omega) (by omega)
   ·rw [hp] at heq;apply sR;simp only [go_sem,seval,t1,t5,t6];refine ⟨_,?_,i,k,by omega,by omega,rfl,?_,by simp [t1,t5]⟩
    ·omega
    ·rw [heq]; exact mj p _ _ _ _ (by omega) (by omega)
  ·have q:((i:Int) < j)=False:=eq_false (by omega);have hie:i=j:=by omega
   subst hie;apply sR;simp only [go_sem,seval,t1,t5,t6,q];refine au.same ?_;rw [heq,Nat.sub_self]; rfl
open Go.Proofs Go.Proofs.Tryz
def eR (l:List Atm) (s:Stt) (kept shift body:Int) (n:Nat):Bool:=decide (du l s kept shift (s.atom+n)+(atG l (s.atom+n)).h > body)
def ly (l:List Atm) (s:Stt) (kept shift body:Int):Int:=if dp l s then s.atom+Ad (eR l s kept shift body) (l.length - s.atom.toNat) else 0
theorem vO (p:Nat→Bool):∀(f i j:Nat),i≤j→jL p f i j≤j
 | 0,i,j,h=>h
 | f+1,i,j,h=>by
   rw [jL];split
   ·split
    ·exact Nat.le_trans (vO p f _ _ (by omega)) (by omega)
    ·exact vO p f _ _ (by omega)
   ·exact h
theorem BP (p:Nat→Bool) (n:Nat):Ad p n≤n:=vO p n 0 n (Nat.zero_le n)
theorem nh {l:List Atm} (hl:kM l) {s:Stt} (hd:s.done≤1152921504606846976) {kept shift:Int} (hk:-1152921504606846976≤kept∧kept≤2305843009213693952) (hsh:0≤shift∧shift≤1152921504606846976) (k:Int) :
 -4611686018427387904≤du l s kept shift k∧du l s kept shift k≤5764607523034234880:=by
 unfold du;have h1:=p7 hl s.atom k;split
 ·rename_i h;have:=h.1.2.1;omega
 ·omega
theorem FJ (l:List Atm) (hl:kM l) (s:Stt) (hm:dp l s) (hd:s.done≤1152921504606846976) (kept shift body:Int) (hk:-1152921504606846976≤kept∧kept≤2305843009213693952) (hsh:0≤shift∧shift≤1152921504606846976)
 {σ:af} {i5 i6 i7 i8 i9:Nat} (a5:σ i5=some ⟨34,1,[bt l]⟩) (a6:σ i6=some ⟨24,3,[bo s]⟩) (a7:σ i7=some ⟨3,1,[vI kept]⟩) (a8:σ i8=some ⟨3,1,[vI shift]⟩) (a9:σ i9=some ⟨3,1,[vI body]⟩)
 (n:Nat) (hn:n < l.length - s.atom.toNat) :
 av prog 103 [vI n, .ptr i6 0 0, .ptr i5 0 0, .ptr i7 0 0, .ptr i8 0 0, .ptr i9 0 0] σ fun r σ'=>r=.bool (eR l s kept shift body n)∧σ'=σ:=by
 refine Nn.r (by simp [Hr]) ?_;have hpr:=nh hl hd hk hsh (s.atom+n);have hpc:=xA l hl s hd kept shift (s.atom+n) hk hsh;unfold eR;have hll:=hl.len;obtain ⟨a,d,fr⟩:=s;obtain ⟨h0,h1⟩:=hm.1;rw [bo] at a6 hpc;simp only at h0 h1 hn hpr hpc ⊢;obtain ⟨m,rfl⟩:∃m:Nat,a=m:=⟨a.toNat,by omega⟩
 have e1:(m:Int)+(n:Int)=((m+n:Nat):Int):=by omega
 rw [e1] at hpr hpc ⊢;have hmn:m+n < l.length:=by omega
 have hidx:=fun σ=>gQ (σ:=σ) hmn;have hy:=hl.rng _ (List.getElem_mem hmn);rw [bj hmn];have r1:inR .i64 ((m+n:Nat):Int):=ak (by omega) (by omega);generalize du l ⟨m,d,fr⟩ kept shift ((m+n:Nat):Int)=P at *;have r2:inR .i64 (P+l[m+n].h):=ak (by omega) (by omega);generalize m+n=q at *;refine ad.mix 9 ?_;by_cases hb:P+l[q].h > body
 ·have q1:(P+l[q].h > body)=True:=eq_true hb;apply sR;simp only [go_sem,seval,Hr,a5,a6,a7,a8,a9,e1,r1,ax,ay];refine Go.ct rfl rfl rfl hpc ?_;apply sG;simp only [go_sem,seval,a5,a6,a7,a8,a9,r2,hidx,db,q1,ax,ay];exact au.same rfl
 ·have q1:(P+l[q].h > body)=False:=eq_false hb;apply sR;simp only [go_sem,seval,Hr,a5,a6,a7,a8,a9,e1,r1,ax,ay];refine Go.ct rfl rfl rfl hpc ?_;apply sG;simp only [go_sem,seval,a5,a6,a7,a8,a9,r2,hidx,db,q1,ax,ay];exact au.same rfl
theorem El (l:List Atm) (hl:kM l) (s:Stt) (hd:s.done≤1152921504606846976) (kept shift body:Int) (hk:-1152921504606846976≤kept∧kept≤2305843009213693952) (hsh:0≤shift∧shift≤1152921504606846976) :
 aV prog 70 [bt l,bo s,vI kept,vI shift,vI body] (vI (ly l s kept shift body)):=fun σ=>by
 refine e70.r (by simp [c70]) ?_;have hs:=aa.refl σ;have hc:=pd l s;have hlen:=gT l;have hll:=hl.len;refine ad.mix 12 ?_;have hsc:(bo s).cells=[vI s.atom,vI s.done, .bool s.free]:=rfl;have hss:(bo s).stays=true:=rfl;apply sR;simp only [go_sem,seval,c70,hsc,hss,ax,ay];refine ae fun i5 σ5 s5 a5 f5=>?_;have z5:=hs.none f5;replace hs:=hs.trans s5;simp only [go_sem,seval,hsc,hss,ax,ay];refine ae fun i6 σ6 s6 a6 f6=>?_;have n56:=ao a5 f6;replace a5:=s6 _ _ a5;have z6:=hs.none f6;replace hs:=hs.trans s6;simp only [go_sem,seval,hsc,hss,ax,ay];refine ae fun i7 σ7 s7 a7 f7=>?_;have n57:=ao a5 f7;replace a5:=s7 _ _ a5;have n67:=ao a6 f7;replace a6:=s7 _ _ a6;have z7:=hs.none f7;replace hs:=hs.trans s7;simp only [go_sem,seval,hsc,hss,ax,ay];refine ae fun i8 σ8 s8 a8 f8=>?_;have n58:=ao a5 f8;replace a5:=s8 _ _ a5;have n68:=ao a6 f8;replace a6:=s8 _ _ a6;have n78:=ao a7 f8;replace a7:=s8 _ _ a7;have z8:=hs.none f8;replace hs:=hs.trans s8;simp only [go_sem,seval,hsc,hss,ax,ay];refine ae fun i9 σ9 s9 a9 f9=>?_;have n59:=ao a5 f9;replace a5:=s9 _ _ a5;have n69:=ao a6 f9;replace a6:=s9 _ _ a6;have n79:=ao a7 f9;replace a7:=s9 _ _ a7;have n89:=ao a8 f9;replace a8:=s9 _ _ a8;have z9:=hs.none f9;replace hs:=hs.trans s9;have b6:=a6;rw [bo] at b6;simp only [go_sem,seval,a5,b6,ax,ay];refine ad.az rfl rfl rfl (hc _) ?_;unfold ly;by_cases hm:dp l s
 ·obtain ⟨h0,h1⟩:=hm.1;obtain ⟨m,hmm⟩:∃m:Nat,s.atom=m:=⟨s.atom.toNat,by omega⟩
  have hn:((l.length:Int) - s.atom)=((l.length - s.atom.toNat:Nat):Int):=by omega
  have r1:inR .i64 ((l.length - s.atom.toNat:Nat):Int):=ak (by omega) (by omega);rw [decide_eq_true hm,if_pos hm];apply sR;simp only [go_sem,seval,a5,b6,hlen,hn,r1,ax,ay];refine ad.az rfl rfl rfl (Fg (eR l s kept shift body) (l.length - s.atom.toNat) (by omega) (fun i hi=>FJ l hl s hm hd kept shift body hk hsh a5 a6 a7 a8 a9 i hi)) ?_;have hse:=BP (eR l s kept shift body) (l.length - s.atom.toNat);have r2:inR .i64 (s.atom+(Ad (eR l s kept shift body) (l.length - s.atom.toNat):Nat)):=ak (by omega) (by omega);apply sR;simp only [go_sem,seval,b6,r2];exact au.pure hs rfl
 ·rw [decide_eq_false hm,if_neg hm];apply sR;simp only [go_sem,seval];exact au.pure hs rfl
open Go.Proofs Go.Proofs.Tryz
structure Frg where
 (node atom fr x y w h:Int)
deriving DecidableEq
def aX (f:Frg):V:=.agg [vI f.node,vI f.atom,vI f.fr,vI f.x,vI f.y,vI f.w,vI f.h]
def fg (l:List Atm) (k:Int):Frg:=⟨(atG l k).node,k,0,(atG l k).x,0,(atG l k).w,(atG l k).h⟩
def Frg.bJ (f:Frg) (d:Int):Frg:={ f with fr:=d,h:=f.h - d }
def Frg.cut (f:Frg) (a:Int):Frg:={ f with h:=min f.h a }
def iM (l:List Atm) (f:Frg):Stt:=if f.fr+f.h < (atG l f.atom).h then ⟨f.atom,f.fr+f.h,false⟩ else ⟨f.atom+1,0,false⟩
theorem FA (l:List Atm) (k:Nat) (hk:k < l.length):aV prog 145 [bt l,vI k] (aX (fg l k)):=fun σ=>by
 refine NT.r (by simp [IZ]) ?_;have hs:=aa.refl σ;have hidx:=fun σ=>gQ (σ:=σ) hk;rw [fg,bj hk];refine ad.mix 6 ?_;apply sR;simp only [go_sem,seval,IZ];refine ae fun i4 σ4 s4 a4 f4=>?_;have z4:=hs.none f4;replace hs:=hs.trans s4;simp only [go_sem,seval,hidx,db,ax,ay];refine ae fun i5 σ5 s5 a5 f5=>?_;have n45:=ao a4 f5;replace a4:=s5 _ _ a4;have z5:=hs.none f5;replace hs:=hs.trans s5;simp only [go_sem,seval,a5,a4,ab n45,ax,ay];exact au.pure ((hs.aD z5).aD z4) rfl
theorem zq (f:Frg) (d:Int) (hr:inR .i64 (f.h - d)) {σ:af} {i:Nat} (h:σ i=some ⟨252,7,[aX f]⟩) :
 av prog 146 [.ptr i 0 0,vI d] σ fun _ σ'=>σ'=upd σ i ⟨252,7,[aX (f.bJ d)]⟩:=by
 refine N4.r (by simp [KO]) ?_;rw [aX] at h;refine ad.mix 4 ?_;generalize hX:(upd σ i ⟨252,7,[aX (f.bJ d)]⟩)=X;apply sR;simp only [go_sem,seval,KO,h,hr];exact ⟨_,_,aa.refl _,Wk.refl (aa.refl _) _,hX⟩
theorem HB (f:Frg) (a:Int) {σ:af} {i:Nat} (h:σ i=some ⟨252,7,[aX f]⟩) :
 av prog 147 [.ptr i 0 0,vI a] σ fun _ σ'=>σ'=upd σ i ⟨252,7,[aX (f.cut a)]⟩:=by
 refine ME.r (by simp [Jz]) ?_;rw [aX] at h;refine ad.mix 4 ?_;generalize hX:(upd σ i ⟨252,7,[aX (f.cut a)]⟩)=X;apply sR;simp only [go_sem,seval,Jz,h,ew];exact ⟨_,_,aa.refl _,Wk.refl (aa.refl _) _,hX⟩
theorem zU (l:List Atm) (f:Frg) (k:Nat) (hf:f.atom=k) (hk:k < l.length) (hl:l.length≤1000000000) (hr:inR .i64 (f.fr+f.h)) {σ:af} {i:Nat} (h:σ i=some ⟨252,7,[aX f]⟩) :
 av prog 148 [.ptr i 0 0,bt l] σ fun r σ'=>r=bo (iM l f)∧σ'=σ:=by
 refine Mw.r (by simp [KD]) ?_;have hs:=aa.refl σ;have hidx:=fun σ=>gQ (σ:=σ) hk;obtain ⟨nd,at',fr,x,y,w,hh⟩:=f;simp only at hf hr;subst hf;rw [aX] at h;unfold iM;simp only;rw [bj hk];have r1:inR .i64 ((k:Int)+1):=ak (by omega) (by omega);refine ad.mix 6 ?_;apply sR;simp only [go_sem,seval,KD];refine ae fun i4 σ4 s4 a4 f4=>?_;have z4:=hs.none f4;replace hs:=hs.trans s4;have b:=s4 _ _ h;have n4:i≠i4:=ao h f4;by_cases hc:fr+hh < l[k].h
 ·have q:(fr+hh < l[k].h)=True:=eq_true hc;rw [if_pos hc];simp only [go_sem,seval,a4,b,hr,r1,q,hidx,db];exact au.pure (hs.aD z4) rfl
 ·have q:(fr+hh < l[k].h)=False:=eq_false hc;rw [if_neg hc];simp only [go_sem,seval,a4,b,hr,r1,q,hidx,db];exact au.pure (hs.aD z4) rfl
open Go.Proofs Go.Proofs.Tryz
theorem jP {s:Nat→V} {σ:af} {a1 a2:Bool} {n1 n2 d e:Nat} {Post:V→af→Prop} :
 Ret [.cell a1 n1 (.t d), .cell a2 n2 (.t e)] ⟨s,σ⟩ Post=dv (bO σ a1 n1 (s d)) fun v=>dv (bO σ a2 n2 (s e)) fun w=>au (.tup [v,w]) σ Post:=by
 unfold Ret au mu;simp only [eh,fV,VX.ev];cases bO σ a1 n1 (s d) <;> cases bO σ a2 n2 (s e) <;> simp [dv]
def eN (l:List Atm) (s:Stt) (area:Int):Frg:=((fg l s.atom).bJ s.done).cut area
def oF (l:List Atm) (s:Stt) (area:Int):Prop:=dp l s∧1≤area
instance (l:List Atm) (s:Stt) (area:Int):Decidable (oF l s area):=by unfold oF; infer_instance
def iZ (l:List Atm) (s:Stt) (area:Int):Frg:=if oF l s area then eN l s area else ⟨0,0,0,0,0,0,0⟩
def dT (l:List Atm) (s:Stt) (area:Int):Stt:=if oF l s area then iM l (eN l s area) else ⟨0,0,false⟩
theorem Ky (l:List Atm) (hl:kM l) (s:Stt) (hd:s.done≤1152921504606846976) (area:Int):aV prog 105 [bt l,bo s,vI area] (.tup [aX (iZ l s area),bo (dT l s area)]):=fun σ=>by
 refine NN.r (by simp [Km]) ?_;have hs:=aa.refl σ;have hll:=hl.len;have hsc:(bo s).cells=[vI s.atom,vI s.done, .bool s.free]:=rfl;have hss:(bo s).stays=true:=rfl;refine ad.mix 9 ?_;apply sR;simp only [go_sem,seval,Km,hsc,hss,ax,ay];refine ae fun i4 σ4 s4 a4 f4=>?_;have z4:=hs.none f4;replace hs:=hs.trans s4;simp only [go_sem,seval];refine ae fun i6 σ6 s6 a6 f6=>?_;have n46:=ao a4 f6;replace a4:=s6 _ _ a4;have z6:=hs.none f6;replace hs:=hs.trans s6;simp only [go_sem,seval];refine ae fun i7 σ7 s7 a7 f7=>?_;have n47:=ao a4 f7;replace a4:=s7 _ _ a4;have n67:=ao a6 f7;replace a6:=s7 _ _ a6;have z7:=hs.none f7;replace hs:=hs.trans s7;have b4:=a4;rw [bo] at b4;simp only [go_sem,seval,b4,ax,ay];refine ad.az rfl rfl rfl (pd l s _) ?_;have bad:¬oF l s area→(aX (iZ l s area)=.agg [vI 0,vI 0,vI 0,vI 0,vI 0,vI 0,vI 0]∧bo (dT l s area)=.agg [vI 0,vI 0, .bool false]):=fun h=>by
  rw [iZ,dT,if_neg h,if_neg h]; exact ⟨rfl,rfl⟩
 have good:oF l s area→(iZ l s area=eN l s area∧dT l s area=iM l (eN l s area)):=fun h=>⟨if_pos h,if_pos h⟩
 generalize iZ l s area=X at *;generalize dT l s area=Y at *;by_cases hm:dp l s
 ·rw [decide_eq_true hm];by_cases h1:area < 1
  ·have q1:(area < 1)=True:=eq_true h1;obtain ⟨e1,e2⟩:=bad (fun h=>by have:=h.2; omega);rw [e1,e2];apply sR;simp only [go_sem,seval,a6,a7,ab n67,ab n67.symm,q1,jP];exact au.pure ((hs.aD z6).aD z7) rfl
  have q1:(area < 1)=False:=eq_false h1;obtain ⟨rfl,rfl⟩:=good ⟨hm,by omega⟩;clear good bad;obtain ⟨h0,h2⟩:=hm.1;obtain ⟨k,hk⟩:∃k:Nat,s.atom=k:=⟨s.atom.toNat,by omega⟩
  have hkl:k < l.length:=by omega
  apply sR;simp only [go_sem,seval,b4,hk,q1,ax,ay];refine ad.az rfl rfl rfl (FA l k hkl _) ?_;have hfc:∀f,(aX f).cells=[vI f.node,vI f.atom,vI f.fr,vI f.x,vI f.y,vI f.w,vI f.h]:=fun _=>rfl;apply sR;simp only [go_sem,seval];refine ae fun i8 σ8 s8 a8 f8=>?_;have n48:=ao a4 f8;replace a4:=s8 _ _ a4;have n68:=ao a6 f8;replace a6:=s8 _ _ a6;have n78:=ao a7 f8;replace a7:=s8 _ _ a7;have z8:=hs.none f8;replace hs:=hs.trans s8;have hd0:=hm.2.1;have hy:=hl.rng _ (List.getElem_mem hkl);have hdh:s.done=0∨s.done < l[k].h:=by have:=hm.2.2; rw [hk,bj hkl] at this; exact this
  have hph:(fg l k).h=l[k].h:=by rw [fg,bj hkl]
  have hfs:∀f,(aX f).stays=true:=fun _=>rfl;rw [bo] at a4;simp only [go_sem,seval,a8,a4,ab n48,hfc,hfs];generalize hq8:upd _ i8 _=τ8;replace a8:=(congrFun hq8 i8).symm.trans ag;replace a4:=((congrFun hq8 i4).symm.trans (ab n48)).trans a4;replace a6:=((congrFun hq8 i6).symm.trans (ab n68)).trans a6;replace a7:=((congrFun hq8 i7).symm.trans (ab n78)).trans a7;replace hs:=Eq.subst (motive:=aa _) hq8 (hs.aD z8);clear hq8;have h8:τ8 i8=some ⟨252,7,[aX (fg l k)]⟩:=a8;refine ad.call rfl rfl rfl (zq (fg l k) s.done (ak (by omega) (by omega)) h8) ?_;rintro - σ9 rfl;generalize hq8:upd _ i8 _=τ8;replace a8:=(congrFun hq8 i8).symm.trans ag;replace a4:=((congrFun hq8 i4).symm.trans (ab n48)).trans a4;replace a6:=((congrFun hq8 i6).symm.trans (ab n68)).trans a6;replace a7:=((congrFun hq8 i7).symm.trans (ab n78)).trans a7;replace hs:=Eq.subst (motive:=aa _) hq8 (hs.aD z8);clear hq8;apply sR;simp only [go_sem,seval];refine ad.call rfl rfl rfl (HB ((fg l k).bJ s.done) area a8) ?_;rintro - σ9 rfl;generalize hq8:upd _ i8 _=τ8;replace a8:=(congrFun hq8 i8).symm.trans ag;replace a4:=((congrFun hq8 i4).symm.trans (ab n48)).trans a4;replace a6:=((congrFun hq8 i6).symm.trans (ab n68)).trans a6;replace a7:=((congrFun hq8 i7).symm.trans (ab n78)).trans a7;replace hs:=Eq.subst (motive:=aa _) hq8 (hs.aD z8);clear hq8;have hsl:((fg l k).bJ s.done).cut area=eN l s area:=by rw [eN,hk]
  rw [hsl] at a8;have ha:(eN l s area).atom=k:=by rw [←hsl]; rfl
  have hfr:(eN l s area).fr=s.done:=by rw [←hsl]; rfl
  have hhh:(eN l s area).h=min (l[k].h - s.done) area:=by rw [←hsl,←hph]; rfl
  have hbe:=fun (σ1:af) (h1:aa τ8 σ1)=>zU l (eN l s area) k ha hkl hll (ak (by omega) (by omega)) (h1 _ _ a8);generalize iM l (eN l s area)=Y at *;generalize eN l s area=X at *;have b8:=a8;rw [aX] at b8;apply sR;simp only [go_sem,seval,b8];refine Go.vL rfl rfl rfl (fun σ1 h1=>hbe σ1 h1) ?_;have hyc:(bo Y).cells=[vI Y.atom,vI Y.done, .bool Y.free]:=rfl;have hys:(bo Y).stays=true:=rfl;apply sG;simp only [go_sem,seval,a6,a7,ab n67,ab n67.symm,hyc,hys,jP];exact au.pure ((hs.aD z6).aD z7) rfl
 ·rw [decide_eq_false hm];obtain ⟨e1,e2⟩:=bad (fun h=>hm h.1);rw [e1,e2];apply sR;simp only [go_sem,seval,a6,a7,ab n67,ab n67.symm,jP];exact au.pure ((hs.aD z6).aD z7) rfl
open Go.Proofs Go.Proofs.Tryz
def kJ (l:List Atm) (k:Int) (y:Int):Frg:={ fg l k with y:=y }
def dn (l:List Atm) (s:Stt) (kept shift k:Int):Frg :=
 if dp l s∧s.atom≤k∧k < l.length then
  (if k=s.atom then { (kJ l k (du l s kept shift k)).bJ s.done with y:=du l s kept shift k+s.done } else kJ l k (du l s kept shift k))
 else ⟨0,0,0,0,0,0,0⟩
theorem CO (l:List Atm) (hl:kM l) (s:Stt) (hd:s.done≤1152921504606846976) (kept shift k:Int) (hk:-1152921504606846976≤kept∧kept≤2305843009213693952) (hsh:0≤shift∧shift≤1152921504606846976) :
 aV prog 107 [bt l,bo s,vI kept,vI shift,vI k] (aX (dn l s kept shift k)):=fun σ=>by
 refine NJ.r (by simp [KK]) ?_;have hs:=aa.refl σ;have hlen:=gT l;have hsc:(bo s).cells=[vI s.atom,vI s.done, .bool s.free]:=rfl;have hss:(bo s).stays=true:=rfl;have hpc:=xA l hl s hd kept shift k hk hsh;have hpr:=nh hl hd hk hsh k;refine ad.mix 12 ?_;apply sR;simp only [go_sem,seval,KK,hsc,hss,ax,ay];refine ae fun i6 σ6 s6 a6 f6=>?_;have z6:=hs.none f6;replace hs:=hs.trans s6;simp only [go_sem,seval];refine ae fun i10 σ10 s10 a10 f10=>?_;have n610:=ao a6 f10;replace a6:=s10 _ _ a6;have z10:=hs.none f10;replace hs:=hs.trans s10;rw [bo] at a6 hpc;simp only [go_sem,seval,a6,ax,ay];refine ad.az rfl rfl rfl (pd l s _) ?_;have bad:¬(dp l s∧s.atom≤k∧k < l.length)→aX (dn l s kept shift k)=.agg [vI 0,vI 0,vI 0,vI 0,vI 0,vI 0,vI 0]:=fun h=>by
  rw [dn,if_neg h]; rfl
 have good:(dp l s∧s.atom≤k∧k < l.length)→dn l s kept shift k=(if k=s.atom then { (kJ l k (du l s kept shift k)).bJ s.done with y:=du l s kept shift k+s.done } else kJ l k (du l s kept shift k)):=fun h=>if_pos h;generalize dn l s kept shift k=X at *;by_cases hm:dp l s
 ·rw [decide_eq_true hm];by_cases h1:k < s.atom
  ·have q1:(k < s.atom)=True:=eq_true h1;rw [bad (fun h=>by omega)];apply sR;simp only [go_sem,seval,a6,a10,q1,ax,ay];exact au.pure (hs.aD z10) rfl
  have q1:(k < s.atom)=False:=eq_false h1;by_cases h2:k≥l.length
  ·have q2:(k≥l.length)=True:=eq_true h2;rw [bad (fun h=>by omega)];apply sR;simp only [go_sem,seval,a6,a10,q1,q2,hlen,ax,ay];exact au.pure (hs.aD z10) rfl
  have q2:(k≥l.length)=False:=eq_false h2;obtain rfl:=good ⟨hm,by omega,by omega⟩;clear good bad;obtain ⟨h0,h3⟩:=hm.1;obtain ⟨n,rfl⟩:∃n:Nat,k=n:=⟨k.toNat,by omega⟩
  have hnl:n < l.length:=by omega
  apply sR;simp only [go_sem,seval,a6,q1,q2,hlen,ax,ay];refine ad.az rfl rfl rfl (FA l n hnl _) ?_;have hfc:∀f,(aX f).cells=[vI f.node,vI f.atom,vI f.fr,vI f.x,vI f.y,vI f.w,vI f.h]:=fun _=>rfl;have hfs:∀f,(aX f).stays=true:=fun _=>rfl;generalize du l s kept shift (n:Int)=P at *;apply sR;simp only [go_sem,seval,hfc,hfs];refine ae fun i11 σ11 s11 a11 f11=>?_;have n611:=ao a6 f11;replace a6:=s11 _ _ a6;have n1011:=ao a10 f11;replace a10:=s11 _ _ a10;have z11:=hs.none f11;replace hs:=hs.trans s11;simp only [go_sem,seval,a11,a6,ab (Ne.symm n611),ab n611,hfc,hfs,ax,ay];generalize hq11:upd _ i11 _=τ11;replace a11:=(congrFun hq11 i11).symm.trans ag;replace a6:=((congrFun hq11 i6).symm.trans (ab n611)).trans a6;replace a10:=((congrFun hq11 i10).symm.trans (ab n1011)).trans a10;replace hs:=Eq.subst (motive:=aa _) hq11 (hs.aD z11);clear hq11;refine ad.az rfl rfl rfl (hpc _) ?_;rw [aX] at a11;have hd0:=hm.2.1;have hy:=hl.rng _ (List.getElem_mem hnl);have hph:(fg l n).h=l[n].h:=by rw [fg,bj hnl]
  by_cases he:(n:Int)=s.atom
  ·have q3:((n:Int)=s.atom)=True:=eq_true he;rw [if_pos he];have r2:inR .i64 (P+s.done):=ak (by omega) (by omega);apply sR;simp only [go_sem,seval,a11,a6,q3,ax,ay,ab n611];generalize hq11:upd _ i11 _=τ11;replace a11:=(congrFun hq11 i11).symm.trans ag;replace a6:=((congrFun hq11 i6).symm.trans (ab n611)).trans a6;replace a10:=((congrFun hq11 i10).symm.trans (ab n1011)).trans a10;replace hs:=Eq.subst (motive:=aa _) hq11 (hs.aD z11);clear hq11;have h11:τ11 i11=some ⟨252,7,[aX (kJ l n P)]⟩:=a11;refine ad.call rfl rfl rfl (zq (kJ l n P) s.done (ak (by show _≤(fg l n).h - s.done; omega) (by show (fg l n).h - s.done≤_; omega)) h11) ?_;rintro - σ9 rfl;generalize hq11:upd _ i11 _=τ11;replace a11:=(congrFun hq11 i11).symm.trans ag;replace a6:=((congrFun hq11 i6).symm.trans (ab n611)).trans a6;replace a10:=((congrFun hq11 i10).symm.trans (ab n1011)).trans a10;replace hs:=Eq.subst (motive:=aa _) hq11 (hs.aD z11);clear hq11;rw [aX] at a11;have r3:inR .i64 (((kJ l n P).bJ s.done).y+s.done):=r2;apply sR;simp only [go_sem,seval,a11,a6,a10,r3,ab n611,ab n1011];exact au.pure ((hs.aD z11).aD z10) rfl
  ·have q3:((n:Int)=s.atom)=False:=eq_false he;rw [if_neg he];apply sR;simp only [go_sem,seval,a11,a6,a10,q3,ax,ay,ab n611,ab n1011];exact au.pure ((hs.aD z11).aD z10) rfl
 ·rw [decide_eq_false hm];rw [bad (fun h=>hm h.1)];apply sR;simp only [go_sem,seval,a10];exact au.pure (hs.aD z10) rfl
open Go.Proofs Go.Proofs.Tryz
def mulR (a n:Int):Int :=
 if dj n≠0∧(dj a > (1099511627776:Int).tdiv (max (dj n) (-dj n))∨dj a < (-1099511627776:Int).tdiv (max (dj n) (-dj n))) then
  (if decide (dj a < 0)=decide (dj n < 0) then 1099511627776 else -1099511627776)
 else dj a*dj n
theorem HD {A B:Int} (h1:A≤(1099511627776:Int).tdiv (max B (-B))) (h2:(-1099511627776:Int).tdiv (max B (-B))≤A) (hB:B≠0):-1099511627776≤A*B∧A*B≤1099511627776:=by
 obtain ⟨M,hM⟩:∃M,M=max B (-B):=⟨_,rfl⟩
 rw [←hM] at h1 h2;have hM1:1≤M:=by omega
 rw [Int.neg_tdiv] at h2;rw [Int.tdiv_eq_ediv_of_nonneg (by omega)] at h1 h2;have h3:(1099511627776:Int) / M*M≤1099511627776:=Int.ediv_mul_le _ (by omega);have h4:=Int.mul_le_mul_of_nonneg_right h1 (by omega:0≤M);have h5:=Int.mul_le_mul_of_nonneg_right h2 (by omega:0≤M);rw [Int.neg_mul] at h5;rcases (by omega:M=B∨M = -B) with e | e
 ·rw [e] at h4 h5 h3; omega
 ·have hb:B = -M:=by omega
  rw [hb,Int.mul_neg]; omega
theorem Ly (a n:Int):aV prog 27 [vI a,vI n] (vI (mulR a n)):=fun σ=>by
 refine e27.r (by simp [c27]) ?_;refine ad.mix 5 ?_;apply sR;simp only [go_sem,seval,c27];refine ad.az rfl rfl rfl (wZ a _) ?_;apply sR;simp only [go_sem,seval];refine ad.az rfl rfl rfl (wZ n _) ?_;unfold mulR;have hA:-1099511627776≤dj a∧dj a≤1099511627776:=by unfold dj; omega
 have hB:-1099511627776≤dj n∧dj n≤1099511627776:=by unfold dj; omega
 generalize dj a=A at *;generalize dj n=B at *;have b1:(true == true)=true:=rfl;have b2:(true == false)=false:=rfl;have b3:(false == true)=false:=rfl;have b4:(false == false)=true:=rfl;by_cases h0:B=0
 ·subst h0;have q0:((0:Int)≠0)=False:=eq_false (fun h=>h rfl);have r1:inR .i64 (A*0):=ak (by omega) (by omega);apply sR;simp only [go_sem,seval,q0,r1];exact au.same (by rw [if_neg (by simp)])
 have q0:(B≠0)=True:=eq_true h0;have hM1:1≤max B (-B)∧max B (-B)≤1099511627776:=by omega
 have qM:(max B (-B)=0)=False:=eq_false (by omega);have rn:inR .i64 (-B):=ak (by omega) (by omega);have t1:0≤(1099511627776:Int).tdiv (max B (-B))∧(1099511627776:Int).tdiv (max B (-B))≤1099511627776:=by
  rw [Int.tdiv_eq_ediv_of_nonneg (by omega)];exact ⟨Int.ediv_nonneg (by omega) (by omega),Int.ediv_le_self _ (by omega)⟩
 have t2:(-1099511627776:Int).tdiv (max B (-B)) = -((1099511627776:Int).tdiv (max B (-B))):=Int.neg_tdiv ..;have hr:=HD (A:=A) (B:=B);have rq1:inR .i64 ((1099511627776:Int).tdiv (max B (-B))):=ak (by omega) (by omega);have rq2:inR .i64 ((-1099511627776:Int).tdiv (max B (-B))):=ak (by omega) (by omega);by_cases h1:A > (1099511627776:Int).tdiv (max B (-B))
 ·have q1:(A > (1099511627776:Int).tdiv (max B (-B)))=True:=eq_true h1;rw [if_pos ⟨h0, .inl h1⟩];by_cases sA:A < 0
  ·have qA:(A < 0)=True:=eq_true sA;by_cases sB:B < 0
   ·have qB:(B < 0)=True:=eq_true sB;apply sR;simp only [go_sem,seval,q0,Int.zero_sub,rn,cG,qM,rq1,q1,qA,qB,b1,b2,b3,b4];exact au.same (by first | rfl | simp [sA,sB])
   ·have qB:(B < 0)=False:=eq_false sB;apply sR;simp only [go_sem,seval,q0,Int.zero_sub,rn,cG,qM,rq1,q1,qA,qB,b1,b2,b3,b4];exact au.same (by first | rfl | simp [sA,sB])
  ·have qA:(A < 0)=False:=eq_false sA;by_cases sB:B < 0
   ·have qB:(B < 0)=True:=eq_true sB;apply sR;simp only [go_sem,seval,q0,Int.zero_sub,rn,cG,qM,rq1,q1,qA,qB,b1,b2,b3,b4];exact au.same (by first | rfl | simp [sA,sB])
   ·have qB:(B < 0)=False:=eq_false sB;apply sR;simp only [go_sem,seval,q0,Int.zero_sub,rn,cG,qM,rq1,q1,qA,qB,b1,b2,b3,b4];exact au.same (by first | rfl | simp [sA,sB])
 have q1:(A > (1099511627776:Int).tdiv (max B (-B)))=False:=eq_false h1;by_cases h2:A < (-1099511627776:Int).tdiv (max B (-B))
 ·have q2:(A < (-1099511627776:Int).tdiv (max B (-B)))=True:=eq_true h2;rw [if_pos ⟨h0, .inr h2⟩];by_cases sA:A < 0
  ·have qA:(A < 0)=True:=eq_true sA;by_cases sB:B < 0
   ·have qB:(B < 0)=True:=eq_true sB;apply sR;simp only [go_sem,seval,q0,Int.zero_sub,rn,cG,qM,rq1,q1,rq2,q2,qA,qB,b1,b2,b3,b4];exact au.same (by first | rfl | simp [sA,sB])
   ·have qB:(B < 0)=False:=eq_false sB;apply sR;simp only [go_sem,seval,q0,Int.zero_sub,rn,cG,qM,rq1,q1,rq2,q2,qA,qB,b1,b2,b3,b4];exact au.same (by first | rfl | simp [sA,sB])
  ·have qA:(A < 0)=False:=eq_false sA;by_cases sB:B < 0
   ·have qB:(B < 0)=True:=eq_true sB;apply sR;simp only [go_sem,seval,q0,Int.zero_sub,rn,cG,qM,rq1,q1,rq2,q2,qA,qB,b1,b2,b3,b4];exact au.same (by first | rfl | simp [sA,sB])
   ·have qB:(B < 0)=False:=eq_false sB;apply sR;simp only [go_sem,seval,q0,Int.zero_sub,rn,cG,qM,rq1,q1,rq2,q2,qA,qB,b1,b2,b3,b4];exact au.same (by first | rfl | simp [sA,sB])
 have q2:(A < (-1099511627776:Int).tdiv (max B (-B)))=False:=eq_false h2;have hr':=hr (by omega) (by omega) h0;have r3:inR .i64 (A*B):=ak (by omega) (by omega);rw [if_neg (fun h=>by rcases h.2 with h | h; exact h1 h; exact h2 h)]
 apply sR;simp only [go_sem,seval,q0,Int.zero_sub,rn,cG,qM,rq1,q1,rq2,q2,r3];exact au.same rfl
open Go.Proofs Go.Proofs.Tryz
theorem C5 (l:List Flo) (hl:l.length≤1000000):Iter prog 182 [.rp (aK l)] (l.map fun f=>[aO f]):=by
 refine ⟨LA.c,fun idl J Jx σ0 hy hJ=>?_⟩;refine (LA.r (by simp [Lc]) ?_).2;have ldF:∀σ:af,bO σ false 1 (.rp (aK l))=some (aK l):=fun σ=>rfl;have hln:=fB l;refine ad.mix 5 ?_;apply sR;simp only [go_sem,seval,Lc,ldF,hln];refine ad.loop (fun m st=>∃(j:Nat) (σJ:af),j≤l.length∧m=l.length - j∧J ((l.take j).map fun f=>[aO f]) σJ∧aa σJ st.σ∧st.s 0=.yl idl∧st.s 5=aK l∧st.s 6=vI l.length∧st.s 7=vI j) l.length ?_ ?_
 ·exact ⟨0,σ0,by omega,rfl,by simpa using hJ,aa.refl _,rfl,rfl,rfl,rfl⟩
 ·rintro m ⟨S,τ⟩ ⟨j,σJ,hj,rfl,hJj,hsub,t0,t5,t6,t7⟩;simp only at hsub t0 t5 t6 t7;refine ad.mix 5 ?_;by_cases hlt:j < l.length
  ·have q:((j:Int) < l.length)=True:=eq_true (by omega);have r1:inR .i64 ((j:Int)+1):=ak (by omega) (by omega);have hidx:=fun σ=>iI (σ:=σ) hlt;have e0':l=l.take j++l[j]::l.drop (j+1):=by rw [←List.drop_eq_getElem_cons hlt,List.take_append_drop]
   have e:(l.map fun f=>[aO f])=((l.take j).map fun f=>[aO f])++[aO l[j]]::((l.drop (j+1)).map fun f=>[aO f]):=by
    have:=congrArg (List.map fun f=>[aO f]) e0'
    rwa [List.map_append,List.map_cons] at this
   have htk:((l.take (j+1)).map fun f=>[aO f])=((l.take j).map fun f=>[aO f])++[[aO l[j]]]:=by rw [List.take_succ_eq_append_getElem hlt,List.map_append]; rfl
   have hfl:aO l[j]=.agg [vI l[j].node,vI l[j].side,vI l[j].anchor,vI l[j].x,vI l[j].y,vI l[j].w,vI l[j].h]:=rfl;generalize l[j]=x at *;apply sR;simp only [go_sem,seval,t0,t5,t6,t7,q,hidx,hfl];refine ae fun i4 σ4 s4 a4 f4=>?_;simp only [go_sem,seval,a4,t0,t5,t6,t7];generalize hq4:upd σ4 i4 _=τ4;have hs4:aa τ τ4:=by rw [←hq4]; exact s4.aD f4
   clear hq4;refine ad.lA (Post:=fun b' σ2=>∃σJ',bc σJ τ4 σJ' σ2∧((b'=true∧J (((l.take j).map fun f=>[aO f])++[[aO x]]) σJ')∨(b'=false∧Jx (((l.take j).map fun f=>[aO f])++[[aO x]]) σJ'))) rfl rfl rfl (hy _ [aO x] _ σJ τ4 e hJj (hsub.trans hs4)) ?_;rintro b' σ2 ⟨σJ',hbs,hbb⟩;rcases hbb with ⟨rfl,hbb⟩ | ⟨rfl,hbb⟩
   ·apply sR;simp only [go_sem,seval,t0,t5,t6,t7,r1];refine ⟨_,?_,j+1,σJ',by omega,rfl,by rw [htk]; exact hbb,hbs.1,by simp [t0,t5,t6]⟩;omega
   ·apply sR;simp only [go_sem,seval,t0,t5,t6,t7];exact ⟨_,σJ',hbs.1,Wk.refl hbs.1 _, .inr ⟨_,⟨_,by rw [e,List.append_assoc]; rfl⟩,hbb⟩⟩
  ·have q:((j:Int) < l.length)=False:=eq_false (by omega);rw [List.take_of_length_le (by omega)] at hJj;apply sR;simp only [go_sem,seval,t0,t5,t6,t7,q];exact ⟨_,σJ,hsub,Wk.refl hsub _, .inl hJj⟩
theorem I0 (l:List Flo):aV prog 149 [aK l] (.fn 182 [.rp (aK l)]):=fun σ=>by
 refine Om.r (by simp [KV]) ?_;refine ad.mix 3 ?_;have q1:=aS l;have q2:=aU l;generalize aK l=x at *;apply sR;simp only [go_sem,seval,KV,q1,q2];refine ae fun id1 σ1 s1 a1 f1=>?_;simp only [go_sem,seval,q1,q2];exact ⟨_,σ,s1,Wk.fn (vs':=[.rp x]) ⟨Wk.ptr s1 a1 f1,trivial⟩,rfl,rfl⟩
def nH (bJ to:Int) (f:Flo):Bool:=decide (f.anchor < bJ∨f.anchor≥to)
theorem K0 (bJ to:Int) (f:Flo) {σ:af} {i4 i5:Nat} (a4:σ i4=some ⟨3,1,[vI bJ]⟩) (a5:σ i5=some ⟨3,1,[vI to]⟩) :
 av prog 207 [aO f, .ptr i4 0 0, .ptr i5 0 0] σ fun r σ'=>r=.bool (nH bJ to f)∧σ'=σ:=by
 refine M4.r (by simp [Ka]) ?_;have hs:=aa.refl σ;refine ad.mix 5 ?_;apply sR;simp only [go_sem,seval,Ka,aO];refine ae fun i3 σ3 s3 a3 f3=>?_;have z3:=hs.none f3;replace hs:=hs.trans s3;have b4:=s3 _ _ a4;have b5:=s3 _ _ a5;by_cases h0:f.anchor < bJ
 ·have q0:(f.anchor < bJ)=True:=eq_true h0;simp only [go_sem,seval,a3,b4,b5,q0];exact au.pure hs (by simp [nH,h0])
 ·have q0:(f.anchor < bJ)=False:=eq_false h0;by_cases h1:f.anchor≥to
  ·have q1:(f.anchor≥to)=True:=eq_true h1;simp only [go_sem,seval,a3,b4,b5,q0,q1];exact au.pure hs (by simp [nH,h1])
  ·have q1:(f.anchor≥to)=False:=eq_false h1;simp only [go_sem,seval,a3,b4,b5,q0,q1];exact au.pure hs (by simp only [nH]; rw [decide_eq_false (by omega)])
open Go.Proofs Go.Proofs.Tryz
def fp (p:Flo→Bool):List Flo→Nat→Int
 | [],_=>-1
 | f::r,i=>if p f then i else fp p r (i+1)
theorem zw {p:Flo→Bool} {l:List Flo} {i:Nat} (h:i < l.length):fp p (l.drop i) i=if p l[i] then (i:Int) else fp p (l.drop (i+1)) (i+1):=by
 rw [List.drop_eq_getElem_cons h,fp]
theorem D4 {σ:af} {v:V} (l:List Flo) (hl:l.length≤1000000) (hr:Reads σ 7 true v (l.map aO)) {f:FuncId} {caps:List V} (p:Flo→Bool)
 (hf:∀x∈l,av prog f (aO x::caps) σ fun r σ'=>r=.bool (p x)∧σ'=σ) :
 av prog 217 [v, .fn f caps] σ fun r σ'=>r=vI (fp p l 0)∧σ'=σ:=by
 refine M6.r (by simp [Iz]) ?_;have hlv:dK false v=some (.int .i64 l.length):=by rw [hr.1,List.length_map]
 refine ad.mix 6 ?_;apply sR;simp only [go_sem,seval,Iz,hlv];refine ad.loop (fun m st=>∃i:Nat,i≤l.length∧m=l.length - i∧fp p l 0=fp p (l.drop i) i∧st.σ=σ∧st.s 0=v∧st.s 1=.fn f caps∧st.s 7=vI l.length∧st.s 8=vI i) l.length ?_ ?_
 ·exact ⟨0,by omega,rfl,rfl,rfl,rfl,rfl,rfl,rfl⟩
 ·rintro m ⟨s,σ'⟩ ⟨i,hi,rfl,heq,hσ,h0,h1,h7,h8⟩;simp only at hσ h0 h1 h7 h8;subst hσ;refine ad.mix 6 ?_;by_cases hlt:i < l.length
  ·have q:((i:Int) < l.length)=True:=eq_true (by omega);have hd:=zw (p:=p) hlt;obtain ⟨a,ha,hla⟩:=hr.2 i (aO l[i]) (by simp [hlt]);have hfx:=hf l[i] (List.getElem_mem hlt);have r1:inR .i64 ((i:Int)+1):=ak (by omega) (by omega);generalize l[i]=x at *;apply sR;simp only [go_sem,seval,h0,h1,h7,h8,q,ha,hla];refine ad.az rfl rfl rfl hfx ?_;cases hp:p x
   ·rw [hp] at hd;apply sR;simp only [go_sem,seval,h0,h1,h7,h8,r1];refine ⟨_,?_,i+1,by omega,rfl,?_,by simp [h0,h1,h7]⟩
    ·omega
    ·rw [heq,hd]; rfl
   ·rw [hp] at hd;apply sR;simp only [go_sem,seval,h0,h1,h7,h8];refine au.same ?_;rw [heq,hd]; rfl
  ·have q:((i:Int) < l.length)=False:=eq_false (by omega);have hie:i=l.length:=by omega
   apply sR;simp only [go_sem,seval,h0,h1,h7,h8,q];refine au.same ?_;rw [heq,hie,List.drop_length]; rfl
open Go.Proofs Go.Proofs.Tryz
theorem Ee (l:List Atm) (hl:l.length≤1000000000):aV prog 32 [bt l] (bt l) :=
 xp func32 (e32.b.trans rfl) e32.c (l.map db) (by simp; omega)
theorem xm (l:List Flo) (hl:l.length≤1000000000):aV prog 33 [aK l] (aK l) :=
 xp func33 (e33.b.trans rfl) e33.c (l.map aO) (by simp; omega)
open Go.Proofs Go.Proofs.Tryz
def jZ (a:Flo):List Flo→Nat→Int
 | [],_=>-1
 | q::r,i=>if a=q then i else jZ a r (i+1)
theorem Ch {a:Flo} {p:List Flo} {i:Nat} (h:i < p.length):jZ a (p.drop i) i=if a=p[i] then (i:Int) else jZ a (p.drop (i+1)) (i+1):=by
 rw [List.drop_eq_getElem_cons h,jZ]
theorem DZ (p:List Flo) (hp:p.length≤1000000000) (a:Flo):aV prog 63 [aK p,aO a] (vI (jZ a p 0)):=fun σ=>by
 refine e63.r (by simp [c63]) ?_;have hs:=aa.refl σ;have hlp:=fB p;have hac:(aO a).cells=[vI a.node,vI a.side,vI a.anchor,vI a.x,vI a.y,vI a.w,vI a.h]:=rfl;have has:(aO a).stays=true:=rfl;have he:∀b:Flo,jK false [0,0,0,0,0,0,0] (.agg [vI a.node,vI a.side,vI a.anchor,vI a.x,vI a.y,vI a.w,vI a.h]) (.agg [vI b.node,vI b.side,vI b.anchor,vI b.x,vI b.y,vI b.w,vI b.h])=some (.bool (decide (a=b))):=fun b=>by
  have:(a=b)↔(a.node=b.node∧a.side=b.side∧a.anchor=b.anchor∧a.x=b.x∧a.y=b.y∧a.w=b.w∧a.h=b.h):=by
   cases a; cases b; simp
  simp only [jK,dV,cd,dD,this];simp
 refine ad.mix 9 ?_;apply sR;simp only [go_sem,seval,c63,hac,has];refine ae fun i3 σ3 s3 a3 f3=>?_;have z3:=hs.none f3;replace hs:=hs.trans s3;simp only [go_sem,seval,hlp,hac,has];rw [aO] at a3;refine ad.loop (fun m st=>∃(i:Nat),i≤p.length∧m=p.length - i∧jZ a p 0=jZ a (p.drop i) i∧st.σ=σ3∧st.s 0=aK p∧st.s 3=.ptr i3 0 0∧st.s 7=vI p.length∧st.s 8=vI i) p.length ?_ ?_
 ·exact ⟨0,by omega,rfl,rfl,rfl,rfl,rfl,rfl,rfl⟩
 ·rintro m ⟨s,σ'⟩ ⟨i,hi,rfl,heq,hσ,h0,h3,h7,h8⟩;simp only at hσ h0 h3 h7 h8;subst hσ;refine ad.mix 9 ?_;by_cases hlt:i < p.length
  ·have q:((i:Int) < p.length)=True:=eq_true (by omega);have hd:=Ch (a:=a) hlt;have hidx:=fun σ=>iI (σ:=σ) hlt;have r1:inR .i64 ((i:Int)+1):=ak (by omega) (by omega);have hee:=he p[i];have hfl:aO p[i]=.agg [vI p[i].node,vI p[i].side,vI p[i].anchor,vI p[i].x,vI p[i].y,vI p[i].w,vI p[i].h]:=rfl;by_cases hc:a=p[i]
   ·rw [decide_eq_true hc] at hee;apply sR;simp only [BB,seval,←decide_not,bp,eP,aE,cF,eA,ed,ez,dL,cb,j9,gl,bC,fF,dI,et,cp,cH,bu,iq,dd,cE,bZ,eff,jU,cV,bR,dV,cd,dD,cU,kO,binBV,bS,dg,V.cells,V.stays,Orc.nothing,h0,h3,h7,h8,q,a3,hidx,hfl,hee];refine au.pure hs ?_;rw [heq,hd,if_pos hc]
   ·rw [decide_eq_false hc] at hee;apply sR;simp only [BB,seval,←decide_not,bp,eP,aE,cF,eA,ed,ez,dL,cb,j9,gl,bC,fF,dI,et,cp,cH,bu,iq,dd,cE,bZ,eff,jU,cV,bR,dV,cd,dD,cU,kO,binBV,bS,dg,V.cells,V.stays,Orc.nothing,h0,h3,h7,h8,q,a3,hidx,hfl,hee,r1];refine ⟨_,?_,i+1,by omega,rfl,?_,by simp [h0,h3,h7]⟩
    ·omega
    ·rw [heq,hd,if_neg hc]
  ·have q:((i:Int) < p.length)=False:=eq_false (by omega);have hie:i=p.length:=by omega
   apply sR;simp only [go_sem,seval,h0,h3,h7,h8,q];refine au.pure hs ?_;rw [heq,hie,List.drop_length]; rfl
open Go
theorem FzL.same {σ:af} {N:Nat→Prop}:∀(vs:List V),fH vs=true→FzL σ N vs vs
 | [],_=>.nil
 | v::vs,h=>by
   simp only [fH,Ba] at h;exact .cons _ _ _ _ (.same v h.1) (FzL.same vs h.2)
theorem FzL.app {σ:af} {N:Nat→Prop}:∀ {a b c d:List V},FzL σ N a b→FzL σ N c d→FzL σ N (a++c) (b++d)
 | _,_,_,_, .nil,h=>h
 | _,_,_,_, .cons v u vs us h h',h2=>.cons v u _ _ h (FzL.app h' h2)
theorem FzL.one {σ:af} {N:Nat→Prop} {v u:V} (h:Fz σ N v u):FzL σ N [v] [u]:=.cons _ _ _ _ h .nil
theorem aM.fz {K σ:af} {N:Nat→Prop} {e sz:Nat} {v:V} {rows:List V} (h:aM K σ e sz v rows) (hN:∀id,K id=none→N id) (hr:fH rows=true):Fz σ N v (.sl sz rows):=by
 rcases h with ⟨rfl,rfl⟩ | ⟨id,rfl,ho,hk⟩
 ·exact .nil sz
 ·exact .own id 0 rows.length ⟨e,sz,rows⟩ rows ho (hN id hk) (by simp) (by rw [List.drop_zero,List.take_length]; exact FzL.same rows hr)
theorem aM.ab {K σ:af} {e sz:Nat} {v:V} {rows:List V} (h:aM K σ e sz v rows) {id:Nat} {o:Ob} (hK:K id≠none):aM K (upd σ id o) e sz v rows:=by
 rcases h with h | ⟨q,h1,h2,h3⟩
 ·exact .inl h
 ·have:q≠id:=fun e=>hK (by rw [←e]; exact h3);exact .inr ⟨q,h1,by rw [Vc.ab this]; exact h2,h3⟩
theorem Ca (l:List Int):fH (l.map vI)=true:=by
 induction l with
 | nil=>rfl
 | cons x l ih=>rw [List.map_cons,fH,ih]; rfl
abbrev Mh (x:Nd):List V:=[vI x.kind,vI x.size,vI x.st.top,vI x.st.bottom,vI x.st.padTop,vI x.st.padBottom,vI x.st.inset,vI x.st.orphans,vI x.st.widows,vI x.st.head,vI x.st.before,vI x.st.after,vI x.st.inside,vI x.st.clear,vI x.line,vI x.space]
def ndW (x:Nd) (v:V):V:=.agg [vI x.kind,vI x.size,vI x.st.top,vI x.st.bottom,vI x.st.padTop,vI x.st.padBottom,vI x.st.inset,vI x.st.orphans,vI x.st.widows,vI x.st.head,vI x.st.before,vI x.st.after,vI x.st.inside,vI x.st.clear,vI x.line,vI x.space,v,vI x.side,vI x.w,vI x.h]
theorem Mo {σ:af} {N:Nat→Prop} {x:Nd} {v:V} (h:Fz σ N v (bh x.words)):Fz σ N (ndW x v) (gP x):=by
 refine .agg _ _ ?_;exact (FzL.same (Mh x) rfl).app ((FzL.one h).app (FzL.same [vI x.side,vI x.w,vI x.h] rfl))
def fi (K σ:af):List Nd→List V→Prop
 | [],[]=>True
 | x::l,r::rows=>(∃w,r=ndW x w∧aM K σ 3 1 w (x.words.map vI))∧fi K σ l rows
 | _,_=>False
theorem aM.kept {K σ σ':af} {id e:Nat} {w:V} {rows rows0:List V} (h:aM K σ 3 1 w rows) (ho:σ id=some ⟨e,20,rows0⟩) (hs:∀i,i≠id→∀o,σ i=some o→σ' i=some o):aM K σ' 3 1 w rows:=by
 rcases h with h | ⟨i,h1,h2,h3⟩
 ·exact .inl h
 ·have hne:i≠id:=fun e=>by subst e; rw [ho] at h2; simp at h2
  exact .inr ⟨i,h1,hs i hne _ h2,h3⟩
theorem fi.kept {K σ σ':af} {id e:Nat} {rows0:List V} (ho:σ id=some ⟨e,20,rows0⟩) (hs:∀i,i≠id→∀o,σ i=some o→σ' i=some o):∀ {l:List Nd} {rows:List V},fi K σ l rows→fi K σ' l rows
 | [],[],_=>trivial
 | _::_,_::_,⟨⟨w,h1,h2⟩,h⟩=>⟨⟨w,h1,h2.kept ho hs⟩,fi.kept ho hs h⟩
 | [],_::_,h=>h.elim
 | _::_,[],h=>h.elim
theorem fi.mono {K σ σ':af} (hs:aa σ σ'):∀ {l:List Nd} {rows:List V},fi K σ l rows→fi K σ' l rows
 | [],[],_=>trivial
 | _::_,_::_,⟨⟨w,h1,h2⟩,h⟩=>⟨⟨w,h1,h2.mono hs⟩,fi.mono hs h⟩
 | [],_::_,h=>h.elim
 | _::_,[],h=>h.elim
theorem aM.LP {K K' σ:af} {e sz:Nat} {v:V} {rows:List V} (h:aM K σ e sz v rows) (hk:aa K' K):aM K' σ e sz v rows:=by
 rcases h with h | ⟨i,h1,h2,h3⟩
 ·exact .inl h
 ·exact .inr ⟨i,h1,h2,hk.none h3⟩
theorem fi.app {K σ:af}:∀ {l l2:List Nd} {rows rows2:List V},fi K σ l rows→fi K σ l2 rows2→fi K σ (l++l2) (rows++rows2)
 | [],_,[],_,_,h2=>h2
 | _::_,_,_::_,_,⟨h1,h⟩,h2=>⟨h1,fi.app h h2⟩
 | [],_,_::_,_,h,_=>h.elim
 | _::_,_,[],_,h,_=>h.elim
theorem fi.fz {K σ:af} {N:Nat→Prop} (hN:∀id,K id=none→N id):∀ {l:List Nd} {rows:List V},fi K σ l rows→FzL σ N rows (l.map gP)
 | [],[],_=>.nil
 | _::_,_::_,⟨⟨w,h1,h2⟩,h⟩=>by
   rw [h1];exact .cons _ _ _ _ (Mo (h2.fz hN (Ca _))) (fi.fz hN h)
 | [],_::_,h=>h.elim
 | _::_,[],h=>h.elim
def zC (K σ:af) (v:V) (l:List Nd):Prop:=∃rows,aM K σ 73 20 v rows∧fi K σ l rows
theorem zC.fz {K σ:af} {N:Nat→Prop} {v:V} {l:List Nd} (h:zC K σ v l) (hN:∀id,K id=none→N id):Fz σ N v (aJ l):=by
 obtain ⟨rows,ho,hr⟩:=h;have hf:=hr.fz hN;rcases ho with ⟨rfl,rfl⟩ | ⟨id,rfl,ho,hk⟩
 ·cases l with
  | nil=>exact .nil 20
  | cons x l=>exact hr.elim
 ·exact .own id 0 rows.length ⟨_,20,rows⟩ _ ho (hN id hk) (by simp) (by rw [List.drop_zero,List.take_length]; exact hf)
open Go.Proofs Go.Proofs.Tryz
theorem Hx (l:List Nd) (hl:l.length≤10000) (σ:af):av prog 29 [aJ l] σ fun r σ'=>aa σ σ'∧aM σ σ' 73 20 r (l.map gP):=by
 refine e29.r (by simp [c29]) ?_;refine ad.mix 3 ?_
 (refine ad.bD Orc.nothing 8 ?_; simp only [go_sem,seval,nr,c29])
 refine ad.Cd rfl rfl rfl fun b hb=>?_;cases b
 ·apply sR;simp only [go_sem,seval];refine ae fun id1 σ1 s1 a1 f1=>?_;obtain ⟨idA,hd,hdel⟩:=(aM.new (K:=σ) (e:=73) (sz:=20) (n:=0) (rows:=[]) rfl a1 f1).dst (aa.refl _);have hsrc:∀σ,bG σ 20 (aJ l)=some (l.map gP):=fun σ=>by simp [aJ,bG]
  have hb2:l.length*177≤140737488355328:=by omega
  simp only [go_sem,seval,hd,hsrc,List.length_map,hb2];refine er fun id2 σ2 s2 a2 f2=>?_;have hs2:=(hdel σ (aa.refl _) σ1 s1).trans s2;simp only [go_sem,seval];refine ⟨_,_,aa.refl _,Wk.refl (aa.refl _) _,hs2,aM.new (by simp) a2 (s1.none f2)⟩
 ·apply sR;simp only [go_sem,seval];refine ⟨_,_,aa.refl _,Wk.refl (aa.refl _) _,aa.refl _,?_⟩;have:l.map gP=[]:=hb rfl;rw [this];exact aM.start
theorem EV (l:List Int) (hl:l.length≤1000000000) (σ:af):av prog 30 [bh l] σ fun r σ'=>aa σ σ'∧aM σ σ' 3 1 r (l.map vI):=by
 refine e30.r (by simp [c30]) ?_;refine ad.mix 3 ?_
 (refine ad.bD Orc.nothing 8 ?_; simp only [go_sem,seval,nr,c30])
 refine ad.Cd rfl rfl rfl fun b hb=>?_;cases b
 ·apply sR;simp only [go_sem,seval];refine ae fun id1 σ1 s1 a1 f1=>?_;obtain ⟨idA,hd,hdel⟩:=(aM.new (K:=σ) (e:=3) (sz:=1) (n:=0) (rows:=[]) rfl a1 f1).dst (aa.refl _);have hb2:l.length*9≤140737488355328:=by omega
  simp only [go_sem,seval,hd,vy,List.length_map,hb2];refine er fun id2 σ2 s2 a2 f2=>?_;have hs2:=(hdel σ (aa.refl _) σ1 s1).trans s2;simp only [go_sem,seval];exact ⟨_,_,aa.refl _,Wk.refl (aa.refl _) _,hs2,aM.new (by simp) a2 (s1.none f2)⟩
 ·apply sR;simp only [go_sem,seval];have:l.map vI=[]:=hb rfl;refine ⟨_,_,aa.refl _,Wk.refl (aa.refl _) _,aa.refl _,?_⟩;rw [this];exact aM.start
open Go.Proofs Go.Proofs.Tryz
def GH (K σ:af) (e sz:Nat) (v:V) (rows:List V):Prop:=(v=.aC∧rows=[])∨∃id all,v=.own id 0 rows.length∧σ id=some ⟨e,sz,all⟩∧all.take rows.length=rows∧K id=none
theorem aM.Ns {K σ:af} {e sz:Nat} {v:V} {rows:List V} (h:aM K σ e sz v rows):GH K σ e sz v rows:=by
 rcases h with h | ⟨id,h1,h2,h3⟩
 ·exact .inl h
 ·exact .inr ⟨id,rows,h1,h2,List.take_length,h3⟩
theorem GH.wk {K σ:af} {e sz:Nat} {v:V} {rows:List V} (h:GH K σ e sz v rows) {K':af} (hK:aa K' K) (hs:aa K' σ):Wk σ K' v (.sl sz rows):=by
 rcases h with ⟨rfl,rfl⟩ | ⟨id,all,rfl,ho,ht,hk⟩
 ·exact Wk.aC sz
 ·have hl:rows.length≤all.length:=by
   have:=congrArg List.length ht;simp at this; omega
  have:=Wk.own hs ho (hK.none hk) (off:=0) (len:=rows.length) (by simpa using hl);rw [List.drop_zero,ht] at this;exact this
open Go.Proofs Go.Proofs.Tryz
theorem qv {p:Flo→Bool}:∀(l:List Flo) (i:Nat),fp p l i < 0→l.filter (fun f=>!p f)=l
 | [],_,_=>rfl
 | x::l,i,h=>by
   rw [fp] at h;split at h
   ·omega
   ·rename_i hp;have hp':p x=false:=by simpa using hp
    simp only [List.filter_cons,hp',Bool.not_false,if_true,qv l _ h]
theorem qp {p:Flo→Bool}:∀(l:List Flo) (i:Nat),¬fp p l i < 0→∃w:Nat,fp p l i=((i+w:Nat):Int)∧w < l.length∧(l.take w).filter (fun f=>!p f)=l.take w∧∀x,l[w]?=some x→p x=true
 | [],i,h=>by simp [fp] at h
 | x::l,i,h=>by
   rw [fp] at h ⊢;split
   ·rename_i hp;exact ⟨0,by simp,by simp,by simp,fun y hy=>by simp at hy; subst hy; exact hp⟩
   ·rename_i hp;rw [if_neg hp] at h;have hp':p x=false:=by simpa using hp
    obtain ⟨w,h1,h2,h3,h4⟩:=qp l (i+1) h;refine ⟨w+1,by rw [h1]; congr 1; omega,by simp; omega,?_,by simpa using h4⟩;simp only [List.take_succ_cons,List.filter_cons,hp',Bool.not_false,if_true,h3]
theorem tH {p:Flo→Bool}:∀(l:List Flo) (i:Nat),fp p l i < 0→fp p l i = -1
 | [],_,_=>rfl
 | x::l,i,h=>by
   rw [fp] at h ⊢;split
   ·rename_i hp; rw [if_pos hp] at h; omega
   ·rename_i hp; rw [if_neg hp] at h; exact tH l _ h
abbrev mN (p:Flo→Bool) (l:List Flo):List Flo:=l.filter fun f=>!p f
theorem Cf {K σ:af} {v:V} (l:List Flo) (hl:l.length≤1000000) (hK:aa K σ) (ho:aM K σ 59 7 v (l.map aO)) {f:FuncId} {caps:List V} (p:Flo→Bool)
 (hf:∀x∈l,∀τ,aa K τ→av prog f (aO x::caps) τ fun r σ'=>r=.bool (p x)∧σ'=τ) :
 av prog 206 [v, .fn f caps] σ fun r σ'=>GH K σ' 59 7 r ((mN p l).map aO)∧aa K σ':=by
 have hr:Reads σ 7 true v (l.map aO):=by
  rcases ho with ⟨rfl,h0⟩ | ⟨id,rfl,h2,h3⟩
  ·rw [h0]; exact ⟨rfl,fun i v h=>by simp at h⟩
  ·refine ⟨by simp [dK],fun i r hi=>⟨_,jB h2 (by have:=List.getElem?_eq_some_iff.1 hi; exact this.1),?_⟩⟩;have hx:∃x,r=aO x:=by
    have:=List.mem_of_getElem? hi;simp only [List.mem_map] at this;obtain ⟨n,_,rfl⟩:=this; exact ⟨n,rfl⟩
   obtain ⟨x,rfl⟩:=hx;simp only [bO,h2,hi,if_true];rw [if_pos ⟨trivial,rfl⟩]; rfl
 refine M3.r (by simp [IW]) ?_;refine ad.mix 8 ?_;apply sR;simp only [go_sem,seval,IW];refine ad.az rfl rfl rfl (D4 l hl hr p (fun x hx=>hf x hx σ hK)) ?_;generalize hw:fp p l 0=w;by_cases hn:w < 0
 ·have hw1:w = -1:=by rw [←hw]; exact tH _ _ (by rw [hw]; exact hn)
  have hk:mN p l=l:=qv l 0 (by rw [hw]; exact hn);have q:(w = -1)=True:=eq_true hw1;apply sR;simp only [go_sem,seval,q];rw [hk];exact ⟨_,σ,aa.refl _,Wk.refl (aa.refl _) _,ho.Ns,hK⟩
 ·obtain ⟨u0,g0,g1,g2,g3⟩:=qp l 0 (by rw [hw]; exact hn);rw [hw,Nat.zero_add] at g0;subst g0;have q:((u0:Int) = -1)=False:=eq_false (by omega);have r1:inR .i64 ((u0:Int)+1):=ak (by omega) (by omega);obtain ⟨i1,rfl,h2,h3⟩:∃id,v=.own id 0 (l.map aO).length∧σ id=some ⟨59,7,l.map aO⟩∧K id=none:=by
   rcases ho with ⟨_,h0⟩ | h
   ·have:l=[]:=by simpa using h0
    subst this; simp at g1
   ·exact h
  rw [List.length_map] at *;apply sR;simp only [go_sem,seval,q,r1];refine ad.loop (fun m st=>∃(u j:Nat) (cur:List Flo),u < j∧j≤l.length∧m=l.length - j∧cur.length=l.length∧cur.take u=mN p (l.take j)∧(∀q,j≤q→cur[q]?=l[q]?)∧aa K st.σ∧st.σ i1=some ⟨59,7,cur.map aO⟩ ∧
   st.s 0=.own i1 0 l.length∧st.s 1=.fn f caps∧st.s 5=vI u∧∃z:Int,st.s 6=vI z∧z=j) (l.length - (u0+1)) ?_ ?_
  ·refine ⟨u0,u0+1,l,by omega,by omega,rfl,rfl,?_,fun _ _=>rfl,hK,h2,rfl,rfl,rfl,_,rfl,by omega⟩;have hp:=g3 l[u0] (by simp [g1]);rw [List.take_succ_eq_append_getElem g1];have g2':mN p (l.take u0)=l.take u0:=g2;simp only [mN,List.filter_append] at g2' ⊢;rw [g2'];simp [hp]
  ·rintro m ⟨s,τ⟩ ⟨u,j,cur,huj,hjk,rfl,hcl,hct,hcr,hs,a1,h0,h1,h5,z,h6,rfl⟩;simp only at hs a1 h0 h1 h5 h6;refine ad.mix 8 ?_;have hlm:(cur.map aO).length=l.length:=by rw [List.length_map,hcl]
   by_cases hlt:j < l.length
   ·have q1:((j:Int) < l.length)=True:=eq_true (by omega);have hjc:j < cur.length:=by omega
    have huc:u < cur.length:=by omega
    have hfj:l[j]?=some cur[j]:=by rw [←hcr j (Nat.le_refl _)]; simp [hjc]
    have hmem:cur[j]∈l:=List.mem_of_getElem? hfj;have htj:l.take (j+1)=l.take j++[cur[j]]:=by
     rw [List.take_succ_eq_append_getElem hlt];congr 2;rw [List.getElem?_eq_getElem hlt] at hfj;simpa using hfj
    have iX:∀(τ:af) (rows:List V) (k n:Nat),τ i1=some ⟨59,7,rows⟩→rows.length=l.length→n=l.length→k < l.length→bF τ 7 (.own i1 0 n) (.int .i64 k)=some (.ptr i1 k 0):=fun τ rows k n h e hn hk=>by subst hn; rw [←e]; exact jB h (by omega)
    have e1:=iX _ _ j _ a1 hlm rfl hlt;have v1:(cur.map aO)[j]?=some (aO cur[j]):=by simp [hjc]
    have vu:(cur.map aO)[u]?=some (aO cur[u]):=by simp [huc]
    have hset:(cur.set u cur[j]).map aO=(cur.map aO).set u (aO cur[j]):=List.map_set;have hfc:=hf cur[j] hmem;have hfc7:∀f:Flo,(aO f).cells=[vI f.node,vI f.side,vI f.anchor,vI f.x,vI f.y,vI f.w,vI f.h]:=fun _=>rfl;have hsu:(cur.set u cur[j]).take (u+1)=cur.take u++[cur[j]]:=by
     rw [List.take_succ_eq_append_getElem (by simpa using huc),List.take_set,List.set_eq_of_length_le (by simp; omega)];simp
    have r2:inR .i64 ((u:Int)+1):=ak (by omega) (by omega);have r3:inR .i64 ((j:Int)+1):=ak (by omega) (by omega);generalize cur[j]=x at *;generalize cur[u]=y at *;apply sR;simp only [go_sem,seval,h0,h1,h5,h6,q1,a1,e1,v1,hfc7];refine ae fun i7 σ7 s7 a7 f7=>?_;have n17:=ao a1 f7;replace a1:=s7 _ _ a1;have z7:=hs.none f7;replace hs:=hs.trans s7;simp only [go_sem,seval,a7,h0,h1,h5,h6];generalize hq7:upd _ i7 _=τ7;replace a7:=(congrFun hq7 i7).symm.trans ag;replace a1:=((congrFun hq7 i1).symm.trans (ab n17)).trans a1;replace hs:=Eq.subst (motive:=aa _) hq7 (hs.aD z7);clear hq7;refine ad.az rfl rfl rfl (hfc _ hs) ?_;have e2:=iX _ _ u _ a1 hlm rfl (by omega);cases hp:p x
    ·apply sR;simp only [go_sem,seval,h0,h1,h5,h6,a7,a1,e2,vu,hfc7,r2,r3];refine ⟨_,?_,u+1,j+1,cur.set u x,by omega,by omega,rfl,by simpa using hcl,?_,fun q hq=>?_,hs.aD h3,?_,by simp,_,rfl,by omega⟩
     ·omega
     ·rw [hsu,htj,hct];simp [mN,List.filter_append,hp]
     ·rw [List.getElem?_set_ne (by omega)];exact hcr q (by omega)
     ·rw [hset]; rfl
    ·apply sR;simp only [go_sem,seval,h0,h1,h5,h6,r3];refine ⟨_,?_,u,j+1,cur,by omega,by omega,rfl,hcl,?_,fun q hq=>hcr q (by omega),hs,a1,by simp,_,rfl,by omega⟩
     ·omega
     ·rw [htj,hct];simp [mN,List.filter_append,hp]
   ·have q1:((j:Int) < l.length)=False:=eq_false (by omega);have hjk':j=l.length:=by omega
    subst hjk';rw [List.take_length] at hct;have b3:(0:Int)≤u:=by omega
    have b4:(u:Int)≤l.length:=by omega
    apply sR;simp only [go_sem,seval,h0,h1,h5,h6,q1,a1,b3,b4,Int.le_refl,Int.toNat_natCast];refine ad.clear (id:=i1) (off:=u) (len:=l.length - u) (ob:=⟨59,7,cur.map aO⟩) rfl rfl rfl a1 rfl (by simp; omega) ?_;apply sR;simp only [go_sem,seval,h0,h1,h5,h6,b3,b4,Int.le_refl,Int.toNat_natCast,Nat.sub_zero];have hlu:((mN p l).map aO).length=u:=by rw [List.length_map,←hct,List.length_take]; omega
    refine ⟨_,_,aa.refl _,Wk.refl (aa.refl _) _, .inr ⟨i1,_,by rw [hlu],ag,?_,h3⟩,hs.aD h3⟩;rw [hlu,List.append_assoc,List.take_append_of_le_length (by simp; omega),List.take_take,Nat.min_self,←List.map_take,hct]
open Go.Proofs Go.Proofs.Tryz
def rB (l:List Flo) (fr to:Int):List Flo:=mN (nH fr to) l
theorem pC (l:List Flo) (fr to:Int):(rB l fr to).length≤l.length:=List.length_filter_le _ _
theorem FC (l:List Flo) (hl:l.length≤1000000) (fr to:Int):aV prog 183 [aK l,vI fr,vI to] (aK (rB l fr to)):=fun σ=>by
 refine Ni.r (by simp [Is]) ?_;have hs:=aa.refl σ;refine ad.mix 7 ?_;apply sR;simp only [go_sem,seval,Is];refine ae fun i4 σ4 s4 a4 f4=>?_;have z4:=hs.none f4;replace hs:=hs.trans s4;simp only [go_sem,seval];refine ae fun i5 σ5 s5 a5 f5=>?_;have n45:=ao a4 f5;replace a4:=s5 _ _ a4;have z5:=hs.none f5;replace hs:=hs.trans s5;simp only [go_sem,seval];refine ad.call rfl rfl rfl (si func33 (e33.b.trans rfl) e33.c (l.map aO) (by simp; omega) _) ?_;rintro r σ9 ⟨h9,ho9⟩;apply sR;simp only [go_sem,seval];refine ad.call rfl rfl rfl (Cf l hl h9 ho9 (nH fr to) (fun x _ τ hτ=>K0 fr to x (hτ _ _ a4) (hτ _ _ a5))) ?_;rintro r2 σ10 ⟨hp,h10⟩;apply sR;simp only [go_sem,seval];exact ⟨_,σ,hs.trans h10,hp.wk hs (hs.trans h10),rfl,rfl⟩
def eU (l:List Flo) (s:Stt) (to:Int):List Flo:=rB l (if s.done > 0 then s.atom+1 else s.atom) to
theorem D5 (l:List Flo) (hl:l.length≤1000000) (s:Stt) (ha:inR .i64 (s.atom+1)) (to:Int):aV prog 150 [aK l,bo s,vI to] (aK (eU l s to)):=fun σ=>by
 refine MD.r (by simp [Jy]) ?_;have hs:=aa.refl σ;have hsc:(bo s).cells=[vI s.atom,vI s.done, .bool s.free]:=rfl;have hss:(bo s).stays=true:=rfl;refine ad.mix 7 ?_;apply sR;simp only [go_sem,seval,Jy,hsc,hss];refine ae fun i4 σ4 s4 a4 f4=>?_;have z4:=hs.none f4;replace hs:=hs.trans s4;rw [bo] at a4;by_cases hd:s.done > 0
 ·have q:(s.done > 0)=True:=eq_true hd;simp only [go_sem,seval,a4,q,ha];refine ad.az rfl rfl rfl (FC l hl _ _ _) ?_;apply sR;simp only [go_sem,seval];exact au.pure hs (by rw [eU,if_pos hd])
 ·have q:(s.done > 0)=False:=eq_false hd;simp only [go_sem,seval,a4,q];refine ad.az rfl rfl rfl (FC l hl _ _ _) ?_;apply sR;simp only [go_sem,seval];exact au.pure hs (by rw [eU,if_neg hd])
open Go.Proofs Go.Proofs.Tryz
def dr (v u:V):Prop:=∀a n b m,v=.own a 0 n→u=.own b 0 m→a≠b
theorem dr.symm {v u:V} (h:dr v u):dr u v:=fun a n b m h1 h2 e=>h b m a n h2 h1 e.symm
theorem dr.aC (u:V):dr .aC u:=fun _ _ _ _ h _=>by cases h
theorem aM.LU {K σJ σ1:af} {e sz:Nat} {v:V} {rows:List V} (h:aM K σJ e sz v rows) (hs:aa σJ σ1) :
 ∃idA,bQ σ1 e sz v=some (rows,idA)∧∀i,idA=some i→K i=none∧(∃o,σJ i=some o)∧v=.own i 0 rows.length:=by
 rcases h with ⟨rfl,rfl⟩ | ⟨id,rfl,ho,hk⟩
 ·exact ⟨none,rfl,fun _ h=>by cases h⟩
 ·refine ⟨some id,?_,fun i h=>by cases h; exact ⟨hk,⟨_,ho⟩,rfl⟩⟩;simp only [bQ,hs _ _ ho];rw [if_pos ⟨trivial,trivial,trivial,Nat.le_refl _⟩,List.take_length]
theorem aM.MR {K σ:af} {e sz:Nat} {v:V} {rows:List V} (h:aM K σ e sz v rows) {idA:Option Nat} (h1:∀i,idA=some i→∀n,v≠.own i 0 n) {id:Nat} {o:Ob} (h2:σ id=none):aM K (upd (Vc.bw σ idA) id o) e sz v rows:=by
 rcases h with h | ⟨a,rfl,ho,hk⟩
 ·exact .inl h
 ·refine .inr ⟨a,rfl,?_,hk⟩;have hai:a≠id:=fun e=>by subst e; rw [ho] at h2; cases h2
  rw [Vc.ab hai];cases idA with
  | none=>exact ho
  | some i =>
    have:a≠i:=fun e=>h1 i rfl _ (by rw [e]);simp only [Vc.bw]; rw [dh this]; exact ho
theorem dr.new {σ K:af} {e sz id n:Nat} {u:V} {rows:List V} (hu:aM K σ e sz u rows) (h:σ id=none):dr (.own id 0 n) u:=by
 rintro a k b m h1 rfl e;cases h1;subst e;rcases hu with ⟨h,_⟩ | ⟨i,h,h2,_⟩
 ·cases h
 ·cases h; rw [h] at h2; cases h2
structure SoJ (σ0:af) (ix:Nat) (p q:List Flo) (σ:af):Prop where
 row:∃v u,σ ix=some ⟨256,2,[.agg [v,u]]⟩∧aM (bb σ0 ix) σ 59 7 v (p.map aO)∧aM (bb σ0 ix) σ 59 7 u (q.map aO)∧dr v u
 sub:aa σ0 σ
 no:σ0 ix=none
theorem D7 {σ0 σJ σB σ8:af} {ix e sz:Nat} {v u:V} {rows rowsU:List V} (hBs:bc σJ σB σJ σ8) (Js:aa σ0 σJ) (Jn:σ0 ix=none) {ox:Ob} (Jx:σJ ix=some ox)
 (Jv:aM (bb σ0 ix) σJ e sz v rows) (Ju:aM (bb σ0 ix) σJ e sz u rowsU) (hap:dr v u) :
 ∃idA,bQ σ8 e sz v=some (rows,idA)∧∀(id:Nat) (rows':List V) (o':Ob),σ8 id=none →
  ix≠id∧Vc.bw σ8 idA ix=some ox∧aa σ0 (upd (upd (Vc.bw σJ idA) id ⟨e,sz,rows'⟩) ix o')∧bc σJ σB (upd (upd (Vc.bw σJ idA) id ⟨e,sz,rows'⟩) ix o') (upd (upd (Vc.bw σ8 idA) id ⟨e,sz,rows'⟩) ix o') ∧
  aM (bb σ0 ix) (upd (upd (Vc.bw σJ idA) id ⟨e,sz,rows'⟩) ix o') e sz (.own id 0 rows'.length) rows'∧aM (bb σ0 ix) (upd (upd (Vc.bw σJ idA) id ⟨e,sz,rows'⟩) ix o') e sz u rowsU∧dr (.own id 0 rows'.length) u:=by
 obtain ⟨idA,hda,hdA⟩:=Jv.LU hBs.1;refine ⟨idA,hda,fun id rows' o' f=>?_⟩;have k2:bb σ0 ix ix≠none:=fun h=>(aF.1 h).1 rfl;have dne:∀(i:Nat) (σx:af),bb σ0 ix i≠none→Vc.bw σx idA i=σx i:=fun i σx hk=>by
  cases idA with
  | none=>rfl
  | some a=>exact dh (fun e=>hk (by rw [e]; exact (hdA a rfl).1))
 have c8:=hBs.1 _ _ Jx;have m:ix≠id:=ao c8 f;have fJ:σJ id=none:=by
  cases h:σJ id with
  | none=>rfl
  | some o=>rw [hBs.1 _ _ h] at f; cases f
 have f':Vc.bw σ8 idA id=none:=by
  cases idA with
  | none=>exact f
  | some a=>simp only [Vc.bw,del]; split <;> first | rfl | exact f
 have hk:bb σ0 ix id=none:=by
  rw [aF];refine ⟨m.symm,?_⟩;cases h:σ0 id with
  | none=>rfl
  | some o=>rw [Js _ _ h] at fJ; cases fJ
 refine ⟨m,by rw [dne _ _ k2]; exact c8,?_,((hBs.CI (e:=idA) fun i h=>(hdA i h).2.1).new f').set (id:=ix) (o:=ox) (by rw [ab m,dne _ _ k2]; exact Jx),?_,?_,dr.new Ju fJ⟩
 ·refine aa.aD (fun i o h=>?_) Jn;have h1:=Js _ _ h;rw [ab (fun e=>by subst e; rw [h1] at fJ; cases fJ),dne _ _ (fun hk=>by rw [(aF.1 hk).2] at h; cases h)];exact h1
 ·exact aM.new rfl (by rw [ab m.symm,ag]) hk
 ·exact (Ju.MR (fun i h n e=>hap _ _ _ _ (hdA i h).2.2 e rfl) fJ).ab k2
def mA (q:List Flo) (m:Flo) (body:Int):Bool:=decide (q≠[]∨m.y+m.h > body)
theorem Hl (p q:List Flo) (hp:p.length≤1000000) (hq:q.length≤1000000) (f m:Flo) (body:Int) (hr:inR .i64 (m.y+m.h)) {σ0 σJ σB:af} {ix:Nat} (hJ:SoJ σ0 ix p q σJ) (hsub:aa σJ σB) :
 av prog 151 [.ptr ix 0 0,aO f,aO m,vI body] σB fun _ σ'=>∃σJ',bc σJ σB σJ' σ'∧SoJ σ0 ix (if mA q m body then p else p++[m]) (if mA q m body then q++[f] else q) σJ':=by
 refine MV.r (by simp [K1]) ?_;obtain ⟨⟨v,u,Jx,Jv,Ju,hap⟩,Js,Jn⟩:=hJ;obtain ⟨vc,vs⟩:=Jv.vc;obtain ⟨uc,us⟩:=Ju.vc;have hfc:∀f:Flo,(aO f).cells=[vI f.node,vI f.side,vI f.anchor,vI f.x,vI f.y,vI f.w,vI f.h]:=fun _=>rfl;have hfs:∀f:Flo,(aO f).stays=true:=fun _=>rfl;refine ad.mix 5 ?_;apply sR;simp only [go_sem,seval,K1,hfc,hfs];rw [aH];intro i5 f5;have hB5:=(bc.refl hsub).pj (o:=⟨59,7,[aO f]⟩) f5;have a5:upd σB i5 ⟨59,7,[aO f]⟩ i5=some ⟨59,7,[aO f]⟩:=ag;have hagg:∀f:Flo,V.agg [vI f.node,vI f.side,vI f.anchor,vI f.x,vI f.y,vI f.w,vI f.h]=aO f:=fun _=>rfl;generalize hq5:upd σB i5 ⟨59,7,[aO f]⟩=σ5 at *;simp only [go_sem,seval,hfc,hfs];rw [aH];intro i6 f6;have hB6:=hB5.pj (o:=⟨59,7,[aO m]⟩) f6;have a6:upd σ5 i6 ⟨59,7,[aO m]⟩ i6=some ⟨59,7,[aO m]⟩:=ag;replace a5:=(ab (o:=⟨59,7,[aO m]⟩) (ao a5 f6)).trans a5;generalize hq6:upd σ5 i6 ⟨59,7,[aO m]⟩=σ6 at *;have cx:=hB6.1 _ _ Jx;have hlq:dK false u=some (.int .i64 q.length):=by have:=Ju.len; rwa [List.length_map] at this
 have hrq:((q++[f]).map aO)=q.map aO++[aO f]:=by simp
 have hrp:((p++[m]).map aO)=p.map aO++[aO m]:=by simp
 have hql:(q.map aO).length≤1000000:=by simpa using hq
 have hpl:(p.map aO).length≤1000000:=by simpa using hp
 have hql0:(q.map aO).length=q.length:=List.length_map _;rw [aO] at a5 a6;by_cases hl:mA q m body=true
 ·rw [if_pos hl,if_pos hl];by_cases hq0:q=[]
  ·have q13:((q.length:Int) > 0)=False:=by subst hq0; simp
   have qy:(m.y+m.h > body)=True:=by
    simp only [mA,hq0,decide_eq_true_eq] at hl;exact eq_true (hl.resolve_left (by simp))
   simp only [go_sem,seval,cx,vc,uc,hlq,q13,qy,hr,a5,a6];rw [aL];intro i29 f29;have hB7:=hB6.pj (o:=⟨59,7,[(V.agg [vI f.node,vI f.side,vI f.anchor,vI f.x,vI f.y,vI f.w,vI f.h])]⟩) f29;have a29:upd σ6 i29 ⟨59,7,[(V.agg [vI f.node,vI f.side,vI f.anchor,vI f.x,vI f.y,vI f.w,vI f.h])]⟩ i29=some ⟨59,7,[(V.agg [vI f.node,vI f.side,vI f.anchor,vI f.x,vI f.y,vI f.w,vI f.h])]⟩:=ag;generalize hq7:upd σ6 i29 ⟨59,7,[(V.agg [vI f.node,vI f.side,vI f.anchor,vI f.x,vI f.y,vI f.w,vI f.h])]⟩=σ7 at *;obtain ⟨idA,hda,hgr⟩:=D7 hB7 Js Jn Jx Ju Jv hap.symm;generalize q.map aO=rows at *;have hb2:(rows.length+1)*57≤140737488355328:=by omega
   simp only [go_sem,seval,hda,di a29,hb2];rw [aL];intro i30 f30;obtain ⟨m30,hx,g1,g2,g3,g4,g5⟩:=hgr i30 (rows++[(V.agg [vI f.node,vI f.side,vI f.anchor,vI f.x,vI f.y,vI f.w,vI f.h])]) ⟨256,2,[.agg [v, .own i30 0 (rows++[(V.agg [vI f.node,vI f.side,vI f.anchor,vI f.x,vI f.y,vI f.w,vI f.h])]).length]]⟩ f30;have y2:upd (Vc.bw σ7 idA) i30 ⟨59,7,rows++[(V.agg [vI f.node,vI f.side,vI f.anchor,vI f.x,vI f.y,vI f.w,vI f.h])]⟩ ix=_:=(ab m30).trans hx;have hll:(rows++[(V.agg [vI f.node,vI f.side,vI f.anchor,vI f.x,vI f.y,vI f.w,vI f.h])]).length=rows.length+1:=by simp
   rw [hll] at g1 g2 g3 g4 g5;simp only [go_sem,seval,y2,vc,uc,vs,us];refine ⟨_,_,aa.refl _,Wk.refl (aa.refl _) _,_,g2,⟨v,_,ag,g4,?_,g5.symm⟩,g1,Jn⟩;rw [hrq]; exact g3
  ·have q13:((q.length:Int) > 0)=True:=eq_true (by have:=List.length_pos_iff.2 hq0; omega);simp only [go_sem,seval,cx,vc,uc,hlq,q13,a5,a6];rw [aL];intro i29 f29;have hB7:=hB6.pj (o:=⟨59,7,[(V.agg [vI f.node,vI f.side,vI f.anchor,vI f.x,vI f.y,vI f.w,vI f.h])]⟩) f29;have a29:upd σ6 i29 ⟨59,7,[(V.agg [vI f.node,vI f.side,vI f.anchor,vI f.x,vI f.y,vI f.w,vI f.h])]⟩ i29=some ⟨59,7,[(V.agg [vI f.node,vI f.side,vI f.anchor,vI f.x,vI f.y,vI f.w,vI f.h])]⟩:=ag;generalize hq7:upd σ6 i29 ⟨59,7,[(V.agg [vI f.node,vI f.side,vI f.anchor,vI f.x,vI f.y,vI f.w,vI f.h])]⟩=σ7 at *;obtain ⟨idA,hda,hgr⟩:=D7 hB7 Js Jn Jx Ju Jv hap.symm;generalize q.map aO=rows at *;have hb2:(rows.length+1)*57≤140737488355328:=by omega
   simp only [go_sem,seval,hda,di a29,hb2];rw [aL];intro i30 f30;obtain ⟨m30,hx,g1,g2,g3,g4,g5⟩:=hgr i30 (rows++[(V.agg [vI f.node,vI f.side,vI f.anchor,vI f.x,vI f.y,vI f.w,vI f.h])]) ⟨256,2,[.agg [v, .own i30 0 (rows++[(V.agg [vI f.node,vI f.side,vI f.anchor,vI f.x,vI f.y,vI f.w,vI f.h])]).length]]⟩ f30;have y2:upd (Vc.bw σ7 idA) i30 ⟨59,7,rows++[(V.agg [vI f.node,vI f.side,vI f.anchor,vI f.x,vI f.y,vI f.w,vI f.h])]⟩ ix=_:=(ab m30).trans hx;have hll:(rows++[(V.agg [vI f.node,vI f.side,vI f.anchor,vI f.x,vI f.y,vI f.w,vI f.h])]).length=rows.length+1:=by simp
   rw [hll] at g1 g2 g3 g4 g5;simp only [go_sem,seval,y2,vc,uc,vs,us];refine ⟨_,_,aa.refl _,Wk.refl (aa.refl _) _,_,g2,⟨v,_,ag,g4,?_,g5.symm⟩,g1,Jn⟩;rw [hrq]; exact g3
 ·rw [if_neg hl,if_neg hl];simp only [mA,decide_eq_true_eq,not_or,Decidable.not_not] at hl;have q13:((q.length:Int) > 0)=False:=by rw [hl.1]; simp
  have qy:(m.y+m.h > body)=False:=eq_false hl.2;simp only [go_sem,seval,cx,vc,uc,hlq,q13,qy,hr,a5,a6];rw [aL];intro i29 f29;have hB7:=hB6.pj (o:=⟨59,7,[(V.agg [vI m.node,vI m.side,vI m.anchor,vI m.x,vI m.y,vI m.w,vI m.h])]⟩) f29;have a29:upd σ6 i29 ⟨59,7,[(V.agg [vI m.node,vI m.side,vI m.anchor,vI m.x,vI m.y,vI m.w,vI m.h])]⟩ i29=some ⟨59,7,[(V.agg [vI m.node,vI m.side,vI m.anchor,vI m.x,vI m.y,vI m.w,vI m.h])]⟩:=ag;generalize hq7:upd σ6 i29 ⟨59,7,[(V.agg [vI m.node,vI m.side,vI m.anchor,vI m.x,vI m.y,vI m.w,vI m.h])]⟩=σ7 at *;obtain ⟨idA,hda,hgr⟩:=D7 hB7 Js Jn Jx Jv Ju hap;generalize p.map aO=rows at *;have hb2:(rows.length+1)*57≤140737488355328:=by omega
  simp only [go_sem,seval,hda,di a29,hb2];rw [aL];intro i30 f30;obtain ⟨m30,hx,g1,g2,g3,g4,g5⟩:=hgr i30 (rows++[(V.agg [vI m.node,vI m.side,vI m.anchor,vI m.x,vI m.y,vI m.w,vI m.h])]) ⟨256,2,[.agg [.own i30 0 (rows++[(V.agg [vI m.node,vI m.side,vI m.anchor,vI m.x,vI m.y,vI m.w,vI m.h])]).length,u]]⟩ f30;have y2:upd (Vc.bw σ7 idA) i30 ⟨59,7,rows++[(V.agg [vI m.node,vI m.side,vI m.anchor,vI m.x,vI m.y,vI m.w,vI m.h])]⟩ ix=_:=(ab m30).trans hx;have hll:(rows++[(V.agg [vI m.node,vI m.side,vI m.anchor,vI m.x,vI m.y,vI m.w,vI m.h])]).length=rows.length+1:=by simp
  rw [hll] at g1 g2 g3 g4 g5;simp only [go_sem,seval,y2,vc,uc,vs,us];refine ⟨_,_,aa.refl _,Wk.refl (aa.refl _) _,_,g2,⟨_,u,ag,?_,g4,g5⟩,g1,Jn⟩;rw [hrp]; exact g3
open Go.Proofs Go.Proofs.Tryz
theorem bc.from {σJ σ τ σJ' σ':af} (h:bc σJ τ σJ' σ') (hs:aa σ τ):bc σJ σ σJ' σ':=⟨h.1,fun i o h1 h2=>h.2 i o h1 (hs _ _ h2)⟩
def jz (body:Int) (x:List Flo×List Flo) (f m:Flo):List Flo×List Flo:=(if mA x.2 m body then x.1 else x.1++[m],if mA x.2 m body then x.2++[f] else x.2)
def dG (top shift:Int) (f:Flo):Flo:={ f with y:=max 0 (f.y - top)+shift }
def ic (top shift body:Int) (L:List Flo):List Flo×List Flo:=L.foldl (fun x f=>jz body x f (dG top shift f)) ([],[])
theorem zE (top shift body:Int) (L:List Flo) (f:Flo):ic top shift body (L++[f])=jz body (ic top shift body L) f (dG top shift f):=by
 unfold ic; rw [List.foldl_append]; rfl
theorem pf (top shift body:Int) (L:List Flo):(ic top shift body L).1.length+(ic top shift body L).2.length=L.length:=by
 have key:∀(L:List Flo) (x:List Flo×List Flo),(L.foldl (fun x f=>jz body x f (dG top shift f)) x).1.length+(L.foldl (fun x f=>jz body x f (dG top shift f)) x).2.length=x.1.length+x.2.length+L.length:=by
  intro L
  induction L with
  | nil=>intro x; rfl
  | cons f L ih =>
    intro x;rw [List.foldl_cons,ih];unfold jz;split <;> simp <;> omega
 have:=key L ([],[]);simpa [ic] using this
def su (l:List Atm) (s:Stt) (kept:Int):Int:=(atG l s.atom).y+s.done - kept
def dO (l:List Atm) (fl:List Flo) (s:Stt) (to kept shift body:Int):List Flo×List Flo:=if dp l s then ic (su l s kept) shift body (eU fl s to) else ([],[])
theorem EP (x:Int):(if x > 0 then x else 0)=max 0 x:=by split <;> omega
theorem F5 (l:List Atm) (hl:kM l) (fl:List Flo) (hfl:fl.length≤1000000) (hfo:∀f∈fl,f.ok) (s:Stt) (hd:s.done≤1152921504606846976) (to kept shift body:Int) (hk:-1152921504606846976≤kept∧kept≤2305843009213693952) (hsh:0≤shift∧shift≤1152921504606846976) :
 aV prog 106 [bt l,aK fl,bo s,vI to,vI kept,vI shift,vI body] (.tup [aK (dO l fl s to kept shift body).1,aK (dO l fl s to kept shift body).2]):=fun σ=>by
 refine Oh.r (by simp [KH]) ?_;have hs:=aa.refl σ;have hll:=hl.len;have hsc:(bo s).cells=[vI s.atom,vI s.done, .bool s.free]:=rfl;have hss:(bo s).stays=true:=rfl;refine ad.mix 20 ?_;apply sR;simp only [go_sem,seval,KH,hsc,hss];refine ae fun i9 σ9 s9 a9 f9=>?_;have z9:=hs.none f9;replace hs:=hs.trans s9;simp only [go_sem,seval];refine ae fun i12 σ12 s12 a12 f12=>?_;have n912:=ao a9 f12;replace a9:=s12 _ _ a9;have z12:=hs.none f12;replace hs:=hs.trans s12;simp only [go_sem,seval];refine ae fun i13 σ13 s13 a13 f13=>?_;have n913:=ao a9 f13;replace a9:=s13 _ _ a9;have n1213:=ao a12 f13;replace a12:=s13 _ _ a12;have z13:=hs.none f13;replace hs:=hs.trans s13;rw [bo] at a9;simp only [go_sem,seval,a9,ax,ay];refine ad.az rfl rfl rfl (pd l s _) ?_;unfold dO;by_cases hm:dp l s
 ·rw [decide_eq_true hm,if_pos hm];obtain ⟨h0,h2⟩:=hm.1;obtain ⟨k,hkk⟩:∃k:Nat,s.atom=k:=⟨s.atom.toNat,by omega⟩
  have hkl:k < l.length:=by omega
  have hidx:=fun σ=>gQ (σ:=σ) hkl;have hy:=hl.rng _ (List.getElem_mem hkl);have hd0:=hm.2.1;have htop:su l s kept=l[k].y+s.done - kept:=by rw [su,hkk,bj hkl]
  have r1:inR .i64 (l[k].y+s.done):=ak (by omega) (by omega);have r2:inR .i64 (l[k].y+s.done - kept):=ak (by omega) (by omega);have htr:-4611686018427387904≤su l s kept∧su l s kept≤4611686018427387904:=by rw [htop]; omega
  have hcl:=pC fl (if s.done > 0 then s.atom+1 else s.atom) to;have hcm:∀f∈eU fl s to,f.ok:=fun f hf=>hfo f ((List.mem_filter.1 hf).1);have hca:=D5 fl hfl s (ak (by omega) (by omega)) to;have hcl':(eU fl s to).length≤1000000:=Nat.le_trans hcl hfl;generalize eU fl s to=L at *;rw [hkk] at a9;apply sR;simp only [go_sem,seval,hkk];refine ae fun i16 σ16 s16 a16 f16=>?_;have n916:=ao a9 f16;replace a9:=s16 _ _ a9;have n1216:=ao a12 f16;replace a12:=s16 _ _ a12;have n1316:=ao a13 f16;replace a13:=s16 _ _ a13;have z16:=hs.none f16;replace hs:=hs.trans s16;simp only [go_sem,seval,a16,a9,hidx,db,r1,r2,ax,ay];refine bz fun i17 σ17 s17 a17 f17=>?_;have n917:=ao a9 f17;replace a9:=s17 _ _ a9;have n1217:=ao a12 f17;replace a12:=s17 _ _ a12;have n1317:=ao a13 f17;replace a13:=s17 _ _ a13;have n1617:=ao a16 f17;replace a16:=s17 _ _ a16;have z17:=hs.none f17;replace hs:=hs.trans s17;simp only [go_sem,seval,a17,a9,ab n917,ab n1217,ab n1317,ab n1617];generalize hq17:upd _ i17 _=τ17;replace a17:=(congrFun hq17 i17).symm.trans ag;replace a9:=((congrFun hq17 i9).symm.trans (ab n917)).trans a9;replace a12:=((congrFun hq17 i12).symm.trans (ab n1217)).trans a12;replace a13:=((congrFun hq17 i13).symm.trans (ab n1317)).trans a13;replace a16:=((congrFun hq17 i16).symm.trans (ab n1617)).trans a16;replace hs:=Eq.subst (motive:=aa _) hq17 (hs.aD z17);clear hq17;rw [bo,hkk] at hca;refine ad.az rfl rfl rfl (hca _) ?_;apply sR;simp only [go_sem,seval];refine ad.az rfl rfl rfl (I0 L _) ?_;apply sR;simp only [go_sem,seval];rw [←htop] at a17;generalize su l s kept=top at *;generalize hS:mix 20 _ _=S;have S12:S 12=.ptr i12 0 0:=by rw [←hS]; rfl
  have S13:S 13=.ptr i13 0 0:=by rw [←hS]; rfl
  have S16:S 16=.ptr i16 0 0:=by rw [←hS]; rfl
  have S17:S 17=.ptr i17 0 0:=by rw [←hS]; rfl
  have S39:S 39=.fn 182 [.rp (aK L)]:=by rw [←hS]; rfl
  clear hS;obtain ⟨σ0,hσ0⟩:∃σ0,σ0=del τ17 i16:=⟨_,rfl⟩
  have d0:∀i,i≠i16→σ0 i=τ17 i:=fun i hi=>by rw [hσ0]; exact dh hi
  have b12:σ0 i12=_:=(d0 _ n1216).trans a12;have b13:σ0 i13=_:=(d0 _ n1316).trans a13;have b17:σ0 i17=_:=(d0 _ n1617.symm).trans a17;have b16:σ0 i16=none:=by rw [hσ0]; simp [del]
  have hs0:aa σ σ0:=fun i o h=>by
   rw [d0 i (fun e=>by rw [e,z16] at h; cases h)]; exact hs _ _ h
  have h16:SoJ σ0 i16 [] [] τ17:=⟨⟨.aC, .aC,a16,aM.start,aM.start,dr.aC _⟩,hσ0 ▸ aa.vr _ _,b16⟩
  refine ad.cu (g:=.t 39) (caps:=[.rp (aK L)]) S39 (C5 L hcl') (fun y hy=>?_) [] (fun pre σJ=>SoJ σ0 i16 (ic top shift body (L.take pre.length)).1 (ic top shift body (L.take pre.length)).2 σJ)
   (fun _ _ _=>False) ?_ ?_ ?_ ?_ ?_
  ·obtain ⟨t,_,rfl⟩:=List.mem_map.1 hy; rfl
  ·exact h16
  ·rintro pre y post σJ σB hxs hJ hsub;obtain ⟨f,hf,rfl⟩:=nI hxs;obtain ⟨hlt,hfe⟩:=List.getElem?_eq_some_iff.1 hf;have hlen:(pre++[[aO f]]).length=pre.length+1:=by simp
   have htk:L.take (pre.length+1)=L.take pre.length++[f]:=by rw [List.take_succ_eq_append_getElem hlt,hfe]
   have hkl:=pf top shift body (L.take pre.length);have hpl:(L.take pre.length).length≤1000000:=by rw [List.length_take]; omega
   rw [hlen,htk,zE];generalize ic top shift body (L.take pre.length)=x at *;have hfo':=hcm f (List.mem_of_getElem? hf);have a12:=hsub _ _ (hJ.sub _ _ b12);have a13:=hsub _ _ (hJ.sub _ _ b13);have a17:=hsub _ _ (hJ.sub _ _ b17);obtain ⟨o1,o2,o3,o4⟩:=hfo';unfold Bq at o1 o2 o3 o4;have q1:inR .i64 (f.y - top):=ak (by omega) (by omega);have q2:inR .i64 (max 0 (f.y - top)+shift):=ak (by omega) (by omega);generalize hSS:kR S [40] [aO f]=S0;have T12:S0 12=.ptr i12 0 0:=by rw [←hSS]; exact S12
   have T13:S0 13=.ptr i13 0 0:=by rw [←hSS]; exact S13
   have T16:S0 16=.ptr i16 0 0:=by rw [←hSS]; exact S16
   have T17:S0 17=.ptr i17 0 0:=by rw [←hSS]; exact S17
   have T40:S0 40=.agg [vI f.node,vI f.side,vI f.anchor,vI f.x,vI f.y,vI f.w,vI f.h]:=by rw [←hSS]; rfl
   clear hSS;have hs:=aa.refl σB;refine ad.mix 20 ?_;apply sR;simp only [go_sem,seval];refine ae fun i18 σ18 s18 a18 f18=>?_;have n1218:=ao a12 f18;replace a12:=s18 _ _ a12;have n1318:=ao a13 f18;replace a13:=s18 _ _ a13;have n1718:=ao a17 f18;replace a17:=s18 _ _ a17;have z18:=hs.none f18;replace hs:=hs.trans s18;simp only [go_sem,seval,a18,T40];generalize hq18:upd _ i18 _=τ18;replace a18:=(congrFun hq18 i18).symm.trans ag;replace a12:=((congrFun hq18 i12).symm.trans (ab n1218)).trans a12;replace a13:=((congrFun hq18 i13).symm.trans (ab n1318)).trans a13;replace a17:=((congrFun hq18 i17).symm.trans (ab n1718)).trans a17;replace hs:=Eq.subst (motive:=aa _) hq18 (hs.aD z18);clear hq18;apply sR;simp only [go_sem,seval,a18];refine ae fun i19 σ19 s19 a19 f19=>?_;have n1819:=ao a18 f19;replace a18:=s19 _ _ a18;have n1219:=ao a12 f19;replace a12:=s19 _ _ a12;have n1319:=ao a13 f19;replace a13:=s19 _ _ a13;have n1719:=ao a17 f19;replace a17:=s19 _ _ a17;have z19:=hs.none f19;replace hs:=hs.trans s19;simp only [go_sem,seval,a19,a18,a17,a12,a13,T12,T13,T16,T17,ab n1819,ab n1719,ab n1219,ab n1319,q1,q2,EP];generalize hq19:upd _ i19 _=τ19;replace a19:=(congrFun hq19 i19).symm.trans ag;replace a18:=((congrFun hq19 i18).symm.trans (ab n1819)).trans a18;replace a12:=((congrFun hq19 i12).symm.trans (ab n1219)).trans a12;replace a13:=((congrFun hq19 i13).symm.trans (ab n1319)).trans a13;replace a17:=((congrFun hq19 i17).symm.trans (ab n1719)).trans a17;replace hs:=Eq.subst (motive:=aa _) hq19 (hs.aD z19);clear hq19;have hc:=Hl x.1 x.2 (by omega) (by omega) f (dG top shift f) body (ak (by simp only [dG]; omega) (by simp only [dG]; omega)) hJ (hsub.trans hs);rw [←T16] at hc;refine ad.call rfl rfl rfl hc ?_;rintro - σ2 ⟨σJ',hB,hJ'⟩;apply sR;simp only [go_sem,seval];exact ⟨_,hB.from hs,hJ'⟩
  ·rintro σ' hJ;have hbl:(L.map fun f=>[aO f]).length=L.length:=by simp
   rw [hbl,List.take_length] at hJ;obtain ⟨⟨v,u,Jx,Jv,Ju,_⟩,Js,Jn⟩:=hJ;obtain ⟨vc,vs⟩:=Jv.vc;obtain ⟨uc,us⟩:=Ju.vc;refine ad.mix 20 ?_;apply sR;simp only [go_sem,seval,S16,Jx,vc,uc,vs,us];have hst:=hs0.trans Js;have hK:aa σ (bb σ0 i16):=fun i o hh=>by
    rw [bb,if_neg (fun e=>by rw [e,z16] at hh; cases hh)]; exact hs0 _ _ hh
   exact ⟨_,σ,hst,Wk.tup (vs':=[aK (ic top shift body L).1,aK (ic top shift body L).2]) ⟨Jv.wk hK hst,Ju.wk hK hst,trivial⟩,rfl,rfl⟩
  ·intro id h; cases h
  ·rintro pre σ' _ ⟨⟩
 ·rw [decide_eq_false hm,if_neg hm];apply sR;simp only [go_sem,seval];exact ⟨_,σ,hs,Wk.tup (vs':=[aK [],aK []]) ⟨Wk.aC 7,Wk.aC 7,trivial⟩,rfl,rfl⟩
variable {P:Program} {n:Nat} {st:St} {Q:St→Prop} {k:List It} {μ:Mu} {w:World}
theorem G8 {o:Op} {sz:Nat} {xs:List VX} (h:cop P n o=.more (.cpy sz) xs):∃x y t e args argTypes,o=.call { callee:=.builtin .copy,args:=args,argTypes:=argTypes } ∧
 args=#[x,y]∧argTypes[0]?=some t∧P.underlying t=some (.slice e)∧bL P e=true∧P.cellsOf e=sz∧xs=[cx n x,cx n y]:=by
 cases o
 case call c =>
  obtain ⟨callee,args,argTypes⟩:=c;cases callee
  case builtin b =>
   cases b
   case copy =>
    simp only [cop,ck] at h;split at h
    ·rename_i x y t h1 h2;split at h
     ·rename_i e he;split at h
      ·rename_i hz;simp only [VOp.more.injEq,MOp.cpy.injEq] at h;exact ⟨x,y,t,e,args,argTypes,rfl,by apply Array.ext'; simpa using h1,h2,he,hz,h.1,h.2.symm⟩
      ·cases h
     ·cases h
    ·cases h
   all_goals (simp only [cop,ck] at h; (repeat' split at h) <;> cases h)
  all_goals (simp only [cop,ck] at h; (repeat' split at h) <;> cases h)
 case unOp op t x=>cases op <;> simp only [cop,ck] at h <;> cases h
 case makeFunc f a b=>cases f <;> simp only [cop,ck] at h <;> (repeat' split at h) <;> cases h
 all_goals (simp only [cop,ck] at h; (repeat' split at h) <;> cases h)
theorem Dh {F:Fr} {a:Act} (hs:cL F μ st a w) {o:Oper} {x y:Operand} {t e:TypeId} {args:Array Operand} {argTypes:Array TypeId}
 (hoo:o.op=.call { callee:=.builtin .copy,args:=args,argTypes:=argTypes }) (harg:args=#[x,y]) (hty:argTypes[0]?=some t)
 (ht:P.underlying t=some (.slice e)) (hk:bL P e=true) {id off len:Nat} (h1:(cx F.n x).ev st.s=.own id off len) {ob:Ob} (h2:st.σ id=some ob)
 (h3:ob.sz=P.cellsOf e) (h4:off+len≤ob.rows.length) {rows:List V} (h5:bG st.σ (P.cellsOf e) ((cx F.n y).ev st.s)=some rows) (h6:rows.length=len) :
 ∃y w',(execOp a.eval o).run P w=.ok (.value y) w' ∧
  cL F μ ⟨aW st.s (o.dst.filter (· < F.n)) (.int .i64 len),upd st.σ id { ob with rows:=ob.rows.take off++rows++ob.rows.drop (off+len) }⟩ (a.put o.dst y) w':=by
 have hpos:=(df hk).2.2;have R:=cg hs;have hx:=R x;rw [h1] at hx;simp only [Rep] at hx;obtain ⟨news,hY,n1,n2,n3,n4,n5⟩:=my (P:=P) hs.sat hpos h5 (R y);have hrun:∀v w',(Builtin.copy_ argTypes o.type #[a.eval x,a.eval y]).run P w=.ok v w'→(execOp a.eval o).run P w=.ok (.value v) w':=by
  intro v w' hw';unfold execOp;rw [hoo];simp [resolve,invoke,Go.builtin,harg,hw']
 have hrep:Rep μ (aB μ st.σ) w (.int .i64 len) (goInt len):=by simp only [Rep]; rfl
 have hcopy:∀b c,a.eval x=.slice b len c→(Builtin.copy_ argTypes o.type #[a.eval x,a.eval y]).run P w=((match b with | some q=>storeCells q news 0 | none=>pure ()).run P w).andThen fun _ w'=>.ok (goInt len) w':=by
  intro b c hX;have hlen:=hY w;have hfc:=n5 w (fun _ _ _ h=>h);rw [h6] at hlen hfc;rw [hX];have hm:Nat.min len len=len:=Nat.min_self len;cases b
  ·simp [Builtin.copy_,hty,run_underlying ht,hlen,hm,bU hk,hfc]
  ·simp [Builtin.copy_,hty,run_underlying ht,hlen,hm,bU hk,hfc]
 have hzero:len=0→∃y w',(execOp a.eval o).run P w=.ok (.value y) w' ∧
  cL F μ ⟨aW st.s (o.dst.filter (· < F.n)) (.int .i64 len),upd st.σ id { ob with rows:=ob.rows.take off++rows++ob.rows.drop (off+len) }⟩ (a.put o.dst y) w':=by
  intro h0;subst h0;have hX:∃b c,a.eval x=.slice b 0 c:=by
   split at hx
   ·exact hx.elim
   ·exact ⟨_,_,hx.1⟩
   ·obtain ⟨o',c,h,_⟩:=hx; exact ⟨_,_,h⟩
  obtain ⟨b,c,hX⟩:=hX;obtain rfl:rows=[]:=List.eq_nil_of_length_eq_zero h6;obtain rfl:news=[]:=List.eq_nil_of_length_eq_zero (by simpa using n4);have hst:upd st.σ id { ob with rows:=ob.rows.take off++[]++ob.rows.drop (off+0) }=st.σ:=by
   funext j;simp only [upd,List.append_nil,Nat.add_zero,List.take_append_drop];split
   ·rename_i e'; rw [e',h2]
   ·rfl
  rw [hst];refine ⟨goInt 0,w,hrun _ w ?_,hs.pure hrep⟩;rw [hcopy b c hX];cases b <;> simp [storeCells]
 split at hx
 ·exact hx.elim
 ·exact hzero hx.2.2
 ·rename_i b szb cap hid;obtain ⟨o',c,hX,c1,c2,c3,hz0⟩:=hx;by_cases h0:len=0
  ·exact hzero h0
  have hob:=hs.sat.obj id ob h2;rw [hid] at hob;obtain ⟨cur,e1,e2,e3,e4,e5,e6,e7⟩:=hob.plain hz0;obtain ⟨g1,xs,g2,g3,g4,g5⟩:=e7.cur e1;have hoff:o'=off*szb:=by
   rcases c3 with c3 | c3
   ·exact c3
   ·omega
  subst hoff;have hs':szb=P.cellsOf e:=by omega
  subst hs';have hbound:off*P.cellsOf e+len*P.cellsOf e≤ob.rows.length*P.cellsOf e:=by rw [←Nat.add_mul]; exact Nat.mul_le_mul_right _ h4
  have hbound2:ob.rows.length*P.cellsOf e≤cap*P.cellsOf e:=Nat.mul_le_mul_right _ e5;rw [h6] at n4;have hst:=run_storeCells_at P b (off*P.cellsOf e) ob.elem news 0 cur w e1 (by rw [n4]; omega) n3;simp only [Nat.add_zero] at hst;refine ⟨goInt len,w.setRow b (cur.toList.take (off*P.cellsOf e)++news++cur.toList.drop (off*P.cellsOf e+news.length)).toArray,hrun _ _ ?_,?_⟩
  ·rw [hcopy _ c hX];simp only [hst,Result.andThen_ok]
  ·have hgrow:w.grownBy (w.setRow b (cur.toList.take (off*P.cellsOf e)++news++cur.toList.drop (off*P.cellsOf e+news.length)).toArray) (some b) :=
    ⟨rfl,rfl,rfl,by simp,fun kk _ hkk=>setRow_other w b kk _ (fun e=>hkk (by rw [e]))⟩
   have hrows':∀q∈ob.rows.take off++rows++ob.rows.drop (off+len),q.cells.length=P.cellsOf e:=by
    intro q hq;simp only [List.mem_append] at hq;rcases hq with (hq | hq) | hq
    ·exact g1 q (List.mem_of_mem_take hq)
    ·exact n1 q hq
    ·exact g1 q (List.mem_of_mem_drop hq)
   have hflat:flat (ob.rows.take off++rows++ob.rows.drop (off+len)) =
    (flat ob.rows).take (off*P.cellsOf e)++flat rows++(flat ob.rows).drop (off*P.cellsOf e+len*P.cellsOf e):=by
    rw [gd,gd,o6 g1];congr 1;rw [uS g1,Nat.add_mul]
   have hch:=hs.sat.change h2 hid (by omega) hgrow _ (ob.rows.take off++rows++ob.rows.drop (off+len)) (xs.take (off*P.cellsOf e)++news++xs.drop (off*P.cellsOf e+news.length))
    (setRow_heap w b cur _ ob.elem _ e1) (by simp only [List.size_toArray,List.length_append,List.length_take,List.length_drop,n4]; rw [Array.length_toList]; omega) (by simp; omega) hrows'
    (by rw [hflat,n4]; exact ((g2.take _).append n2).append (g2.drop _))
    (by intro u hu
        simp only [List.mem_append] at hu;rcases hu with (hu | hu) | hu
        ·exact g3 u (List.mem_of_mem_take hu)
        ·exact n3 u hu
        ·exact g3 u (List.mem_of_mem_drop hu))
    (by intro j u hu
        have:=jN cur.toList xs _ g5 (off*P.cellsOf e) (by rw [n4,g4]; omega) j u hu;simpa using this)
   exact hs.step hch.1 (cD.refl _) hch.2 (by simp) (by simp only [Rep]; rfl)
theorem ad.cpy {i:aG} {l:List aG} {sz:Nat} {xa xb:VX} (hw:bl st.s i.g=some true) (ho:i.op=.more (.cpy sz) [xa,xb])
 {id off len:Nat} (h1:xa.ev st.s=.own id off len) {ob:Ob} (h2:st.σ id=some ob) (h3:ob.sz=sz) (h4:off+len≤ob.rows.length) {rows:List V} (h5:bG st.σ sz (xb.ev st.s)=some rows) (h6:rows.length=len)
 (h:ad P n (.ops l::k) ⟨aW st.s i.dst (.int .i64 len),upd st.σ id { ob with rows:=ob.rows.take off++rows++ob.rows.drop (off+len) }⟩ Q):ad P n (.ops (i::l)::k) st Q:=by
 refine ad.ins (by rw [ho]; simp) hw fun F hn μ a w o all hi hs next Q' hnext=>?_
 subst hn;obtain ⟨hop,hd⟩:=dP hi;rw [ho] at hop;obtain ⟨x,y,t,e,args,argTypes,g1,g2,g3,g4,g5,rfl,hxs⟩:=G8 hop;simp only [List.cons.injEq,and_true] at hxs;obtain ⟨rfl,rfl⟩:=hxs;obtain ⟨y,w',hx,hs'⟩:=Dh hs g1 g2 g3 g4 g5 h1 h2 h3 h4 h5 h6;unfold Oper.wp;rw [hx];refine hnext _ _ _ ⟨μ,?_⟩ h;rw [←hd];exact hs'
open Go.Proofs Go.Proofs.Tryz
def cQ (body:Int):List Flo→Int→List Flo×List Flo×Int
 | [],sh=>([],[],sh)
 | f::r,sh=>if sh+min f.h body > body then ([],f::r,sh) else ({ f with y:=sh,h:=min f.h body }::(cQ body r (sh+min f.h body)).1,(cQ body r (sh+min f.h body)).2)
theorem pq {P:List Flo} {j:Nat} (h:j≤P.length):∀σ,cp σ 7 (aK P) (some (.int .i64 j)) none none=some (aK (P.drop j)):=fun σ=>by
 have h1:(j:Int)≤P.length:=by omega
 simp only [aK,cp,bu,List.length_map];rw [if_pos ⟨by omega,h1,Int.le_refl _,Int.le_refl _,trivial⟩,Int.toNat_natCast,Int.toNat_natCast,←List.map_drop,List.take_of_length_le (by simp)]
theorem IX (P:List Flo) (hP:P.length≤1000000) (body:Int) (hb0:1≤body) (hb1:body≤1099511627776) (hh:∀f∈P,0≤f.h) :
 aV prog 42 [aK P,vI body] (.tup [aK (cQ body P 0).1,aK (cQ body P 0).2.1,vI (cQ body P 0).2.2]):=fun σ=>by
 refine e42.r (by simp [c42]) ?_;have hs:=aa.refl σ;have hlp:=fB P;refine ad.mix 13 ?_;apply sR;simp only [go_sem,seval,c42,hlp];refine ad.eD (fun st=>∃p q sh,cQ body P 0=(p,q,sh)∧aa σ st.σ∧aM σ st.σ 59 7 (st.s 4) (p.map aO)∧aM σ st.σ 59 7 (st.s 5) (q.map aO)∧st.s 6=vI sh)
  (fun m st=>∃(j:Nat) (acc:List Flo) (sh:Int),j≤P.length∧m=P.length - j∧acc.length=j∧cQ body P 0=(acc++(cQ body (P.drop j) sh).1,(cQ body (P.drop j) sh).2)∧0≤sh∧sh≤body∧aa σ st.σ∧aM σ st.σ 59 7 (st.s 4) (acc.map aO)∧st.s 5=.aC∧st.s 6=vI sh∧st.s 0=aK P∧st.s 1=vI body∧st.s 10=aK P∧st.s 11=vI P.length∧st.s 12=vI j) P.length ?_ ?_ ?_
 ·exact ⟨0,[],0,by omega,rfl,rfl,rfl,by omega,by omega,hs,aM.start,rfl,rfl,rfl,rfl,rfl,rfl,rfl⟩
 ·clear hs;rintro m ⟨S,τ⟩ ⟨j,acc,sh,hj,rfl,hal,heq,h0,h1,hs,ho,t5,t6,t0,t1,t10,t11,t12⟩;simp only at hs ho t5 t6 t0 t1 t10 t11 t12;generalize hv4:S 4=v4 at ho;refine ad.mix 13 ?_;by_cases hlt:j < P.length
  ·have q:((j:Int) < P.length)=True:=eq_true (by omega);have hidx:=fun σ=>iI (σ:=σ) hlt;have hf0:=hh _ (List.getElem_mem hlt);have hd:P.drop j=P[j]::P.drop (j+1):=List.drop_eq_getElem_cons hlt;have hfl:aO P[j]=.agg [vI P[j].node,vI P[j].side,vI P[j].anchor,vI P[j].x,vI P[j].y,vI P[j].w,vI P[j].h]:=rfl;rw [hd,cQ] at heq;generalize P[j]=f at *;have hsσ:=hs;replace hs:=aa.refl τ;have r1:inR .i64 ((j:Int)+1):=ak (by omega) (by omega);have r2:inR .i64 (sh+min f.h body):=ak (by omega) (by omega);apply sR;simp only [go_sem,seval,t0,t1,t5,t6,t10,t11,t12,hv4,q,hidx,hfl];refine ae fun i8 σ8 s8 a8 f8=>?_;have z8:=hs.none f8;replace hs:=hs.trans s8;simp only [go_sem,seval,a8,t0,t1,t5,t6,t10,t11,t12,hv4];generalize hq8:upd _ i8 _=τ8;replace a8:=(congrFun hq8 i8).symm.trans ag;replace hs:=Eq.subst (motive:=aa _) hq8 (hs.aD z8);clear hq8;refine ae fun i9 σ9 s9 a9 f9=>?_;have n89:=ao a8 f9;replace a8:=s9 _ _ a8;have z9:=hs.none f9;replace hs:=hs.trans s9;simp only [go_sem,seval,a9,a8,t0,t1,t5,t6,t10,t11,t12,hv4,cW,ab n89,ab n89];generalize hq9:upd _ i9 _=τ9;replace a9:=(congrFun hq9 i9).symm.trans ag;replace a8:=((congrFun hq9 i8).symm.trans (ab n89)).trans a8;replace hs:=Eq.subst (motive:=aa _) hq9 (hs.aD z9);clear hq9;refine ad.qK (by kernel_rfl) [0,1,2,3,4,5,6,7,8] [[],[],[1],[],[1,2,3],[0],[0,5],[0,1,2,3,4,5,6],[0,1,2,3,4,5,6,7]] [0,2,4,6,8,10,12,5,14,16] (by kernel_rfl) (by kernel_rfl) ?_;refine RE.seg (n:=0) [5,14,16] [0,2,4,6,8,10,12] [⟨(.some 18),(.mov (.t 6)),.none⟩,⟨(.some 19),(.fldA .false 6 1 (.t 8)),.none⟩,⟨(.some 20),(.load .false 1 (.t 19)),.none⟩,⟨(.some 21),(.mov (.t 1)),.none⟩,⟨(.some 22),(.minmax .false (.t 20) (.t 21)),.none⟩,⟨(.some 23),(.fldA .false 4 1 (.t 9)),.none⟩,⟨.none,(.store 1 (.t 23) (.t 18)),.none⟩] rfl rfl ?_;apply sG;simp only [go_sem,seval,a9,a8,t6,t1,ew];refine RE.chk rfl rfl rfl rfl rfl trivial (by simp only [go_sem,seval,a9,a8,t6,t1,ew,ab n89,ab n89]) ?_;refine RE.seg (n:=0) [] [14,16] [⟨(.some 24),(.fldA .false 6 1 (.t 9)),.none⟩,⟨.none,(.store 1 (.t 24) (.t 22)),.none⟩] rfl rfl ?_;apply sG;simp only [go_sem,seval,a9,a8,t6,t1,ew,ab n89,ab n89];generalize hq9:upd _ i9 _=τ9;replace a9:=(congrFun hq9 i9).symm.trans ag;replace a8:=((congrFun hq9 i8).symm.trans (ab n89)).trans a8;replace hs:=Eq.subst (motive:=aa _) hq9 (hs.aD z9);clear hq9;by_cases hgt:sh+min f.h body > body
   ·have q1:(sh+min f.h body > body)=True:=eq_true hgt;rw [if_pos hgt] at heq;have r3:inR .i64 ((P.length:Int) - j):=ak (by omega) (by omega);apply sR;simp only [go_sem,seval,a9,a8,t0,t1,t5,t6,t10,t11,t12,hv4,hlp,r2,q1,r3];obtain ⟨n,hn⟩:∃n:Nat,n=P.length - j:=⟨_,rfl⟩
    have hnj:(P.length:Int) - j=(n:Int):=by omega
    rw [hnj];have hbm:(0:Int)≤n∧(n:Int).toNat*57≤140737488355328:=by omega
    simp only [go_sem,seval,hbm];refine ae fun i36 σ36 s36 a36 f36=>?_;have hsl:=pq hj;simp only [BB,seval,←decide_not,bp,eP,aE,cF,eA,ed,ez,dL,cb,j9,gl,bC,fF,dI,et,cH,bu,iq,dd,cE,bZ,eff,jU,cV,bR,jK,dV,cd,dD,cU,kO,binBV,bS,dg,V.cells,V.stays,t0,t5,hsl,Int.toNat_natCast];have hnl:(P.drop j).length=n:=by rw [List.length_drop,hn]
    refine ad.cpy (id:=i36) (off:=0) (len:=n) (rows:=(P.drop j).map aO) rfl rfl rfl a36 rfl (by simp) rfl (by rw [List.length_map,hnl]) ?_;have hrw:(List.replicate (n:Int).toNat (V.agg [vI 0,vI 0,vI 0,vI 0,vI 0,vI 0,vI 0])).take 0++(P.drop j).map aO++(List.replicate (n:Int).toNat (V.agg [vI 0,vI 0,vI 0,vI 0,vI 0,vI 0,vI 0])).drop (0+n)=(P.drop j).map aO:=by
     generalize (P.drop j).map aO=X;simp
    rw [hrw];apply sR;simp only [go_sem,seval,t0,t1,t6,t10,t11,t12,hv4];have hst:=(hsσ.trans (hs.trans s36)).aD (o:=⟨59,7,(P.drop j).map aO⟩) ((hsσ.trans hs).none f36);refine ⟨acc,P.drop j,sh,?_,hst,?_,?_,rfl⟩
    ·rw [heq,List.append_nil,hd]
    ·exact ho.mono ((hs.trans s36).aD (hs.none f36))
    ·exact aM.new (by rw [List.length_map,hnl]) ag ((hsσ.trans hs).none f36)
   ·have q1:(sh+min f.h body > body)=False:=eq_false hgt;rw [if_neg hgt] at heq;apply sR;simp only [go_sem,seval,a9,a8,t0,t1,t5,t6,t10,t11,t12,hv4,r2,q1];refine ae fun i44 σ44 s44 a44 f44=>?_;obtain ⟨idA,hda,hdel,hd1,hd2⟩:=ho.yP (hs.trans s44);have hlm:(acc.map aO).length=j:=by rw [List.length_map,hal]
    have hb2:(j+1)*57≤140737488355328:=by omega
    simp only [go_sem,seval,hda,di a44,hlm,hb2];refine er fun i45 σ45 s45 a45 f45=>?_;have b9:=s45 _ _ ((hd2 i9 z9 σ44).trans (s44 _ _ a9));have k45:=(hdel σ (aa.refl _) σ44 (hsσ.trans (hs.trans s44))).trans s45;have n45:σ i45=none:=(hsσ.trans (hs.trans s44)).none f45;simp only [go_sem,seval,t0,t1,t5,t6,t10,t11,t12,b9,r1,r2];refine ⟨_,?_,j+1,acc++[{ f with y:=sh,h:=min f.h body }],sh+min f.h body,by omega,rfl,by simp [hal],?_,by omega,by omega,k45,?_,by simp⟩
    ·omega
    ·rw [heq,List.append_assoc]; rfl
    ·rw [List.map_append];exact aM.new (by simp [hal]) a45 n45
  ·have q:((j:Int) < P.length)=False:=eq_false (by omega);have hje:j=P.length:=by omega
   rw [hje,List.drop_length,cQ,List.append_nil] at heq;apply sR;simp only [go_sem,seval,t0,t1,t5,t6,t10,t11,t12,hv4,q];exact ⟨acc,[],sh,heq,hs,hv4 ▸ ho,aM.start,rfl⟩
 ·rintro ⟨S,τ⟩ ⟨p,q,sh,heq,hs,ho,hu,t6⟩;simp only at hs ho hu t6;generalize hv4:S 4=v4 at ho;generalize hv5:S 5=v5 at hu;refine ad.mix 13 ?_;apply sR;simp only [go_sem,seval,hv4,hv5,t6];rw [heq];exact ⟨_,σ,hs,Wk.tup (vs':=[aK p,aK q,vI sh]) ⟨ho.wk (aa.refl _) hs,hu.wk (aa.refl _) hs,Wk.refl hs _,trivial⟩,rfl,rfl⟩
open Go.Proofs Go.Proofs.Tryz
structure Bk where
 nodes:List Nd
 (w h:Int)
 atoms:List Atm
 fls:List Flo
 height:Int
 brks:List Brk
def bI (b:Bk):V:=.agg [aJ b.nodes,vI b.w,vI b.h,bt b.atoms,aK b.fls,vI b.height,bM b.brks]
structure Wx where
 heads:V
 (high body:Int)
 s:Stt
 kind:Int
 (hs fs ls:List Frg)
 shift:Int
def cN (b:Bk) (x:Wx) (vh vf vl:V):Ob:=⟨102,13,[.agg [x.heads,vI x.high,vI x.body, .rp (bI b),vI x.s.atom,vI x.s.done, .bool x.s.free,vI 0,vI x.kind,vh,vf,vl,vI x.shift]]⟩
structure WxJ (b:Bk) (K:af) (ix:Nat) (x:Wx) (σ:af) (vh vf vl:V):Prop where
 row:σ ix=some (cN b x vh vf vl)
 oh:aM (bb K ix) σ 57 7 vh (x.hs.map aX)
 of:aM (bb K ix) σ 57 7 vf (x.fs.map aX)
 ol:aM (bb K ix) σ 57 7 vl (x.ls.map aX)
 hf:dr vh vf
 hl:dr vh vl
 fl:dr vf vl
 sub:aa K σ
 no:K ix=none
theorem WxJ.mono {b:Bk} {K:af} {ix:Nat} {x:Wx} {σ τ:af} {vh vf vl:V} (h:WxJ b K ix x σ vh vf vl) (hs:aa σ τ):WxJ b K ix x τ vh vf vl :=
 ⟨hs _ _ h.row,h.oh.mono hs,h.of.mono hs,h.ol.mono hs,h.hf,h.hl,h.fl,h.sub.trans hs,h.no⟩
theorem yx {K σ8:af} {ix e sz:Nat} {v:V} {rows:List V} (Js:aa K σ8) (Jn:K ix=none) {ox:Ob} (Jx:σ8 ix=some ox) (Jv:aM (bb K ix) σ8 e sz v rows) :
 ∃idA,bQ σ8 e sz v=some (rows,idA)∧∀(σ9:af) (id:Nat) (rows':List V),aa (Vc.bw σ8 idA) σ9→σ9 id=some ⟨e,sz,rows'⟩→σ8 id=none →
  σ9 ix=some ox∧∀o',aa K (upd σ9 ix o')∧aM (bb K ix) (upd σ9 ix o') e sz (.own id 0 rows'.length) rows' ∧
  ∀u rowsU,aM (bb K ix) σ8 e sz u rowsU→dr v u→aM (bb K ix) (upd σ9 ix o') e sz u rowsU∧dr (.own id 0 rows'.length) u:=by
 obtain ⟨idA,hda,hdA⟩:=Jv.LU (aa.refl σ8);have k2:bb K ix ix≠none:=fun h=>(aF.1 h).1 rfl;have dne:∀(i:Nat),bb K ix i≠none→Vc.bw σ8 idA i=σ8 i:=fun i hk=>by
  cases idA with
  | none=>rfl
  | some a=>exact dh (fun e=>hk (by rw [e]; exact (hdA a rfl).1))
 refine ⟨idA,hda,fun σ9 id rows' hs9 h9 f=>⟨hs9 _ _ ((dne _ k2).trans Jx),fun o'=>⟨?_,?_,fun u rowsU hu hap=>⟨?_,dr.new hu f⟩⟩⟩⟩
 ·refine aa.aD (fun i o h=>hs9 _ _ ((dne _ (fun hk=>?_)).trans (Js _ _ h))) Jn;rw [(aF.1 hk).2] at h; cases h
 ·have m:id≠ix:=fun e=>by rw [e,Jx] at f; cases f
  refine aM.new rfl ((ab m).trans h9) (aF.2 ⟨m,?_⟩);exact Js.none f
 ·rcases hu with h | ⟨a,rfl,h1,h2⟩
  ·exact .inl h
  ·refine .inr ⟨a,rfl,(ab (aF.1 h2).1).trans (hs9 _ _ ?_),h2⟩;cases hA:idA with
   | none=>exact h1
   | some i =>
     have:a≠i:=fun e=>hap _ _ _ _ (hdA i hA).2.2 rfl e.symm;simp only [Vc.bw]; rw [dh this]; exact h1
def lq (high:Int) (f:Flo):Frg:=⟨f.node, -1,0,f.x,f.y+high,f.w,f.h⟩
def Wx.put (x:Wx) (l:List Flo):Wx:={ x with ls:=x.ls++l.map (lq x.high) }
theorem lU (b:Bk) (l:List Flo) (hl:l.length≤1000000) (x:Wx) (hx:x.ls.length≤1000000) (hr:∀f∈l,inR .i64 (f.y+x.high)) {K σ:af} {i1:Nat} {vh vf vl:V} (hJ:WxJ b K i1 x σ vh vf vl) :
 av prog 43 [.ptr i1 0 0,aK l] σ fun _ σ'=>∃vl',WxJ b K i1 (x.put l) σ' vh vf vl':=by
 refine e43.r (by simp [c43]) ?_;have hln:=fB l;obtain ⟨ch,sh⟩:=hJ.oh.vc;obtain ⟨cf,sf⟩:=hJ.of.vc;refine ad.mix 9 ?_;apply sR;simp only [go_sem,seval,c43,hln];refine ad.loop (fun m st=>∃(j:Nat) (vl':V),j≤l.length∧m=l.length - j∧WxJ b K i1 (x.put (l.take j)) st.σ vh vf vl'∧st.s 0=.ptr i1 0 0∧st.s 6=aK l∧st.s 7=vI l.length∧st.s 8=vI j) l.length ?_ ?_
 ·exact ⟨0,vl,by omega,rfl,by simpa [Wx.put] using hJ,rfl,rfl,rfl,rfl⟩
 ·rintro m ⟨S,τ⟩ ⟨j,vl',hj,rfl,hJ,t0,t6,t7,t8⟩;simp only at hJ t0 t6 t7 t8;refine ad.mix 9 ?_;by_cases hlt:j < l.length
  ·have q:((j:Int) < l.length)=True:=eq_true (by omega);have hidx:=fun σ=>iI (σ:=σ) hlt;have hfl:aO l[j]=.agg [vI l[j].node,vI l[j].side,vI l[j].anchor,vI l[j].x,vI l[j].y,vI l[j].w,vI l[j].h]:=rfl;have htk:l.take (j+1)=l.take j++[l[j]]:=List.take_succ_eq_append_getElem hlt;have hput:x.put (l.take (j+1))={ x.put (l.take j) with ls:=(x.put (l.take j)).ls++[lq x.high l[j]] }:=by
    rw [htk]; simp only [Wx.put,List.map_append,List.map_cons,List.map_nil,List.append_assoc]
   have r0:=hr _ (List.getElem_mem hlt);have r1:inR .i64 ((j:Int)+1):=ak (by omega) (by omega);have hyl:((x.put (l.take j)).ls.map aX).length≤2000000:=by simp [Wx.put]; omega
   have hyh:(x.put (l.take j)).high=x.high:=rfl;rw [←hyh] at hput r0;generalize l[j]=f at *;generalize x.put (l.take j)=y at *;have hs:=aa.refl τ;have a1:=hJ.row;rw [cN] at a1;obtain ⟨cl,sl⟩:=hJ.ol.vc;apply sR;simp only [go_sem,seval,t0,t6,t7,t8,q,hidx,hfl];refine ae fun i5 σ5 s5 a5 f5=>?_;have n15:=ao a1 f5;replace a1:=s5 _ _ a1;have z5:=hs.none f5;replace hs:=hs.trans s5;simp only [go_sem,seval,a5,a1,t0,t6,t7,t8,ab n15,ab n15,r0,ch,sh,cf,sf,cl,sl];generalize hq5:upd _ i5 _=τ5;replace a5:=(congrFun hq5 i5).symm.trans ag;replace a1:=((congrFun hq5 i1).symm.trans (ab n15)).trans a1;replace hs:=Eq.subst (motive:=aa _) hq5 (hs.aD z5);clear hq5;refine bz fun i35 σ35 s35 a35 f35=>?_;have hJ5:=hJ.mono (hs.trans s35);obtain ⟨idA,hda,hgr⟩:=yx hJ5.sub hJ5.no hJ5.row hJ5.ol;generalize hrw:y.ls.map aX=rows at *;have hb2:(rows.length+1)*57≤140737488355328:=by omega
   simp only [go_sem,seval,hda,di a35,hb2];refine iW fun i36 σ36 s36 a36 f36=>?_;obtain ⟨b1,hg⟩:=hgr σ36 i36 _ s36 a36 f36;rw [cN] at b1;obtain ⟨g1,g2,g3⟩:=hg (cN b { y with ls:=y.ls++[lq y.high f] } vh vf (.own i36 0 (rows.length+1)));simp only [go_sem,seval,b1,t0,t6,t7,t8,ch,sh,cf,sf,cl,sl,r1];refine ⟨_,?_,j+1, .own i36 0 (rows.length+1),by omega,rfl,?_,by simp⟩
   ·omega
   ·rw [hput];obtain ⟨k1,k2⟩:=g3 _ _ hJ5.oh hJ5.hl.symm;obtain ⟨k3,k4⟩:=g3 _ _ hJ5.of hJ5.fl.symm;rw [List.length_append] at g2 k2 k4;refine ⟨ag,k1,k3,?_,hJ.hf,k2.symm,k4.symm,g1,hJ.no⟩;show aM _ _ _ _ _ ((y.ls++[lq y.high f]).map aX);rw [List.map_append,hrw];exact g2
  ·have q:((j:Int) < l.length)=False:=eq_false (by omega);have hje:j=l.length:=by omega
   rw [hje,List.take_length] at hJ;apply sR;simp only [go_sem,seval,t0,t6,t7,t8,q];exact ⟨_,_,aa.refl _,Wk.refl (aa.refl _) _,vl',hJ⟩
open Go.Proofs Go.Proofs.Tryz
structure BkOk (b:Bk):Prop where
 at':kM b.atoms
 tight:∀a∈b.atoms, -18014398509481984≤a.y∧a.y≤18014398509481984∧0≤a.h∧a.h≤18014398509481984
 len:b.atoms.length≤900000
 flen:b.fls.length≤1000000
 flo:∀f∈b.fls,f.ok
 brk:b.brks.length=b.atoms.length+1
structure Sta where
 s:Stt
 bK:List Flo
def cI (x:Sta):V:=.agg [vI x.s.atom,vI x.s.done, .bool x.s.free,aK x.bK]
theorem Cv {top shift body:Int}:∀ {L:List Flo} {m:Flo},m∈(ic top shift body L).1→∃f∈L,m=dG top shift f:=by
 have key:∀(L L0:List Flo) (x:List Flo×List Flo),(∀m∈x.1,∃f∈L0,m=dG top shift f)→∀m∈(L.foldl (fun x f=>jz body x f (dG top shift f)) x).1,∃f∈L0++L,m=dG top shift f:=by
  intro L
  induction L with
  | nil=>intro L0 x h m hm; simpa using h m hm
  | cons f L ih =>
    intro L0 x h m hm;rw [List.foldl_cons] at hm;have:=ih (L0++[f]) _ (fun m hm=>?_) m hm
    ·simpa using this
    ·unfold jz at hm;simp only at hm;split at hm
     ·obtain ⟨g,hg,e⟩:=h m hm; exact ⟨g,by simp [hg],e⟩
     ·rcases List.mem_append.1 hm with hm | hm
      ·obtain ⟨g,hg,e⟩:=h m hm; exact ⟨g,by simp [hg],e⟩
      ·simp at hm; exact ⟨f,by simp,hm⟩
 intro L m hm;have:=key L [] ([],[]) (by simp) m hm;simpa using this
theorem uE {b:Bk} (hb:BkOk b) {s:Stt} (hd:s.done≤1152921504606846976) {to kept shift body:Int} (hk:-1152921504606846976≤kept∧kept≤2305843009213693952) (hsh:0≤shift∧shift≤1152921504606846976) :
 (dO b.atoms b.fls s to kept shift body).1.length≤1000000∧∀m∈(dO b.atoms b.fls s to kept shift body).1,0≤m.y∧m.y≤6917529027641081856:=by
 unfold dO;split
 ·rename_i hm;have h1:=pf (su b.atoms s kept) shift body (eU b.fls s to);have h2:(eU b.fls s to).length≤b.fls.length:=pC _ _ _;have h3:=hb.flen;refine ⟨by omega,fun m hmm=>?_⟩;obtain ⟨f,hf,rfl⟩:=Cv hmm;have hfo:=hb.flo f (List.mem_filter.1 hf).1;obtain ⟨_,⟨o1,o2⟩,_⟩:=hfo;obtain ⟨h0,h4⟩:=hm.1;have htop:-4611686018427387904≤su b.atoms s kept:=by
   unfold su;have:=hm.2.1;obtain ⟨k,hkk⟩:∃k:Nat,s.atom=k:=⟨s.atom.toNat,by omega⟩
   have hkl:k < b.atoms.length:=by omega
   have hy:=hb.at'.rng _ (List.getElem_mem hkl);rw [hkk,bj hkl];omega
  simp only [dG];omega
 ·simp
def cj (high:Int) (f:Frg):Frg:={ f with y:=f.y+high }
def bX (b:Bk) (x:Wx) (kept:Int) (n:Nat):List Frg:=(List.range n).map fun i:Nat=>cj x.high (dn b.atoms x.s kept x.shift (x.s.atom+(i:Nat)))
def Wx.add (x:Wx) (l:List Frg):Wx:={ x with fs:=x.fs++l }
theorem zZ {l:List Atm} (hl:kM l) {s:Stt} (hd0:0≤s.done) (hd:s.done≤1152921504606846976) {kept shift:Int} (hk:-1152921504606846976≤kept∧kept≤2305843009213693952) (hsh:0≤shift∧shift≤1152921504606846976) (k:Int) :
 -4611686018427387904≤(dn l s kept shift k).y∧(dn l s kept shift k).y≤6917529027641081856:=by
 have h:=nh hl hd hk hsh k;unfold dn;split
 ·split
  ·simp only; omega
  ·simp only [kJ]; omega
 ·simp
theorem fD (l:List Atm) (σ:af):bO σ false 1 (.rp (bt l))=some (bt l):=rfl
theorem Bl (l:List Flo) (σ:af):bO σ false 1 (.rp (aK l))=some (aK l):=rfl
theorem FE (l:List Brk) (σ:af):bO σ false 1 (.rp (bM l))=some (bM l):=rfl
theorem Mq (l:List Nd) (σ:af):bO σ false 1 (.rp (aJ l))=some (aJ l):=rfl
theorem WxJ.mH {b:Bk} {K:af} {ix:Nat} {x:Wx} {σ τ:af} {vh vf vl:V} (h:WxJ b K ix x σ vh vf vl) (hs:aa σ τ) {i:Nat} {o:Ob} (h1:σ i=none) (h2:τ i=some o):WxJ b (upd K i o) ix x τ vh vf vl:=by
 have key:∀ {v rows},aM (bb K ix) σ 57 7 v rows→aM (bb (upd K i o) ix) τ 57 7 v rows:=fun hv=>by
  rcases hv with h | ⟨a,e,h3,h4⟩
  ·exact .inl h
  ·refine .inr ⟨a,e,hs _ _ h3,aF.2 ⟨(aF.1 h4).1,?_⟩⟩;rw [ab (fun e=>by subst e; rw [h1] at h3; cases h3)]; exact (aF.1 h4).2
 refine ⟨hs _ _ h.row,key h.oh,key h.of,key h.ol,h.hf,h.hl,h.fl,fun a q ha=>?_,?_⟩
 ·by_cases e:a=i
  ·subst e; rw [Vc.ag] at ha; cases ha; exact h2
  ·rw [Vc.ab e] at ha; exact hs _ _ (h.sub _ _ ha)
 ·rw [Vc.ab (fun e=>by subst e; rw [h.row] at h1; cases h1)]; exact h.no
theorem WxJ.narrow {b:Bk} {K:af} {ix i:Nat} {o:Ob} {x:Wx} {σ:af} {vh vf vl:V} (h:WxJ b (upd K i o) ix x σ vh vf vl) (hK:K i=none):WxJ b K ix x σ vh vf vl:=by
 have hk:∀a,upd K i o a=none→K a=none:=fun a ha=>by
  by_cases e:a=i
  ·subst e; exact hK
  ·rwa [Vc.ab e] at ha
 have key:∀ {v rows},aM (bb (upd K i o) ix) σ 57 7 v rows→aM (bb K ix) σ 57 7 v rows:=fun hv=>by
  rcases hv with h | ⟨a,e,h3,h4⟩
  ·exact .inl h
  ·exact .inr ⟨a,e,h3,aF.2 ⟨(aF.1 h4).1,hk _ (aF.1 h4).2⟩⟩
 refine ⟨h.row,key h.oh,key h.of,key h.ol,h.hf,h.hl,h.fl,fun a q ha=>h.sub _ _ ?_,hk _ h.no⟩;rw [Vc.ab (fun e=>by subst e; rw [hK] at ha; cases ha)]; exact ha
theorem WxJ.drop {b:Bk} {K:af} {ix i:Nat} {o:Ob} {x:Wx} {σ:af} {vh vf vl:V} (h:WxJ b (upd K i o) ix x σ vh vf vl) (hK:K i=none) (o':Ob):WxJ b K ix x (upd σ i o') vh vf vl:=by
 have hn:ix≠i:=fun e=>by have:=h.no; subst e; rw [Vc.ag] at this; cases this
 have key:∀ {v rows},aM (bb K ix) σ 57 7 v rows→aM (bb (upd K i o) ix) σ 57 7 v rows→aM (bb K ix) (upd σ i o') 57 7 v rows:=fun hv hw=>by
  rcases hv with h | ⟨a,rfl,h3,h4⟩
  ·exact .inl h
  ·refine .inr ⟨a,rfl,?_,h4⟩;rcases hw with ⟨h,_⟩ | ⟨c,h,h5,h6⟩
   ·cases h
   ·cases h;have:a≠i:=fun e=>by subst e; have:=(aF.1 h6).2; rw [Vc.ag] at this; cases this
    rw [Vc.ab this]; exact h3
 have g:=h.narrow hK;refine ⟨(Vc.ab hn).trans h.row,key g.oh h.oh,key g.of h.of,key g.ol h.ol,h.hf,h.hl,h.fl,g.sub.aD hK,g.no⟩
theorem F4 (b:Bk) (hb:BkOk b) (x:Wx) (hm:dp b.atoms x.s) (hd:x.s.done≤1152921504606846976) (hx:x.fs.length≤1000000) (hxl:x.ls.length≤1000000) (hh:0≤x.high∧x.high≤1152921504606846976) (kept:Int) (hk:-1152921504606846976≤kept∧kept≤2305843009213693952)
 (hsh:0≤x.shift∧x.shift≤1152921504606846976) (cut:Nat) (hc:x.s.atom≤cut) (hcl:cut≤b.atoms.length) {K σ:af} {i1:Nat} {vh vf vl:V} (hJ:WxJ b K i1 x σ vh vf vl) :
 av prog 72 [.ptr i1 0 0,vI kept,vI cut] σ fun r σ'=>∃vf' vl',r=cI ⟨⟨cut,0,decide ((b.brks.getD cut ⟨0,0,0⟩).forced≠0)⟩,(dO b.atoms b.fls x.s cut kept x.shift x.body).2⟩ ∧
  WxJ b K i1 ((x.add (bX b x kept (cut - x.s.atom.toNat))).put (dO b.atoms b.fls x.s cut kept x.shift x.body).1) σ' vh vf' vl':=by
 refine e72.r (by simp [c72]) ?_;have hs:=aa.refl σ;have hbk:bI b=.agg [aJ b.nodes,vI b.w,vI b.h,bt b.atoms,aK b.fls,vI b.height,bM b.brks]:=rfl;have a1:=hJ.row;rw [cN] at a1;obtain ⟨ch,sh⟩:=hJ.oh.vc;obtain ⟨a,haa⟩:∃a:Nat,x.s.atom=a:=⟨x.s.atom.toNat,by have:=hm.1; omega⟩
 obtain ⟨n,hn⟩:∃n,n=cut - x.s.atom.toNat:=⟨_,rfl⟩
 have hnc:a+n=cut:=by omega
 rw [←hn];have hlen:=hb.len;refine ad.mix 13 ?_;apply sR;simp only [go_sem,seval,c72];refine ae fun i6 σ6 s6 a6 f6=>?_;have n16:=ao a1 f6;replace a1:=s6 _ _ a1;have z6:=hs.none f6;replace hs:=hs.trans s6;have hJ6:=hJ.mH s6 f6 a6;have k6:K i6=none:=hJ.sub.none f6;simp only [go_sem,seval,a1,hbk,haa,fD];refine ad.eD (fun st=>∃vf',WxJ b (upd K i6 ⟨27,4,[.agg [vI 0,vI 0, .bool false, .aC]]⟩) i1 (x.add (bX b x kept n)) st.σ vh vf' vl∧st.s 0=.ptr i1 0 0∧st.s 1=vI kept∧st.s 2=vI cut∧st.s 6=.ptr i6 0 0∧st.s 7=bt b.atoms)
  (fun m st=>∃(j:Nat) (vf':V),j≤n∧m=n - j∧WxJ b (upd K i6 ⟨27,4,[.agg [vI 0,vI 0, .bool false, .aC]]⟩) i1 (x.add (bX b x kept j)) st.σ vh vf' vl∧st.s 0=.ptr i1 0 0∧st.s 1=vI kept∧st.s 2=vI cut∧st.s 6=.ptr i6 0 0∧st.s 7=bt b.atoms∧∃z:Int,st.s 8=vI z∧z=(a:Int)+j) n ?_ ?_ ?_
 ·exact ⟨0,vf,by omega,rfl,by simpa [Wx.add,bX] using hJ6,rfl,rfl,rfl,rfl,rfl,_,rfl,by omega⟩
 ·clear hs hJ6 a1 hJ a6;rintro m ⟨S,τ⟩ ⟨j,vf',hj,rfl,hJ,t0,t1,t2,t6,t7,z,t8,hz⟩;simp only at hJ t0 t1 t2 t6 t7 t8;refine ad.mix 13 ?_;by_cases hlt:j < n
  ·have q:(z < (cut:Int))=True:=eq_true (by omega);have hsw:x.add (bX b x kept (j+1))={ x.add (bX b x kept j) with fs:=(x.add (bX b x kept j)).fs++[cj x.high (dn b.atoms x.s kept x.shift z)] }:=by
    simp only [Wx.add,bX,List.range_succ,List.map_append,List.map_cons,List.map_nil,List.append_assoc];rw [hz,haa]
   have hcall:aV prog 107 [bt b.atoms,bo (x.add (bX b x kept j)).s,vI kept,vI (x.add (bX b x kept j)).shift,vI z] (aX (dn b.atoms x.s kept x.shift z)):=CO b.atoms hb.at' x.s hd kept x.shift z hk hsh;have hrg:=zZ hb.at' hm.2.1 hd hk hsh z;have hyl:((x.add (bX b x kept j)).fs.map aX).length≤2000000:=by simp [Wx.add,bX]; omega
   have hyh:(x.add (bX b x kept j)).high=x.high:=rfl;rw [←hyh] at hsw;generalize dn b.atoms x.s kept x.shift z=w at *;generalize x.add (bX b x kept j)=y at *;have hs:=aa.refl τ;have a1:=hJ.row;rw [cN] at a1;rw [bo] at hcall;have r1:inR .i64 (z+1):=ak (by omega) (by omega);have r2:inR .i64 (w.y+y.high):=ak (by omega) (by omega);obtain ⟨cf,sf⟩:=hJ.of.vc;obtain ⟨cl,sl⟩:=hJ.ol.vc;apply sR;simp only [go_sem,seval,t0,t1,t2,t6,t7,t8,q,cW];refine ad.EZ (by kernel_rfl) 8 (.fork [[],[],[1],[2,1],[3,2,1],[],[],[6],[7,6],[8,7,6],[],[0,4,5,9,10,3,2,1,8,7,6],[],[12,11,0,1,2,3,4,5,6,7,8,9,10]] [0,1,2,3,4,5,6,7,8,9,10] [11,12] [(.leaf [[],[],[1],[2,1],[3,2,1],[],[],[6],[7,6],[8,7,6],[],[0,4,5,9,10,3,2,1,8,7,6],[11,0,4,5,9,10,3,2,1,8,7,6],[11,0,4,5,9,10,3,2,1,8,7,6,12]] [11,12,13]),(.leaf [[],[],[1],[2,1],[3,2,1],[],[],[6],[7,6],[8,7,6],[],[12,0,4,5,9,10,3,2,1,8,7,6],[],[12,11,0,1,2,3,4,5,6,7,8,9,10]] [12,11,13])]) (by kernel_rfl) ?_;refine GT.pJ (its:=[0,2,4,6,8,10,12,14,16,18,20]) (by kernel_rfl) ?_;refine RE.seg (n:=0) [] [0,2,4,6,8,10,12,14,16,18,20] [⟨(.some 31),(.mov (.t 7)),.none⟩,⟨(.some 32),(.mov (.t 0)),.none⟩,⟨(.some 33),(.nilCheck (.t 32)),.none⟩,⟨(.some 34),(.fldA .true 4 3 (.t 33)),.none⟩,⟨(.some 35),(.load .true 3 (.t 34)),.none⟩,⟨(.some 36),(.mov (.t 1)),.none⟩,⟨(.some 37),(.mov (.t 0)),.none⟩,⟨(.some 38),(.nilCheck (.t 37)),.none⟩,⟨(.some 39),(.fldA .false 12 1 (.t 38)),.none⟩,⟨(.some 40),(.load .false 1 (.t 39)),.none⟩,⟨(.some 41),(.mov (.t 8)),.none⟩] rfl rfl ?_;apply sG;simp only [go_sem,seval,a1,t0,t1,t7,t8,aX];refine ⟨?_,?_⟩
   ·refine GT.je (its:=[22,24,26]) (by kernel_rfl) ?_;refine RE.az rfl rfl rfl rfl rfl (hcall _) ?_;refine RE.seg (n:=0) [] [24,26] [⟨(.some 9),(.alloc 57 7 (.agg [(.int .i64 0),(.int .i64 0),(.int .i64 0),(.int .i64 0),(.int .i64 0),(.int .i64 0),(.int .i64 0)])),.none⟩,⟨.none,(.store 7 (.t 9) (.t 42)),.none⟩] rfl rfl ?_;apply sG;simp only [go_sem,seval,a1,t0,t1,t7,t8,aX];refine bz fun i9 σ9 s9 a9 f9=>?_;have n19:=ao a1 f9;replace a1:=s9 _ _ a1;have z9:=hs.none f9;replace hs:=hs.trans s9;simp only [go_sem,seval,a1,t0,t1,t7,t8,aX,a9];generalize hq9:upd _ i9 _=τ9;replace a9:=(congrFun hq9 i9).symm.trans ag;replace a1:=((congrFun hq9 i1).symm.trans (ab n19)).trans a1;replace hs:=Eq.subst (motive:=aa _) hq9 (hs.aD z9);clear hq9;apply sR;simp only [go_sem,seval,a9,a1,t0,r2,ab n19,ab n19,cf,sf];generalize hq9:upd _ i9 _=τ9;replace a9:=(congrFun hq9 i9).symm.trans ag;replace a1:=((congrFun hq9 i1).symm.trans (ab n19)).trans a1;replace hs:=Eq.subst (motive:=aa _) hq9 (hs.aD z9);clear hq9;refine bz fun i59 σ59 s59 a59 f59=>?_;have hJ9:=(hJ.mono hs).mono s59;obtain ⟨idA,hda,hgr⟩:=yx hJ9.sub hJ9.no hJ9.row hJ9.of;generalize hrw:y.fs.map aX=rows at *;have hb2:(rows.length+1)*57≤140737488355328:=by omega
    simp only [go_sem,seval,hda,di a59,hb2];refine iW fun i60 σ60 s60 a60 f60=>?_;obtain ⟨b1,hg⟩:=hgr σ60 i60 _ s60 a60 f60;rw [cN] at b1;obtain ⟨g1,g2,g3⟩:=hg (cN b { y with fs:=y.fs++[cj y.high w] } vh (.own i60 0 (rows.length+1)) vl);simp only [go_sem,seval,b1,t0,t1,t2,t6,t7,t8,ch,sh,cf,sf,cl,sl,r1];refine ⟨_,?_,j+1, .own i60 0 (rows.length+1),by omega,rfl,?_,_,rfl,by omega⟩
    ·omega
    ·rw [hsw];obtain ⟨k1,k2⟩:=g3 _ _ hJ9.oh hJ9.hf.symm;obtain ⟨k3,k4⟩:=g3 _ _ hJ9.ol hJ9.fl;rw [List.length_append] at g2 k2 k4;refine ⟨?_,k1,?_,k3,k2.symm,hJ.hl,k4,g1,hJ.no⟩
     ·exact ag
     ·show aM _ _ _ _ _ ((y.fs++[cj y.high w]).map aX);rw [List.map_append,hrw];exact g2
   ·refine GT.je (its:=[24,9,19,22,26]) (by kernel_rfl) ?_;refine RE.seg (n:=0) [9,19,22,26] [24] [⟨(.some 9),(.alloc 57 7 (.agg [(.int .i64 0),(.int .i64 0),(.int .i64 0),(.int .i64 0),(.int .i64 0),(.int .i64 0),(.int .i64 0)])),.none⟩] rfl rfl ?_;apply sG;simp only [go_sem,seval,a1,t0,t1,t7,t8,aX];refine bz fun i9 σ9 s9 a9 f9=>?_;have n19:=ao a1 f9;replace a1:=s9 _ _ a1;have z9:=hs.none f9;replace hs:=hs.trans s9;simp only [go_sem,seval,a1,t0,t1,t7,t8,aX,a9];refine RE.chk rfl rfl rfl rfl rfl trivial (by simp only [go_sem,seval,a1,t0,t1,t7,t8,aX,a9]) ?_;refine RE.chk rfl rfl rfl rfl rfl trivial (by simp only [go_sem,seval,a1,t0,t1,t7,t8,aX,a9]) ?_;refine RE.az rfl rfl rfl rfl rfl (hcall _) ?_;refine RE.seg (n:=0) [] [26] [⟨.none,(.store 7 (.t 9) (.t 42)),.none⟩] rfl rfl ?_;apply sG;simp only [go_sem,seval,a1,t0,t1,t7,t8,aX,a9];generalize hq9:upd _ i9 _=τ9;replace a9:=(congrFun hq9 i9).symm.trans ag;replace a1:=((congrFun hq9 i1).symm.trans (ab n19)).trans a1;replace hs:=Eq.subst (motive:=aa _) hq9 (hs.aD z9);clear hq9;apply sR;simp only [go_sem,seval,a9,a1,t0,r2,ab n19,ab n19,cf,sf];generalize hq9:upd _ i9 _=τ9;replace a9:=(congrFun hq9 i9).symm.trans ag;replace a1:=((congrFun hq9 i1).symm.trans (ab n19)).trans a1;replace hs:=Eq.subst (motive:=aa _) hq9 (hs.aD z9);clear hq9;refine bz fun i59 σ59 s59 a59 f59=>?_;have hJ9:=(hJ.mono hs).mono s59;obtain ⟨idA,hda,hgr⟩:=yx hJ9.sub hJ9.no hJ9.row hJ9.of;generalize hrw:y.fs.map aX=rows at *;have hb2:(rows.length+1)*57≤140737488355328:=by omega
    simp only [go_sem,seval,hda,di a59,hb2];refine iW fun i60 σ60 s60 a60 f60=>?_;obtain ⟨b1,hg⟩:=hgr σ60 i60 _ s60 a60 f60;rw [cN] at b1;obtain ⟨g1,g2,g3⟩:=hg (cN b { y with fs:=y.fs++[cj y.high w] } vh (.own i60 0 (rows.length+1)) vl);simp only [go_sem,seval,b1,t0,t1,t2,t6,t7,t8,ch,sh,cf,sf,cl,sl,r1];refine ⟨_,?_,j+1, .own i60 0 (rows.length+1),by omega,rfl,?_,_,rfl,by omega⟩
    ·omega
    ·rw [hsw];obtain ⟨k1,k2⟩:=g3 _ _ hJ9.oh hJ9.hf.symm;obtain ⟨k3,k4⟩:=g3 _ _ hJ9.ol hJ9.fl;rw [List.length_append] at g2 k2 k4;refine ⟨?_,k1,?_,k3,k2.symm,hJ.hl,k4,g1,hJ.no⟩
     ·exact ag
     ·show aM _ _ _ _ _ ((y.fs++[cj y.high w]).map aX);rw [List.map_append,hrw];exact g2
  ·have q:(z < (cut:Int))=False:=eq_false (by omega);have hje:j=n:=by omega
   subst hje;apply sR;simp only [go_sem,seval,t0,t1,t2,t6,t7,t8,q];exact ⟨vf',hJ⟩
 ·clear hs hJ6 a1 hJ a6;rintro ⟨S,τ⟩ ⟨vf',hJ,t0,t1,t2,t6,t7⟩;simp only at hJ t0 t1 t2 t6 t7;have hcall:aV prog 106 [bt b.atoms,aK b.fls,bo (x.add (bX b x kept n)).s,vI cut,vI kept,vI (x.add (bX b x kept n)).shift,vI (x.add (bX b x kept n)).body] (.tup [aK (dO b.atoms b.fls x.s cut kept x.shift x.body).1,aK (dO b.atoms b.fls x.s cut kept x.shift x.body).2]) :=
   F5 b.atoms hb.at' b.fls hb.flen hb.flo x.s hd cut kept x.shift x.body hk hsh
  have hrg:=uE hb hd (to:=cut) (body:=x.body) hk hsh;have hyl:(x.add (bX b x kept n)).ls.length≤1000000:=hxl;have hyh:(x.add (bX b x kept n)).high=x.high:=rfl;rw [bo] at hcall;generalize dO b.atoms b.fls x.s cut kept x.shift x.body=R at *;generalize x.add (bX b x kept n)=y at *;have a1:=hJ.row;rw [cN] at a1;have hflo:=lU b R.1 hrg.1 y hyl (fun f hf=>by
   have:=hrg.2 f hf;rw [hyh];exact ak (by omega) (by omega)) hJ
  have hcb:cut < b.brks.length:=by have:=hb.brk; omega
  have hidx:=fun σ=>wI (σ:=σ) hcb;have hgd:b.brks.getD cut ⟨0,0,0⟩=b.brks[cut]:=by simp [hcb]
  rw [hgd];generalize b.brks[cut]=bk at *;refine ad.mix 13 ?_;apply sR;simp only [go_sem,seval,t0,t1,t2,t6,t7,a1,hbk,fD,Bl];refine Go.ct rfl rfl rfl hcall ?_;apply sG;simp only [go_sem,seval,t0];refine ad.call rfl rfl rfl hflo ?_;rintro r σ' ⟨vl',hJ'⟩;clear a1;have a1:=hJ'.row;rw [cN] at a1;have a6:=hJ'.sub _ _ ag;have hs:=aa.refl σ';apply sR;simp only [go_sem,seval,t0,t2,t6,a1,hbk,FE,hidx,fC];refine ae fun i12 σ12 s12 a12 f12=>?_;have n112:=ao a1 f12;replace a1:=s12 _ _ a1;have n612:=ao a6 f12;replace a6:=s12 _ _ a6;have z12:=hs.none f12;replace hs:=hs.trans s12;simp only [go_sem,seval,a12,a6,t6,aS,aU,ab n112,ab n612];exact ⟨_,_,aa.refl _,Wk.refl (aa.refl _) _,vf',vl',rfl,(hJ'.mono (hs.aD f12)).drop k6 _⟩
open Go.Proofs Go.Proofs.Tryz
def bx.rt:bx→bx
 | .seq _ b=>b
 | c=>c
theorem fQ {i j:Nat} (h:i≠j):(∀(σ:af) (o:Ob),upd σ i o j=σ j)∧∀(σ:af) (o:Ob),upd σ j o i=σ i:=⟨fun _ _=>ab h.symm,fun _ _=>ab h⟩
theorem Hd (l:List Atm) (s:Stt) (area:Int):(iZ l s area).y=0:=by
 unfold iZ;split <;> rfl
def sU (b:Bk) (x:Wx):Wx:=(x.add [cj x.high (iZ b.atoms x.s x.body)]).put (dO b.atoms b.fls x.s (x.s.atom+1) 0 0 x.body).1
def ux (b:Bk) (x:Wx):Sta:=⟨dT b.atoms x.s x.body,(dO b.atoms b.fls x.s (x.s.atom+1) 0 0 x.body).2⟩
theorem HN (b:Bk) (hb:BkOk b) (x:Wx) (hm:dp b.atoms x.s) (hd:x.s.done≤1152921504606846976) (hx:x.fs.length≤1000000) (hxl:x.ls.length≤1000000) (hh:0≤x.high∧x.high≤1152921504606846976) (u v:Int)
 {K σ:af} {i1:Nat} {vh vf vl:V} (hJ:WxJ b K i1 x σ vh vf vl) :
 av prog 71 [.ptr i1 0 0,vI u,vI v] σ fun r σ'=>∃vf' vl',r=cI (ux b x)∧WxJ b K i1 (sU b x) σ' vh vf' vl':=by
 refine e71.r (by simp [c71]) ?_;have hbk:bI b=.agg [aJ b.nodes,vI b.w,vI b.h,bt b.atoms,aK b.fls,vI b.height,bM b.brks]:=rfl;have a1:=hJ.row;rw [cN] at a1;obtain ⟨ch,sh⟩:=hJ.oh.vc;have hlen:=hb.len;refine ad.mix 12 ?_;have hs:=aa.refl σ;apply sR;simp only [go_sem,seval,c71];refine ae fun i6 σ6 s6 a6 f6=>?_;have n16:=ao a1 f6;replace a1:=s6 _ _ a1;have z6:=hs.none f6;replace hs:=hs.trans s6;have k6:K i6=none:=hJ.sub.none f6;have hJ6:=hJ.mH s6 f6 a6;clear hJ;simp only [go_sem,seval,a1,hbk,fD,cW];have hof:=Ky b.atoms hb.at' x.s hd x.body;have hw0:=Hd b.atoms x.s x.body;unfold sU ux;have hcall:=F5 b.atoms hb.at' b.fls hb.flen hb.flo x.s hd (x.s.atom+1) 0 0 x.body (by omega) (by omega);have hrg:=uE hb hd (to:=x.s.atom+1) (kept:=0) (shift:=0) (body:=x.body) (by omega) (by omega);generalize iZ b.atoms x.s x.body=w at *;generalize dT b.atoms x.s x.body=nx at *;generalize dO b.atoms b.fls x.s (x.s.atom+1) 0 0 x.body=R at *;rw [bo] at hof hcall;obtain ⟨cf,sf⟩:=hJ6.of.vc;obtain ⟨cl,sl⟩:=hJ6.ol.vc;have nc:(bo nx).cells=[vI nx.atom,vI nx.done, .bool nx.free]:=rfl;have ns:(bo nx).stays=true:=rfl;have fin:∀(S:Nat→V) (τ:af) (i8 i9:Nat),aa σ6 τ→((∀(σ:af) (o:Ob),upd σ i8 o i9=σ i9)∧∀(σ:af) (o:Ob),upd σ i9 o i8=σ i8)→σ6 i8=none→σ6 i9=none→τ i8=some ⟨57,7,[.agg [vI w.node,vI w.atom,vI w.fr,vI w.x,vI w.y,vI w.w,vI w.h]]⟩→τ i9=some ⟨24,3,[.agg [vI nx.atom,vI nx.done, .bool nx.free]]⟩ →
  S 0=.ptr i1 0 0→S 6=.ptr i6 0 0→S 7=bt b.atoms→S 8=.ptr i8 0 0→S 9=.ptr i9 0 0 →
  ad prog 89 [It.code c71.code.rt.rt.rt] ⟨S,τ⟩ fun st=>Ret [.cell true 4 (.t 6)] st fun r σ'=>∃vf' vl',r=cI ⟨nx,R.2⟩∧WxJ b K i1 ((x.add [cj x.high w]).put R.1) σ' vh vf' vl':=by
  intro S τ i8 i9 hsτ hn z8 z9 a8 a9 t0 t6 t7 t8 t9;have n69:=ao a6 z9;have k9:=hJ6.sub.none z9;have hJ:=hJ6.mH hsτ z9 a9;have n18:i1≠i8:=ao a1 z8;have a1:=hJ.row;rw [cN] at a1;have r2:inR .i64 (w.y+x.high):=ak (by omega) (by omega);have r3:inR .i64 (x.s.atom+1):=ak (by have:=hm.1; omega) (by have:=hm.1; omega);have hs:=aa.refl τ;have z8:=z8;refine ad.mix 12 ?_;apply sR;simp only [go_sem,seval,c71,bx.rt,t0,t6,t7,t8,t9,a8,a1,r2,ab n18,cf,sf];generalize hq8:upd τ i8 _=τ8;have hJ8:WxJ b (upd K i6 ⟨27,4,[.agg [vI 0,vI 0, .bool false, .aC]]⟩) i1 x τ8 vh vf vl:=hJ6.mono (hq8 ▸ hsτ.aD z8);replace a8:=(congrFun hq8 i8).symm.trans ag;replace a9:=((congrFun hq8 i9).symm.trans (hn.1 _ _)).trans a9;replace hJ:=hJ6.mH (hq8 ▸ hsτ.aD z8) z9 a9;clear hq8;refine bz fun i50 σ50 s50 a50 f50=>?_;have hJ9:=hJ.mono s50;obtain ⟨idA,hda,hgr⟩:=yx hJ9.sub hJ9.no hJ9.row hJ9.of;have hfl:(x.fs.map aX).length≤1000000:=by simpa using hx
  generalize hrw:x.fs.map aX=rows at *;have hb2:(rows.length+1)*57≤140737488355328:=by omega
  simp only [go_sem,seval,hda,di a50,hb2];refine iW fun i51 σ51 s51 a51 f51=>?_;obtain ⟨b1,hg⟩:=hgr σ51 i51 _ s51 a51 f51;rw [cN] at b1;obtain ⟨g1,g2,g3⟩:=hg (cN b (x.add [cj x.high w]) vh (.own i51 0 (rows.length+1)) vl);have hJa:WxJ b (upd (upd K i6 ⟨27,4,[.agg [vI 0,vI 0, .bool false, .aC]]⟩) i9 ⟨24,3,[.agg [vI nx.atom,vI nx.done, .bool nx.free]]⟩) i1 (x.add [cj x.high w]) (upd σ51 i1 (cN b (x.add [cj x.high w]) vh (.own i51 0 (rows.length+1)) vl)) vh (.own i51 0 (rows.length+1)) vl:=by
   obtain ⟨k1,k2⟩:=g3 _ _ hJ9.oh hJ9.hf.symm;obtain ⟨k3,k4⟩:=g3 _ _ hJ9.ol hJ9.fl;rw [List.length_append] at g2 k2 k4;refine ⟨ag,k1,?_,k3,k2.symm,hJ9.hl,k4,g1,hJ9.no⟩;show aM _ _ _ _ _ ((x.fs++[cj x.high w]).map aX);rw [List.map_append,hrw];exact g2
  have hya:(x.add [cj x.high w]).high=x.high:=rfl;have hys:(x.add [cj x.high w]).ls=x.ls:=rfl;have hxl':(x.add [cj x.high w]).ls.length≤1000000:=hxl;generalize hY:x.add [cj x.high w]=y at *;simp only [go_sem,seval,b1,t0,t6,t7,t8,t9,ch,sh,cl,sl,hbk,fD,Bl,r3];generalize hq1:upd σ51 i1 _=τ1;have hJb:=hJa;rw [show upd σ51 i1 (cN b y vh (.own i51 0 (rows.length+1)) vl)=τ1 by rw [←hq1,cN,←hY]; rfl] at hJb;clear hJa hq1;refine Go.ct rfl rfl rfl hcall ?_;apply sG;simp only [go_sem,seval,t0];refine ad.call rfl rfl rfl (lU b R.1 hrg.1 y hxl' (fun f hf=>by
   have:=hrg.2 f hf;rw [hya];exact ak (by omega) (by omega)) hJb) ?_
  rintro r σ' ⟨vl',hJ'⟩;have c9:=hJ'.sub _ _ ag;have c6:=hJ'.sub i6 _ ((ab n69).trans ag);apply sR;simp only [go_sem,seval,t6,t9,c9,c6,aS,aU];exact ⟨_,_,aa.refl _,Wk.refl (aa.refl _) _,_,vl',rfl,(hJ'.narrow k9).drop k6 _⟩
 have a8:True:=trivial;have a9:True:=trivial;have hn:True:=trivial;have hs0:=aa.refl σ6;refine ad.EZ (by kernel_rfl) 8 (.fork [[],[],[1],[2,1],[3,2,1],[],[5],[6,5],[7,6,5],[8,7,6,5],[0,4,9,3,2,1,8,7,6,5],[10,0,4,9,3,2,1,8,7,6,5],[11,10,0,4,9,3,2,1,8,7,6,5],[11,10,0,4,9,3,2,1,8,7,6,5],[],[],[14,12,10,0,1,2,3,4,5,6,7,8,9,11,15],[15,13,16,0,1,2,3,4,5,6,7,8,9,10,11,12,14]] [0,1,2,3,4,5,6,7,8,9] [10,14,15] [(.fork [[],[],[1],[2,1],[3,2,1],[],[5],[6,5],[7,6,5],[8,7,6,5],[0,4,9,3,2,1,8,7,6,5],[10,0,4,9,3,2,1,8,7,6,5],[11,10,0,4,9,3,2,1,8,7,6,5],[11,10,0,4,9,3,2,1,8,7,6,5],[10,0,4,9,3,2,1,8,7,6,5],[10,0,4,9,3,2,1,8,7,6,5],[10,0,4,9,3,2,1,8,7,6,5,14,12,11,15],[10,0,4,9,3,2,1,8,7,6,5,15,13,16,11,12,14]] [10,11,12,13] [14,15] [(.leaf [[],[],[1],[2,1],[3,2,1],[],[5],[6,5],[7,6,5],[8,7,6,5],[0,4,9,3,2,1,8,7,6,5],[10,0,4,9,3,2,1,8,7,6,5],[11,10,0,4,9,3,2,1,8,7,6,5],[11,10,0,4,9,3,2,1,8,7,6,5],[10,0,4,9,3,2,1,8,7,6,5],[14,10,0,4,9,3,2,1,8,7,6,5],[14,10,0,4,9,3,2,1,8,7,6,5,12,11,15],[14,10,0,4,9,3,2,1,8,7,6,5,15,13,16,11,12]] [14,15,16,17]),(.leaf [[],[],[1],[2,1],[3,2,1],[],[5],[6,5],[7,6,5],[8,7,6,5],[0,4,9,3,2,1,8,7,6,5],[10,0,4,9,3,2,1,8,7,6,5],[11,10,0,4,9,3,2,1,8,7,6,5],[11,10,0,4,9,3,2,1,8,7,6,5],[15,10,0,4,9,3,2,1,8,7,6,5],[10,0,4,9,3,2,1,8,7,6,5],[15,10,0,4,9,3,2,1,8,7,6,5,14,12,11],[15,10,0,4,9,3,2,1,8,7,6,5,13,16,11,12,14]] [15,14,16,17])]),(.fork [[],[],[1],[2,1],[3,2,1],[],[5],[6,5],[7,6,5],[8,7,6,5],[14,0,4,9,3,2,1,8,7,6,5],[14,10,0,4,9,3,2,1,8,7,6,5],[14,11,10,0,4,9,3,2,1,8,7,6,5],[14,11,10,0,4,9,3,2,1,8,7,6,5],[],[14],[14,12,10,0,1,2,3,4,5,6,7,8,9,11,15],[14,15,13,16,0,1,2,3,4,5,6,7,8,9,10,11,12]] [14] [10,15] [(.leaf [[],[],[1],[2,1],[3,2,1],[],[5],[6,5],[7,6,5],[8,7,6,5],[14,0,4,9,3,2,1,8,7,6,5],[14,10,0,4,9,3,2,1,8,7,6,5],[14,11,10,0,4,9,3,2,1,8,7,6,5],[14,11,10,0,4,9,3,2,1,8,7,6,5],[],[10,14,0,4,9,3,2,1,8,7,6,5],[10,14,0,4,9,3,2,1,8,7,6,5,12,11,15],[10,14,0,4,9,3,2,1,8,7,6,5,15,13,16,11,12]] [10,11,12,13,15,16,17]),(.leaf [[],[],[1],[2,1],[3,2,1],[],[5],[6,5],[7,6,5],[8,7,6,5],[15,14,0,4,9,3,2,1,8,7,6,5],[15,14,10,0,4,9,3,2,1,8,7,6,5],[15,14,11,10,0,4,9,3,2,1,8,7,6,5],[15,14,11,10,0,4,9,3,2,1,8,7,6,5],[],[14],[15,14,12,10,0,1,2,3,4,5,6,7,8,9,11],[15,14,13,16,0,1,2,3,4,5,6,7,8,9,10,11,12]] [15,10,11,12,13,16,17])]),(.fork [[],[],[1],[2,1],[3,2,1],[],[5],[6,5],[7,6,5],[8,7,6,5],[15,0,4,9,3,2,1,8,7,6,5],[15,10,0,4,9,3,2,1,8,7,6,5],[15,11,10,0,4,9,3,2,1,8,7,6,5],[15,11,10,0,4,9,3,2,1,8,7,6,5],[15],[],[15,14,12,10,0,1,2,3,4,5,6,7,8,9,11],[15,13,16,0,1,2,3,4,5,6,7,8,9,10,11,12,14]] [15] [10,14] [(.leaf [[],[],[1],[2,1],[3,2,1],[],[5],[6,5],[7,6,5],[8,7,6,5],[15,0,4,9,3,2,1,8,7,6,5],[15,10,0,4,9,3,2,1,8,7,6,5],[15,11,10,0,4,9,3,2,1,8,7,6,5],[15,11,10,0,4,9,3,2,1,8,7,6,5],[10,15,0,4,9,3,2,1,8,7,6,5],[],[10,15,0,4,9,3,2,1,8,7,6,5,14,12,11],[10,15,0,4,9,3,2,1,8,7,6,5,13,16,11,12,14]] [10,11,12,13,14,16,17]),(.leaf [[],[],[1],[2,1],[3,2,1],[],[5],[6,5],[7,6,5],[8,7,6,5],[14,15,0,4,9,3,2,1,8,7,6,5],[14,15,10,0,4,9,3,2,1,8,7,6,5],[14,15,11,10,0,4,9,3,2,1,8,7,6,5],[14,15,11,10,0,4,9,3,2,1,8,7,6,5],[15],[],[14,15,12,10,0,1,2,3,4,5,6,7,8,9,11],[14,15,13,16,0,1,2,3,4,5,6,7,8,9,10,11,12]] [14,10,11,12,13,16,17])])]) (by kernel_rfl) ?_;refine GT.LC (its:=[0,2,4,6,8,10,12,14,16,18]) (by kernel_rfl) ?_;refine RE.seg (n:=0) [] [0,2,4,6,8,10,12,14,16,18] [⟨(.some 21),(.mov (.t 7)),.none⟩,⟨(.some 22),(.mov (.t 0)),.none⟩,⟨(.some 23),(.nilCheck (.t 22)),.none⟩,⟨(.some 24),(.fldA .true 4 3 (.t 23)),.none⟩,⟨(.some 25),(.load .true 3 (.t 24)),.none⟩,⟨(.some 26),(.mov (.t 0)),.none⟩,⟨(.some 27),(.nilCheck (.t 26)),.none⟩,⟨(.some 28),(.fldA .true 0 3 (.t 27)),.none⟩,⟨(.some 29),(.fldA .false 2 1 (.t 28)),.none⟩,⟨(.some 30),(.load .false 1 (.t 29)),.none⟩] rfl rfl ?_;apply sG;simp only [go_sem,seval,a1,aX,nc,ns,a8,a9,hn];refine ⟨?_,?_,?_⟩
 ·refine GT.pJ (its:=[20,22,24,26]) (by kernel_rfl) ?_;refine RE.az rfl rfl rfl rfl rfl (hof _) ?_;refine RE.seg (n:=0) [] [22,24,26] [⟨(.some 20),(.mov (.t 31)),.none⟩,⟨(.some 32),(.ext 0 (.t 20)),.none⟩,⟨(.some 33),(.ext 1 (.t 20)),.none⟩] rfl rfl ?_;apply sG;simp only [go_sem,seval,a1,aX,nc,ns,a8,a9,hn];refine ⟨?_,?_⟩
  ·refine GT.je (its:=[28,30,32,34]) (by kernel_rfl) ?_;refine RE.seg (n:=0) [] [28,30,32,34] [⟨(.some 8),(.alloc 57 7 (.agg [(.int .i64 0),(.int .i64 0),(.int .i64 0),(.int .i64 0),(.int .i64 0),(.int .i64 0),(.int .i64 0)])),.none⟩,⟨(.some 9),(.alloc 24 3 (.agg [(.int .i64 0),(.int .i64 0),(.bool .false)])),.none⟩,⟨.none,(.store 7 (.t 8) (.t 32)),.none⟩,⟨.none,(.store 3 (.t 9) (.t 33)),.none⟩] rfl rfl ?_;apply sG;simp only [go_sem,seval,a1,aX,nc,ns,a8,a9,hn];refine bz fun i8 σ8 s8 a8 f8=>?_;replace a1:=s8 _ _ a1
   try replace hn:=fQ (ao a9 f8).symm
   try replace a9:=s8 _ _ a9
   have z8:=hs0.none f8;replace hs0:=hs0.trans s8;simp only [go_sem,seval,a1,aX,nc,ns,a8,a9,hn];refine bz fun i9 σ9 s9 a9 f9=>?_;replace a1:=s9 _ _ a1
   try replace hn:=fQ (ao a8 f9)
   try replace a8:=s9 _ _ a8
   have z9:=hs0.none f9;replace hs0:=hs0.trans s9;simp only [go_sem,seval,a1,aX,nc,ns,a8,a9,hn];exact fin _ _ i8 i9 ((hs0.aD z8).aD z9) hn z8 z9 ((hn.2 _ _).trans ag) ag rfl rfl rfl rfl rfl
  ·refine GT.je (its:=[30,28,32,34]) (by kernel_rfl) ?_;refine RE.seg (n:=0) [] [30,28,32,34] [⟨(.some 9),(.alloc 24 3 (.agg [(.int .i64 0),(.int .i64 0),(.bool .false)])),.none⟩,⟨(.some 8),(.alloc 57 7 (.agg [(.int .i64 0),(.int .i64 0),(.int .i64 0),(.int .i64 0),(.int .i64 0),(.int .i64 0),(.int .i64 0)])),.none⟩,⟨.none,(.store 7 (.t 8) (.t 32)),.none⟩,⟨.none,(.store 3 (.t 9) (.t 33)),.none⟩] rfl rfl ?_;apply sG;simp only [go_sem,seval,a1,aX,nc,ns,a8,a9,hn];refine bz fun i9 σ9 s9 a9 f9=>?_;replace a1:=s9 _ _ a1
   try replace hn:=fQ (ao a8 f9)
   try replace a8:=s9 _ _ a8
   have z9:=hs0.none f9;replace hs0:=hs0.trans s9;simp only [go_sem,seval,a1,aX,nc,ns,a8,a9,hn];refine bz fun i8 σ8 s8 a8 f8=>?_;replace a1:=s8 _ _ a1
   try replace hn:=fQ (ao a9 f8).symm
   try replace a9:=s8 _ _ a9
   have z8:=hs0.none f8;replace hs0:=hs0.trans s8;simp only [go_sem,seval,a1,aX,nc,ns,a8,a9,hn];exact fin _ _ i8 i9 ((hs0.aD z8).aD z9) hn z8 z9 ((hn.2 _ _).trans ag) ag rfl rfl rfl rfl rfl
 ·refine GT.pJ (its:=[28,9,19]) (by kernel_rfl) ?_;refine RE.seg (n:=0) [9,19] [28] [⟨(.some 8),(.alloc 57 7 (.agg [(.int .i64 0),(.int .i64 0),(.int .i64 0),(.int .i64 0),(.int .i64 0),(.int .i64 0),(.int .i64 0)])),.none⟩] rfl rfl ?_;apply sG;simp only [go_sem,seval,a1,aX,nc,ns,a8,a9,hn];refine bz fun i8 σ8 s8 a8 f8=>?_;replace a1:=s8 _ _ a1
  try replace hn:=fQ (ao a9 f8).symm
  try replace a9:=s8 _ _ a9
  have z8:=hs0.none f8;replace hs0:=hs0.trans s8;simp only [go_sem,seval,a1,aX,nc,ns,a8,a9,hn];refine RE.chk rfl rfl rfl rfl rfl trivial (by simp only [go_sem,seval,a1,aX,nc,ns,a8,a9,hn]) ?_;refine RE.chk rfl rfl rfl rfl rfl trivial (by simp only [go_sem,seval,a1,aX,nc,ns,a8,a9,hn]) ?_;refine ⟨?_,?_⟩
  ·refine GT.je (its:=[20,22,24,26,30,32,34]) (by kernel_rfl) ?_;refine RE.az rfl rfl rfl rfl rfl (hof _) ?_;refine RE.seg (n:=0) [] [22,24,26,30,32,34] [⟨(.some 20),(.mov (.t 31)),.none⟩,⟨(.some 32),(.ext 0 (.t 20)),.none⟩,⟨(.some 33),(.ext 1 (.t 20)),.none⟩,⟨(.some 9),(.alloc 24 3 (.agg [(.int .i64 0),(.int .i64 0),(.bool .false)])),.none⟩,⟨.none,(.store 7 (.t 8) (.t 32)),.none⟩,⟨.none,(.store 3 (.t 9) (.t 33)),.none⟩] rfl rfl ?_;apply sG;simp only [go_sem,seval,a1,aX,nc,ns,a8,a9,hn];refine bz fun i9 σ9 s9 a9 f9=>?_;replace a1:=s9 _ _ a1
   try replace hn:=fQ (ao a8 f9)
   try replace a8:=s9 _ _ a8
   have z9:=hs0.none f9;replace hs0:=hs0.trans s9;simp only [go_sem,seval,a1,aX,nc,ns,a8,a9,hn];exact fin _ _ i8 i9 ((hs0.aD z8).aD z9) hn z8 z9 ((hn.2 _ _).trans ag) ag rfl rfl rfl rfl rfl
  ·refine GT.je (its:=[30,9,19,20,22,24,26,32,34]) (by kernel_rfl) ?_;refine RE.seg (n:=0) [9,19,20,22,24,26,32,34] [30] [⟨(.some 9),(.alloc 24 3 (.agg [(.int .i64 0),(.int .i64 0),(.bool .false)])),.none⟩] rfl rfl ?_;apply sG;simp only [go_sem,seval,a1,aX,nc,ns,a8,a9,hn];refine bz fun i9 σ9 s9 a9 f9=>?_;replace a1:=s9 _ _ a1
   try replace hn:=fQ (ao a8 f9)
   try replace a8:=s9 _ _ a8
   have z9:=hs0.none f9;replace hs0:=hs0.trans s9;simp only [go_sem,seval,a1,aX,nc,ns,a8,a9,hn];refine RE.chk rfl rfl rfl rfl rfl trivial (by simp only [go_sem,seval,a1,aX,nc,ns,a8,a9,hn]) ?_;refine RE.chk rfl rfl rfl rfl rfl trivial (by simp only [go_sem,seval,a1,aX,nc,ns,a8,a9,hn]) ?_;refine RE.az rfl rfl rfl rfl rfl (hof _) ?_;refine RE.seg (n:=0) [] [22,24,26,32,34] [⟨(.some 20),(.mov (.t 31)),.none⟩,⟨(.some 32),(.ext 0 (.t 20)),.none⟩,⟨(.some 33),(.ext 1 (.t 20)),.none⟩,⟨.none,(.store 7 (.t 8) (.t 32)),.none⟩,⟨.none,(.store 3 (.t 9) (.t 33)),.none⟩] rfl rfl ?_;apply sG;simp only [go_sem,seval,a1,aX,nc,ns,a8,a9,hn];exact fin _ _ i8 i9 ((hs0.aD z8).aD z9) hn z8 z9 ((hn.2 _ _).trans ag) ag rfl rfl rfl rfl rfl
 ·refine GT.pJ (its:=[30,9,19]) (by kernel_rfl) ?_;refine RE.seg (n:=0) [9,19] [30] [⟨(.some 9),(.alloc 24 3 (.agg [(.int .i64 0),(.int .i64 0),(.bool .false)])),.none⟩] rfl rfl ?_;apply sG;simp only [go_sem,seval,a1,aX,nc,ns,a8,a9,hn];refine bz fun i9 σ9 s9 a9 f9=>?_;replace a1:=s9 _ _ a1
  try replace hn:=fQ (ao a8 f9)
  try replace a8:=s9 _ _ a8
  have z9:=hs0.none f9;replace hs0:=hs0.trans s9;simp only [go_sem,seval,a1,aX,nc,ns,a8,a9,hn];refine RE.chk rfl rfl rfl rfl rfl trivial (by simp only [go_sem,seval,a1,aX,nc,ns,a8,a9,hn]) ?_;refine RE.chk rfl rfl rfl rfl rfl trivial (by simp only [go_sem,seval,a1,aX,nc,ns,a8,a9,hn]) ?_;refine ⟨?_,?_⟩
  ·refine GT.je (its:=[20,22,24,26,28,32,34]) (by kernel_rfl) ?_;refine RE.az rfl rfl rfl rfl rfl (hof _) ?_;refine RE.seg (n:=0) [] [22,24,26,28,32,34] [⟨(.some 20),(.mov (.t 31)),.none⟩,⟨(.some 32),(.ext 0 (.t 20)),.none⟩,⟨(.some 33),(.ext 1 (.t 20)),.none⟩,⟨(.some 8),(.alloc 57 7 (.agg [(.int .i64 0),(.int .i64 0),(.int .i64 0),(.int .i64 0),(.int .i64 0),(.int .i64 0),(.int .i64 0)])),.none⟩,⟨.none,(.store 7 (.t 8) (.t 32)),.none⟩,⟨.none,(.store 3 (.t 9) (.t 33)),.none⟩] rfl rfl ?_;apply sG;simp only [go_sem,seval,a1,aX,nc,ns,a8,a9,hn];refine bz fun i8 σ8 s8 a8 f8=>?_;replace a1:=s8 _ _ a1
   try replace hn:=fQ (ao a9 f8).symm
   try replace a9:=s8 _ _ a9
   have z8:=hs0.none f8;replace hs0:=hs0.trans s8;simp only [go_sem,seval,a1,aX,nc,ns,a8,a9,hn];exact fin _ _ i8 i9 ((hs0.aD z8).aD z9) hn z8 z9 ((hn.2 _ _).trans ag) ag rfl rfl rfl rfl rfl
  ·refine GT.je (its:=[28,9,19,20,22,24,26,32,34]) (by kernel_rfl) ?_;refine RE.seg (n:=0) [9,19,20,22,24,26,32,34] [28] [⟨(.some 8),(.alloc 57 7 (.agg [(.int .i64 0),(.int .i64 0),(.int .i64 0),(.int .i64 0),(.int .i64 0),(.int .i64 0),(.int .i64 0)])),.none⟩] rfl rfl ?_;apply sG;simp only [go_sem,seval,a1,aX,nc,ns,a8,a9,hn];refine bz fun i8 σ8 s8 a8 f8=>?_;replace a1:=s8 _ _ a1
   try replace hn:=fQ (ao a9 f8).symm
   try replace a9:=s8 _ _ a9
   have z8:=hs0.none f8;replace hs0:=hs0.trans s8;simp only [go_sem,seval,a1,aX,nc,ns,a8,a9,hn];refine RE.chk rfl rfl rfl rfl rfl trivial (by simp only [go_sem,seval,a1,aX,nc,ns,a8,a9,hn]) ?_;refine RE.chk rfl rfl rfl rfl rfl trivial (by simp only [go_sem,seval,a1,aX,nc,ns,a8,a9,hn]) ?_;refine RE.az rfl rfl rfl rfl rfl (hof _) ?_;refine RE.seg (n:=0) [] [22,24,26,32,34] [⟨(.some 20),(.mov (.t 31)),.none⟩,⟨(.some 32),(.ext 0 (.t 20)),.none⟩,⟨(.some 33),(.ext 1 (.t 20)),.none⟩,⟨.none,(.store 7 (.t 8) (.t 32)),.none⟩,⟨.none,(.store 3 (.t 9) (.t 33)),.none⟩] rfl rfl ?_;apply sG;simp only [go_sem,seval,a1,aX,nc,ns,a8,a9,hn];exact fin _ _ i8 i9 ((hs0.aD z8).aD z9) hn z8 z9 ((hn.2 _ _).trans ag) ag rfl rfl rfl rfl rfl
end Go.Vc
