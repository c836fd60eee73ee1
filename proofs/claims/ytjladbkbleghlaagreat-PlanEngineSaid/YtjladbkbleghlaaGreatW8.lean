/- Part 8 of the library of this proof. -/
import Derived.Test.YtjladbkbleghlaaGreatW7
set_option linter.all false
set_option maxHeartbeats 8000000
set_option maxRecDepth 100000
namespace Go.Vc
open Go.Proofs Go.Proofs.Tryz
def zo(l:List Nd)(of:List Int):List Int:=(List.range (of.length+1)).map (qV l of)
def JX(l:List Nd)(hl:ed l)(hb:Qy l=true)(of:List Int)(QU:of.length<=1000000)(Q7:∀x∈of,0<=x/\x<l.length)(hm:qZ l of=true):
 bb prog 96 [aQ l,bD of] (.PN [bD (zo l of),vI 0]):=λU=>by
 refine e96.r (by simp[c96]) ?_;have hs:=aa.refl U;have Tj:=fU of;refine ae.mix 11 ?_;apply sR;simp only[go_sem,seval,c96];refine ae.aC rfl rfl rfl (pr l hl hb of QU hm _) ?_;have q0:((0:Int)≠0)=False:=PF (λh=>h rfl);have r0:PY .i64 ((of.length:Int)+1):=ar;apply sR;simp only[go_sem,seval,q0,Tj,r0];refine ae.jd (λst=>aa U st.U/\aU U st.U 3 1 (st.s 7) ((zo l of).map vI))
  (λm st=>∃j:Nat,j<=of.length+1/\m=of.length+1-j/\aa U st.U/\aU U st.U 3 1 (st.s 7) (((List.range j).map (qV l of)).map vI)/\st.s 0=aQ l/\st.s 1=bD of/\st.s 19=vI ((of.length:Int)+1)/\st.s 20=vI j) (of.length+1) ?_ ?_ ?_
 .exact⟨0,by omega,rfl,hs,aU.start,rfl,rfl,rfl,rfl⟩
 .clear hs;rintro m ⟨S,J⟩ ⟨j,hj,rfl,hs,ho,t0,t1,t19,t20⟩;simp only at hs ho t0 t1 t19 t20;generalize Zn:S 7=v7 at ho;refine ae.mix 11 ?_;by_cases H':j<of.length+1
  .have q:((j:Int)<of.length+1)=True:=PK;have r1:PY .i64 ((j:Int)+1):=ar;have Qu:(((List.range (j+1)).map (qV l of)).map vI)=(((List.range j).map (qV l of)).map vI)++[vI (qV l of j)]:=by
    rw[List.range_succ];simp
   have Vf:(((List.range j).map (qV l of)).map vI).length=j:=by simp
   apply sR;simp only[go_sem,seval,t0,t1,t19,t20,q];refine ae.aC rfl rfl rfl (MW l hl hb of QU Q7 hm j (by omega) _) ?_;generalize ((List.range j).map (qV l of)).map vI=rows at*;apply sR;simp only[go_sem,seval,t0,t1,t19,t20,Zn];refine ad λi32 Z32 s32 a32 f32=>?_;obtain⟨PU,QW,QJ,W4,Wn⟩:=ho.BD s32;have QD:(rows.length+1)*9<=140737488355328:=by omega
   simp only[go_sem,seval,t0,t1,t19,t20,Zn,QW,dj a32,QD];refine ep λi33 Z33 s33 a33 f33=>?_;have k33:=(QJ U (aa.refl _) Z32 (hs.trans s32)).trans s33;have n33:U i33=none:=(hs.trans s32).none f33;simp only[go_sem,seval,t0,t1,t19,t20,r1];refine⟨_,?_,j+1,by omega,rfl,k33,?_,by simp[t0,t1,t19]⟩
   .omega
   .rw[Qu];exact aU.new (by simp) a33 n33
  .have q:((j:Int)<of.length+1)=False:=PF;have Rf:j=of.length+1:=by omega
   subst Rf;apply sR;simp only[go_sem,seval,t0,t1,t19,t20,q];exact⟨hs,Zn▸ho⟩
 .rintro⟨S,J⟩ ⟨hs,ho⟩;simp only at hs ho;generalize Zn:S 7=v7 at ho;refine ae.mix 11 ?_;apply sR;simp only[go_sem,seval,Zn];exact⟨_,U,hs,Wk.PN (vs':=[bD (zo l of),vI 0]) ⟨ho.wk (aa.refl _) hs,Wk.refl hs _,trivial⟩,rfl,rfl⟩
open Go.Proofs Go.Proofs.Tryz
structure RX where
 (cls forced rank:Int)
deriving DecidableEq
def fT(x:RX):V:=.agg [vI x.cls,vI x.forced,vI x.rank]
def bV(l:List RX):V:=.sl 3 (l.map fT)
def bu(l:List RX):(bV l).cells=[bV l]:=rfl
def bt(l:List RX):(bV l).stays=true:=rfl
def B5(l:List RX):dR false (bV l)=some (.int .i64 l.length):=by simp[bV,dR]
def uO{U:ag}{l:List RX}{i:Nat}(h:i<l.length):bS U 3 (bV l) (.int .i64 i)=some (.rp (fT l[i])):=by simp[bV,bS,h,fT]
def qn(of:List Int)(k:Nat):Int:=if k=0 then 0 else if k=of.length then 3 else if of.getD k 0=of.getD (k-1) 0 then 2 else 1
def Ih(of:List Int)(QU:of.length<=1000000)(k:Nat)(hk:k<=of.length):bb prog 97 [bD of,vI k] (vI (qn of k)):=λU=>by
 refine e97.r (by simp[c97]) ?_;have Tj:=fU of;refine ae.mix 6 ?_;unfold qn;rcases Nat.eq_zero_or_pos k with rfl|h0
 .have q1:(((0:Nat):Int)=0)=True:=PK rfl;apply sR;simp only[go_sem,seval,c97,q1];exact av.same rfl
 have q1:((k:Int)=0)=False:=PF;rw[aH (by omega)];by_cases R0:k=of.length
 .have q2:((k:Int)=of.length)=True:=PK;rw[aE R0];apply sR;simp only[go_sem,seval,c97,q1,q2,Tj];exact av.same rfl
 have q2:((k:Int)=of.length)=False:=PF;rw[aH R0];have h1:k<of.length:=by omega
 have q5:=ar (m:=((k-1:Nat):Int)) (by omega) (by omega);have q6:((k:Int)-1)=((k-1:Nat):Int):=by omega
 have q7:=λU=>iZ (U:=U) h1;have q8:=λU=>iZ (U:=U) (l:=of) (i:=k-1) (by omega);have g1:of.getD k 0=of[k]:=by simp[h1]
 have g2:of.getD (k-1) 0=of[k-1]:=by
  have:k-1<of.length:=by omega
  simp[this]
 rw[g1,g2];by_cases h2:of[k]=of[k-1]
 .have q9:(of[k]=of[k-1])=True:=PK h2;rw[aE h2];apply sR;simp only[go_sem,seval,c97,q1,q2,Tj,q5,q6,q7,q8,q9];exact av.same rfl
 .have q9:(of[k]=of[k-1])=False:=PF h2;rw[aH h2];apply sR;simp only[go_sem,seval,c97,q1,q2,Tj,q5,q6,q7,q8,q9];exact av.same rfl
open Go.Proofs Go.Proofs.Tryz
def Xi(l:List Nd)(of:List Int)(k:Nat):RX:=⟨qn of k,jJ l of k,if jJ l of k=0 then qV l of k else 0⟩
def qd(l:List Nd)(of:List Int):List RX:=(List.range (of.length+1)).map (Xi l of)
def IN{U:ag}{f:Nat->Int}{n j:Nat}(h:j<n):bS U 1 (bD ((List.range n).map f)) (.int .i64 j)=some (.rp (vI (f j))):=by
 rw[iZ (by simpa using h)];simp
def KE(l:List Nd)(hl:ed l)(hb:Qy l=true)(of:List Int)(QU:of.length<=1000000)(Q7:∀x∈of,0<=x/\x<l.length)(hm:qZ l of=true):
 bb prog 58 [aQ l,bD of] (.PN [bV (qd l of),vI 0]):=λU=>by
 refine e58.r (by simp[c58]) ?_;have hs:=aa.refl U;have Tj:=fU of;refine ae.mix 14 ?_;apply sR;simp only[go_sem,seval,c58];refine ae.aC rfl rfl rfl (pr l hl hb of QU hm _) ?_;have q0:((0:Int)≠0)=False:=PF (λh=>h rfl);have r0:PY .i64 ((of.length:Int)+1):=ar;apply sR;simp only[go_sem,seval,q0,Tj,r0];refine ae.aC rfl rfl rfl (Li l hl hb of QU Q7 hm _) ?_;apply sR;simp only[go_sem,seval];refine ae.aC rfl rfl rfl (JX l hl hb of QU Q7 hm _) ?_;apply sR;simp only[go_sem,seval,Tj,r0];refine ae.jd (λst=>aa U st.U/\aU U st.U 120 3 (st.s 11) ((qd l of).map fT))
  (λm st=>∃j:Nat,j<=of.length+1/\m=of.length+1-j/\aa U st.U/\aU U st.U 120 3 (st.s 11) (((List.range j).map (Xi l of)).map fT)/\st.s 0=aQ l/\st.s 1=bD of/\st.s 7=bD (Ax l of)/\st.s 9=bD (zo l of)/\st.s 34=vI ((of.length:Int)+1)/\st.s 35=vI j) (of.length+1) ?_ ?_ ?_
 .exact⟨0,by omega,rfl,hs,aU.start,rfl,rfl,rfl,rfl,rfl,rfl⟩
 .clear hs;rintro m ⟨S,J⟩ ⟨j,hj,rfl,hs,ho,t0,t1,t7,t9,t34,t35⟩;simp only at hs ho t0 t1 t7 t9 t34 t35;generalize VJ:S 11=v11 at ho;refine ae.mix 14 ?_;by_cases H':j<of.length+1
  .have q:((j:Int)<of.length+1)=True:=PK;have r1:PY .i64 ((j:Int)+1):=ar;have Qu:(((List.range (j+1)).map (Xi l of)).map fT)=(((List.range j).map (Xi l of)).map fT)++[fT (Xi l of j)]:=by
    rw[List.range_succ];simp
   have Vf:(((List.range j).map (Xi l of)).map fT).length=j:=by simp
   have hi7:∀U,bS U 1 (bD (Ax l of)) (.int .i64 j)=some (.rp (vI (jJ l of j))):=λU=>IN H';have hi9:∀U,bS U 1 (bD (zo l of)) (.int .i64 j)=some (.rp (vI (qV l of j))):=λU=>IN H';apply sR;simp only[go_sem,seval,t0,t1,t7,t9,VJ,t34,t35,q];refine Go.bZ rfl rfl rfl (Ih of QU j (by omega)) ?_;apply sG;simp only[go_sem,seval,t0,t1,t7,t9,VJ,t34,t35,hi7];refine bc λVI Y13 s13 R5 f13=>?_;by_cases hz:jJ l of j=0
   .have q2:(jJ l of j=0)=True:=PK hz;have To:fT (Xi l of j)=.agg [vI (qn of j),vI (jJ l of j),vI (qV l of j)]:=by rw[Xi,aE hz];rfl
    simp only[go_sem,seval,R5,t0,t1,t7,t9,VJ,t34,t35,hi7,hi9,q2];generalize Zo:C' _ VI _=Z13;have Xj:aa J Z13:=by rw[<-Zo];exact s13.aD f13
    clear Zo;refine ad λi58 Z58 s58 a58 f58=>?_;obtain⟨PU,QW,QJ,W4,Wn⟩:=ho.BD (Xj.trans s58);generalize ((List.range j).map (Xi l of)).map fT=rows at*;have QD:(rows.length+1)*25<=140737488355328:=by omega
    simp only[go_sem,seval,t0,t1,t7,t9,VJ,t34,t35,QW,dj a58,QD];refine ep λi59 Z59 s59 a59 f59=>?_;have k59:=(QJ U (aa.refl _) Z58 (hs.trans (Xj.trans s58))).trans s59;have n59:U i59=none:=(hs.trans (Xj.trans s58)).none f59;simp only[go_sem,seval,t0,t1,t7,t9,t34,t35,r1];refine⟨_,?_,j+1,by omega,rfl,k59,?_,by simp[t0,t1,t7,t9,t34]⟩
    .omega
    .rw[Qu,To];exact aU.new (by simp) a59 n59
   .have q2:(jJ l of j=0)=False:=PF hz;have To:fT (Xi l of j)=.agg [vI (qn of j),vI (jJ l of j),vI 0]:=by rw[Xi,aH hz];rfl
    simp only[go_sem,seval,R5,t0,t1,t7,t9,VJ,t34,t35,hi7,hi9,q2];generalize Zo:C' _ VI _=Z13;have Xj:aa J Z13:=by rw[<-Zo];exact s13.aD f13
    clear Zo;refine ad λi58 Z58 s58 a58 f58=>?_;obtain⟨PU,QW,QJ,W4,Wn⟩:=ho.BD (Xj.trans s58);generalize ((List.range j).map (Xi l of)).map fT=rows at*;have QD:(rows.length+1)*25<=140737488355328:=by omega
    simp only[go_sem,seval,t0,t1,t7,t9,VJ,t34,t35,QW,dj a58,QD];refine ep λi59 Z59 s59 a59 f59=>?_;have k59:=(QJ U (aa.refl _) Z58 (hs.trans (Xj.trans s58))).trans s59;have n59:U i59=none:=(hs.trans (Xj.trans s58)).none f59;simp only[go_sem,seval,t0,t1,t7,t9,t34,t35,r1];refine⟨_,?_,j+1,by omega,rfl,k59,?_,by simp[t0,t1,t7,t9,t34]⟩
    .omega
    .rw[Qu,To];exact aU.new (by simp) a59 n59
  .have q:((j:Int)<of.length+1)=False:=PF;have Rf:j=of.length+1:=by omega
   subst Rf;apply sR;simp only[go_sem,seval,t0,t1,t7,t9,t34,t35,q];exact⟨hs,VJ▸ho⟩
 .rintro⟨S,J⟩ ⟨hs,ho⟩;simp only at hs ho;generalize VJ:S 11=v11 at ho;refine ae.mix 14 ?_;apply sR;simp only[go_sem,seval,VJ];exact⟨_,U,hs,Wk.PN (vs':=[bV (qd l of),vI 0]) ⟨ho.wk (aa.refl _) hs,Wk.refl hs _,trivial⟩,rfl,rfl⟩
open Go.Proofs Go.Proofs.Tryz
def mA(x:RX)(first last:Bool):Prop:=
 (first=true->x.cls=0)/\(first=false->last=true->x.cls=3)/\(first=false->last=false->x.cls=1\/x.cls=2)/\
 (x.forced=0\/(2<=x.forced/\x.forced<=4/\x.cls≠3/\x.cls≠2))/\(x.rank=0\/((x.cls=1\/x.cls=2)/\x.forced=0/\0<x.rank/\x.rank<8))
instance (x:RX) (a b:Bool):Decidable (mA x a b):=by unfold mA;infer_instance
def Hs(x:RX)(first last:Bool):bb prog 177 [fT x,.bool first,.bool last] (.bool (decide (mA x first last))):=λU=>by
 refine PA.r (by simp[JP]) ?_;have hs:=aa.refl U;obtain⟨c,f,r⟩:=x;refine ae.mix 9 ?_;apply sR;simp only[go_sem,seval,JP,fT];refine ad λi3 Z3 s3 a3 f3=>?_;have z3:=hs.none f3;replace hs:=hs.trans s3;unfold mA;simp only;have C:c=0\/c=1\/c=2\/c=3\/((c=0)=False/\(c=1)=False/\(c=2)=False/\(c=3)=False/\(c≠0)=True/\(c≠3)=True):=by
  by_cases h0:c=0
  .exact .inl h0
  by_cases h1:c=1
  .exact .inr (.inl h1)
  by_cases h2:c=2
  .exact .inr (.inr (.inl h2))
  by_cases h3:c=3
  .exact .inr (.inr (.inr (.inl h3)))
  .exact .inr (.inr (.inr (.inr ⟨PF h0,PF h1,PF h2,PF h3,PK h0,PK h3⟩)))
 have F:f=0\/((f=0)=False/\((f<2)=True/\(2<=f/\f<=4)=False\/(f<2)=False/\((f>4)=True/\(2<=f/\f<=4)=False\/(f>4)=False/\(2<=f)=True/\(f<=4)=True))):=by
  by_cases h0:f=0
  .exact .inl h0
  refine .inr ⟨PF h0,?_⟩;by_cases h1:f<2
  .exact .inl ⟨PK h1,PF⟩
  refine .inr ⟨PF h1,?_⟩;by_cases h2:f>4
  .exact .inl ⟨PK h2,PF⟩
  .exact .inr ⟨PF h2,PK,PK⟩
 have R:r=0\/((r=0)=False/\((r>0)=False/\(0<r)=False\/(r>0)=True/\(0<r)=True/\((r<8)=True\/(r<8)=False))):=by
  by_cases h0:r=0
  .exact .inl h0
  refine .inr ⟨PF h0,?_⟩;by_cases h1:r>0
  .refine .inr ⟨PK h1,PK h1,?_⟩;by_cases h2:r<8
   .exact .inl (PK h2)
   .exact .inr (PF h2)
  .exact .inl ⟨PF h1,PF⟩
 rcases C with rfl|rfl|rfl|rfl|⟨c0,c1,c2,c3,c4,c5⟩
 .rcases F with rfl|⟨f0,⟨f1,f2⟩|⟨f1,⟨f2,f3⟩|⟨f2,f3,f4⟩⟩⟩
  .cases first
   .cases last
    .simp only[go_sem,seval,a3];exact av.pure hs (by simp)
    .simp only[go_sem,seval,a3];exact av.pure hs (by simp)
   .cases last
    .rcases R with rfl|⟨r0,⟨r1,r2⟩|⟨r1,r2,r3|r3⟩⟩
     .simp only[go_sem,seval,a3];exact av.pure hs (by simp)
     .simp only[go_sem,seval,a3,r0,r1];exact av.pure hs (by simp[r0,r2])
     .simp only[go_sem,seval,a3,r0,r1,r3];exact av.pure hs (by simp[r0,r2,r3])
     .simp only[go_sem,seval,a3,r0,r1,r3];exact av.pure hs (by simp[r0,r2,r3])
    .rcases R with rfl|⟨r0,⟨r1,r2⟩|⟨r1,r2,r3|r3⟩⟩
     .simp only[go_sem,seval,a3];exact av.pure hs (by simp)
     .simp only[go_sem,seval,a3,r0,r1];exact av.pure hs (by simp[r0,r2])
     .simp only[go_sem,seval,a3,r0,r1,r3];exact av.pure hs (by simp[r0,r2,r3])
     .simp only[go_sem,seval,a3,r0,r1,r3];exact av.pure hs (by simp[r0,r2,r3])
  .cases first
   .cases last
    .simp only[go_sem,seval,a3,f0,f1];exact av.pure hs (by simp[f0,f2])
    .simp only[go_sem,seval,a3,f0,f1];exact av.pure hs (by simp[f0,f2])
   .cases last
    .simp only[go_sem,seval,a3,f0,f1];exact av.pure hs (by simp[f0,f2])
    .simp only[go_sem,seval,a3,f0,f1];exact av.pure hs (by simp[f0,f2])
  .cases first
   .cases last
    .simp only[go_sem,seval,a3,f0,f1,f2];exact av.pure hs (by simp[f0,f3])
    .simp only[go_sem,seval,a3,f0,f1,f2];exact av.pure hs (by simp[f0,f3])
   .cases last
    .simp only[go_sem,seval,a3,f0,f1,f2];exact av.pure hs (by simp[f0,f3])
    .simp only[go_sem,seval,a3,f0,f1,f2];exact av.pure hs (by simp[f0,f3])
  .cases first
   .cases last
    .simp only[go_sem,seval,a3,f0,f1,f2];exact av.pure hs (by simp[f0,f3,f4])
    .simp only[go_sem,seval,a3,f0,f1,f2];exact av.pure hs (by simp[f0,f3,f4])
   .cases last
    .rcases R with rfl|⟨r0,⟨r1,r2⟩|⟨r1,r2,r3|r3⟩⟩
     .simp only[go_sem,seval,a3,f0,f1,f2];exact av.pure hs (by simp[f0,f3,f4])
     .simp only[go_sem,seval,a3,f0,f1,f2,r0,r1];exact av.pure hs (by simp[f0,f3,f4,r0,r2])
     .simp only[go_sem,seval,a3,f0,f1,f2,r0,r1,r3];exact av.pure hs (by simp[f0,f3,f4,r0,r2,r3])
     .simp only[go_sem,seval,a3,f0,f1,f2,r0,r1,r3];exact av.pure hs (by simp[f0,f3,f4,r0,r2,r3])
    .rcases R with rfl|⟨r0,⟨r1,r2⟩|⟨r1,r2,r3|r3⟩⟩
     .simp only[go_sem,seval,a3,f0,f1,f2];exact av.pure hs (by simp[f0,f3,f4])
     .simp only[go_sem,seval,a3,f0,f1,f2,r0,r1];exact av.pure hs (by simp[f0,f3,f4,r0,r2])
     .simp only[go_sem,seval,a3,f0,f1,f2,r0,r1,r3];exact av.pure hs (by simp[f0,f3,f4,r0,r2,r3])
     .simp only[go_sem,seval,a3,f0,f1,f2,r0,r1,r3];exact av.pure hs (by simp[f0,f3,f4,r0,r2,r3])
 .rcases F with rfl|⟨f0,⟨f1,f2⟩|⟨f1,⟨f2,f3⟩|⟨f2,f3,f4⟩⟩⟩
  .cases first
   .cases last
    .rcases R with rfl|⟨r0,⟨r1,r2⟩|⟨r1,r2,r3|r3⟩⟩
     .simp only[go_sem,seval,a3];exact av.pure hs (by simp)
     .simp only[go_sem,seval,a3,r0,r1];exact av.pure hs (by simp[r0,r2])
     .simp only[go_sem,seval,a3,r0,r1,r3];exact av.pure hs (by simp[r0,r2,r3])
     .simp only[go_sem,seval,a3,r0,r1,r3];exact av.pure hs (by simp[r0,r2,r3])
    .simp only[go_sem,seval,a3];exact av.pure hs (by simp)
   .cases last
    .simp only[go_sem,seval,a3];exact av.pure hs (by simp)
    .simp only[go_sem,seval,a3];exact av.pure hs (by simp)
  .cases first
   .cases last
    .simp only[go_sem,seval,a3,f0,f1];exact av.pure hs (by simp[f0,f2])
    .simp only[go_sem,seval,a3,f0,f1];exact av.pure hs (by simp[f0,f2])
   .cases last
    .simp only[go_sem,seval,a3,f0,f1];exact av.pure hs (by simp[f0,f2])
    .simp only[go_sem,seval,a3,f0,f1];exact av.pure hs (by simp[f0,f2])
  .cases first
   .cases last
    .simp only[go_sem,seval,a3,f0,f1,f2];exact av.pure hs (by simp[f0,f3])
    .simp only[go_sem,seval,a3,f0,f1,f2];exact av.pure hs (by simp[f0,f3])
   .cases last
    .simp only[go_sem,seval,a3,f0,f1,f2];exact av.pure hs (by simp[f0,f3])
    .simp only[go_sem,seval,a3,f0,f1,f2];exact av.pure hs (by simp[f0,f3])
  .cases first
   .cases last
    .rcases R with rfl|⟨r0,⟨r1,r2⟩|⟨r1,r2,r3|r3⟩⟩
     .simp only[go_sem,seval,a3,f0,f1,f2];exact av.pure hs (by simp[f0,f3,f4])
     .simp only[go_sem,seval,a3,f0,f1,f2,r0,r1];exact av.pure hs (by simp[f0,f3,f4,r0,r2])
     .simp only[go_sem,seval,a3,f0,f1,f2,r0,r1,r3];exact av.pure hs (by simp[f0,f3,f4,r0,r2,r3])
     .simp only[go_sem,seval,a3,f0,f1,f2,r0,r1,r3];exact av.pure hs (by simp[f0,f3,f4,r0,r2,r3])
    .simp only[go_sem,seval,a3,f0,f1,f2];exact av.pure hs (by simp[f0,f3,f4])
   .cases last
    .simp only[go_sem,seval,a3,f0,f1,f2];exact av.pure hs (by simp[f0,f3,f4])
    .simp only[go_sem,seval,a3,f0,f1,f2];exact av.pure hs (by simp[f0,f3,f4])
 .rcases F with rfl|⟨f0,⟨f1,f2⟩|⟨f1,⟨f2,f3⟩|⟨f2,f3,f4⟩⟩⟩
  .cases first
   .cases last
    .rcases R with rfl|⟨r0,⟨r1,r2⟩|⟨r1,r2,r3|r3⟩⟩
     .simp only[go_sem,seval,a3];exact av.pure hs (by simp)
     .simp only[go_sem,seval,a3,r0,r1];exact av.pure hs (by simp[r0,r2])
     .simp only[go_sem,seval,a3,r0,r1,r3];exact av.pure hs (by simp[r0,r2,r3])
     .simp only[go_sem,seval,a3,r0,r1,r3];exact av.pure hs (by simp[r0,r2,r3])
    .simp only[go_sem,seval,a3];exact av.pure hs (by simp)
   .cases last
    .simp only[go_sem,seval,a3];exact av.pure hs (by simp)
    .simp only[go_sem,seval,a3];exact av.pure hs (by simp)
  .cases first
   .cases last
    .simp only[go_sem,seval,a3,f0,f1];exact av.pure hs (by simp[f0,f2])
    .simp only[go_sem,seval,a3,f0,f1];exact av.pure hs (by simp[f0,f2])
   .cases last
    .simp only[go_sem,seval,a3,f0,f1];exact av.pure hs (by simp[f0,f2])
    .simp only[go_sem,seval,a3,f0,f1];exact av.pure hs (by simp[f0,f2])
  .cases first
   .cases last
    .simp only[go_sem,seval,a3,f0,f1,f2];exact av.pure hs (by simp[f0,f3])
    .simp only[go_sem,seval,a3,f0,f1,f2];exact av.pure hs (by simp[f0,f3])
   .cases last
    .simp only[go_sem,seval,a3,f0,f1,f2];exact av.pure hs (by simp[f0,f3])
    .simp only[go_sem,seval,a3,f0,f1,f2];exact av.pure hs (by simp[f0,f3])
  .cases first
   .cases last
    .simp only[go_sem,seval,a3,f0,f1,f2];exact av.pure hs (by simp[f0,f3,f4])
    .simp only[go_sem,seval,a3,f0,f1,f2];exact av.pure hs (by simp[f0,f3,f4])
   .cases last
    .simp only[go_sem,seval,a3,f0,f1,f2];exact av.pure hs (by simp[f0,f3,f4])
    .simp only[go_sem,seval,a3,f0,f1,f2];exact av.pure hs (by simp[f0,f3,f4])
 .rcases F with rfl|⟨f0,⟨f1,f2⟩|⟨f1,⟨f2,f3⟩|⟨f2,f3,f4⟩⟩⟩
  .cases first
   .cases last
    .simp only[go_sem,seval,a3];exact av.pure hs (by simp)
    .rcases R with rfl|⟨r0,⟨r1,r2⟩|⟨r1,r2,r3|r3⟩⟩
     .simp only[go_sem,seval,a3];exact av.pure hs (by simp)
     .simp only[go_sem,seval,a3,r0,r1];exact av.pure hs (by simp[r0,r2])
     .simp only[go_sem,seval,a3,r0,r1,r3];exact av.pure hs (by simp[r0,r2,r3])
     .simp only[go_sem,seval,a3,r0,r1,r3];exact av.pure hs (by simp[r0,r2,r3])
   .cases last
    .simp only[go_sem,seval,a3];exact av.pure hs (by simp)
    .simp only[go_sem,seval,a3];exact av.pure hs (by simp)
  .cases first
   .cases last
    .simp only[go_sem,seval,a3,f0,f1];exact av.pure hs (by simp[f0,f2])
    .simp only[go_sem,seval,a3,f0,f1];exact av.pure hs (by simp[f0,f2])
   .cases last
    .simp only[go_sem,seval,a3,f0,f1];exact av.pure hs (by simp[f0,f2])
    .simp only[go_sem,seval,a3,f0,f1];exact av.pure hs (by simp[f0,f2])
  .cases first
   .cases last
    .simp only[go_sem,seval,a3,f0,f1,f2];exact av.pure hs (by simp[f0,f3])
    .simp only[go_sem,seval,a3,f0,f1,f2];exact av.pure hs (by simp[f0,f3])
   .cases last
    .simp only[go_sem,seval,a3,f0,f1,f2];exact av.pure hs (by simp[f0,f3])
    .simp only[go_sem,seval,a3,f0,f1,f2];exact av.pure hs (by simp[f0,f3])
  .cases first
   .cases last
    .simp only[go_sem,seval,a3,f0,f1,f2];exact av.pure hs (by simp[f0,f3,f4])
    .simp only[go_sem,seval,a3,f0,f1,f2];exact av.pure hs (by simp[f0,f3,f4])
   .cases last
    .simp only[go_sem,seval,a3,f0,f1,f2];exact av.pure hs (by simp[f0,f3,f4])
    .simp only[go_sem,seval,a3,f0,f1,f2];exact av.pure hs (by simp[f0,f3,f4])
 .rcases F with rfl|⟨f0,⟨f1,f2⟩|⟨f1,⟨f2,f3⟩|⟨f2,f3,f4⟩⟩⟩
  .cases first
   .cases last
    .simp only[go_sem,seval,a3,c0,c1,c2,c3,c4,c5];exact av.pure hs (by simp[c0,c1,c2,c3,c4,c5])
    .simp only[go_sem,seval,a3,c0,c1,c2,c3,c4,c5];exact av.pure hs (by simp[c0,c1,c2,c3,c4,c5])
   .cases last
    .simp only[go_sem,seval,a3,c0,c1,c2,c3,c4,c5];exact av.pure hs (by simp[c0,c1,c2,c3,c4,c5])
    .simp only[go_sem,seval,a3,c0,c1,c2,c3,c4,c5];exact av.pure hs (by simp[c0,c1,c2,c3,c4,c5])
  .cases first
   .cases last
    .simp only[go_sem,seval,a3,c0,c1,c2,c3,c4,c5,f0,f1];exact av.pure hs (by simp[c0,c1,c2,c3,c4,c5,f0,f2])
    .simp only[go_sem,seval,a3,c0,c1,c2,c3,c4,c5,f0,f1];exact av.pure hs (by simp[c0,c1,c2,c3,c4,c5,f0,f2])
   .cases last
    .simp only[go_sem,seval,a3,c0,c1,c2,c3,c4,c5,f0,f1];exact av.pure hs (by simp[c0,c1,c2,c3,c4,c5,f0,f2])
    .simp only[go_sem,seval,a3,c0,c1,c2,c3,c4,c5,f0,f1];exact av.pure hs (by simp[c0,c1,c2,c3,c4,c5,f0,f2])
  .cases first
   .cases last
    .simp only[go_sem,seval,a3,c0,c1,c2,c3,c4,c5,f0,f1,f2];exact av.pure hs (by simp[c0,c1,c2,c3,c4,c5,f0,f3])
    .simp only[go_sem,seval,a3,c0,c1,c2,c3,c4,c5,f0,f1,f2];exact av.pure hs (by simp[c0,c1,c2,c3,c4,c5,f0,f3])
   .cases last
    .simp only[go_sem,seval,a3,c0,c1,c2,c3,c4,c5,f0,f1,f2];exact av.pure hs (by simp[c0,c1,c2,c3,c4,c5,f0,f3])
    .simp only[go_sem,seval,a3,c0,c1,c2,c3,c4,c5,f0,f1,f2];exact av.pure hs (by simp[c0,c1,c2,c3,c4,c5,f0,f3])
  .cases first
   .cases last
    .simp only[go_sem,seval,a3,c0,c1,c2,c3,c4,c5,f0,f1,f2];exact av.pure hs (by simp[c0,c1,c2,c3,c4,c5,f0,f3,f4])
    .simp only[go_sem,seval,a3,c0,c1,c2,c3,c4,c5,f0,f1,f2];exact av.pure hs (by simp[c0,c1,c2,c3,c4,c5,f0,f3,f4])
   .cases last
    .simp only[go_sem,seval,a3,c0,c1,c2,c3,c4,c5,f0,f1,f2];exact av.pure hs (by simp[c0,c1,c2,c3,c4,c5,f0,f3,f4])
    .simp only[go_sem,seval,a3,c0,c1,c2,c3,c4,c5,f0,f1,f2];exact av.pure hs (by simp[c0,c1,c2,c3,c4,c5,f0,f3,f4])
open Go.Proofs Go.Proofs.Tryz
def Rz(b:List RX)(i:Nat):RX:=b.getD i ⟨0,0,0⟩
def gw(b:List RX)(i:Nat):Bool:=decide (mA (Rz b i) (decide ((i:Int)=0)) (decide ((i:Int)=(b.length:Int)-1)))
def sQ(b:List RX):Bool:=(List.range b.length).all (gw b)&&decide ((b.length:Int)>0)
def D4{b:List RX}{j:Nat}(h:(List.range j).all (gw b)=true)(hr:gw b j=true):(List.range (j+1)).all (gw b)=true:=by
 rw[List.range_succ,List.all_append,h];simp[hr]
def Jp(b:List RX)(hb:b.length<=1000000):bb prog 155 [bV b] (.bool (sQ b)):=λU=>by
 refine NG.r (by simp[Mc]) ?_;have Xe:=B5 b;refine ae.mix 5 ?_;apply sR;simp only[go_sem,seval,Mc,Xe];refine ae.jd (λst=>aa U st.U/\st.s 0=bV b/\(List.range b.length).all (gw b)=true)
  (λm st=>∃j:Nat,j<=b.length/\m=b.length-j/\aa U st.U/\(List.range j).all (gw b)=true/\st.s 0=bV b/\st.s 5=bV b/\st.s 6=vI b.length/\st.s 7=vI j) b.length ?_ ?_ ?_
 .exact⟨0,by omega,rfl,aa.refl _,rfl,rfl,rfl,rfl,rfl⟩
 .rintro m ⟨S,J⟩ ⟨j,hj,rfl,hs,Qz,t0,t5,t6,t7⟩;simp only at hs t0 t5 t6 t7;refine ae.mix 5 ?_;by_cases H':j<b.length
  .have q:((j:Int)<b.length)=True:=PK;have r1:PY .i64 ((j:Int)+1):=ar;have r2:PY .i64 ((b.length:Int)-1):=ar;have O':=λU=>uO (U:=U) H';have hg:Rz b j=b[j]:=by simp[Rz,H']
   have hra:gw b j=decide (mA b[j] (decide ((j:Int)=0)) (decide ((j:Int)=(b.length:Int)-1))):=by rw[gw,hg]
   apply sR;simp only[go_sem,seval,t0,t5,t6,t7,q,O',fT];refine ad λi4 Z4 s4 a4 f4=>?_;simp only[go_sem,seval,a4,t0,t5,t6,t7,Xe,r2];generalize Tl:C' Z4 i4 _=Y4;have XG:aa J Y4:=by rw[<-Tl];exact s4.aD f4
   clear Tl;refine ae.aC rfl rfl rfl (Hs b[j] (decide ((j:Int)=0)) (decide ((j:Int)=(b.length:Int)-1)) _) ?_;rw[<-hra];cases hv:gw b j
   .apply sR;simp only[go_sem,seval,t0,t5,t6,t7];have hm:sQ b=false:=by
     rw[sQ];have:(List.range b.length).all (gw b)=false:=by
      rw[List.all_eq_false];exact⟨j,List.mem_range.2 H',by simp[hv]⟩
     rw[this];rfl
    exact av.pure (hs.trans XG) (by rw[hm])
   .apply sR;simp only[go_sem,seval,t0,t5,t6,t7,r1];refine⟨_,?_,j+1,by omega,rfl,hs.trans XG,D4 Qz hv,by simp[t0,t5,t6]⟩;omega
  .have q:((j:Int)<b.length)=False:=PF;have Rf:j=b.length:=by omega
   subst Rf;apply sR;simp only[go_sem,seval,t0,t5,t6,t7,q];exact⟨hs,Qz⟩
 .rintro⟨S,J⟩ ⟨hs,t0,Qz⟩;simp only at hs t0 Qz;refine ae.mix 5 ?_;apply sR;simp only[go_sem,seval,t0,Xe];exact av.pure hs (by rw[sQ,Qz];rfl)
open Go.Proofs Go.Proofs.Tryz
def jO(b:List RX)(i:Nat):V:=.agg [vI (Rz b i).cls,vI (Rz b i).forced,vI (Rz b i).rank,vI i]
def sW(b:List RX)(cg to:Int):Nat:=(min to ((b.length:Int)-1)+1-max cg 0).toNat
def UK(b:List RX)(cg to:Int):List Nat:=List.range' (max cg 0).toNat (sW b cg to)
def M5(U:ag)(b:List RX):cj U false 1 (.rp (bV b))=some (bV b):=rfl
def range_split:∀(j s n:Nat),j<n->List.range' s n=List.range' s j++(s+j)::List.range' (s+j+1) (n-j-1)
 |0,s,n+1,_=>by simp[List.range']
 |j+1,s,n+1,h=>by
  have:=range_split j (s+1) n (by omega);rw[List.range',this,List.range'];have e1:s+1+j=s+(j+1):=by omega
  have e2:n-j-1=n+1-(j+1)-1:=by omega
  rw[e1,e2];rfl
def rY(s j:Nat):List.range' s (j+1)=List.range' s j++[s+j]:=by
 rw[range_split j s (j+1) (by omega),show j+1-j-1=0 by omega];rfl
def Ez(b:List RX)(hb:b.length<=1000000)(cg to:Int):Iter prog 115 [.rp (vI cg),.rp (vI to),.rp (bV b)] ((UK b cg to).map λi=>[jO b i]):=by
 refine⟨Nq.c,λQe τ Jx Z0 hy hJ=>?_⟩;refine(Nq.r (by simp[Mb]) ?_).2;have Xe:=B5 b;refine ae.mix 6 ?_;apply sR;simp only[go_sem,seval,Mb,dy];obtain⟨s,hsv⟩:∃s:Nat,s=(max cg 0).toNat:=⟨_,rfl⟩
 have QP:max cg 0=(s:Int):=by omega
 obtain⟨n,hnv⟩:∃n:Nat,n=sW b cg to:=⟨_,rfl⟩
 have hn1:∀j:Nat,(((s+j:Nat):Int)<=min to ((b.length:Int)-1))↔j<n:=λj=>by rw[hnv,sW,QP];omega
 rw[UK,<-hsv,<-hnv]at hy|-;rw[QP];refine ae.loop (λm st=>∃(j:Nat) (ZJ:ag),j<=n/\m=n-j/\τ ((List.range' s j).map λi=>[jO b i]) ZJ/\aa ZJ st.U/\st.s 0=.yl Qe/\st.s 1=.rp (vI cg)/\st.s 2=.rp (vI to)/\st.s 3=.rp (bV b)/\st.s 5=vI (s+j:Nat)) n ?_ ?_
 .exact⟨0,Z0,by omega,rfl,by simpa using hJ,aa.refl _,rfl,rfl,rfl,rfl,rfl⟩
 .rintro m ⟨S,J⟩ ⟨j,ZJ,hj,rfl,Ry,G',t0,t1,t2,t3,t5⟩;simp only at G' t0 t1 t2 t3 t5;refine ae.mix 6 ?_;have r2:PY .i64 ((b.length:Int)-1):=ar;by_cases H':j<n
  .have hle:=(hn1 j).2 H';have QX:s+j<b.length:=by omega
   have q:(((s+j:Nat):Int)<=min to ((b.length:Int)-1))=True:=PK hle;have r1:PY .i64 (((s+j:Nat):Int)+1):=ar;have O':=λU=>uO (U:=U) QX;have hg:Rz b (s+j)=b[s+j]:=by simp[Rz,QX]
   have hfd:jO b (s+j)=.agg [vI b[s+j].cls,vI b[s+j].forced,vI b[s+j].rank,vI (s+j:Nat)]:=by rw[jO,hg]
   have e:((List.range' s n).map λi=>[jO b i])=((List.range' s j).map λi=>[jO b i])++[jO b (s+j)]::((List.range' (s+j+1) (n-j-1)).map λi=>[jO b i]):=by
    rw[range_split j s n H'];simp
   have QF:((List.range' s (j+1)).map λi=>[jO b i])=((List.range' s j).map λi=>[jO b i])++[[jO b (s+j)]]:=by rw[rY];simp
   have q5:s+(j+1)=s+j+1:=by omega
   generalize s+j=sj at*;apply sR;simp only[go_sem,seval,t0,t1,t2,t3,t5,M5,Xe,r2,fo,q,O',fT];rw[<-hfd];refine ae.mZ (Post:=λb' Z2=>∃Qd,bp ZJ J Qd Z2/\((b'=true/\τ (((List.range' s j).map λi=>[jO b i])++[[jO b sj]]) Qd)\/(b'=false/\Jx (((List.range' s j).map λi=>[jO b i])++[[jO b sj]]) Qd))) rfl rfl rfl (hy _ [jO b sj] _ ZJ J e Ry G') ?_;rintro b' Z2 ⟨Qd,QV,QH⟩;rcases QH with⟨rfl,QH⟩|⟨rfl,QH⟩
   .apply sR;simp only[go_sem,seval,t0,t1,t2,t3,t5,r1];refine⟨_,?_,j+1,Qd,by omega,rfl,by rw[QF];exact QH,QV.1,by simp[t0,t1,t2,t3,q5]⟩;omega
   .apply sR;simp only[go_sem,seval,t0,t1,t2,t3,t5];exact⟨_,Qd,QV.1,Wk.refl QV.1 _,.inr ⟨_,⟨_,by rw[e,ly];rfl⟩,QH⟩⟩
  .have q:(((s+j:Nat):Int)<=min to ((b.length:Int)-1))=False:=PF (λh=>H' ((hn1 j).1 h));have Rf:j=n:=by omega
   subst Rf;generalize s+j=sj at*;apply sR;simp only[go_sem,seval,t0,t1,t2,t3,t5,M5,Xe,r2,fo,q];exact⟨_,ZJ,G',Wk.refl G' _,.inl Ry⟩
open Go.Proofs Go.Proofs.Tryz
structure Fd where
 (b:RX)(i:Int)
def gu(x:Fd):V:=.agg [vI x.b.cls,vI x.b.forced,vI x.b.rank,vI x.i]
def gL(ah:Fd->Fd->Bool->Bool)(p:Fd×Bool)(x:Fd):Fd×Bool:=if ah x p.1 p.2 then(x,true)else p
def fS(ah:Fd->Fd->Bool->Bool)(xs:List Fd)(d:Fd):Fd×Bool:=xs.foldl (gL ah) (d,false)
def uE(ah:Fd->Fd->Bool->Bool)(xs:List Fd)(x:Fd)(d:Fd):fS ah (xs++[x]) d=gL ah (fS ah xs d) x:=by simp[fS,wc]
def AL{g f:FuncId}{caps:List V}{xs:List Fd}(Va:Iter prog g caps (xs.map λx=>[gu x]))(d:Fd)(ah:Fd->Fd->Bool->Bool)
 (hf:∀x y s,bb prog f [gu x,gu y,.bool s] (.bool (ah x y s))):
 bb prog 87 [.fn g caps,gu d,.fn f []] (gu (fS ah xs d).1):=λU=>by
 refine e87.r (by simp[c87]) ?_;have hs:=aa.refl U;have Um:(V.fn f []).cells=[.fn f []]:=rfl;have RP:(V.fn f []).stays=true:=rfl;refine ae.mix 10 ?_;apply sR;simp only[go_sem,seval,c87,gu,Um,RP];refine ad λi4 Z4 s4 a4 f4=>?_;have z4:=hs.none f4;replace hs:=hs.trans s4;simp only[go_sem,seval,Um,RP];refine ad λi5 Z5 s5 a5 f5=>?_;have Rr:=al a4 f5;replace a4:=s5 _ _ a4;have z5:=hs.none f5;replace hs:=hs.trans s5;simp only[go_sem,seval,Um,RP];refine ad λi6 Z6 s6 a6 f6=>?_;have n46:=al a4 f6;replace a4:=s6 _ _ a4;have n56:=al a5 f6;replace a5:=s6 _ _ a5;have z6:=hs.none f6;replace hs:=hs.trans s6;simp only[go_sem,seval,a4,Um,RP];have hs6:=aa.refl Z6;refine ad λi7 Z7 s7 a7 f7=>?_;simp only[go_sem,seval,a7,Um,RP];refine ad λi8 Z8 s8 a8 f8=>?_;have Wg:i7≠i8:=al a7 f8;have b7:=s8 _ _ a7;simp only[go_sem,seval,b7,a8,ab Wg,ab Wg.symm,Um,RP];generalize hS:mix 10 _ _=S;have S5:S 5=.ptr i5 0 0:=by rw[<-hS];rfl
 have S6:S 6=.ptr i6 0 0:=by rw[<-hS];rfl
 have S7:S 7=.ptr i7 0 0:=by rw[<-hS];rfl
 have S8:S 8=.ptr i8 0 0:=by rw[<-hS];rfl
 have S11:S 11=.fn g caps:=by rw[<-hS];rfl
 clear hS;refine ae.fk (g:=.t 11) (caps:=caps) S11 Va (λy hy=>?_) [] (λpre ZJ=>ZJ i7=some ⟨168,4,[gu (fS ah (xs.take pre.length) d).1]⟩/\ZJ i8=some ⟨4,1,[.bool (fS ah (xs.take pre.length) d).2]⟩/\aa Z6 ZJ)
  (λ_ _ _=>False) ?_ ?_ ?_ ?_ ?_
 .obtain⟨t,_,rfl⟩:=fM.1 hy;rfl
 .refine⟨(ab Wg).trans af,af,?_⟩;have h7:=(s7.trans s8).aD (id:=i7) (o:=⟨168,4,[.agg [vI d.b.cls,vI d.b.forced,vI d.b.rank,vI d.i]]⟩) f7;exact h7.aD (s7.none f8)
 .rintro pre y post ZJ ZB Sb ⟨J7,J8,Js⟩ G';obtain⟨t,X7,rfl⟩:=pn (f:=gu) Sb;have QF:fS ah (xs.take (pre.length+1)) d=gL ah (fS ah (xs.take pre.length) d) t:=by rw[Ib,X7];exact uE _ _ _ _
  have hlen:(pre++[[gu t]]).length=pre.length+1:=by simp
  rw[hlen,QF];generalize fS ah (xs.take pre.length) d=p at*;obtain⟨p1,p2⟩:=p;simp only at J7 J8;have c7:=G' _ _ J7;have c8:=G' _ _ J8;have c5:=G' _ _ (Js _ _ a5);generalize RI:mI S [12] [gu t]=S0;have T5:S0 5=.ptr i5 0 0:=by rw[<-RI];exact S5
  have T7:S0 7=.ptr i7 0 0:=by rw[<-RI];exact S7
  have T8:S0 8=.ptr i8 0 0:=by rw[<-RI];exact S8
  have T12:S0 12=gu t:=by rw[<-RI];rfl
  clear RI;rw[gu]at c7 T12;refine ae.mix 10 ?_;apply sR;simp only[go_sem,seval,T5,T7,T8,T12];rw[aN];intro i9 f9;have m7:i7≠i9:=al c7 f9;have m8:i8≠i9:=al c8 f9;have m5:i5≠i9:=al c5 f9;simp only[go_sem,seval,T5,T7,T8,T12];have TN:=(bp.refl G').qJ (o:=⟨168,4,[.agg [vI t.b.cls,vI t.b.forced,vI t.b.rank,vI t.i]]⟩) f9;have d7:=(ab (o:=⟨168,4,[.agg [vI t.b.cls,vI t.b.forced,vI t.b.rank,vI t.i]]⟩) m7).trans c7;have d8:=(ab (o:=⟨168,4,[.agg [vI t.b.cls,vI t.b.forced,vI t.b.rank,vI t.i]]⟩) m8).trans c8;have d5:=(ab (o:=⟨168,4,[.agg [vI t.b.cls,vI t.b.forced,vI t.b.rank,vI t.i]]⟩) m5).trans c5;have d9:C' ZB i9 ⟨168,4,[.agg [vI t.b.cls,vI t.b.forced,vI t.b.rank,vI t.i]]⟩ i9=_:=af;generalize C' ZB i9 ⟨168,4,[.agg [vI t.b.cls,vI t.b.forced,vI t.b.rank,vI t.i]]⟩=Y9 at*;apply sR;simp only[go_sem,seval,T5,T7,T8,d5,d7,d8,d9];refine ae.aC rfl rfl rfl (hf t p1 p2 _) ?_;cases hv:ah t p1 p2
  .apply sR;simp only[go_sem,seval,T5,T7,T8];refine⟨_,TN,?_,?_,Js⟩
   .rw[gL,hv];exact J7
   .rw[gL,hv];exact J8
  .apply sR;simp only[go_sem,seval,T5,T7,T8,d5,d7,d8,d9,ab Wg,ab Wg.symm];refine⟨_,(TN.set (id:=i7) J7).set (id:=i8) (by rw[ab Wg.symm];exact J8),?_,?_,?_⟩
   .rw[gL,hv];exact(ab Wg).trans af
   .rw[gL,hv];exact af
   .exact(Js.aD f7).aD (s7.none f8)
 .rintro Z' ⟨J7,J8,Js⟩;rw[du,jK]at J7 J8;rw[gu]at J7;have e6:=Js _ _ a6;refine ae.mix 10 ?_;apply sR;simp only[go_sem,seval,S6,S7,J7,e6];exact av.pure ((hs.trans Js).aD z6) rfl
 .intro id h;cases h
 .rintro pre Z' _ ⟨⟩
open Go.Proofs Go.Proofs.Tryz
def xC(b:List RX)(cg to:Int):bb prog 88 [bV b,vI cg,vI to] (.fn 115 [.rp (vI cg),.rp (vI to),.rp (bV b)]):=λU=>by
 refine e88.r (by simp[c88]) ?_;refine ae.mix 7 ?_;have q1:=bu b;have q2:=bt b;generalize bV b=x at*;apply sR;simp only[go_sem,seval,c88,q1,q2];refine ad λTi Z1 s1 a1 f1=>?_;simp only[go_sem,seval,q1,q2];refine ad λU0 Z2 s2 a2 f2=>?_;simp only[go_sem,seval,q1,q2];refine ad λid3 Z3 s3 a3 f3=>?_;simp only[go_sem,seval,q1,q2];have hs:=(s1.trans s2).trans s3;exact⟨_,U,hs,Wk.fn (vs':=[.rp (vI cg),.rp (vI to),.rp x]) ⟨Wk.ptr hs (s3 _ _ a2) (s1.none f2),Wk.ptr hs a3 ((s1.trans s2).none f3),Wk.ptr hs (s3 _ _ (s2 _ _ a1)) f1,trivial⟩,rfl,rfl⟩
def kO(b:List RX)(i:Nat):Fd:=⟨Rz b i,i⟩
def uT:Fd:=⟨⟨0,0,0⟩,-1⟩
def iQ(x _y:Fd)(s:Bool):Bool:=!s&&decide (x.b.forced≠0)
def jQ(x y:Fd)(s:Bool):Bool:=!s||decide (x.b.rank<=y.b.rank)
def Em(x y:Fd)(s:Bool):bb prog 89 [gu x,gu y,.bool s] (.bool (iQ x y s)):=λU=>by
 refine e89.r (by simp[c89]) ?_;have hs:=aa.refl U;obtain⟨⟨c,f,r⟩,i⟩:=x;obtain⟨⟨c',f',r'⟩,i'⟩:=y;refine ae.mix 7 ?_;apply sR;simp only[go_sem,seval,c89,gu];refine ad λi3 Z3 s3 a3 f3=>?_;have z3:=hs.none f3;replace hs:=hs.trans s3;simp only[go_sem,seval];refine ad λi4 Z4 s4 a4 f4=>?_;have XU:=al a3 f4;replace a3:=s4 _ _ a3;have z4:=hs.none f4;replace hs:=hs.trans s4;cases s
 .by_cases h:f≠0
  .have q:(f≠0)=True:=PK h;simp only[go_sem,seval,a3,a4,q];exact av.pure hs (by simp[iQ,h])
  .have q:(f≠0)=False:=PF h;simp only[go_sem,seval,a3,a4,q];exact av.pure hs (by simp[iQ,h])
 .simp only[go_sem,seval,a3,a4];exact av.pure hs (by simp[iQ])
def Hi(x y:Fd)(s:Bool):bb prog 178 [gu x,gu y,.bool s] (.bool (jQ x y s)):=λU=>by
 refine ON.r (by simp[Jq]) ?_;have hs:=aa.refl U;obtain⟨⟨c,f,r⟩,i⟩:=x;obtain⟨⟨c',f',r'⟩,i'⟩:=y;refine ae.mix 7 ?_;apply sR;simp only[go_sem,seval,Jq,gu];refine ad λi3 Z3 s3 a3 f3=>?_;have z3:=hs.none f3;replace hs:=hs.trans s3;simp only[go_sem,seval];refine ad λi4 Z4 s4 a4 f4=>?_;have XU:=al a3 f4;replace a3:=s4 _ _ a3;have z4:=hs.none f4;replace hs:=hs.trans s4;cases s
 .simp only[go_sem,seval,a3,a4];exact av.pure hs (by simp[jQ])
 .by_cases h:r<=r'
  .have q:(r<=r')=True:=PK h;simp only[go_sem,seval,a3,a4,q];exact av.pure hs (by simp[jQ,h])
  .have q:(r<=r')=False:=PF h;simp only[go_sem,seval,a3,a4,q];exact av.pure hs (by simp[jQ,h])
def fa(b:List RX)(cg to:Int):Int:=(fS iQ ((UK b cg to).map (kO b)) uT).1.i
def Ft(b:List RX)(cg to:Int):Int:=(fS jQ ((UK b cg to).map (kO b)) uT).1.i
def xz(b:List RX)(hb:b.length<=1000000)(cg to:Int):Iter prog 115 [.rp (vI cg),.rp (vI to),.rp (bV b)] (((UK b cg to).map (kO b)).map λx=>[gu x]):=by
 have h:=Ez b hb cg to;rw[List.map_map];exact h
def CU(b:List RX)(hb:b.length<=1000000)(cg to:Int):bb prog 47 [bV b,vI cg,vI to] (vI (fa b cg to)):=λU=>by
 refine e47.r (by simp[c47]) ?_;have hs:=aa.refl U;refine ae.mix 8 ?_;apply sR;simp only[go_sem,seval,c47];refine ae.aC rfl rfl rfl (xC b cg to _) ?_;apply sR;simp only[go_sem,seval];refine ae.aC rfl rfl rfl (AL (xz b hb cg to) uT iQ Em _) ?_;have QG:∀x,(gu x).cells=[vI x.b.cls,vI x.b.forced,vI x.b.rank,vI x.i]:=λ_=>rfl;apply sR;simp only[go_sem,seval,gu];refine ad λi7 Z7 s7 a7 f7=>?_;have z7:=hs.none f7;replace hs:=hs.trans s7;simp only[go_sem,seval,a7];exact av.pure (hs.aD z7) rfl
def LW(b:List RX)(hb:b.length<=1000000)(cg to:Int):bb prog 156 [bV b,vI cg,vI to] (vI (Ft b cg to)):=λU=>by
 refine NK.r (by simp[Kw]) ?_;have hs:=aa.refl U;refine ae.mix 8 ?_;apply sR;simp only[go_sem,seval,Kw];refine ae.aC rfl rfl rfl (xC b cg to _) ?_;apply sR;simp only[go_sem,seval];refine ae.aC rfl rfl rfl (AL (xz b hb cg to) uT jQ Hi _) ?_;apply sR;simp only[go_sem,seval,gu];refine ad λi7 Z7 s7 a7 f7=>?_;have z7:=hs.none f7;replace hs:=hs.trans s7;simp only[go_sem,seval,a7];exact av.pure (hs.aD z7) rfl
open Go.Proofs Go.Proofs.Tryz
structure Kp where
 (Qa:List Int)
 (high body:Int)
def jN(l:List Nd)(x:Kp)(a:Int):Kp:=if(SI l a).head<1\/x.body-(SI l a).head<1 then x else⟨x.Qa++[a],x.high+(SI l a).head,x.body-(SI l a).head⟩
structure KpJ(Z0:ag)(i7:Nat)(x:Kp)(U:ag):Prop where
 row:∃v,U i7=some ⟨149,3,[.agg [v,vI x.high,vI x.body]]⟩/\aU (bo Z0 i7) U 3 1 v (x.Qa.map vI)
 sub:aa Z0 U
 no:Z0 i7=none
def HE(l:List Nd)(hb:Qy l=true)(x:Kp)(hlen:x.Qa.length<=1000000)(h0:0<=x.high)(h1:x.high<=4398046511104)(h2:0<=x.body)(h3:x.body<=4398046511104)(a:Nat)(ha:a<l.length)
 {Z0 ZJ ZB:ag}{i7:Nat}(hJ:KpJ Z0 i7 x ZJ)(G':aa ZJ ZB):
 aB prog 74 [.ptr i7 0 0,aQ l,vI a] ZB λ_ Z'=>∃Qd,bp ZJ ZB Qd Z'/\KpJ Z0 i7 (jN l x a) Qd:=by
 refine e74.r (by simp[c74]) ?_;have Qr:=(gO hb ha).st.head;have Rh:=λU=>ee (U:=U) (l:=l) (a:=a) ha;obtain⟨⟨v,J7,Jo⟩,Js,Jn⟩:=hJ;obtain⟨hds,high,body⟩:=x;simp only at hlen h0 h1 h2 h3 J7 Jo;have Tv:v.cells=[v]:=by rcases Jo with⟨rfl,_⟩|⟨_,rfl,_⟩<;>rfl
 have c7:=G' _ _ J7;unfold jN;rw[j1 ha];simp only;have same:(l[a].st.head<1\/body-l[a].st.head<1)->av (.PN []) ZB λ_ Z'=>∃Qd,bp ZJ ZB Qd Z'/\KpJ Z0 i7 (if l[a].st.head<1\/body-l[a].st.head<1 then⟨hds,high,body⟩else⟨hds++[(a:Int)],high+l[a].st.head,body-l[a].st.head⟩) Qd:=λh=>by
  rw[aE h];exact⟨_,ZB,aa.refl _,Wk.refl (aa.refl _) _,ZJ,bp.refl G',⟨v,J7,Jo⟩,Js,Jn⟩
 refine ae.mix 7 ?_;have r1:PY .i64 (body-l[a].st.head):=ar;have r2:PY .i64 (high+l[a].st.head):=ar;by_cases hn:l[a].st.head<1
 .have q1:(l[a].st.head<1)=True:=PK hn;have fin:=same (.inl hn);generalize hX:(if l[a].st.head<1\/body-l[a].st.head<1 then(⟨hds,high,body⟩:Kp)else⟨hds++[(a:Int)],high+l[a].st.head,body-l[a].st.head⟩)=X at*;apply sR;simp only[go_sem,seval,c74,Rh,Nd.cells,q1,c7,Tv];exact fin
 have q1:(l[a].st.head<1)=False:=PF hn;by_cases hn2:body-l[a].st.head<1
 .have q2:(body-l[a].st.head<1)=True:=PK hn2;have fin:=same (.inr hn2);generalize hX:(if l[a].st.head<1\/body-l[a].st.head<1 then(⟨hds,high,body⟩:Kp)else⟨hds++[(a:Int)],high+l[a].st.head,body-l[a].st.head⟩)=X at*;apply sR;simp only[go_sem,seval,c74,Rh,Nd.cells,q1,r1,q2,c7,Tv];exact fin
 have q2:(body-l[a].st.head<1)=False:=PF hn2;rw[aH (by omega)];clear same;apply sR;simp only[go_sem,seval,c74,Rh,Nd.cells,q1,r1,q2,c7,Tv];rw[aN];intro Tw f28;have VP:(hds.map vI).length<=1000000:=by simpa using hlen
 have Qu:((hds++[(a:Int)]).map vI)=hds.map vI++[vI a]:=by simp
 generalize hds.map vI=rows at*;have TN:=(bp.refl G').qJ (o:=⟨3,1,[vI (a:Int)]⟩) f28;have y2:C' ZB Tw ⟨3,1,[vI (a:Int)]⟩ i7=_:=(ab (al c7 f28)).trans c7;have a28:C' ZB Tw ⟨3,1,[vI (a:Int)]⟩ Tw=some ⟨3,1,[vI (a:Int)]⟩:=af;generalize C' ZB Tw ⟨3,1,[vI (a:Int)]⟩=Z8 at*;obtain⟨PU,QW,Ts⟩:=Jo.Ef TN.1;have QD:(rows.length+1)*9<=140737488355328:=by omega
 have k2:bo Z0 i7 i7≠none:=λh=>(aL.1 h).1 rfl;have Tb:∀(i:Nat) (Zx:ag),bo Z0 i7 i≠none->Vc.bI Zx PU i=Zx i:=λi Zx hk=>by
  cases PU with
  |none=>rfl
  |some a=>exact dN (λe=>hk (by rw[e];exact(Ts a rfl).1))
 simp only[go_sem,seval,QW,dj a28,QD];rw[aN];intro RJ f29;have f29:Z8 RJ=none:=f29;have XD:i7≠RJ:=al y2 f29;have Ze:Vc.bI Z8 PU RJ=none:=by
  cases PU with
  |none=>exact f29
  |some a=>simp only[Vc.bI,del];split<;>first|rfl|exact f29
 have y2':C' (Vc.bI Z8 PU) RJ ⟨3,1,rows++[vI (a:Int)]⟩ i7=some ⟨149,3,[.agg [v,vI high,vI body]]⟩:=by rw[ab XD,Tb _ _ k2];exact y2
 have hB9:=((TN.D1 (e:=PU) λi h=>(Ts i h).2).new (o:=⟨3,1,rows++[vI (a:Int)]⟩) Ze).set (id:=i7) (o:=⟨149,3,[.agg [v,vI high,vI body]]⟩) (o':=⟨149,3,[.agg [.own RJ 0 (rows.length+1),vI (high+l[a].st.head),vI (body-l[a].st.head)]]⟩) (by rw[ab XD,Tb _ _ k2];exact J7);simp only[go_sem,seval,Tv,y2',r1,r2];refine⟨_,_,aa.refl _,Wk.refl (aa.refl _) _,_,hB9,⟨.own RJ 0 (rows.length+1),af,?_⟩,?_,Jn⟩
 .rw[Qu];refine aU.new (by simp) (by rw[ab XD.symm,af]) ?_;rw[aL];refine⟨XD.symm,?_⟩;cases h:Z0 RJ with
  |none=>rfl
  |some o=>rw[TN.1 _ _ (Js _ _ h)]at f29;cases f29
 .refine aa.aD (λi o h=>?_) Jn;have h1:=Js _ _ h;rw[ab (al (TN.1 _ _ h1) f29),Tb _ _ (λhk=>by rw[(aL.1 hk).2]at h;cases h)];exact h1
open Go.Proofs Go.Proofs.Tryz
def bwd(L:List Int):List (List V):=(List.range' 0 L.length).map λq=>[vI ((L.length-1-q:Nat):Int),vI (L.getD (L.length-1-q) 0)]
def E4(L:List Int)(hL:L.length<=1000000):Iter prog 108 [.rp (bD L)] (bwd L):=by
 refine⟨M9.c,λQe τ Jx Z0 hy hJ=>?_⟩;refine(M9.r (by simp[JB]) ?_).2;have hlL:=fU L;have ldI:∀(U:ag) (X:List Int),cj U false 1 (.rp (bD X))=some (bD X):=λU X=>rfl;have r2:PY .i64 ((L.length:Int)-1):=ar;refine ae.mix 4 ?_;apply sR;simp only[go_sem,seval,JB,ldI,hlL,r2];generalize hT:bwd L=T at hy|-
 let F:Nat->List V:=λq=>[vI ((L.length-1-q:Nat):Int),vI (L.getD (L.length-1-q) 0)]
 have hTF:T=(List.range' 0 L.length).map F:=hT.symm;refine ae.loop (λm st=>∃(j:Nat) (ZJ:ag),j<=L.length/\m=L.length-j/\τ ((List.range' 0 j).map F) ZJ/\aa ZJ st.U/\st.s 0=.yl Qe/\st.s 1=.rp (bD L)/\st.s 3=vI ((L.length:Int)-1-j)) L.length ?_ ?_
 .exact⟨0,Z0,by omega,rfl,by simpa using hJ,aa.refl _,rfl,rfl,by simp[aZ,mix]⟩
 .rintro m ⟨S,J⟩ ⟨j,ZJ,hj,rfl,Ry,G',t0,t1,t3⟩;simp only at G' t0 t1 t3;refine ae.mix 4 ?_;by_cases H':j<L.length
  .obtain⟨i,hi⟩:∃i:Nat,i=L.length-1-j:=⟨_,rfl⟩
   have So:i<L.length:=by omega
   have t3':S 3=vI (i:Int):=by rw[t3];congr 1;omega
   have q:((i:Int)>=0)=True:=PK;have r1:PY .i64 ((i:Int)-1):=ar;have O':=λU=>iZ (U:=U) So;have hF:F j=[vI (i:Int),vI L[i]]:=by
    show[vI ((L.length-1-j:Nat):Int),vI (L.getD (L.length-1-j) 0)]=_;rw[<-hi];simp[So]
   have e:T=((List.range' 0 j).map F)++[vI (i:Int),vI L[i]]::((List.range' (0+j+1) (L.length-j-1)).map F):=by
    rw[hTF,range_split j 0 L.length H',fC,eD,kI,hF]
   have QF:((List.range' 0 (j+1)).map F)=((List.range' 0 j).map F)++[[vI (i:Int),vI L[i]]]:=by rw[rY,fC,kI,eD,hF];rfl
   have q5:(i:Int)-1=(L.length:Int)-1-((j+1:Nat):Int):=by omega
   apply sR;simp only[go_sem,seval,t0,t1,t3',ldI,q,O'];refine ae.mZ (Post:=λb' Z2=>∃Qd,bp ZJ J Qd Z2/\((b'=true/\τ (((List.range' 0 j).map F)++[[vI (i:Int),vI L[i]]]) Qd)\/(b'=false/\Jx (((List.range' 0 j).map F)++[[vI (i:Int),vI L[i]]]) Qd))) rfl rfl rfl (hy _ [vI (i:Int),vI L[i]] _ ZJ J e Ry G') ?_;rintro b' Z2 ⟨Qd,QV,QH⟩;rcases QH with⟨rfl,QH⟩|⟨rfl,QH⟩
   .apply sR;simp only[go_sem,seval,t0,t1,t3',r1];refine⟨_,?_,j+1,Qd,by omega,rfl,by rw[QF];exact QH,QV.1,by simp[t0,t1,q5]⟩;omega
   .apply sR;simp only[go_sem,seval,t0,t1,t3'];exact⟨_,Qd,QV.1,Wk.refl QV.1 _,.inr ⟨_,⟨_,by rw[e,ly];rfl⟩,QH⟩⟩
  .have Rf:j=L.length:=by omega
   subst Rf;have q:((L.length:Int)-1-(L.length:Int)>=0)=False:=PF;apply sR;simp only[go_sem,seval,t0,t1,t3,q];exact⟨_,ZJ,G',Wk.refl G' _,.inl (hTF▸Ry)⟩
def M7(L:List Int):bb prog 72 [bD L] (.fn 108 [.rp (bD L)]):=λU=>by
 refine e72.r (by simp[c72]) ?_;refine ae.mix 3 ?_;apply sR;simp only[go_sem,seval,c72,ak,au];refine ad λTi Z1 s1 a1 f1=>?_;simp only[go_sem,seval,ak,au];exact⟨_,U,s1,Wk.fn (vs':=[.rp (bD L)]) ⟨Wk.ptr s1 a1 f1,trivial⟩,rfl,rfl⟩
open Go.Proofs Go.Proofs.Tryz
def sP(x:Kp):V:=.agg [bD x.Qa,vI x.high,vI x.body]
def gP(l:List Nd)(L:List Int)(h:Int):Nat->Kp
 |0=>⟨[],0,h⟩
 |m+1=>jN l (gP l L h m) (L.getD (L.length-1-m) 0)
def DS{l:List Nd}{x:Kp}{a:Int}{m:Nat}{h:Int}(h0:0<=(SI l a).head)(hx:x.Qa.length<=m/\0<=x.high/\0<=x.body/\x.high+x.body=h):(jN l x a).Qa.length<=m+1/\0<=(jN l x a).high/\0<=(jN l x a).body/\(jN l x a).high+(jN l x a).body=h:=by
 obtain⟨h1,h2,h3,h4⟩:=hx;unfold jN;split
 .exact⟨by omega,h2,h3,h4⟩
 .simp only[gY,Q4,List.length_nil];omega
def pV{l:List Nd}(hb:Qy l=true){L:List Int}(hL:∀x∈L,∃n:Nat,x=n/\n<l.length){h:Int}(hh:0<=h):∀m,m<=L.length->(gP l L h m).Qa.length<=m/\0<=(gP l L h m).high/\0<=(gP l L h m).body/\(gP l L h m).high+(gP l L h m).body=h
 |0,_=>by simp[gP];omega
 |m+1,hm=>by
  have ih:=pV hb hL hh m (by omega);rw[gP];refine DS ?_ ih;have H':L.length-1-m<L.length:=by omega
  have hg:L.getD (L.length-1-m) 0=L[L.length-1-m]:=by simp[H']
  rw[hg];obtain⟨n,hn,Si⟩:=hL _ (QL H');rw[hn,j1 Si];exact(gO hb Si).st.head.1
def yG(l:List Nd)(a:Nat)(h:Int):Kp:=gP l (TU l a) h (TU l a).length
def EF(l:List Nd)(hl:ed l)(hb:Qy l=true)(hn:l.length<=100000)(a:Nat)(ha:a<l.length)(h:Int)(h0:0<=h)(h1:h<=2199023255552):
 bb prog 39 [aQ l,vI a,vI h] (sP (yG l a h)):=λU=>by
 refine e39.r (by simp[c39]) ?_;have hs:=aa.refl U;refine ae.mix 10 ?_;apply sR;simp only[go_sem,seval,c39,ai,aJ];refine ad λi3 Z3 s3 a3 f3=>?_;have z3:=hs.none f3;replace hs:=hs.trans s3;simp only[go_sem,seval];refine ad λi6 Z6 s6 a6 f6=>?_;have n36:=al a3 f6;replace a3:=s6 _ _ a3;have z6:=hs.none f6;replace hs:=hs.trans s6;simp only[go_sem,seval,a3,ai];refine ad λi7 Z7 s7 a7 f7=>?_;have X6:i3≠i7:=al a3 f7;have UH:i6≠i7:=al a6 f7;have b3:=s7 _ _ a3;simp only[go_sem,seval,a7,b3,ab X6,ai,aJ];have h7:KpJ Z6 i7 ⟨[],0,h⟩ (C' Z7 i7 ⟨149,3,[.agg [.aT,vI 0,vI h]]⟩):=⟨⟨.aT,af,aU.start⟩,s7.aD f7,f7⟩
 have e3:C' Z7 i7 ⟨149,3,[.agg [.aT,vI 0,vI h]]⟩ i3=_:=(ab X6).trans b3;generalize C' Z7 i7 ⟨149,3,[.agg [.aT,vI 0,vI h]]⟩=Y7 at*;refine ae.aC rfl rfl rfl (A6 l hl hb hn a ha _) ?_;have Vb:∀x∈TU l a,∃n:Nat,x=n/\n<l.length:=λx hx=>by
  obtain⟨n,h1,h2⟩:=pC ha x hx;exact⟨n,h1,by omega⟩
 have hlL:(TU l a).length<=l.length+1:=jD _ _ _;unfold yG;generalize TU l a=L at*;apply sR;simp only[go_sem,seval];refine ae.aC rfl rfl rfl (M7 L _) ?_;apply sR;simp only[go_sem,seval];generalize hS:mix 10 _ _=S;have S3:S 3=.ptr i3 0 0:=by rw[<-hS];rfl
 have S6:S 6=.ptr i6 0 0:=by rw[<-hS];rfl
 have S7:S 7=.ptr i7 0 0:=by rw[<-hS];rfl
 have S16:S 16=.fn 108 [.rp (bD L)]:=by rw[<-hS];rfl
 clear hS;refine ae.fk (g:=.t 16) (caps:=[.rp (bD L)]) S16 (E4 L (by omega)) (λy hy=>?_) [] (λpre ZJ=>KpJ Z6 i7 (gP l L h pre.length) ZJ)
  (λ_ _ _=>False) ?_ ?_ ?_ ?_ ?_
 .obtain⟨t,_,rfl⟩:=fM.1 hy;rfl
 .exact h7
 .rintro pre y post ZJ ZB Sb hJ G';have TY:pre.length<L.length:=by
   have:=congrArg List.length Sb;simp[bwd]at this;omega
  obtain⟨i,hi⟩:∃i:Nat,i=L.length-1-pre.length:=⟨_,rfl⟩
  have So:i<L.length:=by omega
  have hy:y=[vI (i:Int),vI (L.getD i 0)]:=by
   have h1:(bwd L)[pre.length]?=some y:=by rw[Sb];simp
   simp[bwd,TY]at h1;rw[<-h1,hi];simp
  have hlen:(pre++[y]).length=pre.length+1:=by simp
  have hinv:=pV hb Vb h0 pre.length (by omega);have Qi:gP l L h (pre.length+1)=jN l (gP l L h pre.length) (L.getD i 0):=by rw[gP,hi]
  have hg:L.getD i 0=L[i]:=by simp[So]
  obtain⟨n,P',Si⟩:=Vb _ (QL So);rw[hlen,Qi,hg,P'];rw[hg,P']at hy;subst hy;generalize gP l L h pre.length=x at*;have c3:=G' _ _ (hJ.sub _ _ a3);generalize RI:mI S [17,18] [vI (i:Int),vI (n:Int)]=S0;have T3:S0 3=.ptr i3 0 0:=by rw[<-RI];exact S3
  have T7:S0 7=.ptr i7 0 0:=by rw[<-RI];exact S7
  have T18:S0 18=vI (n:Int):=by rw[<-RI];rfl
  clear RI;refine ae.mix 10 ?_;apply sR;simp only[go_sem,seval,T3,T7,T18];apply sR;simp only[go_sem,seval,T3,T7,T18,c3,ai];have hc:=HE l hb x (by omega) (by omega) (by omega) (by omega) (by omega) n Si hJ G';rw[<-T7]at hc;refine ae.call rfl rfl rfl hc ?_;rintro-Z2 ⟨Qd,hB,RK⟩;apply sR;simp only[go_sem,seval];exact⟨_,hB,RK⟩
 .rintro Z' hJ;have QX:(bwd L).length=L.length:=by simp[bwd]
  rw[QX]at hJ;obtain⟨⟨v,J7,Jo⟩,Js,Jn⟩:=hJ;have Tv:v.cells=[v]:=by rcases Jo with⟨rfl,_⟩|⟨_,rfl,_⟩<;>rfl
  have e6:=Js _ _ a6;refine ae.mix 10 ?_;apply sR;simp only[go_sem,seval,S6,S7,J7,e6,Tv];have Qi:=(hs.trans Js).aD (o:=⟨105,3,[.agg [v,vI (gP l L h L.length).high,vI (gP l L h L.length).body]]⟩) z6;have Jo':aU (bo Z6 i7) (C' Z' i6 ⟨105,3,[.agg [v,vI (gP l L h L.length).high,vI (gP l L h L.length).body]]⟩) 3 1 v ((gP l L h L.length).Qa.map vI):=by
   rcases Jo with h|⟨id,g1,g2,g3⟩
   .exact .inl h
   .refine .inr ⟨id,g1,?_,g3⟩;rw[ab (λe=>by rw[e,aL]at g3;rw[a6]at g3;cases g3.2)];exact g2
  have hK:aa U (bo Z6 i7):=λi o hh=>by
   rw[bo,aH (λe=>by rw[e,hs.none f7]at hh;cases hh)];exact hs _ _ hh
  exact⟨_,U,Qi,Wk.agg (vs':=[bD (gP l L h L.length).Qa,vI (gP l L h L.length).high,vI (gP l L h L.length).body]) ⟨Jo'.wk hK Qi,Wk.refl Qi _,Wk.refl Qi _,trivial⟩,rfl,rfl⟩
 .intro id h;cases h
 .rintro pre Z' _ ⟨⟩
open Go.Proofs Go.Proofs.Tryz
def jR(l:List Nd)(h:Int):Bool:=decide (1<=h/\h<=1099511627776)&&Qy l
def E7(l:List Nd)(hl:ed l)(h:Int):bb prog 38 [aQ l,vI h] (.bool (jR l h)):=λU=>by
 refine e38.r (by simp[c38]) ?_;refine ae.mix 5 ?_;apply sR;simp only[go_sem,seval,c38];refine ae.aC rfl rfl rfl (rm h _) ?_;unfold jR;cases hd:decide (1<=h/\h<=1099511627776)
 .apply sR;simp only[go_sem,seval];exact av.same (by simp)
 .apply sR;simp only[go_sem,seval];refine ae.aC rfl rfl rfl (Cp l hl _) ?_;apply sR;simp only[go_sem,seval];exact av.same (by simp)
def rh(l:List Nd)(a h:Int):Kp:=if jR l h=true/\0<=a/\a<l.length then yG l a.toNat h else⟨[],0,0⟩
def Ja(l:List Nd)(hl:ed l)(a h:Int):bb prog 43 [aQ l,vI a,vI h] (sP (rh l a h)):=λU=>by
 refine e43.r (by simp[c43]) ?_;have hs:=aa.refl U;have Ui:=fe l;have hn:l.length<=100000:=by have:=hl.1;omega
 refine ae.mix 7 ?_;apply sR;simp only[go_sem,seval,c43];refine ad λi6 Z6 s6 a6 f6=>?_;have z6:=hs.none f6;replace hs:=hs.trans s6;simp only[go_sem,seval];refine ae.aC rfl rfl rfl (E7 l hl h _) ?_;have bad:¬(jR l h=true/\0<=a/\a<l.length)->av (.agg [.aT,vI 0,vI 0]) Z6 λr Z'=>r=sP (rh l a h)/\Z'=U:=λhb=>by
  rw[rh,aH hb];exact⟨_,U,hs,Wk.agg (vs':=[bD [],vI 0,vI 0]) ⟨Wk.aT 1,Wk.refl hs _,Wk.refl hs _,trivial⟩,rfl,rfl⟩
 have a6':C' Z6 i6 ⟨105,3,[.agg [.aT,vI 0,vI 0]]⟩=Z6:=by
  funext i;by_cases hi:i=i6
  .rw[hi,af];exact a6.symm
  .rw[ab hi]
 cases hm:jR l h
 .have fin:=bad (by simp[hm]);apply sR;simp only[go_sem,seval,a6];rw[a6'];exact fin
 by_cases h0:a<0
 .have q0:(a<0)=True:=PK h0;have fin:=bad (by omega);apply sR;simp only[go_sem,seval,a6,q0];rw[a6'];exact fin
 have q0:(a<0)=False:=PF h0;by_cases h1:a>=l.length
 .have q1:(a>=l.length)=True:=PK h1;have fin:=bad (by omega);apply sR;simp only[go_sem,seval,a6,q0,q1,Ui];rw[a6'];exact fin
 have q1:(a>=l.length)=False:=PF h1;clear bad a6';obtain⟨n,rfl⟩:∃n:Nat,a=n:=⟨a.toNat,by omega⟩
 have hb:Qy l=true:=by unfold jR at hm;simp at hm;exact hm.2
 have hh:1<=h/\h<=1099511627776:=by unfold jR at hm;simp at hm;exact hm.1
 have hr:rh l n h=yG l n h:=by rw[rh,aE ⟨hm,by omega,by omega⟩,fp]
 rw[hr];apply sR;simp only[go_sem,seval,a6,q0,q1,Ui];refine ae.aC rfl rfl rfl (EF l hl hb hn n (by omega) h (by omega) (by omega) _) ?_;apply sR;simp only[go_sem,seval,a6,sP,ak,au];exact av.pure (hs.aD z6) rfl
def jh(l:List Nd)(h:Int):Nat->Int
 |0=>h
 |j+1=>if(Qg l j).kind=2\/(Qg l j).kind=3 then min (jh l h j) (yG l j h).body else jh l h j
def cU(l:List Nd)(h:Int):Int:=if jR l h=true then jh l h l.length else 0
def zY(l:List Nd)(hl:ed l)(h:Int):bb prog 14 [aQ l,vI h] (vI (cU l h)):=λU=>by
 refine e14.r (by simp[c14]) ?_;have hs:=aa.refl U;have Ui:=fe l;have hn:l.length<=100000:=by have:=hl.1;omega
 refine ae.mix 8 ?_;apply sR;simp only[go_sem,seval,c14];refine ae.aC rfl rfl rfl (E7 l hl h _) ?_;unfold cU;cases hm:jR l h
 .apply sR;simp only[go_sem,seval];exact av.same rfl
 have hb:Qy l=true:=by unfold jR at hm;simp at hm;exact hm.2
 have hh:1<=h/\h<=1099511627776:=by unfold jR at hm;simp at hm;exact hm.1
 rw[aE rfl];apply sR;simp only[go_sem,seval,Ui];refine ae.loop (λm st=>∃j:Nat,j<=l.length/\m=l.length-j/\aa U st.U/\st.s 0=aQ l/\st.s 1=vI h/\st.s 5=vI (jh l h j)/\st.s 13=aQ l/\st.s 14=vI l.length/\st.s 15=vI j) l.length ?_ ?_
 .exact⟨0,by omega,rfl,hs,rfl,rfl,rfl,rfl,rfl,rfl⟩
 .clear hs;rintro m ⟨S,J⟩ ⟨j,hj,rfl,hs,t0,t1,t5,t13,t14,t15⟩;simp only at hs t0 t1 t5 t13 t14 t15;refine ae.mix 8 ?_;by_cases H':j<l.length
  .have q:((j:Int)<l.length)=True:=PK;have r1:PY .i64 ((j:Int)+1):=ar;have Rh:=λU=>ee (U:=U) (l:=l) (a:=j) H';have Qi:jh l h (j+1)=if l[j].kind=2\/l[j].kind=3 then min (jh l h j) (yG l j h).body else jh l h j:=by rw[jh,jL H']
   apply sR;simp only[go_sem,seval,t0,t1,t5,t13,t14,t15,q,Rh,Nd.cells];refine ad λi7 Z7 s7 a7 f7=>?_;by_cases hk:l[j].kind=2
   .have q1:(l[j].kind=2)=True:=PK hk;simp only[go_sem,seval,a7,q1,t0,t1,t5,t13,t14,t15,ak,au];refine ae.aC rfl rfl rfl (EF l hl hb hn j H' h (by omega) (by omega) _) ?_;apply sR;simp only[go_sem,seval,t0,t1,t5,t13,t14,t15,sP,r1,fo,ak,au];refine⟨_,?_,j+1,by omega,rfl,hs.trans (s7.aD f7),by simp[t0,t1,t13,t14,Qi,hk]⟩;omega
   .have q1:(l[j].kind=2)=False:=PF hk;by_cases U':l[j].kind=3
    .have q2:(l[j].kind=3)=True:=PK U';have hk:=U';simp only[go_sem,seval,a7,q1,q2,t0,t1,t5,t13,t14,t15,ak,au];refine ae.aC rfl rfl rfl (EF l hl hb hn j H' h (by omega) (by omega) _) ?_;apply sR;simp only[go_sem,seval,t0,t1,t5,t13,t14,t15,sP,r1,fo,ak,au];refine⟨_,?_,j+1,by omega,rfl,hs.trans (s7.aD f7),by simp[t0,t1,t13,t14,Qi,hk]⟩;omega
    .have q2:(l[j].kind=3)=False:=PF U';simp only[go_sem,seval,a7,q1,q2,t0,t1,t5,t13,t14,t15,r1,ak,au];refine⟨_,?_,j+1,by omega,rfl,hs.trans (s7.aD f7),by simp[t0,t1,t13,t14,Qi,hk,U']⟩;omega
  .have q:((j:Int)<l.length)=False:=PF;have Rf:j=l.length:=by omega
   apply sR;simp only[go_sem,seval,t0,t1,t5,t13,t14,t15,q];exact av.pure hs (by rw[Rf])
open Go.Proofs Go.Proofs.Tryz
def aq(l:List QB):(bH l).cells=[bH l]:=rfl
def ao(l:List QB):(bH l).stays=true:=rfl
def jm(l:List QB):dR false (bH l)=some (.int .i64 l.length):=by simp[bH,dR]
def jr{U:ag}{l:List QB}{i:Nat}(h:i<l.length):bS U 8 (bH l) (.int .i64 i)=some (.rp (dC l[i])):=by simp[bH,bS,h,dC]
structure mE(l:List QB):Prop where
 len:l.length<=1000000000
 Wm:∀a∈l,-1152921504606846976<=a.y/\a.y<=1152921504606846976/\0<=a.h/\a.h<=1152921504606846976
def x7(l:List QB)(k:Int):bb prog 112 [bH l,vI k] (.bool (decide (0<=k/\k<l.length))):=λU=>by
 refine NU.r (by simp[FV]) ?_;have hl:=jm l;refine ae.mix 5 ?_;by_cases h0:k>=0
 .have q0:(k>=0)=True:=PK h0;by_cases h1:k<l.length
  .have q1:(k<l.length)=True:=PK h1;apply sR;simp only[go_sem,seval,FV,q0,q1,hl];exact av.same (by simp[h0,h1])
  .have q1:(k<l.length)=False:=PF h1;apply sR;simp only[go_sem,seval,FV,q0,q1,hl];exact av.same (by simp[h1])
 .have q0:(k>=0)=False:=PF h0;apply sR;simp only[go_sem,seval,FV,q0,hl];exact av.same (by simp<;>omega)
def D3(a:QB)(h:-1152921504606846976<=a.y/\a.y<=1152921504606846976/\0<=a.h/\a.h<=1152921504606846976):bb prog 136 [dC a] (vI (a.y+a.h)):=λU=>by
 refine Px.r (by simp[Mr]) ?_;have hs:=aa.refl U;have r1:PY .i64 (a.y+a.h):=ar;refine ae.mix 3 ?_;apply sR;simp only[go_sem,seval,Mr,dC];refine ad λi1 Z1 s1 a1 f1=>?_;have z1:=hs.none f1;replace hs:=hs.trans s1;simp only[go_sem,seval,a1,r1];exact av.pure hs rfl
def R8(l:List QB)(k:Int):QB:=l.getD k.toNat ⟨0,0,0,0,0,0,0,0⟩
def iV(l:List QB)(k:Int):Int:=if 0<=k/\k<l.length then(R8 l k).y+(R8 l k).h else 0
def nZ(l:List QB)(k:Int):Int:=if 0<=k/\k<l.length then(R8 l k).y-iV l (k-1)else 0
def gZ(l:List QB)(i k:Int):Int:=if(0<=i/\i<l.length)/\(0<=k/\k<l.length)then(R8 l k).y-(R8 l i).y else 0
def bG{l:List QB}{k:Nat}(h:k<l.length):R8 l k=l[k]:=by simp[R8,h]
def sL{l:List QB}(hl:mE l)(k:Int):-1152921504606846976<=iV l k/\iV l k<=2305843009213693952:=by
 unfold iV;split
 .rename_i h;obtain⟨n,rfl⟩:∃n:Nat,k=n:=⟨k.toNat,by omega⟩
  have hn:n<l.length:=by omega
  rw[bG hn];have:=hl.Wm _ (QL hn);omega
 .omega
def DB(l:List QB)(hl:mE l)(k:Int):bb prog 113 [bH l,vI k] (vI (iV l k)):=λU=>by
 refine Oj.r (by simp[LH]) ?_;refine ae.mix 5 ?_;apply sR;simp only[go_sem,seval,LH];refine ae.aC rfl rfl rfl (x7 l k _) ?_;unfold iV;by_cases h:0<=k/\k<l.length
 .obtain⟨n,rfl⟩:∃n:Nat,k=n:=⟨k.toNat,by omega⟩
  have hn:n<l.length:=by omega
  have hd:decide (0<=(n:Int)/\(n:Int)<l.length)=true:=by simp;omega
  have O':=λU=>jr (U:=U) hn;rw[hd,aE h,bG hn];apply sR;simp only[go_sem,seval,O',dC];refine ae.aC rfl rfl rfl (D3 l[n] (hl.Wm _ (QL hn)) _) ?_;apply sR;simp only[go_sem,seval];exact av.same rfl
 .have hd:decide (0<=k/\k<l.length)=false:=by simpa using h
  rw[hd,aH h];apply sR;simp only[go_sem,seval];exact av.same rfl
def JJ(l:List QB)(hl:mE l)(k:Int):bb prog 78 [bH l,vI k] (vI (nZ l k)):=λU=>by
 refine e78.r (by simp[c78]) ?_;refine ae.mix 5 ?_;apply sR;simp only[go_sem,seval,c78];refine ae.aC rfl rfl rfl (x7 l k _) ?_;unfold nZ;by_cases h:0<=k/\k<l.length
 .obtain⟨n,rfl⟩:∃n:Nat,k=n:=⟨k.toNat,by omega⟩
  have hn:n<l.length:=by omega
  have hd:decide (0<=(n:Int)/\(n:Int)<l.length)=true:=by simp;omega
  have O':=λU=>jr (U:=U) hn;have Wt:=hl.len;have hy:=hl.Wm _ (QL hn);have hbr:=sL hl ((n:Int)-1);have r1:PY .i64 ((n:Int)-1):=ar;have r2:PY .i64 (l[n].y-iV l ((n:Int)-1)):=ar;rw[hd,aE h,bG hn];apply sR;simp only[go_sem,seval,O',dC,r1];refine Go.bZ rfl rfl rfl (DB l hl ((n:Int)-1)) ?_;apply sG;simp only[go_sem,seval,r2];exact av.same rfl
 .have hd:decide (0<=k/\k<l.length)=false:=by simpa using h
  rw[hd,aH h];apply sR;simp only[go_sem,seval];exact av.same rfl
def Dc(l:List QB)(hl:mE l)(i k:Int):bb prog 114 [bH l,vI i,vI k] (vI (gZ l i k)):=λU=>by
 refine Ow.r (by simp[Mg]) ?_;refine ae.mix 8 ?_;apply sR;simp only[go_sem,seval,Mg];refine ae.aC rfl rfl rfl (x7 l i _) ?_;unfold gZ;by_cases h:0<=i/\i<l.length
 .have hd:decide (0<=i/\i<l.length)=true:=by simp;omega
  rw[hd];apply sR;simp only[go_sem,seval];refine ae.aC rfl rfl rfl (x7 l k _) ?_;by_cases h2:0<=k/\k<l.length
  .obtain⟨m,rfl⟩:∃m:Nat,i=m:=⟨i.toNat,by omega⟩
   obtain⟨n,rfl⟩:∃n:Nat,k=n:=⟨k.toNat,by omega⟩
   have hm:m<l.length:=by omega
   have hn:n<l.length:=by omega
   have Wn:decide (0<=(n:Int)/\(n:Int)<l.length)=true:=by simp;omega
   have O':=λU=>jr (U:=U) hn;have hidx2:=λU=>jr (U:=U) hm;have hy:=hl.Wm _ (QL hn);have hy2:=hl.Wm _ (QL hm);have r1:PY .i64 (l[n].y-l[m].y):=ar;rw[Wn,aE ⟨h,h2⟩,bG hn,bG hm];apply sR;simp only[go_sem,seval,O',hidx2,dC,r1];exact av.same rfl
  .have Wn:decide (0<=k/\k<l.length)=false:=by simpa using h2
   rw[Wn,aH (λh=>h2 h.2)];apply sR;simp only[go_sem,seval];exact av.same rfl
 .have hd:decide (0<=i/\i<l.length)=false:=by simpa using h
  rw[hd,aH (λh'=>h h'.1)];apply sR;simp only[go_sem,seval];exact av.same rfl
open Go.Proofs Go.Proofs.Tryz
def gb(b:List RX)(i fit:Int):Prop:=sQ b=true/\0<=i/\i<(b.length:Int)-1/\i<fit
instance (b:List RX) (i fit:Int):Decidable (gb b i fit):=by unfold gb;infer_instance
def uN(b:List RX)(i fit:Int):Int:=if fa b (i+1) fit<0 then Ft b (i+1) fit else fa b (i+1) fit
def Lm(b:List RX)(hb:b.length<=1000000)(i fit:Int):bb prog 127 [bV b,vI i,vI fit] (.PN [vI (if gb b i fit then uN b i fit else 0),.bool (decide (gb b i fit))]):=λU=>by
 refine N7.r (by simp[KL]) ?_;have Xe:=B5 b;have r0:PY .i64 ((b.length:Int)-1):=ar;refine ae.mix 8 ?_;apply sR;simp only[go_sem,seval,KL];refine ae.aC rfl rfl rfl (Jp b hb _) ?_;have bad:¬gb b i fit->av (.PN [vI 0,.bool false]) U λr Z'=>r=.PN [vI (if gb b i fit then uN b i fit else 0),.bool (decide (gb b i fit))]/\Z'=U:=λh=>av.same (by rw[aH h,Rv h]);generalize hX:(V.PN [vI (if gb b i fit then uN b i fit else 0),.bool (decide (gb b i fit))])=X at*;cases hm:sQ b
 .have fin:=bad (λh=>by rw[h.1]at hm;cases hm);apply sR;simp only[go_sem,seval];exact fin
 by_cases h0:i<0
 .have q0:(i<0)=True:=PK h0;have fin:=bad (λh=>by have:=h.2.1;omega);apply sR;simp only[go_sem,seval,q0];exact fin
 have q0:(i<0)=False:=PF h0;by_cases h1:i>=(b.length:Int)-1
 .have q1:(i>=(b.length:Int)-1)=True:=PK h1;have fin:=bad (λh=>by have:=h.2.2.1;omega);apply sR;simp only[go_sem,seval,q0,Xe,r0,q1];exact fin
 have q1:(i>=(b.length:Int)-1)=False:=PF h1;by_cases h2:fit<=i
 .have q2:(fit<=i)=True:=PK h2;have fin:=bad (λh=>by have:=h.2.2.2;omega);apply sR;simp only[go_sem,seval,q0,Xe,r0,q1,q2];exact fin
 have q2:(fit<=i)=False:=PF h2;clear bad;have P5:gb b i fit:=⟨hm,by omega,by omega,by omega⟩
 have r1:PY .i64 (i+1):=ar;rw[aE P5,Rt P5]at hX;subst hX;apply sR;simp only[go_sem,seval,q0,Xe,r0,q1,q2,r1];refine ae.aC rfl rfl rfl (CU b hb (i+1) fit _) ?_;unfold uN;by_cases h3:fa b (i+1) fit<0
 .have q3:(fa b (i+1) fit<0)=True:=PK h3;rw[aE h3];apply sR;simp only[go_sem,seval,q3,r1];refine ae.aC rfl rfl rfl (LW b hb (i+1) fit _) ?_;apply sR;simp only[go_sem,seval];exact av.same rfl
 .have q3:(fa b (i+1) fit<0)=False:=PF h3;rw[aH h3];apply sR;simp only[go_sem,seval,q3];exact av.same rfl
open Go.Proofs Go.Proofs.Tryz
structure PH where
 (atom done:Int)
 free:Bool
def aF(s:PH):V:=.agg [vI s.atom,vI s.done,.bool s.free]
def vi(s:PH)(l:List QB):V:=.agg [vI s.atom,vI s.done,.bool s.free,bH l]
def cM(l:List QB)(s:PH):Prop:=(0<=s.atom/\s.atom<l.length)/\0<=s.done/\(s.done=0\/s.done<(R8 l s.atom).h)
instance (l:List QB) (s:PH):Decidable (cM l s):=by unfold cM;infer_instance
def BO(l:List QB)(s:PH):bb prog 77 [vi s l] (.bool (decide (cM l s))):=λU=>by
 refine e77.r (by simp[c77]) ?_;have hs:=aa.refl U;have hl:=jm l;obtain⟨a,d,fr⟩:=s;refine ae.mix 3 ?_;apply sR;simp only[go_sem,seval,c77,vi,aq,ao];refine ad λi1 Z1 s1 a1 f1=>?_;have z1:=hs.none f1;replace hs:=hs.trans s1;by_cases h0:a>=0
 .have q0:(a>=0)=True:=PK h0;by_cases h1:a<l.length
  .have q1:(a<l.length)=True:=PK h1;obtain⟨n,rfl⟩:∃n:Nat,a=n:=⟨a.toNat,by omega⟩
   have hn:n<l.length:=by omega
   have O':=λU=>jr (U:=U) hn;have hg:=bG hn;by_cases h2:d>=0
   .have q2:(d>=0)=True:=PK h2;by_cases h3:d=0
    .have q3:(d=0)=True:=PK h3;simp only[go_sem,seval,a1,q0,q1,q2,q3,hl,aq,ao];have hh:cM l ⟨n,d,fr⟩:=⟨⟨h0,h1⟩,h2,.inl h3⟩
     exact av.pure hs (by rw[Rt hh])
    .have q3:(d=0)=False:=PF h3;by_cases h4:d<l[n].h
     .have q4:(d<l[n].h)=True:=PK h4;simp only[go_sem,seval,a1,q0,q1,q2,q3,q4,hl,O',dC,aq,ao];have hh:cM l ⟨n,d,fr⟩:=⟨⟨h0,h1⟩,h2,.inr (by rw[hg];exact h4)⟩
      exact av.pure hs (by rw[Rt hh])
     .have q4:(d<l[n].h)=False:=PF h4;simp only[go_sem,seval,a1,q0,q1,q2,q3,q4,hl,O',dC,aq,ao];exact av.pure hs (by rw[Rv (λh:cM l ⟨n,d,fr⟩=>by rcases h.2.2 with h|h;exact h3 h;rw[hg]at h;exact h4 h)])
   .have q2:(d>=0)=False:=PF h2;simp only[go_sem,seval,a1,q0,q1,q2,hl,aq,ao];exact av.pure hs (by rw[Rv (λh:cM l ⟨n,d,fr⟩=>h2 h.2.1)])
  .have q1:(a<l.length)=False:=PF h1;simp only[go_sem,seval,a1,q0,q1,hl,aq,ao];exact av.pure hs (by rw[Rv (λh:cM l ⟨a,d,fr⟩=>h1 h.1.2)])
 .have q0:(a>=0)=False:=PF h0;simp only[go_sem,seval,a1,q0,hl,aq,ao];exact av.pure hs (by rw[Rv (λh:cM l ⟨a,d,fr⟩=>h0 h.1.1)])
def o7(l:List QB)(s:PH):bb prog 75 [bH l,aF s] (.bool (decide (cM l s))):=λU=>by
 refine e75.r (by simp[c75]) ?_;have hs:=aa.refl U;have hc:=BO l s;obtain⟨a,d,fr⟩:=s;rw[vi]at hc;refine ae.mix 5 ?_;apply sR;simp only[go_sem,seval,c75,aF,aq,ao];refine ad λi3 Z3 s3 a3 f3=>?_;have z3:=hs.none f3;replace hs:=hs.trans s3;simp only[go_sem,seval,a3,aq,ao];refine ae.aC rfl rfl rfl (hc _) ?_;apply sR;simp only[go_sem,seval];exact av.pure hs rfl
def Ci(l:List QB)(hl:mE l)(s:PH)(h:cM l s)(hd:s.done<=1152921504606846976):bb prog 79 [vi s l] (vI ((R8 l s.atom).h-s.done)):=λU=>by
 refine e79.r (by simp[c79]) ?_;have hs:=aa.refl U;obtain⟨a,d,fr⟩:=s;obtain⟨⟨h0,h1⟩,h2,h3⟩:=h;simp only at h0 h1 h2 h3 hd|-;obtain⟨n,rfl⟩:∃n:Nat,a=n:=⟨a.toNat,by omega⟩
 have hn:n<l.length:=by omega
 have O':=λU=>jr (U:=U) hn;have hy:=hl.Wm _ (QL hn);rw[bG hn];have r1:PY .i64 (l[n].h-d):=ar;refine ae.mix 3 ?_;apply sR;simp only[go_sem,seval,c79,vi,aq,ao];refine ad λi1 Z1 s1 a1 f1=>?_;have z1:=hs.none f1;replace hs:=hs.trans s1;simp only[go_sem,seval,a1,O',r1,dC,aq,ao];exact av.pure hs rfl
def iz(l:List QB)(s:PH)(Ql:Int):Int:=if cM l s/\s.free=true/\s.done=0/\nZ l s.atom+((R8 l s.atom).h-s.done)<=Ql then nZ l s.atom else 0
def FM{l:List QB}(hl:mE l)(k:Int):-3458764513820540928<=nZ l k/\nZ l k<=2305843009213693952:=by
 unfold nZ;have hb:=sL hl (k-1);split
 .rename_i h;obtain⟨n,rfl⟩:∃n:Nat,k=n:=⟨k.toNat,by omega⟩
  have hn:n<l.length:=by omega
  rw[bG hn];have:=hl.Wm _ (QL hn);omega
 .omega
def CB(l:List QB)(hl:mE l)(s:PH)(Ql:Int):bb prog 44 [bH l,aF s,vI Ql] (vI (iz l s Ql)):=λU=>by
 refine e44.r (by simp[c44]) ?_;have hs:=aa.refl U;have hc:=BO l s;have VZ:=λh hd=>Ci l hl s h hd;have Ww:=FM hl s.atom;obtain⟨a,d,fr⟩:=s;rw[vi]at hc VZ;simp only at Ww VZ;refine ae.mix 9 ?_;apply sR;simp only[go_sem,seval,c44,aF,aq,ao];refine ad λi4 Z4 s4 a4 f4=>?_;have z4:=hs.none f4;replace hs:=hs.trans s4;simp only[go_sem,seval,a4,aq,ao];refine ad λi7 Z7 s7 a7 f7=>?_;have n47:=al a4 f7;replace a4:=s7 _ _ a4;have z7:=hs.none f7;replace hs:=hs.trans s7;simp only[go_sem,seval,a7,a4,aq,ao];refine ae.aC rfl rfl rfl (hc _) ?_;have bad:¬(cM l ⟨a,d,fr⟩/\fr=true/\d=0/\nZ l a+((R8 l a).h-d)<=Ql)->iz l ⟨a,d,fr⟩ Ql=0:=λh=>aH h;by_cases hm:cM l ⟨a,d,fr⟩
 .rw[Rt hm];cases fr
  .apply sR;simp only[go_sem,seval,a7,aq,ao];exact av.pure (hs.aD z7) (by rw[bad (λh=>by cases h.2.1)])
  have Us:=hm.2.1;simp only at Us;by_cases hd:d>0
  .have q:(d>0)=True:=PK hd;apply sR;simp only[go_sem,seval,a7,q,aq,ao];exact av.pure (hs.aD z7) (by rw[bad (λh=>by have:=h.2.2.1;omega)])
  .have q:(d>0)=False:=PF hd;obtain rfl:d=0:=by omega
   apply sR;simp only[go_sem,seval,a7,q,aq,ao];refine ae.aC rfl rfl rfl (JJ l hl a _) ?_;have hlf':=VZ hm (by omega);have hy:0<=(R8 l a).h/\(R8 l a).h<=1152921504606846976:=by
    obtain⟨h0,h1⟩:=hm.1;simp only at h0 h1;obtain⟨n,rfl⟩:∃n:Nat,a=n:=⟨a.toNat,by omega⟩
    have hn:n<l.length:=by omega
    rw[bG hn];exact(hl.Wm _ (QL hn)).2.2
   have r1:PY .i64 (nZ l a+((R8 l a).h-0)):=ar;apply sR;simp only[go_sem,seval,a7,af,aq,ao];refine ae.aC rfl rfl rfl (hlf' _) ?_;by_cases h4:nZ l a+((R8 l a).h-0)<=Ql
   .have q4:(nZ l a+((R8 l a).h-0)<=Ql)=True:=PK h4;have hk:iz l ⟨a,0,true⟩ Ql=nZ l a:=aE ⟨hm,rfl,rfl,h4⟩;rw[hk];apply sR;simp only[go_sem,seval,r1,q4];exact av.pure (hs.aD z7) rfl
   .have q4:(nZ l a+((R8 l a).h-0)<=Ql)=False:=PF h4;rw[bad (λh=>h4 h.2.2.2)];apply sR;simp only[go_sem,seval,r1,q4];exact av.pure (hs.aD z7) rfl
 .rw[Rv hm];apply sR;simp only[go_sem,seval,a7,aq,ao];exact av.pure (hs.aD z7) (by rw[bad (λh=>hm h.1)])
open Go.Proofs Go.Proofs.Tryz
def jP(l:List QB)(s:PH):Int:=if cM l s then(R8 l s.atom).h-s.done else 0
def HB(l:List QB)(hl:mE l)(s:PH)(hd:s.done<=1152921504606846976):bb prog 103 [bH l,aF s] (vI (jP l s)):=λU=>by
 refine NI.r (by simp[Ki]) ?_;have hs:=aa.refl U;have hc:=BO l s;have VZ:=λh=>Ci l hl s h hd;unfold jP;obtain⟨a,d,fr⟩:=s;rw[vi]at hc VZ;refine ae.mix 6 ?_;apply sR;simp only[go_sem,seval,Ki,aF,aq,ao];refine ad λi3 Z3 s3 a3 f3=>?_;have z3:=hs.none f3;replace hs:=hs.trans s3;simp only[go_sem,seval,a3,aq,ao];refine ad λi5 Z5 s5 a5 f5=>?_;have Vg:=al a3 f5;replace a3:=s5 _ _ a3;have z5:=hs.none f5;replace hs:=hs.trans s5;simp only[go_sem,seval,a5,a3,aq,ao];refine ae.aC rfl rfl rfl (hc _) ?_;by_cases hm:cM l ⟨a,d,fr⟩
 .rw[Rt hm,aE hm];apply sR;simp only[go_sem,seval,a5,aq,ao];refine ae.aC rfl rfl rfl (VZ hm _) ?_;apply sR;simp only[go_sem,seval];exact av.pure (hs.aD z5) rfl
 .rw[Rv hm,aH hm];apply sR;simp only[go_sem,seval];exact av.pure (hs.aD z5) rfl
def eo(l:List QB)(s:PH)(kept shift k:Int):Int:=if cM l s/\s.atom<=k/\k<l.length then gZ l s.atom k-s.done+kept+shift else 0
def rM{l:List QB}(hl:mE l)(i k:Int):-2305843009213693952<=gZ l i k/\gZ l i k<=2305843009213693952:=by
 unfold gZ;split
 .rename_i h;obtain⟨n,rfl⟩:∃n:Nat,k=n:=⟨k.toNat,by omega⟩
  obtain⟨m,rfl⟩:∃m:Nat,i=m:=⟨i.toNat,by omega⟩
  have hn:n<l.length:=by omega
  have hm:m<l.length:=by omega
  rw[bG hn,bG hm];have h1:=hl.Wm _ (QL hn);have h2:=hl.Wm _ (QL hm);omega
 .omega
def zN(l:List QB)(hl:mE l)(s:PH)(hd:s.done<=1152921504606846976)(kept shift k:Int)(hk:-1152921504606846976<=kept/\kept<=2305843009213693952)(SZ:0<=shift/\shift<=1152921504606846976):
 bb prog 82 [bH l,aF s,vI kept,vI shift,vI k] (vI (eo l s kept shift k)):=λU=>by
 refine e82.r (by simp[c82]) ?_;have hs:=aa.refl U;have hc:=o7 l s;have hor:=rM hl s.atom k;have hlen:=jm l;have bad:¬(cM l s/\s.atom<=k/\k<l.length)->eo l s kept shift k=0:=λh=>aH h;have Wy:(cM l s/\s.atom<=k/\k<l.length)->eo l s kept shift k=gZ l s.atom k-s.done+kept+shift:=λh=>aE h;generalize eo l s kept shift k=P at*;obtain⟨a,d,fr⟩:=s;rw[aF]at hc;simp only at hor hd Wy bad;refine ae.mix 11 ?_;apply sR;simp only[go_sem,seval,c82,aF,aq,ao];refine ad λi6 Z6 s6 a6 f6=>?_;have z6:=hs.none f6;replace hs:=hs.trans s6;simp only[go_sem,seval,a6,aq,ao];refine ae.aC rfl rfl rfl (hc _) ?_;by_cases hm:cM l ⟨a,d,fr⟩
 .rw[Rt hm];by_cases h1:k<a
  .have q1:(k<a)=True:=PK h1;apply sR;simp only[go_sem,seval,a6,q1,aq,ao];exact av.pure hs (by rw[bad (λh=>by omega)])
  have q1:(k<a)=False:=PF h1;by_cases h2:k>=l.length
  .have q2:(k>=l.length)=True:=PK h2;apply sR;simp only[go_sem,seval,a6,q1,q2,hlen,aq,ao];exact av.pure hs (by rw[bad (λh=>by omega)])
  have q2:(k>=l.length)=False:=PF h2;rw[Wy ⟨hm,by omega,by omega⟩];have Us:=hm.2.1;simp only at Us;have r1:PY .i64 (gZ l a k-d):=ar;have r2:PY .i64 (gZ l a k-d+kept):=ar;have r3:PY .i64 (gZ l a k-d+kept+shift):=ar;apply sR;simp only[go_sem,seval,a6,q1,q2,hlen,aq,ao];refine Go.bZ rfl rfl rfl (Dc l hl a k) ?_;apply sG;simp only[go_sem,seval,a6,r1,r2,r3];exact av.pure hs rfl
 .rw[Rv hm];apply sR;simp only[go_sem,seval,a6,aq,ao];exact av.pure hs (by rw[bad (λh=>hm h.1)])
open Go.Proofs Go.Proofs.Tryz
def Hw{m:Int}(h1:0<=m)(h2:m<=18446744073709551615):PY .u64 m:=by
 unfold PY IntKind.wrap;simp only[IntKind.signed,IntKind.bits];simp;omega
def lA(p:Nat->Bool):Nat->Nat->Nat->Nat
 |0,i,_=>i
 |f+1,i,j=>if i<j then if p ((i+j)/2)then lA p f i ((i+j)/2)else lA p f ((i+j)/2+1) j else i
def BA(p:Nat->Bool)(n:Nat):Nat:=lA p n 0 n
def nS(p:Nat->Bool):∀(f g i j:Nat),j-i<=f->j-i<=g->lA p f i j=lA p g i j
 |0,0,_,_,_,_=>rfl
 |0,g+1,i,j,h,_=>by rw[lA,lA,aH (by omega)]
 |f+1,0,i,j,_,h=>by rw[lA,lA,aH (by omega)]
 |f+1,g+1,i,j,h1,h2=>by
  rw[lA,lA];split
  .rename_i H';split
   .exact nS p f g i ((i+j)/2) (by omega) (by omega)
   .exact nS p f g ((i+j)/2+1) j (by omega) (by omega)
  .rfl
def FC{f:FuncId}{caps:List V}(p:Nat->Bool)(n:Nat)(hn:n<=1000000000){U:ag}(hf:∀i:Nat,i<n->aB prog f (vI i::caps) U λr Z'=>r=.bool (p i)/\Z'=U):
 aB prog 80 [vI n,.fn f caps] U λr Z'=>r=vI (BA p n)/\Z'=U:=by
 refine e80.r (by simp[c80]) ?_;refine ae.mix 8 ?_;apply sR;simp only[go_sem,seval,c80];refine ae.loop (λm st=>∃i j:Nat,i<=j/\j<=n/\m=j-i/\BA p n=lA p (j-i) i j/\st.U=U/\st.s 1=.fn f caps/\st.s 5=vI i/\st.s 6=vI j) n ?_ ?_
 .exact⟨0,n,by omega,by omega,rfl,rfl,rfl,rfl,rfl,rfl⟩
 .rintro m ⟨S,J⟩ ⟨i,j,YZ,hjn,rfl,heq,Qj,t1,t5,t6⟩;simp only at Qj t1 t5 t6;subst Qj;refine ae.mix 8 ?_;by_cases H':i<j
  .have q:((i:Int)<j)=True:=PK;have r1:PY .i64 ((i:Int)+j):=ar;apply sR;simp only[go_sem,seval,t1,t5,t6,q,r1];have hh:((i:Int)+j).fdiv (2^min 1 64)=(((i+j)/2:Nat):Int):=by
    rw[show(2^min 1 64:Int)=2 from rfl,Int.fdiv_eq_ediv_of_nonneg _ (by decide)];omega
   rw[hh];refine⟨Hw (by omega) (by omega),ar,?_⟩;obtain⟨k,hk⟩:∃k:Nat,k=(i+j)/2:=⟨_,rfl⟩
   rw[<-hk];obtain⟨w,hw⟩:∃w:Nat,j-i=w+1:=⟨j-i-1,by omega⟩
   rw[hw,lA,aE H',<-hk]at heq;refine ae.aC rfl rfl rfl (hf k (by omega)) ?_;have r2:PY .i64 ((k:Int)+1):=ar;cases hp:p k
   .rw[hp]at heq;apply sR;simp only[go_sem,seval,t1,t5,t6,r2];refine⟨_,?_,k+1,j,by omega,hjn,rfl,?_,by simp[t1,t6]⟩
    .omega
    .rw[heq];exact nS p _ _ _ _ (by omega) (by omega)
   .rw[hp]at heq;apply sR;simp only[go_sem,seval,t1,t5,t6];refine⟨_,?_,i,k,by omega,by omega,rfl,?_,by simp[t1,t5]⟩
    .omega
    .rw[heq];exact nS p _ _ _ _ (by omega) (by omega)
  .have q:((i:Int)<j)=False:=PF;have RH:i=j:=by omega
   subst RH;apply sR;simp only[go_sem,seval,t1,t5,t6,q];refine av.same ?_;rw[heq,Nat.sub_self];rfl
open Go.Proofs Go.Proofs.Tryz
def fO(l:List QB)(s:PH)(kept shift body:Int)(n:Nat):Bool:=decide (eo l s kept shift (s.atom+n)+(R8 l (s.atom+n)).h>body)
def lq(l:List QB)(s:PH)(kept shift body:Int):Int:=if cM l s then s.atom+BA (fO l s kept shift body) (l.length-s.atom.toNat)else 0
def yJ(p:Nat->Bool):∀(f i j:Nat),i<=j->lA p f i j<=j
 |0,i,j,h=>h
 |f+1,i,j,h=>by
  rw[lA];split
  .split
   .exact mq (yJ p f _ _ (by omega)) (by omega)
   .exact yJ p f _ _ (by omega)
  .exact h
def CE(p:Nat->Bool)(n:Nat):BA p n<=n:=yJ p n 0 n (Nat.zero_le n)
def oR{l:List QB}(hl:mE l){s:PH}(hd:s.done<=1152921504606846976){kept shift:Int}(hk:-1152921504606846976<=kept/\kept<=2305843009213693952)(SZ:0<=shift/\shift<=1152921504606846976)(k:Int):
 -4611686018427387904<=eo l s kept shift k/\eo l s kept shift k<=5764607523034234880:=by
 unfold eo;have h1:=rM hl s.atom k;split
 .rename_i h;have:=h.1.2.1;omega
 .omega
def Fy(l:List QB)(hl:mE l)(s:PH)(hm:cM l s)(hd:s.done<=1152921504606846976)(kept shift body:Int)(hk:-1152921504606846976<=kept/\kept<=2305843009213693952)(SZ:0<=shift/\shift<=1152921504606846976)
 {U:ag}{i5 i6 i7 i8 i9:Nat}(a5:U i5=some ⟨77,1,[bH l]⟩)(a6:U i6=some ⟨37,3,[aF s]⟩)(a7:U i7=some ⟨3,1,[vI kept]⟩)(a8:U i8=some ⟨3,1,[vI shift]⟩)(a9:U i9=some ⟨3,1,[vI body]⟩)
 (n:Nat)(hn:n<l.length-s.atom.toNat):
 aB prog 81 [vI n,.ptr i6 0 0,.ptr i5 0 0,.ptr i7 0 0,.ptr i8 0 0,.ptr i9 0 0] U λr Z'=>r=.bool (fO l s kept shift body n)/\Z'=U:=by
 refine e81.r (by simp[c81]) ?_;have XB:=oR hl hd hk SZ (s.atom+n);have Sg:=zN l hl s hd kept shift (s.atom+n) hk SZ;unfold fO;have Wt:=hl.len;obtain⟨a,d,fr⟩:=s;obtain⟨h0,h1⟩:=hm.1;rw[aF]at a6 Sg;simp only at h0 h1 hn XB Sg|-;obtain⟨m,rfl⟩:∃m:Nat,a=m:=⟨a.toNat,by omega⟩
 have e1:(m:Int)+(n:Int)=((m+n:Nat):Int):=by omega
 rw[e1]at XB Sg|-;have hmn:m+n<l.length:=by omega
 have O':=λU=>jr (U:=U) hmn;have hy:=hl.Wm _ (QL hmn);rw[bG hmn];have r1:PY .i64 ((m+n:Nat):Int):=ar;generalize eo l ⟨m,d,fr⟩ kept shift ((m+n:Nat):Int)=P at*;have r2:PY .i64 (P+l[m+n].h):=ar;generalize m+n=q at*;refine ae.mix 9 ?_;by_cases hb:P+l[q].h>body
 .have q1:(P+l[q].h>body)=True:=PK hb;apply sR;simp only[go_sem,seval,c81,a5,a6,a7,a8,a9,e1,r1,aq,ao];refine Go.bZ rfl rfl rfl Sg ?_;apply sG;simp only[go_sem,seval,a5,a6,a7,a8,a9,r2,O',dC,q1,aq,ao];exact av.same rfl
 .have q1:(P+l[q].h>body)=False:=PF hb;apply sR;simp only[go_sem,seval,c81,a5,a6,a7,a8,a9,e1,r1,aq,ao];refine Go.bZ rfl rfl rfl Sg ?_;apply sG;simp only[go_sem,seval,a5,a6,a7,a8,a9,r2,O',dC,q1,aq,ao];exact av.same rfl
def Ah(l:List QB)(hl:mE l)(s:PH)(hd:s.done<=1152921504606846976)(kept shift body:Int)(hk:-1152921504606846976<=kept/\kept<=2305843009213693952)(SZ:0<=shift/\shift<=1152921504606846976):
 bb prog 45 [bH l,aF s,vI kept,vI shift,vI body] (vI (lq l s kept shift body)):=λU=>by
 refine e45.r (by simp[c45]) ?_;have hs:=aa.refl U;have hc:=o7 l s;have hlen:=jm l;have Wt:=hl.len;refine ae.mix 12 ?_;have SJ:(aF s).cells=[vI s.atom,vI s.done,.bool s.free]:=rfl;have Tc:(aF s).stays=true:=rfl;apply sR;simp only[go_sem,seval,c45,SJ,Tc,aq,ao];refine ad λi5 Z5 s5 a5 f5=>?_;have z5:=hs.none f5;replace hs:=hs.trans s5;simp only[go_sem,seval,SJ,Tc,aq,ao];refine ad λi6 Z6 s6 a6 f6=>?_;have n56:=al a5 f6;replace a5:=s6 _ _ a5;have z6:=hs.none f6;replace hs:=hs.trans s6;simp only[go_sem,seval,SJ,Tc,aq,ao];refine ad λi7 Z7 s7 a7 f7=>?_;have n57:=al a5 f7;replace a5:=s7 _ _ a5;have UH:=al a6 f7;replace a6:=s7 _ _ a6;have z7:=hs.none f7;replace hs:=hs.trans s7;simp only[go_sem,seval,SJ,Tc,aq,ao];refine ad λi8 Z8 s8 a8 f8=>?_;have n58:=al a5 f8;replace a5:=s8 _ _ a5;have n68:=al a6 f8;replace a6:=s8 _ _ a6;have Wg:=al a7 f8;replace a7:=s8 _ _ a7;have z8:=hs.none f8;replace hs:=hs.trans s8;simp only[go_sem,seval,SJ,Tc,aq,ao];refine ad λi9 Z9 s9 a9 f9=>?_;have n59:=al a5 f9;replace a5:=s9 _ _ a5;have YR:=al a6 f9;replace a6:=s9 _ _ a6;have VS:=al a7 f9;replace a7:=s9 _ _ a7;have WD:=al a8 f9;replace a8:=s9 _ _ a8;have z9:=hs.none f9;replace hs:=hs.trans s9;have b6:=a6;rw[aF]at b6;simp only[go_sem,seval,a5,b6,aq,ao];refine ae.aC rfl rfl rfl (hc _) ?_;unfold lq;by_cases hm:cM l s
 .obtain⟨h0,h1⟩:=hm.1;obtain⟨m,hmm⟩:∃m:Nat,s.atom=m:=⟨s.atom.toNat,by omega⟩
  have hn:((l.length:Int)-s.atom)=((l.length-s.atom.toNat:Nat):Int):=by omega
  have r1:PY .i64 ((l.length-s.atom.toNat:Nat):Int):=ar;rw[Rt hm,aE hm];apply sR;simp only[go_sem,seval,a5,b6,hlen,hn,r1,aq,ao];refine ae.aC rfl rfl rfl (FC (fO l s kept shift body) (l.length-s.atom.toNat) (by omega) (λi hi=>Fy l hl s hm hd kept shift body hk SZ a5 a6 a7 a8 a9 i hi)) ?_;have hse:=CE (fO l s kept shift body) (l.length-s.atom.toNat);have r2:PY .i64 (s.atom+(BA (fO l s kept shift body) (l.length-s.atom.toNat):Nat)):=ar;apply sR;simp only[go_sem,seval,b6,r2];exact av.pure hs rfl
 .rw[Rv hm,aH hm];apply sR;simp only[go_sem,seval];exact av.pure hs rfl
open Go.Proofs Go.Proofs.Tryz
structure RR where
 (node atom fr x y w h:Int)
deriving DecidableEq
def aY(f:RR):V:=.agg [vI f.node,vI f.atom,vI f.fr,vI f.x,vI f.y,vI f.w,vI f.h]
def iO(l:List QB)(k:Int):RR:=⟨(R8 l k).node,k,0,(R8 l k).x,0,(R8 l k).w,(R8 l k).h⟩
def RR.cg(f:RR)(d:Int):RR:={ f with fr:=d,h:=f.h-d }
def RR.cut(f:RR)(a:Int):RR:={ f with h:=min f.h a }
def jw(l:List QB)(f:RR):PH:=if f.fr+f.h<(R8 l f.atom).h then⟨f.atom,f.fr+f.h,false⟩else⟨f.atom+1,0,false⟩
def GI(l:List QB)(k:Nat)(hk:k<l.length):bb prog 83 [bH l,vI k] (aY (iO l k)):=λU=>by
 refine e83.r (by simp[c83]) ?_;have hs:=aa.refl U;have O':=λU=>jr (U:=U) hk;rw[iO,bG hk];refine ae.mix 6 ?_;apply sR;simp only[go_sem,seval,c83];refine ad λi4 Z4 s4 a4 f4=>?_;have z4:=hs.none f4;replace hs:=hs.trans s4;simp only[go_sem,seval,O',dC,aq,ao];refine ad λi5 Z5 s5 a5 f5=>?_;have Rr:=al a4 f5;replace a4:=s5 _ _ a4;have z5:=hs.none f5;replace hs:=hs.trans s5;simp only[go_sem,seval,a5,a4,ab Rr,aq,ao];exact av.pure ((hs.aD z5).aD z4) rfl
def Ag(f:RR)(d:Int)(hr:PY .i64 (f.h-d)){U:ag}{i:Nat}(h:U i=some ⟨163,7,[aY f]⟩):
 aB prog 84 [.ptr i 0 0,vI d] U λ_ Z'=>Z'=C' U i ⟨163,7,[aY (f.cg d)]⟩:=by
 refine e84.r (by simp[c84]) ?_;rw[aY]at h;refine ae.mix 4 ?_;generalize hX:(C' U i ⟨163,7,[aY (f.cg d)]⟩)=X;apply sR;simp only[go_sem,seval,c84,h,hr];exact⟨_,_,aa.refl _,Wk.refl (aa.refl _) _,hX⟩
def Hu(f:RR)(a:Int){U:ag}{i:Nat}(h:U i=some ⟨163,7,[aY f]⟩):
 aB prog 85 [.ptr i 0 0,vI a] U λ_ Z'=>Z'=C' U i ⟨163,7,[aY (f.cut a)]⟩:=by
 refine e85.r (by simp[c85]) ?_;rw[aY]at h;refine ae.mix 4 ?_;generalize hX:(C' U i ⟨163,7,[aY (f.cut a)]⟩)=X;apply sR;simp only[go_sem,seval,c85,h,fo];exact⟨_,_,aa.refl _,Wk.refl (aa.refl _) _,hX⟩
def B2(l:List QB)(f:RR)(k:Nat)(hf:f.atom=k)(hk:k<l.length)(hl:l.length<=1000000000)(hr:PY .i64 (f.fr+f.h)){U:ag}{i:Nat}(h:U i=some ⟨163,7,[aY f]⟩):
 aB prog 86 [.ptr i 0 0,bH l] U λr Z'=>r=aF (jw l f)/\Z'=U:=by
 refine e86.r (by simp[c86]) ?_;have hs:=aa.refl U;have O':=λU=>jr (U:=U) hk;obtain⟨nd,Qf,fr,x,y,w,hh⟩:=f;simp only at hf hr;subst hf;rw[aY]at h;unfold jw;simp only;rw[bG hk];have r1:PY .i64 ((k:Int)+1):=ar;refine ae.mix 6 ?_;apply sR;simp only[go_sem,seval,c86];refine ad λi4 Z4 s4 a4 f4=>?_;have z4:=hs.none f4;replace hs:=hs.trans s4;have b:=s4 _ _ h;have n4:i≠i4:=al h f4;by_cases hc:fr+hh<l[k].h
 .have q:(fr+hh<l[k].h)=True:=PK hc;rw[aE hc];simp only[go_sem,seval,a4,b,hr,r1,q,O',dC];exact av.pure (hs.aD z4) rfl
 .have q:(fr+hh<l[k].h)=False:=PF hc;rw[aH hc];simp only[go_sem,seval,a4,b,hr,r1,q,O',dC];exact av.pure (hs.aD z4) rfl
open Go.Proofs Go.Proofs.Tryz
def lu{s:Nat->V}{U:ag}{a1 a2:Bool}{n1 n2 d e:Nat}{Post:V->ag->Prop}:
 TF [.cell a1 n1 (.t d),.cell a2 n2 (.t e)] ⟨s,U⟩ Post=dq (cj U a1 n1 (s d)) λv=>dq (cj U a2 n2 (s e)) λw=>av (.PN [v,w]) U Post:=by
 unfold TF av qF;simp only[gM,iU,VX.ev];cases cj U a1 n1 (s d)<;>cases cj U a2 n2 (s e)<;>simp[dq]
def eE(l:List QB)(s:PH)(Ql:Int):RR:=((iO l s.atom).cg s.done).cut Ql
def pY(l:List QB)(s:PH)(Ql:Int):Prop:=cM l s/\1<=Ql
instance (l:List QB) (s:PH) (Ql:Int):Decidable (pY l s Ql):=by unfold pY;infer_instance
def kQ(l:List QB)(s:PH)(Ql:Int):RR:=if pY l s Ql then eE l s Ql else⟨0,0,0,0,0,0,0⟩
def dI(l:List QB)(s:PH)(Ql:Int):PH:=if pY l s Ql then jw l (eE l s Ql)else⟨0,0,false⟩
def GF(l:List QB)(hl:mE l)(s:PH)(hd:s.done<=1152921504606846976)(Ql:Int):bb prog 46 [bH l,aF s,vI Ql] (.PN [aY (kQ l s Ql),aF (dI l s Ql)]):=λU=>by
 refine e46.r (by simp[c46]) ?_;have hs:=aa.refl U;have Wt:=hl.len;have SJ:(aF s).cells=[vI s.atom,vI s.done,.bool s.free]:=rfl;have Tc:(aF s).stays=true:=rfl;refine ae.mix 9 ?_;apply sR;simp only[go_sem,seval,c46,SJ,Tc,aq,ao];refine ad λi4 Z4 s4 a4 f4=>?_;have z4:=hs.none f4;replace hs:=hs.trans s4;simp only[go_sem,seval];refine ad λi6 Z6 s6 a6 f6=>?_;have n46:=al a4 f6;replace a4:=s6 _ _ a4;have z6:=hs.none f6;replace hs:=hs.trans s6;simp only[go_sem,seval];refine ad λi7 Z7 s7 a7 f7=>?_;have n47:=al a4 f7;replace a4:=s7 _ _ a4;have UH:=al a6 f7;replace a6:=s7 _ _ a6;have z7:=hs.none f7;replace hs:=hs.trans s7;have b4:=a4;rw[aF]at b4;simp only[go_sem,seval,b4,aq,ao];refine ae.aC rfl rfl rfl (o7 l s _) ?_;have bad:¬pY l s Ql->(aY (kQ l s Ql)=.agg [vI 0,vI 0,vI 0,vI 0,vI 0,vI 0,vI 0]/\aF (dI l s Ql)=.agg [vI 0,vI 0,.bool false]):=λh=>by
  rw[kQ,dI,aH h,aH h];exact⟨rfl,rfl⟩
 have Wy:pY l s Ql->(kQ l s Ql=eE l s Ql/\dI l s Ql=jw l (eE l s Ql)):=λh=>⟨aE h,aE h⟩
 generalize kQ l s Ql=X at*;generalize dI l s Ql=Y at*;by_cases hm:cM l s
 .rw[Rt hm];by_cases h1:Ql<1
  .have q1:(Ql<1)=True:=PK h1;obtain⟨e1,e2⟩:=bad (λh=>by have:=h.2;omega);rw[e1,e2];apply sR;simp only[go_sem,seval,a6,a7,ab UH,ab UH.symm,q1,lu];exact av.pure ((hs.aD z6).aD z7) rfl
  have q1:(Ql<1)=False:=PF h1;obtain⟨rfl,rfl⟩:=Wy ⟨hm,by omega⟩;clear Wy bad;obtain⟨h0,h2⟩:=hm.1;obtain⟨k,hk⟩:∃k:Nat,s.atom=k:=⟨s.atom.toNat,by omega⟩
  have Q6:k<l.length:=by omega
  apply sR;simp only[go_sem,seval,b4,hk,q1,aq,ao];refine ae.aC rfl rfl rfl (GI l k Q6 _) ?_;have Um:∀f,(aY f).cells=[vI f.node,vI f.atom,vI f.fr,vI f.x,vI f.y,vI f.w,vI f.h]:=λ_=>rfl;apply sR;simp only[go_sem,seval];refine ad λi8 Z8 s8 a8 f8=>?_;have n48:=al a4 f8;replace a4:=s8 _ _ a4;have n68:=al a6 f8;replace a6:=s8 _ _ a6;have Wg:=al a7 f8;replace a7:=s8 _ _ a7;have z8:=hs.none f8;replace hs:=hs.trans s8;have Us:=hm.2.1;have hy:=hl.Wm _ (QL Q6);have hdh:s.done=0\/s.done<l[k].h:=by have:=hm.2.2;rw[hk,bG Q6]at this;exact this
  have Yc:(iO l k).h=l[k].h:=by rw[iO,bG Q6]
  have RP:∀f,(aY f).stays=true:=λ_=>rfl;rw[aF]at a4;simp only[go_sem,seval,a8,a4,ab n48,Um,RP];generalize Ra:C' _ i8 _=Y8;replace a8:=(congrFun Ra i8).symm.trans af;replace a4:=((congrFun Ra i4).symm.trans (ab n48)).trans a4;replace a6:=((congrFun Ra i6).symm.trans (ab n68)).trans a6;replace a7:=((congrFun Ra i7).symm.trans (ab Wg)).trans a7;replace hs:=Eq.subst (motive:=aa _) Ra (hs.aD z8);clear Ra;have h8:Y8 i8=some ⟨163,7,[aY (iO l k)]⟩:=a8;refine ae.call rfl rfl rfl (Ag (iO l k) s.done (ar) h8) ?_;rintro-Z9 rfl;generalize Ra:C' _ i8 _=Y8;replace a8:=(congrFun Ra i8).symm.trans af;replace a4:=((congrFun Ra i4).symm.trans (ab n48)).trans a4;replace a6:=((congrFun Ra i6).symm.trans (ab n68)).trans a6;replace a7:=((congrFun Ra i7).symm.trans (ab Wg)).trans a7;replace hs:=Eq.subst (motive:=aa _) Ra (hs.aD z8);clear Ra;apply sR;simp only[go_sem,seval];refine ae.call rfl rfl rfl (Hu ((iO l k).cg s.done) Ql a8) ?_;rintro-Z9 rfl;generalize Ra:C' _ i8 _=Y8;replace a8:=(congrFun Ra i8).symm.trans af;replace a4:=((congrFun Ra i4).symm.trans (ab n48)).trans a4;replace a6:=((congrFun Ra i6).symm.trans (ab n68)).trans a6;replace a7:=((congrFun Ra i7).symm.trans (ab Wg)).trans a7;replace hs:=Eq.subst (motive:=aa _) Ra (hs.aD z8);clear Ra;have TD:((iO l k).cg s.done).cut Ql=eE l s Ql:=by rw[eE,hk]
  rw[TD]at a8;have ha:(eE l s Ql).atom=k:=by rw[<-TD];rfl
  have SP:(eE l s Ql).fr=s.done:=by rw[<-TD];rfl
  have hhh:(eE l s Ql).h=min (l[k].h-s.done) Ql:=by rw[<-TD,<-Yc];rfl
  have Xy:=λ(Z1:ag) (h1:aa Y8 Z1)=>B2 l (eE l s Ql) k ha Q6 Wt (ar) (h1 _ _ a8);generalize jw l (eE l s Ql)=Y at*;generalize eE l s Ql=X at*;have b8:=a8;rw[aY]at b8;apply sR;simp only[go_sem,seval,b8];refine Go.xN rfl rfl rfl (λZ1 h1=>Xy Z1 h1) ?_;have hyc:(aF Y).cells=[vI Y.atom,vI Y.done,.bool Y.free]:=rfl;have hys:(aF Y).stays=true:=rfl;apply sG;simp only[go_sem,seval,a6,a7,ab UH,ab UH.symm,hyc,hys,lu];exact av.pure ((hs.aD z6).aD z7) rfl
 .rw[Rv hm];obtain⟨e1,e2⟩:=bad (λh=>hm h.1);rw[e1,e2];apply sR;simp only[go_sem,seval,a6,a7,ab UH,ab UH.symm,lu];exact av.pure ((hs.aD z6).aD z7) rfl
open Go.Proofs Go.Proofs.Tryz
def oq(l:List QB)(k:Int)(y:Int):RR:={ iO l k with y:=y }
def fm(l:List QB)(s:PH)(kept shift k:Int):RR:=
 if cM l s/\s.atom<=k/\k<l.length then
  (if k=s.atom then{ (oq l k (eo l s kept shift k)).cg s.done with y:=eo l s kept shift k+s.done }else oq l k (eo l s kept shift k))
 else⟨0,0,0,0,0,0,0⟩
def Ee(l:List QB)(hl:mE l)(s:PH)(hd:s.done<=1152921504606846976)(kept shift k:Int)(hk:-1152921504606846976<=kept/\kept<=2305843009213693952)(SZ:0<=shift/\shift<=1152921504606846976):
 bb prog 158 [bH l,aF s,vI kept,vI shift,vI k] (aY (fm l s kept shift k)):=λU=>by
 refine OY.r (by simp[JQ]) ?_;have hs:=aa.refl U;have hlen:=jm l;have SJ:(aF s).cells=[vI s.atom,vI s.done,.bool s.free]:=rfl;have Tc:(aF s).stays=true:=rfl;have Sg:=zN l hl s hd kept shift k hk SZ;have XB:=oR hl hd hk SZ k;refine ae.mix 12 ?_;apply sR;simp only[go_sem,seval,JQ,SJ,Tc,aq,ao];refine ad λi6 Z6 s6 a6 f6=>?_;have z6:=hs.none f6;replace hs:=hs.trans s6;simp only[go_sem,seval];refine ad λQb UP Re P0 f10=>?_;have Za:=al a6 f10;replace a6:=Re _ _ a6;have SS:=hs.none f10;replace hs:=hs.trans Re;rw[aF]at a6 Sg;simp only[go_sem,seval,a6,aq,ao];refine ae.aC rfl rfl rfl (o7 l s _) ?_;have bad:¬(cM l s/\s.atom<=k/\k<l.length)->aY (fm l s kept shift k)=.agg [vI 0,vI 0,vI 0,vI 0,vI 0,vI 0,vI 0]:=λh=>by
  rw[fm,aH h];rfl
 have Wy:(cM l s/\s.atom<=k/\k<l.length)->fm l s kept shift k=(if k=s.atom then{ (oq l k (eo l s kept shift k)).cg s.done with y:=eo l s kept shift k+s.done }else oq l k (eo l s kept shift k)):=λh=>aE h;generalize fm l s kept shift k=X at*;by_cases hm:cM l s
 .rw[Rt hm];by_cases h1:k<s.atom
  .have q1:(k<s.atom)=True:=PK h1;rw[bad (λh=>by omega)];apply sR;simp only[go_sem,seval,a6,P0,q1,aq,ao];exact av.pure (hs.aD SS) rfl
  have q1:(k<s.atom)=False:=PF h1;by_cases h2:k>=l.length
  .have q2:(k>=l.length)=True:=PK h2;rw[bad (λh=>by omega)];apply sR;simp only[go_sem,seval,a6,P0,q1,q2,hlen,aq,ao];exact av.pure (hs.aD SS) rfl
  have q2:(k>=l.length)=False:=PF h2;obtain rfl:=Wy ⟨hm,by omega,by omega⟩;clear Wy bad;obtain⟨h0,h3⟩:=hm.1;obtain⟨n,rfl⟩:∃n:Nat,k=n:=⟨k.toNat,by omega⟩
  have Si:n<l.length:=by omega
  apply sR;simp only[go_sem,seval,a6,q1,q2,hlen,aq,ao];refine ae.aC rfl rfl rfl (GI l n Si _) ?_;have Um:∀f,(aY f).cells=[vI f.node,vI f.atom,vI f.fr,vI f.x,vI f.y,vI f.w,vI f.h]:=λ_=>rfl;have RP:∀f,(aY f).stays=true:=λ_=>rfl;generalize eo l s kept shift (n:Int)=P at*;apply sR;simp only[go_sem,seval,Um,RP];refine ad λRi Xx Tk SA f11=>?_;have Sz:=al a6 f11;replace a6:=Tk _ _ a6;have Q2:=al P0 f11;replace P0:=Tk _ _ P0;have W5:=hs.none f11;replace hs:=hs.trans Tk;simp only[go_sem,seval,SA,a6,ab (Ne.symm Sz),ab Sz,Um,RP,aq,ao];generalize QI:C' _ Ri _=Y11;replace SA:=(congrFun QI Ri).symm.trans af;replace a6:=((congrFun QI i6).symm.trans (ab Sz)).trans a6;replace P0:=((congrFun QI Qb).symm.trans (ab Q2)).trans P0;replace hs:=Eq.subst (motive:=aa _) QI (hs.aD W5);clear QI;refine ae.aC rfl rfl rfl (Sg _) ?_;rw[aY]at SA;have Us:=hm.2.1;have hy:=hl.Wm _ (QL Si);have Yc:(iO l n).h=l[n].h:=by rw[iO,bG Si]
  by_cases he:(n:Int)=s.atom
  .have q3:((n:Int)=s.atom)=True:=PK he;rw[aE he];have r2:PY .i64 (P+s.done):=ar;apply sR;simp only[go_sem,seval,SA,a6,q3,aq,ao,ab Sz];generalize QI:C' _ Ri _=Y11;replace SA:=(congrFun QI Ri).symm.trans af;replace a6:=((congrFun QI i6).symm.trans (ab Sz)).trans a6;replace P0:=((congrFun QI Qb).symm.trans (ab Q2)).trans P0;replace hs:=Eq.subst (motive:=aa _) QI (hs.aD W5);clear QI;have Up:Y11 Ri=some ⟨163,7,[aY (oq l n P)]⟩:=SA;refine ae.call rfl rfl rfl (Ag (oq l n P) s.done (ar (by show _<=(iO l n).h-s.done;omega) (by show(iO l n).h-s.done<=_;omega)) Up) ?_;rintro-Z9 rfl;generalize QI:C' _ Ri _=Y11;replace SA:=(congrFun QI Ri).symm.trans af;replace a6:=((congrFun QI i6).symm.trans (ab Sz)).trans a6;replace P0:=((congrFun QI Qb).symm.trans (ab Q2)).trans P0;replace hs:=Eq.subst (motive:=aa _) QI (hs.aD W5);clear QI;rw[aY]at SA;have r3:PY .i64 (((oq l n P).cg s.done).y+s.done):=r2;apply sR;simp only[go_sem,seval,SA,a6,P0,r3,ab Sz,ab Q2];exact av.pure ((hs.aD W5).aD SS) rfl
  .have q3:((n:Int)=s.atom)=False:=PF he;rw[aH he];apply sR;simp only[go_sem,seval,SA,a6,P0,q3,aq,ao,ab Sz,ab Q2];exact av.pure ((hs.aD W5).aD SS) rfl
 .rw[Rv hm];rw[bad (λh=>hm h.1)];apply sR;simp only[go_sem,seval,P0];exact av.pure (hs.aD SS) rfl
open Go.Proofs Go.Proofs.Tryz
def mulR(a n:Int):Int:=
 if dS n≠0/\(dS a>(1099511627776:Int).tdiv (max (dS n) (-dS n))\/dS a<(-1099511627776:Int).tdiv (max (dS n) (-dS n)))then
  (if decide (dS a<0)=decide (dS n<0)then 1099511627776 else -1099511627776)
 else dS a*dS n
def H0{A B:Int}(h1:A<=(1099511627776:Int).tdiv (max B (-B)))(h2:(-1099511627776:Int).tdiv (max B (-B))<=A)(hB:B≠0):-1099511627776<=A*B/\A*B<=1099511627776:=by
 obtain⟨M,hM⟩:∃M,M=max B (-B):=⟨_,rfl⟩
 rw[<-hM]at h1 h2;have hM1:1<=M:=by omega
 rw[Int.neg_tdiv]at h2;rw[Int.tdiv_eq_ediv_of_nonneg (by omega)]at h1 h2;have h3:(1099511627776:Int)/M*M<=1099511627776:=Int.ediv_mul_le _ (by omega);have h4:=Int.mul_le_mul_of_nonneg_right h1 (by omega:0<=M);have h5:=Int.mul_le_mul_of_nonneg_right h2 (by omega:0<=M);rw[Int.neg_mul]at h5;rcases(by omega:M=B\/M=-B)with e|e
 .rw[e]at h4 h5 h3;omega
 .have hb:B=-M:=by omega
  rw[hb,Int.mul_neg];omega
def M3(a n:Int):bb prog 54 [vI a,vI n] (vI (mulR a n)):=λU=>by
 refine e54.r (by simp[c54]) ?_;refine ae.mix 5 ?_;apply sR;simp only[go_sem,seval,c54];refine ae.aC rfl rfl rfl (y9 a _) ?_;apply sR;simp only[go_sem,seval];refine ae.aC rfl rfl rfl (y9 n _) ?_;unfold mulR;have hA:-1099511627776<=dS a/\dS a<=1099511627776:=by unfold dS;omega
 have hB:-1099511627776<=dS n/\dS n<=1099511627776:=by unfold dS;omega
 generalize dS a=A at*;generalize dS n=B at*;have b1:(true==true)=true:=rfl;have b2:(true==false)=false:=rfl;have b3:(false==true)=false:=rfl;have b4:(false==false)=true:=rfl;by_cases h0:B=0
 .subst h0;have q0:((0:Int)≠0)=False:=PF (λh=>h rfl);have r1:PY .i64 (A*0):=ar;apply sR;simp only[go_sem,seval,q0,r1];exact av.same (by rw[aH (by simp)])
 have q0:(B≠0)=True:=PK h0;have hM1:1<=max B (-B)/\max B (-B)<=1099511627776:=by omega
 have qM:(max B (-B)=0)=False:=PF;have rn:PY .i64 (-B):=ar;have t1:0<=(1099511627776:Int).tdiv (max B (-B))/\(1099511627776:Int).tdiv (max B (-B))<=1099511627776:=by
  rw[Int.tdiv_eq_ediv_of_nonneg (by omega)];exact⟨Int.ediv_nonneg (by omega) (by omega),Int.ediv_le_self _ (by omega)⟩
 have t2:(-1099511627776:Int).tdiv (max B (-B))=-((1099511627776:Int).tdiv (max B (-B))):=Int.neg_tdiv ..;have hr:=H0 (A:=A) (B:=B);have rq1:PY .i64 ((1099511627776:Int).tdiv (max B (-B))):=ar;have rq2:PY .i64 ((-1099511627776:Int).tdiv (max B (-B))):=ar;by_cases h1:A>(1099511627776:Int).tdiv (max B (-B))
 .have q1:(A>(1099511627776:Int).tdiv (max B (-B)))=True:=PK h1;rw[aE ⟨h0,.inl h1⟩];by_cases sA:A<0
  .have qA:(A<0)=True:=PK sA;by_cases sB:B<0
   .have qB:(B<0)=True:=PK sB;apply sR;simp only[go_sem,seval,q0,Int.zero_sub,rn,dy,qM,rq1,q1,qA,qB,b1,b2,b3,b4];exact av.same (by first|rfl|simp[sA,sB])
   .have qB:(B<0)=False:=PF sB;apply sR;simp only[go_sem,seval,q0,Int.zero_sub,rn,dy,qM,rq1,q1,qA,qB,b1,b2,b3,b4];exact av.same (by first|rfl|simp[sA,sB])
  .have qA:(A<0)=False:=PF sA;by_cases sB:B<0
   .have qB:(B<0)=True:=PK sB;apply sR;simp only[go_sem,seval,q0,Int.zero_sub,rn,dy,qM,rq1,q1,qA,qB,b1,b2,b3,b4];exact av.same (by first|rfl|simp[sA,sB])
   .have qB:(B<0)=False:=PF sB;apply sR;simp only[go_sem,seval,q0,Int.zero_sub,rn,dy,qM,rq1,q1,qA,qB,b1,b2,b3,b4];exact av.same (by first|rfl|simp[sA,sB])
 have q1:(A>(1099511627776:Int).tdiv (max B (-B)))=False:=PF h1;by_cases h2:A<(-1099511627776:Int).tdiv (max B (-B))
 .have q2:(A<(-1099511627776:Int).tdiv (max B (-B)))=True:=PK h2;rw[aE ⟨h0,.inr h2⟩];by_cases sA:A<0
  .have qA:(A<0)=True:=PK sA;by_cases sB:B<0
   .have qB:(B<0)=True:=PK sB;apply sR;simp only[go_sem,seval,q0,Int.zero_sub,rn,dy,qM,rq1,q1,rq2,q2,qA,qB,b1,b2,b3,b4];exact av.same (by first|rfl|simp[sA,sB])
   .have qB:(B<0)=False:=PF sB;apply sR;simp only[go_sem,seval,q0,Int.zero_sub,rn,dy,qM,rq1,q1,rq2,q2,qA,qB,b1,b2,b3,b4];exact av.same (by first|rfl|simp[sA,sB])
  .have qA:(A<0)=False:=PF sA;by_cases sB:B<0
   .have qB:(B<0)=True:=PK sB;apply sR;simp only[go_sem,seval,q0,Int.zero_sub,rn,dy,qM,rq1,q1,rq2,q2,qA,qB,b1,b2,b3,b4];exact av.same (by first|rfl|simp[sA,sB])
   .have qB:(B<0)=False:=PF sB;apply sR;simp only[go_sem,seval,q0,Int.zero_sub,rn,dy,qM,rq1,q1,rq2,q2,qA,qB,b1,b2,b3,b4];exact av.same (by first|rfl|simp[sA,sB])
 have q2:(A<(-1099511627776:Int).tdiv (max B (-B)))=False:=PF h2;have hr':=hr (by omega) (by omega) h0;have r3:PY .i64 (A*B):=ar;rw[aH (λh=>by rcases h.2 with h|h;exact h1 h;exact h2 h)]
 apply sR;simp only[go_sem,seval,q0,Int.zero_sub,rn,dy,qM,rq1,q1,rq2,q2,r3];exact av.same rfl
open Go.Proofs Go.Proofs.Tryz
def D5(l:List PI)(hl:l.length<=1000000):Iter prog 199 [.rp (aS l)] (l.map λf=>[aX f]):=by
 refine⟨MN.c,λQe τ Jx Z0 hy hJ=>?_⟩;refine(MN.r (by simp[KZ]) ?_).2;have ldF:∀U:ag,cj U false 1 (.rp (aS l))=some (aS l):=λU=>rfl;have Ui:=fP l;refine ae.mix 5 ?_;apply sR;simp only[go_sem,seval,KZ,ldF,Ui];refine ae.loop (λm st=>∃(j:Nat) (ZJ:ag),j<=l.length/\m=l.length-j/\τ ((l.take j).map λf=>[aX f]) ZJ/\aa ZJ st.U/\st.s 0=.yl Qe/\st.s 5=aS l/\st.s 6=vI l.length/\st.s 7=vI j) l.length ?_ ?_
 .exact⟨0,Z0,by omega,rfl,by simpa using hJ,aa.refl _,rfl,rfl,rfl,rfl⟩
 .rintro m ⟨S,J⟩ ⟨j,ZJ,hj,rfl,Ry,G',t0,t5,t6,t7⟩;simp only at G' t0 t5 t6 t7;refine ae.mix 5 ?_;by_cases H':j<l.length
  .have q:((j:Int)<l.length)=True:=PK;have r1:PY .i64 ((j:Int)+1):=ar;have O':=λU=>kP (U:=U) H';have e0':l=l.take j++l[j]::l.drop (j+1):=by rw[<-iy H',ua]
   have e:(l.map λf=>[aX f])=((l.take j).map λf=>[aX f])++[aX l[j]]::((l.drop (j+1)).map λf=>[aX f]):=by
    have:=congrArg (List.map λf=>[aX f]) e0'
    rwa [fC,eD]at this
   have QF:((l.take (j+1)).map λf=>[aX f])=((l.take j).map λf=>[aX f])++[[aX l[j]]]:=by rw[Tp H',fC];rfl
   have Tu:aX l[j]=.agg [vI l[j].node,vI l[j].side,vI l[j].anchor,vI l[j].x,vI l[j].y,vI l[j].w,vI l[j].h]:=rfl;generalize l[j]=x at*;apply sR;simp only[go_sem,seval,t0,t5,t6,t7,q,O',Tu];refine ad λi4 Z4 s4 a4 f4=>?_;simp only[go_sem,seval,a4,t0,t5,t6,t7];generalize Tl:C' Z4 i4 _=Y4;have hs4:aa J Y4:=by rw[<-Tl];exact s4.aD f4
   clear Tl;refine ae.mZ (Post:=λb' Z2=>∃Qd,bp ZJ Y4 Qd Z2/\((b'=true/\τ (((l.take j).map λf=>[aX f])++[[aX x]]) Qd)\/(b'=false/\Jx (((l.take j).map λf=>[aX f])++[[aX x]]) Qd))) rfl rfl rfl (hy _ [aX x] _ ZJ Y4 e Ry (G'.trans hs4)) ?_;rintro b' Z2 ⟨Qd,QV,QH⟩;rcases QH with⟨rfl,QH⟩|⟨rfl,QH⟩
   .apply sR;simp only[go_sem,seval,t0,t5,t6,t7,r1];refine⟨_,?_,j+1,Qd,by omega,rfl,by rw[QF];exact QH,QV.1,by simp[t0,t5,t6]⟩;omega
   .apply sR;simp only[go_sem,seval,t0,t5,t6,t7];exact⟨_,Qd,QV.1,Wk.refl QV.1 _,.inr ⟨_,⟨_,by rw[e,ly];rfl⟩,QH⟩⟩
  .have q:((j:Int)<l.length)=False:=PF;rw[nX (by omega)]at Ry;apply sR;simp only[go_sem,seval,t0,t5,t6,t7,q];exact⟨_,ZJ,G',Wk.refl G' _,.inl Ry⟩
def Mk(l:List PI):bb prog 179 [aS l] (.fn 199 [.rp (aS l)]):=λU=>by
 refine NR.r (by simp[Mx]) ?_;refine ae.mix 3 ?_;have q1:=aO l;have q2:=aP l;generalize aS l=x at*;apply sR;simp only[go_sem,seval,Mx,q1,q2];refine ad λTi Z1 s1 a1 f1=>?_;simp only[go_sem,seval,q1,q2];exact⟨_,U,s1,Wk.fn (vs':=[.rp x]) ⟨Wk.ptr s1 a1 f1,trivial⟩,rfl,rfl⟩
def wG(cg to:Int)(f:PI):Bool:=decide (f.anchor<cg\/f.anchor>=to)
def Mz(cg to:Int)(f:PI){U:ag}{i4 i5:Nat}(a4:U i4=some ⟨3,1,[vI cg]⟩)(a5:U i5=some ⟨3,1,[vI to]⟩):
 aB prog 210 [aX f,.ptr i4 0 0,.ptr i5 0 0] U λr Z'=>r=.bool (wG cg to f)/\Z'=U:=by
 refine N3.r (by simp[K9]) ?_;have hs:=aa.refl U;refine ae.mix 5 ?_;apply sR;simp only[go_sem,seval,K9,aX];refine ad λi3 Z3 s3 a3 f3=>?_;have z3:=hs.none f3;replace hs:=hs.trans s3;have b4:=s3 _ _ a4;have b5:=s3 _ _ a5;by_cases h0:f.anchor<cg
 .have q0:(f.anchor<cg)=True:=PK h0;simp only[go_sem,seval,a3,b4,b5,q0];exact av.pure hs (by simp[wG,h0])
 .have q0:(f.anchor<cg)=False:=PF h0;by_cases h1:f.anchor>=to
  .have q1:(f.anchor>=to)=True:=PK h1;simp only[go_sem,seval,a3,b4,b5,q0,q1];exact av.pure hs (by simp[wG,h1])
  .have q1:(f.anchor>=to)=False:=PF h1;simp only[go_sem,seval,a3,b4,b5,q0,q1];exact av.pure hs (by simp only[wG];rw[Rv (by omega)])
open Go.Proofs Go.Proofs.Tryz
def gl(p:PI->Bool):List PI->Nat->Int
 |[],_=>-1
 |f::r,i=>if p f then i else gl p r (i+1)
def zk{p:PI->Bool}{l:List PI}{i:Nat}(h:i<l.length):gl p (l.drop i) i=if p l[i]then(i:Int)else gl p (l.drop (i+1)) (i+1):=by
 rw[iy h,gl]
def F5{U:ag}{v:V}(l:List PI)(hl:l.length<=1000000)(hr:Reads U 7 true v (l.map aX)){f:FuncId}{caps:List V}(p:PI->Bool)
 (hf:∀x∈l,aB prog f (aX x::caps) U λr Z'=>r=.bool (p x)/\Z'=U):
 aB prog 214 [v,.fn f caps] U λr Z'=>r=vI (gl p l 0)/\Z'=U:=by
 refine Ps.r (by simp[KW]) ?_;have Yq:dR false v=some (.int .i64 l.length):=by rw[hr.1,du]
 refine ae.mix 6 ?_;apply sR;simp only[go_sem,seval,KW,Yq];refine ae.loop (λm st=>∃i:Nat,i<=l.length/\m=l.length-i/\gl p l 0=gl p (l.drop i) i/\st.U=U/\st.s 0=v/\st.s 1=.fn f caps/\st.s 7=vI l.length/\st.s 8=vI i) l.length ?_ ?_
 .exact⟨0,by omega,rfl,rfl,rfl,rfl,rfl,rfl,rfl⟩
 .rintro m ⟨s,Z'⟩ ⟨i,hi,rfl,heq,Qj,h0,h1,h7,h8⟩;simp only at Qj h0 h1 h7 h8;subst Qj;refine ae.mix 6 ?_;by_cases H':i<l.length
  .have q:((i:Int)<l.length)=True:=PK;have hd:=zk (p:=p) H';obtain⟨a,ha,RN⟩:=hr.2 i (aX l[i]) (by simp[H']);have hfx:=hf l[i] (QL H');have r1:PY .i64 ((i:Int)+1):=ar;generalize l[i]=x at*;apply sR;simp only[go_sem,seval,h0,h1,h7,h8,q,ha,RN];refine ae.aC rfl rfl rfl hfx ?_;cases hp:p x
   .rw[hp]at hd;apply sR;simp only[go_sem,seval,h0,h1,h7,h8,r1];refine⟨_,?_,i+1,by omega,rfl,?_,by simp[h0,h1,h7]⟩
    .omega
    .rw[heq,hd];rfl
   .rw[hp]at hd;apply sR;simp only[go_sem,seval,h0,h1,h7,h8];refine av.same ?_;rw[heq,hd];rfl
  .have q:((i:Int)<l.length)=False:=PF;have RH:i=l.length:=by omega
   apply sR;simp only[go_sem,seval,h0,h1,h7,h8,q];refine av.same ?_;rw[heq,RH,qx];rfl
open Go.Proofs Go.Proofs.Tryz
def GR(l:List QB)(hl:l.length<=1000000000):bb prog 66 [bH l] (bH l):=
 Al func66 (e66.b.trans rfl) e66.c (l.map dC) (by simp;omega)
def zi(l:List PI)(hl:l.length<=1000000000):bb prog 67 [aS l] (aS l):=
 Al func67 (e67.b.trans rfl) e67.c (l.map aX) (by simp;omega)
open Go.Proofs Go.Proofs.Tryz
def oS(a:PI):List PI->Nat->Int
 |[],_=>-1
 |q::r,i=>if a=q then i else oS a r (i+1)
def Dn{a:PI}{p:List PI}{i:Nat}(h:i<p.length):oS a (p.drop i) i=if a=p[i]then(i:Int)else oS a (p.drop (i+1)) (i+1):=by
 rw[iy h,oS]
def Fx(p:List PI)(hp:p.length<=1000000000)(a:PI):bb prog 126 [aS p,aX a] (vI (oS a p 0)):=λU=>by
 refine NA.r (by simp[J6]) ?_;have hs:=aa.refl U;have V1:=fP p;have hac:(aX a).cells=[vI a.node,vI a.side,vI a.anchor,vI a.x,vI a.y,vI a.w,vI a.h]:=rfl;have has:(aX a).stays=true:=rfl;have he:∀b:PI,jX false [0,0,0,0,0,0,0] (.agg [vI a.node,vI a.side,vI a.anchor,vI a.x,vI a.y,vI a.w,vI a.h]) (.agg [vI b.node,vI b.side,vI b.anchor,vI b.x,vI b.y,vI b.w,vI b.h])=some (.bool (decide (a=b))):=λb=>by
  have:(a=b)↔(a.node=b.node/\a.side=b.side/\a.anchor=b.anchor/\a.x=b.x/\a.y=b.y/\a.w=b.w/\a.h=b.h):=by
   cases a;cases b;simp
  simp only[jX,cX,bX,cQ,this];simp
 refine ae.mix 9 ?_;apply sR;simp only[go_sem,seval,J6,hac,has];refine ad λi3 Z3 s3 a3 f3=>?_;have z3:=hs.none f3;replace hs:=hs.trans s3;simp only[go_sem,seval,V1,hac,has];rw[aX]at a3;refine ae.loop (λm st=>∃(i:Nat),i<=p.length/\m=p.length-i/\oS a p 0=oS a (p.drop i) i/\st.U=Z3/\st.s 0=aS p/\st.s 3=.ptr i3 0 0/\st.s 7=vI p.length/\st.s 8=vI i) p.length ?_ ?_
 .exact⟨0,by omega,rfl,rfl,rfl,rfl,rfl,rfl,rfl⟩
 .rintro m ⟨s,Z'⟩ ⟨i,hi,rfl,heq,Qj,h0,h3,h7,h8⟩;simp only at Qj h0 h3 h7 h8;subst Qj;refine ae.mix 9 ?_;by_cases H':i<p.length
  .have q:((i:Int)<p.length)=True:=PK;have hd:=Dn (a:=a) H';have O':=λU=>kP (U:=U) H';have r1:PY .i64 ((i:Int)+1):=ar;have WE:=he p[i];have Tu:aX p[i]=.agg [vI p[i].node,vI p[i].side,vI p[i].anchor,vI p[i].x,vI p[i].y,vI p[i].w,vI p[i].h]:=rfl;by_cases hc:a=p[i]
   .rw[Rt hc]at WE;apply sR;simp only[BB,seval,<-decide_not,bx,fb,aM,dn,dk,dp,dv,dG,bO,jj,fG,bz,eR,dr,eQ,cP,cD,bR,gW,cm,cA,cd,QS,jv,cV,bP,cX,bX,cQ,cC,jf,binBV,bK,cW,V.cells,V.stays,Rd.nothing,h0,h3,h7,h8,q,a3,O',Tu,WE];refine av.pure hs ?_;rw[heq,hd,aE hc]
   .rw[Rv hc]at WE;apply sR;simp only[BB,seval,<-decide_not,bx,fb,aM,dn,dk,dp,dv,dG,bO,jj,fG,bz,eR,dr,eQ,cP,cD,bR,gW,cm,cA,cd,QS,jv,cV,bP,cX,bX,cQ,cC,jf,binBV,bK,cW,V.cells,V.stays,Rd.nothing,h0,h3,h7,h8,q,a3,O',Tu,WE,r1];refine⟨_,?_,i+1,by omega,rfl,?_,by simp[h0,h3,h7]⟩
    .omega
    .rw[heq,hd,aH hc]
  .have q:((i:Int)<p.length)=False:=PF;have RH:i=p.length:=by omega
   apply sR;simp only[go_sem,seval,h0,h3,h7,h8,q];refine av.pure hs ?_;rw[heq,RH,qx];rfl
open Go
def RM.same{U:ag}{N:Nat->Prop}:∀(vs:List V),jB vs=true->RM U N vs vs
 |[],_=>.nil
 |v::vs,h=>by
  simp only[jB,Ba]at h;exact .cons _ _ _ _ (.same v h.1) (RM.same vs h.2)
def RM.app{U:ag}{N:Nat->Prop}:∀{a b c d:List V},RM U N a b->RM U N c d->RM U N (a++c) (b++d)
 |_,_,_,_,.nil,h=>h
 |_,_,_,_,.cons v u vs us h h',h2=>.cons v u _ _ h (RM.app h' h2)
def RM.one{U:ag}{N:Nat->Prop}{v u:V}(h:Fz U N v u):RM U N [v] [u]:=.cons _ _ _ _ h .nil
def aU.fz{K U:ag}{N:Nat->Prop}{e sz:Nat}{v:V}{rows:List V}(h:aU K U e sz v rows)(hN:∀id,K id=none->N id)(hr:jB rows=true):Fz U N v (.sl sz rows):=by
 rcases h with⟨rfl,rfl⟩|⟨id,rfl,ho,hk⟩
 .exact .nil sz
 .exact .own id 0 rows.length ⟨e,sz,rows⟩ rows ho (hN id hk) (by simp) (by rw[zM,jK];exact RM.same rows hr)
def aU.ab{K U:ag}{e sz:Nat}{v:V}{rows:List V}(h:aU K U e sz v rows){id:Nat}{o:Ob}(hK:K id≠none):aU K (C' U id o) e sz v rows:=by
 rcases h with h|⟨q,h1,h2,h3⟩
 .exact .inl h
 .have:q≠id:=λe=>hK (by rw[<-e];exact h3);exact .inr ⟨q,h1,by rw[Vc.ab this];exact h2,h3⟩
def Dt(l:List Int):jB (l.map vI)=true:=by
 induction l with
 |nil=>rfl
 |cons x l ih=>rw[eD,jB,ih];rfl
abbrev Np(x:Nd):List V:=[vI x.kind,vI x.size,vI x.st.top,vI x.st.P8,vI x.st.PS,vI x.st.PG,vI x.st.QE,vI x.st.Qk,vI x.st.Qw,vI x.st.head,vI x.st.before,vI x.st.after,vI x.st.inside,vI x.st.clear,vI x.line,vI x.space]
def ndW(x:Nd)(v:V):V:=.agg [vI x.kind,vI x.size,vI x.st.top,vI x.st.P8,vI x.st.PS,vI x.st.PG,vI x.st.QE,vI x.st.Qk,vI x.st.Qw,vI x.st.head,vI x.st.before,vI x.st.after,vI x.st.inside,vI x.st.clear,vI x.line,vI x.space,v,vI x.side,vI x.w,vI x.h]
def MU{U:ag}{N:Nat->Prop}{x:Nd}{v:V}(h:Fz U N v (bD x.words)):Fz U N (ndW x v) (ji x):=by
 refine .agg _ _ ?_;exact(RM.same (Np x) rfl).app ((RM.one h).app (RM.same [vI x.side,vI x.w,vI x.h] rfl))
def gd(K U:ag):List Nd->List V->Prop
 |[],[]=>True
 |x::l,r::rows=>(∃w,r=ndW x w/\aU K U 3 1 w (x.words.map vI))/\gd K U l rows
 |_,_=>False
def aU.kept{K U Z':ag}{id e:Nat}{w:V}{rows Zp:List V}(h:aU K U 3 1 w rows)(ho:U id=some ⟨e,20,Zp⟩)(hs:∀i,i≠id->∀o,U i=some o->Z' i=some o):aU K Z' 3 1 w rows:=by
 rcases h with h|⟨i,h1,h2,h3⟩
 .exact .inl h
 .have P':i≠id:=λe=>by subst e;rw[ho]at h2;simp at h2
  exact .inr ⟨i,h1,hs i P' _ h2,h3⟩
def gd.kept{K U Z':ag}{id e:Nat}{Zp:List V}(ho:U id=some ⟨e,20,Zp⟩)(hs:∀i,i≠id->∀o,U i=some o->Z' i=some o):∀{l:List Nd} {rows:List V},gd K U l rows->gd K Z' l rows
 |[],[],_=>trivial
 |_::_,_::_,⟨⟨w,h1,h2⟩,h⟩=>⟨⟨w,h1,h2.kept ho hs⟩,gd.kept ho hs h⟩
 |[],_::_,h=>h.elim
 |_::_,[],h=>h.elim
def gd.mono{K U Z':ag}(hs:aa U Z'):∀{l:List Nd} {rows:List V},gd K U l rows->gd K Z' l rows
 |[],[],_=>trivial
 |_::_,_::_,⟨⟨w,h1,h2⟩,h⟩=>⟨⟨w,h1,h2.mono hs⟩,gd.mono hs h⟩
 |[],_::_,h=>h.elim
 |_::_,[],h=>h.elim
def aU.GZ{K K' U:ag}{e sz:Nat}{v:V}{rows:List V}(h:aU K U e sz v rows)(hk:aa K' K):aU K' U e sz v rows:=by
 rcases h with h|⟨i,h1,h2,h3⟩
 .exact .inl h
 .exact .inr ⟨i,h1,h2,hk.none h3⟩
def gd.app{K U:ag}:∀{l l2:List Nd} {rows rows2:List V},gd K U l rows->gd K U l2 rows2->gd K U (l++l2) (rows++rows2)
 |[],_,[],_,_,h2=>h2
 |_::_,_,_::_,_,⟨h1,h⟩,h2=>⟨h1,gd.app h h2⟩
 |[],_,_::_,_,h,_=>h.elim
 |_::_,_,[],_,h,_=>h.elim
def gd.fz{K U:ag}{N:Nat->Prop}(hN:∀id,K id=none->N id):∀{l:List Nd} {rows:List V},gd K U l rows->RM U N rows (l.map ji)
 |[],[],_=>.nil
 |_::_,_::_,⟨⟨w,h1,h2⟩,h⟩=>by
  rw[h1];exact .cons _ _ _ _ (MU (h2.fz hN (Dt _))) (gd.fz hN h)
 |[],_::_,h=>h.elim
 |_::_,[],h=>h.elim
def AH(K U:ag)(v:V)(l:List Nd):Prop:=∃rows,aU K U 51 20 v rows/\gd K U l rows
def AH.fz{K U:ag}{N:Nat->Prop}{v:V}{l:List Nd}(h:AH K U v l)(hN:∀id,K id=none->N id):Fz U N v (aQ l):=by
 obtain⟨rows,ho,hr⟩:=h;have hf:=hr.fz hN;rcases ho with⟨rfl,rfl⟩|⟨id,rfl,ho,hk⟩
 .cases l with
  |nil=>exact .nil 20
  |cons x l=>exact hr.elim
 .exact .own id 0 rows.length ⟨_,20,rows⟩ _ ho (hN id hk) (by simp) (by rw[zM,jK];exact hf)
open Go.Proofs Go.Proofs.Tryz
def G4(l:List Nd)(hl:l.length<=10000)(U:ag):aB prog 55 [aQ l] U λr Z'=>aa U Z'/\aU U Z' 51 20 r (l.map ji):=by
 refine e55.r (by simp[c55]) ?_;refine ae.mix 3 ?_
 (refine ae.bL Rd.nothing 8 ?_;simp only[go_sem,seval,pd,c55])
 refine ae.DK rfl rfl rfl λb hb=>?_;cases b
 .apply sR;simp only[go_sem,seval];refine ad λTi Z1 s1 a1 f1=>?_;obtain⟨PU,hd,QJ⟩:=(aU.new (K:=U) (e:=51) (sz:=20) (n:=0) (rows:=[]) rfl a1 f1).dst (aa.refl _);have WW:∀U,cK U 20 (aQ l)=some (l.map ji):=λU=>by simp[aQ,cK]
  have QD:l.length*177<=140737488355328:=by omega
  simp only[go_sem,seval,hd,WW,du,QD];refine ep λU0 Z2 s2 a2 f2=>?_;have SQ:=(QJ U (aa.refl _) Z1 s1).trans s2;simp only[go_sem,seval];refine⟨_,_,aa.refl _,Wk.refl (aa.refl _) _,SQ,aU.new (by simp) a2 (s1.none f2)⟩
 .apply sR;simp only[go_sem,seval];refine⟨_,_,aa.refl _,Wk.refl (aa.refl _) _,aa.refl _,?_⟩;have:l.map ji=[]:=hb rfl;rw[this];exact aU.start
def E3(l:List Int)(hl:l.length<=1000000000)(U:ag):aB prog 56 [bD l] U λr Z'=>aa U Z'/\aU U Z' 3 1 r (l.map vI):=by
 refine e56.r (by simp[c56]) ?_;refine ae.mix 3 ?_
 (refine ae.bL Rd.nothing 8 ?_;simp only[go_sem,seval,pd,c56])
 refine ae.DK rfl rfl rfl λb hb=>?_;cases b
 .apply sR;simp only[go_sem,seval];refine ad λTi Z1 s1 a1 f1=>?_;obtain⟨PU,hd,QJ⟩:=(aU.new (K:=U) (e:=3) (sz:=1) (n:=0) (rows:=[]) rfl a1 f1).dst (aa.refl _);have QD:l.length*9<=140737488355328:=by omega
  simp only[go_sem,seval,hd,xI,du,QD];refine ep λU0 Z2 s2 a2 f2=>?_;have SQ:=(QJ U (aa.refl _) Z1 s1).trans s2;simp only[go_sem,seval];exact⟨_,_,aa.refl _,Wk.refl (aa.refl _) _,SQ,aU.new (by simp) a2 (s1.none f2)⟩
 .apply sR;simp only[go_sem,seval];have:l.map vI=[]:=hb rfl;refine⟨_,_,aa.refl _,Wk.refl (aa.refl _) _,aa.refl _,?_⟩;rw[this];exact aU.start
open Go.Proofs Go.Proofs.Tryz
def II(K U:ag)(e sz:Nat)(v:V)(rows:List V):Prop:=(v=.aT/\rows=[])\/∃id all,v=.own id 0 rows.length/\U id=some ⟨e,sz,all⟩/\all.take rows.length=rows/\K id=none
def aU.Od{K U:ag}{e sz:Nat}{v:V}{rows:List V}(h:aU K U e sz v rows):II K U e sz v rows:=by
 rcases h with h|⟨id,h1,h2,h3⟩
 .exact .inl h
 .exact .inr ⟨id,rows,h1,h2,jK,h3⟩
def II.wk{K U:ag}{e sz:Nat}{v:V}{rows:List V}(h:II K U e sz v rows){K':ag}(hK:aa K' K)(hs:aa K' U):Wk U K' v (.sl sz rows):=by
 rcases h with⟨rfl,rfl⟩|⟨id,all,rfl,ho,ht,hk⟩
 .exact Wk.aT sz
 .have hl:rows.length<=all.length:=by
   have:=congrArg List.length ht;simp at this;omega
  have:=Wk.own hs ho (hK.none hk) (off:=0) (len:=rows.length) (by simpa using hl);rw[zM,ht]at this;exact this
open Go.Proofs Go.Proofs.Tryz
def sC{p:PI->Bool}:∀(l:List PI) (i:Nat),gl p l i<0->l.filter (λf=>!p f)=l
 |[],_,_=>rfl
 |x::l,i,h=>by
  rw[gl]at h;split at h
  .omega
  .rename_i hp;have ZQ:p x=false:=by simpa using hp
   simp only[List.filter_cons,ZQ,Bool.not_false,if_true,sC l _ h]
def sD{p:PI->Bool}:∀(l:List PI) (i:Nat),¬gl p l i<0->∃w:Nat,gl p l i=((i+w:Nat):Int)/\w<l.length/\(l.take w).filter (λf=>!p f)=l.take w/\∀x,l[w]?=some x->p x=true
 |[],i,h=>by simp[gl]at h
 |x::l,i,h=>by
  rw[gl]at h|-;split
  .rename_i hp;exact⟨0,by simp,by simp,by simp,λy hy=>by simp at hy;subst hy;exact hp⟩
  .rename_i hp;rw[aH hp]at h;have ZQ:p x=false:=by simpa using hp
   obtain⟨w,h1,h2,h3,h4⟩:=sD l (i+1) h;refine⟨w+1,by rw[h1];congr 1;omega,by simp;omega,?_,by simpa using h4⟩;simp only[Bo,List.filter_cons,ZQ,Bool.not_false,if_true,h3]
def u4{p:PI->Bool}:∀(l:List PI) (i:Nat),gl p l i<0->gl p l i=-1
 |[],_,_=>rfl
 |x::l,i,h=>by
  rw[gl]at h|-;split
  .rename_i hp;rw[aE hp]at h;omega
  .rename_i hp;rw[aH hp]at h;exact u4 l _ h
abbrev pM(p:PI->Bool)(l:List PI):List PI:=l.filter λf=>!p f
def Dj{K U:ag}{v:V}(l:List PI)(hl:l.length<=1000000)(hK:aa K U)(ho:aU K U 143 7 v (l.map aX)){f:FuncId}{caps:List V}(p:PI->Bool)
 (hf:∀x∈l,∀J,aa K J->aB prog f (aX x::caps) J λr Z'=>r=.bool (p x)/\Z'=J):
 aB prog 209 [v,.fn f caps] U λr Z'=>II K Z' 143 7 r ((pM p l).map aX)/\aa K Z':=by
 have hr:Reads U 7 true v (l.map aX):=by
  rcases ho with⟨rfl,h0⟩|⟨id,rfl,h2,h3⟩
  .rw[h0];exact⟨rfl,λi v h=>by simp at h⟩
  .refine⟨by simp[dR],λi r hi=>⟨_,jY h2 (by have:=nY.1 hi;exact this.1),?_⟩⟩;have hx:∃x,r=aX x:=by
    have:=vK hi;simp only[fM]at this;obtain⟨n,_,rfl⟩:=this;exact⟨n,rfl⟩
   obtain⟨x,rfl⟩:=hx;simp only[cj,h2,hi,if_true];rw[aE ⟨trivial,rfl⟩];rfl
 refine Pw.r (by simp[LX]) ?_;refine ae.mix 8 ?_;apply sR;simp only[go_sem,seval,LX];refine ae.aC rfl rfl rfl (F5 l hl hr p (λx hx=>hf x hx U hK)) ?_;generalize hw:gl p l 0=w;by_cases hn:w<0
 .have hw1:w=-1:=by rw[<-hw];exact u4 _ _ (by rw[hw];exact hn)
  have hk:pM p l=l:=sC l 0 (by rw[hw];exact hn);have q:(w=-1)=True:=PK hw1;apply sR;simp only[go_sem,seval,q];rw[hk];exact⟨_,U,aa.refl _,Wk.refl (aa.refl _) _,ho.Od,hK⟩
 .obtain⟨u0,g0,g1,g2,g3⟩:=sD l 0 (by rw[hw];exact hn);rw[hw,kI]at g0;subst g0;have q:((u0:Int)=-1)=False:=PF;have r1:PY .i64 ((u0:Int)+1):=ar;obtain⟨i1,rfl,h2,h3⟩:∃id,v=.own id 0 (l.map aX).length/\U id=some ⟨143,7,l.map aX⟩/\K id=none:=by
   rcases ho with⟨_,h0⟩|h
   .have:l=[]:=by simpa using h0
    subst this;simp at g1
   .exact h
  rw[du]at*;apply sR;simp only[go_sem,seval,q,r1];refine ae.loop (λm st=>∃(u j:Nat) (cur:List PI),u<j/\j<=l.length/\m=l.length-j/\cur.length=l.length/\cur.take u=pM p (l.take j)/\(∀q,j<=q->cur[q]?=l[q]?)/\aa K st.U/\st.U i1=some ⟨143,7,cur.map aX⟩/\
   st.s 0=.own i1 0 l.length/\st.s 1=.fn f caps/\st.s 5=vI u/\∃z:Int,st.s 6=vI z/\z=j) (l.length-(u0+1)) ?_ ?_
  .refine⟨u0,u0+1,l,by omega,by omega,rfl,rfl,?_,λ_ _=>rfl,hK,h2,rfl,rfl,rfl,_,rfl,by omega⟩;have hp:=g3 l[u0] (by simp[g1]);rw[Tp g1];have g2':pM p (l.take u0)=l.take u0:=g2;simp only[pM,List.filter_append]at g2'|-;rw[g2'];simp[hp]
  .rintro m ⟨s,J⟩ ⟨u,j,cur,huj,Yh,rfl,QG,hct,Vu,hs,a1,h0,h1,h5,z,h6,rfl⟩;simp only at hs a1 h0 h1 h5 h6;refine ae.mix 8 ?_;have Vf:(cur.map aX).length=l.length:=by rw[du,QG]
   by_cases H':j<l.length
   .have q1:((j:Int)<l.length)=True:=PK;have hjc:j<cur.length:=by omega
    have huc:u<cur.length:=by omega
    have hfj:l[j]?=some cur[j]:=by rw[<-Vu j (Qt _)];simp[hjc]
    have S1:cur[j]∈l:=vK hfj;have htj:l.take (j+1)=l.take j++[cur[j]]:=by
     rw[Tp H'];congr 2;rw[Tq H']at hfj;simpa using hfj
    have iX:∀(J:ag) (rows:List V) (k n:Nat),J i1=some ⟨143,7,rows⟩->rows.length=l.length->n=l.length->k<l.length->bS J 7 (.own i1 0 n) (.int .i64 k)=some (.ptr i1 k 0):=λJ rows k n h e hn hk=>by subst hn;rw[<-e];exact jY h (by omega)
    have e1:=iX _ _ j _ a1 Vf rfl H';have v1:(cur.map aX)[j]?=some (aX cur[j]):=by simp[hjc]
    have vu:(cur.map aX)[u]?=some (aX cur[u]):=by simp[huc]
    have UF:(cur.set u cur[j]).map aX=(cur.map aX).set u (aX cur[j]):=List.map_set;have Um:=hf cur[j] S1;have hfc7:∀f:PI,(aX f).cells=[vI f.node,vI f.side,vI f.anchor,vI f.x,vI f.y,vI f.w,vI f.h]:=λ_=>rfl;have hsu:(cur.set u cur[j]).take (u+1)=cur.take u++[cur[j]]:=by
     rw[Tp (by simpa using huc),List.take_set,List.set_eq_of_length_le (by simp;omega)];simp
    have r2:PY .i64 ((u:Int)+1):=ar;have r3:PY .i64 ((j:Int)+1):=ar;generalize cur[j]=x at*;generalize cur[u]=y at*;apply sR;simp only[go_sem,seval,h0,h1,h5,h6,q1,a1,e1,v1,hfc7];refine ad λi7 Z7 s7 a7 f7=>?_;have n17:=al a1 f7;replace a1:=s7 _ _ a1;have z7:=hs.none f7;replace hs:=hs.trans s7;simp only[go_sem,seval,a7,h0,h1,h5,h6];generalize Sx:C' _ i7 _=Y7;replace a7:=(congrFun Sx i7).symm.trans af;replace a1:=((congrFun Sx i1).symm.trans (ab n17)).trans a1;replace hs:=Eq.subst (motive:=aa _) Sx (hs.aD z7);clear Sx;refine ae.aC rfl rfl rfl (Um _ hs) ?_;have e2:=iX _ _ u _ a1 Vf rfl (by omega);cases hp:p x
    .apply sR;simp only[go_sem,seval,h0,h1,h5,h6,a7,a1,e2,vu,hfc7,r2,r3];refine⟨_,?_,u+1,j+1,cur.set u x,by omega,by omega,rfl,by simpa using QG,?_,λq hq=>?_,hs.aD h3,?_,by simp,_,rfl,by omega⟩
     .omega
     .rw[hsu,htj,hct];simp[pM,List.filter_append,hp]
     .rw[List.getElem?_set_ne (by omega)];exact Vu q (by omega)
     .rw[UF];rfl
    .apply sR;simp only[go_sem,seval,h0,h1,h5,h6,r3];refine⟨_,?_,u,j+1,cur,by omega,by omega,rfl,QG,?_,λq hq=>Vu q (by omega),hs,a1,by simp,_,rfl,by omega⟩
     .omega
     .rw[htj,hct];simp[pM,List.filter_append,hp]
   .have q1:((j:Int)<l.length)=False:=PF;have hjk':j=l.length:=by omega
    subst hjk';rw[jK]at hct;have b3:(0:Int)<=u:=by omega
    have b4:(u:Int)<=l.length:=by omega
    apply sR;simp only[go_sem,seval,h0,h1,h5,h6,q1,a1,b3,b4,Int.le_refl,fp];refine ae.clear (id:=i1) (off:=u) (len:=l.length-u) (ob:=⟨143,7,cur.map aX⟩) rfl rfl rfl a1 rfl (by simp;omega) ?_;apply sR;simp only[go_sem,seval,h0,h1,h5,h6,b3,b4,Int.le_refl,fp,Nat.sub_zero];have hlu:((pM p l).map aX).length=u:=by rw[du,<-hct,kK];omega
    refine⟨_,_,aa.refl _,Wk.refl (aa.refl _) _,.inr ⟨i1,_,by rw[hlu],af,?_,h3⟩,hs.aD h3⟩;rw[hlu,ly,LM (by simp;omega),List.take_take,Nat.min_self,<-List.map_take,hct]
open Go.Proofs Go.Proofs.Tryz
def Ck(l:List PI)(fr to:Int):List PI:=pM (wG fr to) l
def ry(l:List PI)(fr to:Int):(Ck l fr to).length<=l.length:=List.length_filter_le _ _
def EB(l:List PI)(hl:l.length<=1000000)(fr to:Int):bb prog 200 [aS l,vI fr,vI to] (aS (Ck l fr to)):=λU=>by
 refine Oe.r (by simp[LA]) ?_;have hs:=aa.refl U;refine ae.mix 7 ?_;apply sR;simp only[go_sem,seval,LA];refine ad λi4 Z4 s4 a4 f4=>?_;have z4:=hs.none f4;replace hs:=hs.trans s4;simp only[go_sem,seval];refine ad λi5 Z5 s5 a5 f5=>?_;have Rr:=al a4 f5;replace a4:=s5 _ _ a4;have z5:=hs.none f5;replace hs:=hs.trans s5;simp only[go_sem,seval];refine ae.call rfl rfl rfl (uC func67 (e67.b.trans rfl) e67.c (l.map aX) (by simp;omega) _) ?_;rintro r Z9 ⟨h9,ho9⟩;apply sR;simp only[go_sem,seval];refine ae.call rfl rfl rfl (Dj l hl h9 ho9 (wG fr to) (λx _ J WJ=>Mz fr to x (WJ _ _ a4) (WJ _ _ a5))) ?_;rintro r2 UP ⟨hp,VB⟩;apply sR;simp only[go_sem,seval];exact⟨_,U,hs.trans VB,hp.wk hs (hs.trans VB),rfl,rfl⟩
def iK(l:List PI)(s:PH)(to:Int):List PI:=Ck l (if s.done>0 then s.atom+1 else s.atom) to
def EZ(l:List PI)(hl:l.length<=1000000)(s:PH)(ha:PY .i64 (s.atom+1))(to:Int):bb prog 180 [aS l,aF s,vI to] (aS (iK l s to)):=λU=>by
 refine OM.r (by simp[KS]) ?_;have hs:=aa.refl U;have SJ:(aF s).cells=[vI s.atom,vI s.done,.bool s.free]:=rfl;have Tc:(aF s).stays=true:=rfl;refine ae.mix 7 ?_;apply sR;simp only[go_sem,seval,KS,SJ,Tc];refine ad λi4 Z4 s4 a4 f4=>?_;have z4:=hs.none f4;replace hs:=hs.trans s4;rw[aF]at a4;by_cases hd:s.done>0
 .have q:(s.done>0)=True:=PK hd;simp only[go_sem,seval,a4,q,ha];refine ae.aC rfl rfl rfl (EB l hl _ _ _) ?_;apply sR;simp only[go_sem,seval];exact av.pure hs (by rw[iK,aE hd])
 .have q:(s.done>0)=False:=PF hd;simp only[go_sem,seval,a4,q];refine ae.aC rfl rfl rfl (EB l hl _ _ _) ?_;apply sR;simp only[go_sem,seval];exact av.pure hs (by rw[iK,aH hd])
open Go.Proofs Go.Proofs.Tryz
def dZ(v u:V):Prop:=∀a n b m,v=.own a 0 n->u=.own b 0 m->a≠b
def dZ.symm{v u:V}(h:dZ v u):dZ u v:=λa n b m h1 h2 e=>h b m a n h2 h1 e.symm
def dZ.aT(u:V):dZ .aT u:=λ_ _ _ _ h _=>by cases h
def aU.J4{K ZJ Z1:ag}{e sz:Nat}{v:V}{rows:List V}(h:aU K ZJ e sz v rows)(hs:aa ZJ Z1):
 ∃PU,cZ Z1 e sz v=some (rows,PU)/\∀i,PU=some i->K i=none/\(∃o,ZJ i=some o)/\v=.own i 0 rows.length:=by
 rcases h with⟨rfl,rfl⟩|⟨id,rfl,ho,hk⟩
 .exact⟨none,rfl,λ_ h=>by cases h⟩
 .refine⟨some id,?_,λi h=>by cases h;exact⟨hk,⟨_,ho⟩,rfl⟩⟩;simp only[cZ,hs _ _ ho];rw[aE ⟨trivial,trivial,trivial,Qt _⟩,jK]
def aU.Ns{K U:ag}{e sz:Nat}{v:V}{rows:List V}(h:aU K U e sz v rows){PU:Option Nat}(h1:∀i,PU=some i->∀n,v≠.own i 0 n){id:Nat}{o:Ob}(h2:U id=none):aU K (C' (Vc.bI U PU) id o) e sz v rows:=by
 rcases h with h|⟨a,rfl,ho,hk⟩
 .exact .inl h
 .refine .inr ⟨a,rfl,?_,hk⟩;have hai:a≠id:=λe=>by subst e;rw[ho]at h2;cases h2
  rw[Vc.ab hai];cases PU with
  |none=>exact ho
  |some i=>
   have:a≠i:=λe=>h1 i rfl _ (by rw[e]);simp only[Vc.bI];rw[dN this];exact ho
def dZ.new{U K:ag}{e sz id n:Nat}{u:V}{rows:List V}(hu:aU K U e sz u rows)(h:U id=none):dZ (.own id 0 n) u:=by
 rintro a k b m h1 rfl e;cases h1;subst e;rcases hu with⟨h,_⟩|⟨i,h,h2,_⟩
 .cases h
 .cases h;rw[h]at h2;cases h2
structure SoJ(Z0:ag)(ix:Nat)(p q:List PI)(U:ag):Prop where
 row:∃v u,U ix=some ⟨285,2,[.agg [v,u]]⟩/\aU (bo Z0 ix) U 143 7 v (p.map aX)/\aU (bo Z0 ix) U 143 7 u (q.map aX)/\dZ v u
 sub:aa Z0 U
 no:Z0 ix=none
def GC{Z0 ZJ ZB Z8:ag}{ix e sz:Nat}{v u:V}{rows Vm:List V}(TN:bp ZJ ZB ZJ Z8)(Js:aa Z0 ZJ)(Jn:Z0 ix=none){ox:Ob}(Jx:ZJ ix=some ox)
 (Jv:aU (bo Z0 ix) ZJ e sz v rows)(Ju:aU (bo Z0 ix) ZJ e sz u Vm)(YG:dZ v u):
 ∃PU,cZ Z8 e sz v=some (rows,PU)/\∀(id:Nat) (rows':List V) (o':Ob),Z8 id=none->
  ix≠id/\Vc.bI Z8 PU ix=some ox/\aa Z0 (C' (C' (Vc.bI ZJ PU) id ⟨e,sz,rows'⟩) ix o')/\bp ZJ ZB (C' (C' (Vc.bI ZJ PU) id ⟨e,sz,rows'⟩) ix o') (C' (C' (Vc.bI Z8 PU) id ⟨e,sz,rows'⟩) ix o')/\
  aU (bo Z0 ix) (C' (C' (Vc.bI ZJ PU) id ⟨e,sz,rows'⟩) ix o') e sz (.own id 0 rows'.length) rows'/\aU (bo Z0 ix) (C' (C' (Vc.bI ZJ PU) id ⟨e,sz,rows'⟩) ix o') e sz u Vm/\dZ (.own id 0 rows'.length) u:=by
 obtain⟨PU,QW,Ts⟩:=Jv.J4 TN.1;refine⟨PU,QW,λid rows' o' f=>?_⟩;have k2:bo Z0 ix ix≠none:=λh=>(aL.1 h).1 rfl;have Tb:∀(i:Nat) (Zx:ag),bo Z0 ix i≠none->Vc.bI Zx PU i=Zx i:=λi Zx hk=>by
  cases PU with
  |none=>rfl
  |some a=>exact dN (λe=>hk (by rw[e];exact(Ts a rfl).1))
 have c8:=TN.1 _ _ Jx;have m:ix≠id:=al c8 f;have fJ:ZJ id=none:=by
  cases h:ZJ id with
  |none=>rfl
  |some o=>rw[TN.1 _ _ h]at f;cases f
 have f':Vc.bI Z8 PU id=none:=by
  cases PU with
  |none=>exact f
  |some a=>simp only[Vc.bI,del];split<;>first|rfl|exact f
 have hk:bo Z0 ix id=none:=by
  rw[aL];refine⟨m.symm,?_⟩;cases h:Z0 id with
  |none=>rfl
  |some o=>rw[Js _ _ h]at fJ;cases fJ
 refine⟨m,by rw[Tb _ _ k2];exact c8,?_,((TN.D1 (e:=PU) λi h=>(Ts i h).2.1).new f').set (id:=ix) (o:=ox) (by rw[ab m,Tb _ _ k2];exact Jx),?_,?_,dZ.new Ju fJ⟩
 .refine aa.aD (λi o h=>?_) Jn;have h1:=Js _ _ h;rw[ab (λe=>by subst e;rw[h1]at fJ;cases fJ),Tb _ _ (λhk=>by rw[(aL.1 hk).2]at h;cases h)];exact h1
 .exact aU.new rfl (by rw[ab m.symm,af]) hk
 .exact(Ju.Ns (λi h n e=>YG _ _ _ _ (Ts i h).2.2 e rfl) fJ).ab k2
def si(q:List PI)(m:PI)(body:Int):Bool:=decide (q≠[]\/m.y+m.h>body)
def G5(p q:List PI)(hp:p.length<=1000000)(hq:q.length<=1000000)(f m:PI)(body:Int)(hr:PY .i64 (m.y+m.h)){Z0 ZJ ZB:ag}{ix:Nat}(hJ:SoJ Z0 ix p q ZJ)(G':aa ZJ ZB):
 aB prog 181 [.ptr ix 0 0,aX f,aX m,vI body] ZB λ_ Z'=>∃Qd,bp ZJ ZB Qd Z'/\SoJ Z0 ix (if si q m body then p else p++[m]) (if si q m body then q++[f]else q) Qd:=by
 refine Ot.r (by simp[Lu]) ?_;obtain⟨⟨v,u,Jx,Jv,Ju,YG⟩,Js,Jn⟩:=hJ;obtain⟨vc,vs⟩:=Jv.vc;obtain⟨uc,us⟩:=Ju.vc;have Um:∀f:PI,(aX f).cells=[vI f.node,vI f.side,vI f.anchor,vI f.x,vI f.y,vI f.w,vI f.h]:=λ_=>rfl;have RP:∀f:PI,(aX f).stays=true:=λ_=>rfl;refine ae.mix 5 ?_;apply sR;simp only[go_sem,seval,Lu,Um,RP];rw[aN];intro i5 f5;have hB5:=(bp.refl G').qJ (o:=⟨143,7,[aX f]⟩) f5;have a5:C' ZB i5 ⟨143,7,[aX f]⟩ i5=some ⟨143,7,[aX f]⟩:=af;have Sc:∀f:PI,V.agg [vI f.node,vI f.side,vI f.anchor,vI f.x,vI f.y,vI f.w,vI f.h]=aX f:=λ_=>rfl;generalize RC:C' ZB i5 ⟨143,7,[aX f]⟩=Z5 at*;simp only[go_sem,seval,Um,RP];rw[aN];intro i6 f6;have hB6:=hB5.qJ (o:=⟨143,7,[aX m]⟩) f6;have a6:C' Z5 i6 ⟨143,7,[aX m]⟩ i6=some ⟨143,7,[aX m]⟩:=af;replace a5:=(ab (o:=⟨143,7,[aX m]⟩) (al a5 f6)).trans a5;generalize XI:C' Z5 i6 ⟨143,7,[aX m]⟩=Z6 at*;have cx:=hB6.1 _ _ Jx;have hlq:dR false u=some (.int .i64 q.length):=by have:=Ju.len;rwa [du]at this
 have hrq:((q++[f]).map aX)=q.map aX++[aX f]:=by simp
 have hrp:((p++[m]).map aX)=p.map aX++[aX m]:=by simp
 have hql:(q.map aX).length<=1000000:=by simpa using hq
 have TY:(p.map aX).length<=1000000:=by simpa using hp
 have hql0:(q.map aX).length=q.length:=du _;rw[aX]at a5 a6;by_cases hl:si q m body=true
 .rw[aE hl,aE hl];by_cases hq0:q=[]
  .have q13:((q.length:Int)>0)=False:=by subst hq0;simp
   have qy:(m.y+m.h>body)=True:=by
    simp only[si,hq0,Sp]at hl;exact PK (hl.resolve_left (by simp))
   simp only[go_sem,seval,cx,vc,uc,hlq,q13,qy,hr,a5,a6];rw[aV];intro Zq f29;have hB7:=hB6.qJ (o:=⟨143,7,[(V.agg [vI f.node,vI f.side,vI f.anchor,vI f.x,vI f.y,vI f.w,vI f.h])]⟩) f29;have a29:C' Z6 Zq ⟨143,7,[(V.agg [vI f.node,vI f.side,vI f.anchor,vI f.x,vI f.y,vI f.w,vI f.h])]⟩ Zq=some ⟨143,7,[(V.agg [vI f.node,vI f.side,vI f.anchor,vI f.x,vI f.y,vI f.w,vI f.h])]⟩:=af;generalize Sx:C' Z6 Zq ⟨143,7,[(V.agg [vI f.node,vI f.side,vI f.anchor,vI f.x,vI f.y,vI f.w,vI f.h])]⟩=Z7 at*;obtain⟨PU,QW,Ww⟩:=GC hB7 Js Jn Jx Ju Jv YG.symm;generalize q.map aX=rows at*;have QD:(rows.length+1)*57<=140737488355328:=by omega
   simp only[go_sem,seval,QW,dj a29,QD];rw[aV];intro Yn f30;obtain⟨m30,hx,g1,g2,g3,g4,g5⟩:=Ww Yn (rows++[(V.agg [vI f.node,vI f.side,vI f.anchor,vI f.x,vI f.y,vI f.w,vI f.h])]) ⟨285,2,[.agg [v,.own Yn 0 (rows++[(V.agg [vI f.node,vI f.side,vI f.anchor,vI f.x,vI f.y,vI f.w,vI f.h])]).length]]⟩ f30;have y2:C' (Vc.bI Z7 PU) Yn ⟨143,7,rows++[(V.agg [vI f.node,vI f.side,vI f.anchor,vI f.x,vI f.y,vI f.w,vI f.h])]⟩ ix=_:=(ab m30).trans hx;have Wt:(rows++[(V.agg [vI f.node,vI f.side,vI f.anchor,vI f.x,vI f.y,vI f.w,vI f.h])]).length=rows.length+1:=by simp
   rw[Wt]at g1 g2 g3 g4 g5;simp only[go_sem,seval,y2,vc,uc,vs,us];refine⟨_,_,aa.refl _,Wk.refl (aa.refl _) _,_,g2,⟨v,_,af,g4,?_,g5.symm⟩,g1,Jn⟩;rw[hrq];exact g3
  .have q13:((q.length:Int)>0)=True:=PK (by have:=vM.2 hq0;omega);simp only[go_sem,seval,cx,vc,uc,hlq,q13,a5,a6];rw[aV];intro Zq f29;have hB7:=hB6.qJ (o:=⟨143,7,[(V.agg [vI f.node,vI f.side,vI f.anchor,vI f.x,vI f.y,vI f.w,vI f.h])]⟩) f29;have a29:C' Z6 Zq ⟨143,7,[(V.agg [vI f.node,vI f.side,vI f.anchor,vI f.x,vI f.y,vI f.w,vI f.h])]⟩ Zq=some ⟨143,7,[(V.agg [vI f.node,vI f.side,vI f.anchor,vI f.x,vI f.y,vI f.w,vI f.h])]⟩:=af;generalize Sx:C' Z6 Zq ⟨143,7,[(V.agg [vI f.node,vI f.side,vI f.anchor,vI f.x,vI f.y,vI f.w,vI f.h])]⟩=Z7 at*;obtain⟨PU,QW,Ww⟩:=GC hB7 Js Jn Jx Ju Jv YG.symm;generalize q.map aX=rows at*;have QD:(rows.length+1)*57<=140737488355328:=by omega
   simp only[go_sem,seval,QW,dj a29,QD];rw[aV];intro Yn f30;obtain⟨m30,hx,g1,g2,g3,g4,g5⟩:=Ww Yn (rows++[(V.agg [vI f.node,vI f.side,vI f.anchor,vI f.x,vI f.y,vI f.w,vI f.h])]) ⟨285,2,[.agg [v,.own Yn 0 (rows++[(V.agg [vI f.node,vI f.side,vI f.anchor,vI f.x,vI f.y,vI f.w,vI f.h])]).length]]⟩ f30;have y2:C' (Vc.bI Z7 PU) Yn ⟨143,7,rows++[(V.agg [vI f.node,vI f.side,vI f.anchor,vI f.x,vI f.y,vI f.w,vI f.h])]⟩ ix=_:=(ab m30).trans hx;have Wt:(rows++[(V.agg [vI f.node,vI f.side,vI f.anchor,vI f.x,vI f.y,vI f.w,vI f.h])]).length=rows.length+1:=by simp
   rw[Wt]at g1 g2 g3 g4 g5;simp only[go_sem,seval,y2,vc,uc,vs,us];refine⟨_,_,aa.refl _,Wk.refl (aa.refl _) _,_,g2,⟨v,_,af,g4,?_,g5.symm⟩,g1,Jn⟩;rw[hrq];exact g3
 .rw[aH hl,aH hl];simp only[si,Sp,not_or,Decidable.not_not]at hl;have q13:((q.length:Int)>0)=False:=by rw[hl.1];simp
  have qy:(m.y+m.h>body)=False:=PF hl.2;simp only[go_sem,seval,cx,vc,uc,hlq,q13,qy,hr,a5,a6];rw[aV];intro Zq f29;have hB7:=hB6.qJ (o:=⟨143,7,[(V.agg [vI m.node,vI m.side,vI m.anchor,vI m.x,vI m.y,vI m.w,vI m.h])]⟩) f29;have a29:C' Z6 Zq ⟨143,7,[(V.agg [vI m.node,vI m.side,vI m.anchor,vI m.x,vI m.y,vI m.w,vI m.h])]⟩ Zq=some ⟨143,7,[(V.agg [vI m.node,vI m.side,vI m.anchor,vI m.x,vI m.y,vI m.w,vI m.h])]⟩:=af;generalize Sx:C' Z6 Zq ⟨143,7,[(V.agg [vI m.node,vI m.side,vI m.anchor,vI m.x,vI m.y,vI m.w,vI m.h])]⟩=Z7 at*;obtain⟨PU,QW,Ww⟩:=GC hB7 Js Jn Jx Jv Ju YG;generalize p.map aX=rows at*;have QD:(rows.length+1)*57<=140737488355328:=by omega
  simp only[go_sem,seval,QW,dj a29,QD];rw[aV];intro Yn f30;obtain⟨m30,hx,g1,g2,g3,g4,g5⟩:=Ww Yn (rows++[(V.agg [vI m.node,vI m.side,vI m.anchor,vI m.x,vI m.y,vI m.w,vI m.h])]) ⟨285,2,[.agg [.own Yn 0 (rows++[(V.agg [vI m.node,vI m.side,vI m.anchor,vI m.x,vI m.y,vI m.w,vI m.h])]).length,u]]⟩ f30;have y2:C' (Vc.bI Z7 PU) Yn ⟨143,7,rows++[(V.agg [vI m.node,vI m.side,vI m.anchor,vI m.x,vI m.y,vI m.w,vI m.h])]⟩ ix=_:=(ab m30).trans hx;have Wt:(rows++[(V.agg [vI m.node,vI m.side,vI m.anchor,vI m.x,vI m.y,vI m.w,vI m.h])]).length=rows.length+1:=by simp
  rw[Wt]at g1 g2 g3 g4 g5;simp only[go_sem,seval,y2,vc,uc,vs,us];refine⟨_,_,aa.refl _,Wk.refl (aa.refl _) _,_,g2,⟨_,u,af,?_,g4,g5⟩,g1,Jn⟩;rw[hrp];exact g3
open Go.Proofs Go.Proofs.Tryz
def bp.from{ZJ U J Qd Z':ag}(h:bp ZJ J Qd Z')(hs:aa U J):bp ZJ U Qd Z':=⟨h.1,λi o h1 h2=>h.2 i o h1 (hs _ _ h2)⟩
def mS(body:Int)(x:List PI×List PI)(f m:PI):List PI×List PI:=(if si x.2 m body then x.1 else x.1++[m],if si x.2 m body then x.2++[f]else x.2)
def fZ(top shift:Int)(f:PI):PI:={ f with y:=max 0 (f.y-top)+shift }
def kF(top shift body:Int)(L:List PI):List PI×List PI:=L.foldl (λx f=>mS body x f (fZ top shift f)) ([],[])
def Bx(top shift body:Int)(L:List PI)(f:PI):kF top shift body (L++[f])=mS body (kF top shift body L) f (fZ top shift f):=by
 unfold kF;rw[wc];rfl
def qH(top shift body:Int)(L:List PI):(kF top shift body L).1.length+(kF top shift body L).2.length=L.length:=by
 have key:∀(L:List PI) (x:List PI×List PI),(L.foldl (λx f=>mS body x f (fZ top shift f)) x).1.length+(L.foldl (λx f=>mS body x f (fZ top shift f)) x).2.length=x.1.length+x.2.length+L.length:=by
  intro L
  induction L with
  |nil=>intro x;rfl
  |cons f L ih=>
   intro x;rw[kf,ih];unfold mS;split<;>simp<;>omega
 have:=key L ([],[]);simpa[kF]using this
def vP(l:List QB)(s:PH)(kept:Int):Int:=(R8 l s.atom).y+s.done-kept
def fB(l:List QB)(fl:List PI)(s:PH)(to kept shift body:Int):List PI×List PI:=if cM l s then kF (vP l s kept) shift body (iK fl s to)else([],[])
def FE(x:Int):(if x>0 then x else 0)=max 0 x:=by split<;>omega
def Ga(l:List QB)(hl:mE l)(fl:List PI)(Tu:fl.length<=1000000)(UR:∀f∈fl,f.ok)(s:PH)(hd:s.done<=1152921504606846976)(to kept shift body:Int)(hk:-1152921504606846976<=kept/\kept<=2305843009213693952)(SZ:0<=shift/\shift<=1152921504606846976):
 bb prog 157 [bH l,aS fl,aF s,vI to,vI kept,vI shift,vI body] (.PN [aS (fB l fl s to kept shift body).1,aS (fB l fl s to kept shift body).2]):=λU=>by
 refine ND.r (by simp[KN]) ?_;have hs:=aa.refl U;have Wt:=hl.len;have SJ:(aF s).cells=[vI s.atom,vI s.done,.bool s.free]:=rfl;have Tc:(aF s).stays=true:=rfl;refine ae.mix 20 ?_;apply sR;simp only[go_sem,seval,KN,SJ,Tc];refine ad λi9 Z9 s9 a9 f9=>?_;have z9:=hs.none f9;replace hs:=hs.trans s9;simp only[go_sem,seval];refine ad λQT Z12 TT a12 f12=>?_;have n912:=al a9 f12;replace a9:=TT _ _ a9;have z12:=hs.none f12;replace hs:=hs.trans TT;simp only[go_sem,seval];refine ad λVI Y13 s13 R5 f13=>?_;have n913:=al a9 f13;replace a9:=s13 _ _ a9;have n1213:=al a12 f13;replace a12:=s13 _ _ a12;have z13:=hs.none f13;replace hs:=hs.trans s13;rw[aF]at a9;simp only[go_sem,seval,a9,aq,ao];refine ae.aC rfl rfl rfl (o7 l s _) ?_;unfold fB;by_cases hm:cM l s
 .rw[Rt hm,aE hm];obtain⟨h0,h2⟩:=hm.1;obtain⟨k,T0⟩:∃k:Nat,s.atom=k:=⟨s.atom.toNat,by omega⟩
  have Q6:k<l.length:=by omega
  have O':=λU=>jr (U:=U) Q6;have hy:=hl.Wm _ (QL Q6);have Us:=hm.2.1;have Wc:vP l s kept=l[k].y+s.done-kept:=by rw[vP,T0,bG Q6]
  have r1:PY .i64 (l[k].y+s.done):=ar;have r2:PY .i64 (l[k].y+s.done-kept):=ar;have htr:-4611686018427387904<=vP l s kept/\vP l s kept<=4611686018427387904:=by rw[Wc];omega
  have QG:=ry fl (if s.done>0 then s.atom+1 else s.atom) to;have hcm:∀f∈iK fl s to,f.ok:=λf hf=>UR f ((sX.1 hf).1);have hca:=EZ fl Tu s (ar) to;have hcl':(iK fl s to).length<=1000000:=mq QG Tu;generalize iK fl s to=L at*;rw[T0]at a9;apply sR;simp only[go_sem,seval,T0];refine ad λi16 Z16 s16 a16 f16=>?_;have n916:=al a9 f16;replace a9:=s16 _ _ a9;have n1216:=al a12 f16;replace a12:=s16 _ _ a12;have n1316:=al R5 f16;replace R5:=s16 _ _ R5;have z16:=hs.none f16;replace hs:=hs.trans s16;simp only[go_sem,seval,a16,a9,O',dC,r1,r2,aq,ao];refine bc λVY Y17 U1 SB f17=>?_;have n917:=al a9 f17;replace a9:=U1 _ _ a9;have n1217:=al a12 f17;replace a12:=U1 _ _ a12;have XA:=al R5 f17;replace R5:=U1 _ _ R5;have Zr:=al a16 f17;replace a16:=U1 _ _ a16;have z17:=hs.none f17;replace hs:=hs.trans U1;simp only[go_sem,seval,SB,a9,ab n917,ab n1217,ab XA,ab Zr];generalize Se:C' _ VY _=Z17;replace SB:=(congrFun Se VY).symm.trans af;replace a9:=((congrFun Se i9).symm.trans (ab n917)).trans a9;replace a12:=((congrFun Se QT).symm.trans (ab n1217)).trans a12;replace R5:=((congrFun Se VI).symm.trans (ab XA)).trans R5;replace a16:=((congrFun Se i16).symm.trans (ab Zr)).trans a16;replace hs:=Eq.subst (motive:=aa _) Se (hs.aD z17);clear Se;rw[aF,T0]at hca;refine ae.aC rfl rfl rfl (hca _) ?_;apply sR;simp only[go_sem,seval];refine ae.aC rfl rfl rfl (Mk L _) ?_;apply sR;simp only[go_sem,seval];rw[<-Wc]at SB;generalize vP l s kept=top at*;generalize hS:mix 20 _ _=S;have S12:S 12=.ptr QT 0 0:=by rw[<-hS];rfl
  have S13:S 13=.ptr VI 0 0:=by rw[<-hS];rfl
  have S16:S 16=.ptr i16 0 0:=by rw[<-hS];rfl
  have S17:S 17=.ptr VY 0 0:=by rw[<-hS];rfl
  have S39:S 39=.fn 199 [.rp (aS L)]:=by rw[<-hS];rfl
  clear hS;obtain⟨Z0,Zf⟩:∃Z0,Z0=del Z17 i16:=⟨_,rfl⟩
  have d0:∀i,i≠i16->Z0 i=Z17 i:=λi hi=>by rw[Zf];exact dN hi
  have Wl:Z0 QT=_:=(d0 _ n1216).trans a12;have b13:Z0 VI=_:=(d0 _ n1316).trans R5;have b17:Z0 VY=_:=(d0 _ Zr.symm).trans SB;have b16:Z0 i16=none:=by rw[Zf];simp[del]
  have QP:aa U Z0:=λi o h=>by
   rw[d0 i (λe=>by rw[e,z16]at h;cases h)];exact hs _ _ h
  have h16:SoJ Z0 i16 [] [] Z17:=⟨⟨.aT,.aT,a16,aU.start,aU.start,dZ.aT _⟩,Zf▸aa.vF _ _,b16⟩
  refine ae.fk (g:=.t 39) (caps:=[.rp (aS L)]) S39 (D5 L hcl') (λy hy=>?_) [] (λpre ZJ=>SoJ Z0 i16 (kF top shift body (L.take pre.length)).1 (kF top shift body (L.take pre.length)).2 ZJ)
   (λ_ _ _=>False) ?_ ?_ ?_ ?_ ?_
  .obtain⟨t,_,rfl⟩:=fM.1 hy;rfl
  .exact h16
  .rintro pre y post ZJ ZB Sb hJ G';obtain⟨f,hf,rfl⟩:=pn Sb;obtain⟨H',hfe⟩:=nY.1 hf;have hlen:(pre++[[aX f]]).length=pre.length+1:=by simp
   have QF:L.take (pre.length+1)=L.take pre.length++[f]:=by rw[Tp H',hfe]
   have Q6:=qH top shift body (L.take pre.length);have TY:(L.take pre.length).length<=1000000:=by rw[kK];omega
   rw[hlen,QF,Bx];generalize kF top shift body (L.take pre.length)=x at*;have hfo':=hcm f (vK hf);have a12:=G' _ _ (hJ.sub _ _ Wl);have R5:=G' _ _ (hJ.sub _ _ b13);have SB:=G' _ _ (hJ.sub _ _ b17);obtain⟨o1,o2,o3,o4⟩:=hfo';unfold Bq at o1 o2 o3 o4;have q1:PY .i64 (f.y-top):=ar;have q2:PY .i64 (max 0 (f.y-top)+shift):=ar;generalize RI:mI S [40] [aX f]=S0;have T12:S0 12=.ptr QT 0 0:=by rw[<-RI];exact S12
   have T13:S0 13=.ptr VI 0 0:=by rw[<-RI];exact S13
   have T16:S0 16=.ptr i16 0 0:=by rw[<-RI];exact S16
   have T17:S0 17=.ptr VY 0 0:=by rw[<-RI];exact S17
   have T40:S0 40=.agg [vI f.node,vI f.side,vI f.anchor,vI f.x,vI f.y,vI f.w,vI f.h]:=by rw[<-RI];rfl
   clear RI;have hs:=aa.refl ZB;refine ae.mix 20 ?_;apply sR;simp only[go_sem,seval];refine ad λi18 Z18 XJ TJ f18=>?_;have Zs:=al a12 f18;replace a12:=XJ _ _ a12;have n1318:=al R5 f18;replace R5:=XJ _ _ R5;have n1718:=al SB f18;replace SB:=XJ _ _ SB;have z18:=hs.none f18;replace hs:=hs.trans XJ;simp only[go_sem,seval,TJ,T40];generalize Te:C' _ i18 _=Y18;replace TJ:=(congrFun Te i18).symm.trans af;replace a12:=((congrFun Te QT).symm.trans (ab Zs)).trans a12;replace R5:=((congrFun Te VI).symm.trans (ab n1318)).trans R5;replace SB:=((congrFun Te VY).symm.trans (ab n1718)).trans SB;replace hs:=Eq.subst (motive:=aa _) Te (hs.aD z18);clear Te;apply sR;simp only[go_sem,seval,TJ];refine ad λZt Z19 Yr Vd f19=>?_;have n1819:=al TJ f19;replace TJ:=Yr _ _ TJ;have n1219:=al a12 f19;replace a12:=Yr _ _ a12;have n1319:=al R5 f19;replace R5:=Yr _ _ R5;have n1719:=al SB f19;replace SB:=Yr _ _ SB;have z19:=hs.none f19;replace hs:=hs.trans Yr;simp only[go_sem,seval,Vd,TJ,SB,a12,R5,T12,T13,T16,T17,ab n1819,ab n1719,ab n1219,ab n1319,q1,q2,FE];generalize Xk:C' _ Zt _=Y19;replace Vd:=(congrFun Xk Zt).symm.trans af;replace TJ:=((congrFun Xk i18).symm.trans (ab n1819)).trans TJ;replace a12:=((congrFun Xk QT).symm.trans (ab n1219)).trans a12;replace R5:=((congrFun Xk VI).symm.trans (ab n1319)).trans R5;replace SB:=((congrFun Xk VY).symm.trans (ab n1719)).trans SB;replace hs:=Eq.subst (motive:=aa _) Xk (hs.aD z19);clear Xk;have hc:=G5 x.1 x.2 (by omega) (by omega) f (fZ top shift f) body (ar (by simp only[fZ];omega) (by simp only[fZ];omega)) hJ (G'.trans hs);rw[<-T16]at hc;refine ae.call rfl rfl rfl hc ?_;rintro-Z2 ⟨Qd,hB,RK⟩;apply sR;simp only[go_sem,seval];exact⟨_,hB.from hs,RK⟩
  .rintro Z' hJ;have QX:(L.map λf=>[aX f]).length=L.length:=by simp
   rw[QX,jK]at hJ;obtain⟨⟨v,u,Jx,Jv,Ju,_⟩,Js,Jn⟩:=hJ;obtain⟨vc,vs⟩:=Jv.vc;obtain⟨uc,us⟩:=Ju.vc;refine ae.mix 20 ?_;apply sR;simp only[go_sem,seval,S16,Jx,vc,uc,vs,us];have Qi:=QP.trans Js;have hK:aa U (bo Z0 i16):=λi o hh=>by
    rw[bo,aH (λe=>by rw[e,z16]at hh;cases hh)];exact QP _ _ hh
   exact⟨_,U,Qi,Wk.PN (vs':=[aS (kF top shift body L).1,aS (kF top shift body L).2]) ⟨Jv.wk hK Qi,Ju.wk hK Qi,trivial⟩,rfl,rfl⟩
  .intro id h;cases h
  .rintro pre Z' _ ⟨⟩
 .rw[Rv hm,aH hm];apply sR;simp only[go_sem,seval];exact⟨_,U,hs,Wk.PN (vs':=[aS [],aS []]) ⟨Wk.aT 7,Wk.aT 7,trivial⟩,rfl,rfl⟩
variable {P:Program} {n:Nat} {st:St} {Q:St->Prop} {k:List It} {I:Mu} {w:World}
def Im{o:Op}{sz:Nat}{xs:List VX}(h:P3 P n o=.more (.cpy sz) xs):∃x y t e args argTypes,o=.call { callee:=.builtin .copy,args:=args,argTypes:=argTypes }/\
 args=#[x,y]/\argTypes[0]?=some t/\P.underlying t=some (.slice e)/\cb P e=true/\P.cellsOf e=sz/\xs=[cx n x,cx n y]:=by
 cases o
 case call c=>
  obtain⟨callee,args,argTypes⟩:=c;cases callee
  case builtin b=>
   cases b
   case copy=>
    simp only[P3,cu]at h;split at h
    .rename_i x y t h1 h2;split at h
     .rename_i e he;split at h
      .rename_i hz;simp only[Qp.more.injEq,MOp.cpy.injEq]at h;exact⟨x,y,t,e,args,argTypes,rfl,by apply Array.ext';simpa using h1,h2,he,hz,h.1,h.2.symm⟩
      .cases h
     .cases h
    .cases h
   all_goals (simp only[P3,cu]at h;(repeat' split at h)<;>cases h)
  all_goals (simp only[P3,cu]at h;(repeat' split at h)<;>cases h)
 case unOp op t x=>cases op<;>simp only[P3,cu]at h<;>cases h
 case makeFunc f a b=>cases f<;>simp only[P3,cu]at h<;>(repeat' split at h)<;>cases h
 all_goals (simp only[P3,cu]at h;(repeat' split at h)<;>cases h)
def DF{F:Fr}{a:Act}(hs:dh F I st a w){o:Oper}{x y:Operand}{t e:TypeId}{args:Array Operand}{argTypes:Array TypeId}
 (UT:o.op=.call { callee:=.builtin .copy,args:=args,argTypes:=argTypes })(harg:args=#[x,y])(Vr:argTypes[0]?=some t)
 (ht:P.underlying t=some (.slice e))(hk:cb P e=true){id off len:Nat}(h1:(cx F.n x).ev st.s=.own id off len){ob:Ob}(h2:st.U id=some ob)
 (h3:ob.sz=P.cellsOf e)(h4:off+len<=ob.rows.length){rows:List V}(h5:cK st.U (P.cellsOf e) ((cx F.n y).ev st.s)=some rows)(h6:rows.length=len):
 ∃y w',(execOp a.eval o).run P w=.ok (.value y) w'/\
  dh F I ⟨aZ st.s (o.dst.filter (·<F.n)) (.int .i64 len),C' st.U id { ob with rows:=ob.rows.take off++rows++ob.rows.drop (off+len) }⟩ (a.put o.dst y) w':=by
 have QR:=(dU hk).2.2;have R:=cz hs;have hx:=R x;rw[h1]at hx;simp only[E']at hx;obtain⟨news,hY,n1,n2,n3,n4,n5⟩:=oe (P:=P) hs.sat QR h5 (R y);have Qq:∀v w',(Builtin.copy_ argTypes o.type #[a.eval x,a.eval y]).run P w=.ok v w'->(execOp a.eval o).run P w=.ok (.value v) w':=by
  intro v w' hw';unfold execOp;rw[UT];simp[resolve,invoke,Go.builtin,harg,hw']
 have Rc:E' I (aI I st.U) w (.int .i64 len) (goInt len):=by simp only[E'];rfl
 have hcopy:∀b c,a.eval x=.slice b len c->(Builtin.copy_ argTypes o.type #[a.eval x,a.eval y]).run P w=((match b with|some q=>storeCells q news 0|none=>pure ()).run P w).andThen λ_ w'=>.ok (goInt len) w':=by
  intro b c hX;have hlen:=hY w;have Um:=n5 w (λ_ _ _ h=>h);rw[h6]at hlen Um;rw[hX];have hm:Nat.min len len=len:=Nat.min_self len;cases b
  .simp[Builtin.copy_,Vr,run_underlying ht,hlen,hm,cI hk,Um]
  .simp[Builtin.copy_,Vr,run_underlying ht,hlen,hm,cI hk,Um]
 have hzero:len=0->∃y w',(execOp a.eval o).run P w=.ok (.value y) w'/\
  dh F I ⟨aZ st.s (o.dst.filter (·<F.n)) (.int .i64 len),C' st.U id { ob with rows:=ob.rows.take off++rows++ob.rows.drop (off+len) }⟩ (a.put o.dst y) w':=by
  intro h0;subst h0;have hX:∃b c,a.eval x=.slice b 0 c:=by
   split at hx
   .exact hx.elim
   .exact⟨_,_,hx.1⟩
   .obtain⟨o',c,h,_⟩:=hx;exact⟨_,_,h⟩
  obtain⟨b,c,hX⟩:=hX;obtain rfl:rows=[]:=qK h6;obtain rfl:news=[]:=qK (by simpa using n4);have Qi:C' st.U id { ob with rows:=ob.rows.take off++[]++ob.rows.drop (off+0) }=st.U:=by
   funext j;simp only[C',kL,Nat.add_zero,ua];split
   .rename_i e';rw[e',h2]
   .rfl
  rw[Qi];refine⟨goInt 0,w,Qq _ w ?_,hs.pure Rc⟩;rw[hcopy b c hX];cases b<;>simp[storeCells]
 split at hx
 .exact hx.elim
 .exact hzero hx.2.2
 .rename_i b Tr cap M';obtain⟨o',c,hX,c1,c2,c3,Ye⟩:=hx;by_cases h0:len=0
  .exact hzero h0
  have Q5:=hs.sat.obj id ob h2;rw[M']at Q5;obtain⟨cur,e1,e2,e3,e4,e5,e6,e7⟩:=Q5.plain Ye;obtain⟨g1,xs,g2,g3,g4,g5⟩:=e7.cur e1;have hoff:o'=off*Tr:=by
   rcases c3 with c3|c3
   .exact c3
   .omega
  subst hoff;have PZ:Tr=P.cellsOf e:=by omega
  subst PZ;have hbound:off*P.cellsOf e+len*P.cellsOf e<=ob.rows.length*P.cellsOf e:=by rw[<-Nat.add_mul];exact Nat.mul_le_mul_right _ h4
  have Xu:ob.rows.length*P.cellsOf e<=cap*P.cellsOf e:=Nat.mul_le_mul_right _ e5;rw[h6]at n4;have Qi:=run_storeCells_at P b (off*P.cellsOf e) ob.elem news 0 cur w e1 (by rw[n4];omega) n3;simp only[Nat.add_zero]at Qi;refine⟨goInt len,w.setRow b (cur.toList.take (off*P.cellsOf e)++news++cur.toList.drop (off*P.cellsOf e+news.length)).toArray,Qq _ _ ?_,?_⟩
  .rw[hcopy _ c hX];simp only[Qi,Result.andThen_ok]
  .have V7:w.grownBy (w.setRow b (cur.toList.take (off*P.cellsOf e)++news++cur.toList.drop (off*P.cellsOf e+news.length)).toArray) (some b):=
    ⟨rfl,rfl,rfl,by simp,λkk _ T0=>setRow_other w b kk _ (λe=>T0 (by rw[e]))⟩
   have Uz:∀q∈ob.rows.take off++rows++ob.rows.drop (off+len),q.cells.length=P.cellsOf e:=by
    intro q hq;simp only[ei]at hq;rcases hq with(hq|hq)|hq
    .exact g1 q (qL hq)
    .exact n1 q hq
    .exact g1 q (List.mem_of_mem_drop hq)
   have Uy:flat (ob.rows.take off++rows++ob.rows.drop (off+len))=
    (flat ob.rows).take (off*P.cellsOf e)++flat rows++(flat ob.rows).drop (off*P.cellsOf e+len*P.cellsOf e):=by
    rw[ij,ij,qO g1];congr 1;rw[wq g1,Nat.add_mul]
   have ZI:=hs.sat.change h2 M' (by omega) V7 _ (ob.rows.take off++rows++ob.rows.drop (off+len)) (xs.take (off*P.cellsOf e)++news++xs.drop (off*P.cellsOf e+news.length))
    (setRow_heap w b cur _ ob.elem _ e1) (by simp only[List.size_toArray,gY,kK,wh,n4];rw[Array.length_toList];omega) (by simp;omega) Uz
    (by rw[Uy,n4];exact((g2.take _).append n2).append (g2.drop _))
    (by intro u hu
        simp only[ei]at hu;rcases hu with(hu|hu)|hu
        .exact g3 u (qL hu)
        .exact n3 u hu
        .exact g3 u (List.mem_of_mem_drop hu))
    (by intro j u hu
        have:=lE cur.toList xs _ g5 (off*P.cellsOf e) (by rw[n4,g4];omega) j u hu;simpa using this)
   exact hs.step ZI.1 (dd.refl _) ZI.2 (by simp) (by simp only[E'];rfl)
def ae.cpy{i:aK}{l:List aK}{sz:Nat}{xa xb:VX}(hw:bB st.s i.g=some true)(ho:i.op=.more (.cpy sz) [xa,xb])
 {id off len:Nat}(h1:xa.ev st.s=.own id off len){ob:Ob}(h2:st.U id=some ob)(h3:ob.sz=sz)(h4:off+len<=ob.rows.length){rows:List V}(h5:cK st.U sz (xb.ev st.s)=some rows)(h6:rows.length=len)
 (h:ae P n (.ops l::k) ⟨aZ st.s i.dst (.int .i64 len),C' st.U id { ob with rows:=ob.rows.take off++rows++ob.rows.drop (off+len) }⟩ Q):ae P n (.ops (i::l)::k) st Q:=by
 refine ae.ins (by rw[ho];simp) hw λF hn I a w o all hi hs next Q' PL=>?_
 subst hn;obtain⟨PV,hd⟩:=dP hi;rw[ho]at PV;obtain⟨x,y,t,e,args,argTypes,g1,g2,g3,g4,g5,rfl,Sb⟩:=Im PV;simp only[List.cons.injEq,and_true]at Sb;obtain⟨rfl,rfl⟩:=Sb;obtain⟨y,w',hx,PZ⟩:=DF hs g1 g2 g3 g4 g5 h1 h2 h3 h4 h5 h6;unfold Oper.wp;rw[hx];refine PL _ _ _ ⟨I,?_⟩ h;rw[<-hd];exact PZ
open Go.Proofs Go.Proofs.Tryz
def eW(body:Int):List PI->Int->List PI×List PI×Int
 |[],sh=>([],[],sh)
 |f::r,sh=>if sh+min f.h body>body then([],f::r,sh)else({ f with y:=sh,h:=min f.h body }::(eW body r (sh+min f.h body)).1,(eW body r (sh+min f.h body)).2)
def qW{P:List PI}{j:Nat}(h:j<=P.length):∀U,cP U 7 (aS P) (some (.int .i64 j)) none none=some (aS (P.drop j)):=λU=>by
 have h1:(j:Int)<=P.length:=by omega
 simp only[aS,cP,bR,du];rw[aE ⟨by omega,h1,Int.le_refl _,Int.le_refl _,trivial⟩,fp,fp,<-List.map_drop,nX (by simp)]
def L6(P:List PI)(hP:P.length<=1000000)(body:Int)(hb0:1<=body)(Tg:body<=1099511627776)(hh:∀f∈P,0<=f.h):
 bb prog 101 [aS P,vI body] (.PN [aS (eW body P 0).1,aS (eW body P 0).2.1,vI (eW body P 0).2.2]):=λU=>by
 refine O7.r (by simp[Mm]) ?_;have hs:=aa.refl U;have V1:=fP P;refine ae.mix 13 ?_;apply sR;simp only[go_sem,seval,Mm,V1];refine ae.jd (λst=>∃p q sh,eW body P 0=(p,q,sh)/\aa U st.U/\aU U st.U 143 7 (st.s 4) (p.map aX)/\aU U st.U 143 7 (st.s 5) (q.map aX)/\st.s 6=vI sh)
  (λm st=>∃(j:Nat) (acc:List PI) (sh:Int),j<=P.length/\m=P.length-j/\acc.length=j/\eW body P 0=(acc++(eW body (P.drop j) sh).1,(eW body (P.drop j) sh).2)/\0<=sh/\sh<=body/\aa U st.U/\aU U st.U 143 7 (st.s 4) (acc.map aX)/\st.s 5=.aT/\st.s 6=vI sh/\st.s 0=aS P/\st.s 1=vI body/\st.s 10=aS P/\st.s 11=vI P.length/\st.s 12=vI j) P.length ?_ ?_ ?_
 .exact⟨0,[],0,by omega,rfl,rfl,rfl,by omega,by omega,hs,aU.start,rfl,rfl,rfl,rfl,rfl,rfl,rfl⟩
 .clear hs;rintro m ⟨S,J⟩ ⟨j,acc,sh,hj,rfl,Tx,heq,h0,h1,hs,ho,t5,t6,t0,t1,t10,t11,t12⟩;simp only at hs ho t5 t6 t0 t1 t10 t11 t12;generalize hv4:S 4=v4 at ho;refine ae.mix 13 ?_;by_cases H':j<P.length
  .have q:((j:Int)<P.length)=True:=PK;have O':=λU=>kP (U:=U) H';have Ys:=hh _ (QL H');have hd:P.drop j=P[j]::P.drop (j+1):=iy H';have Tu:aX P[j]=.agg [vI P[j].node,vI P[j].side,vI P[j].anchor,vI P[j].x,vI P[j].y,vI P[j].w,vI P[j].h]:=rfl;rw[hd,eW]at heq;generalize P[j]=f at*;have hsY:=hs;replace hs:=aa.refl J;have r1:PY .i64 ((j:Int)+1):=ar;have r2:PY .i64 (sh+min f.h body):=ar;apply sR;simp only[go_sem,seval,t0,t1,t5,t6,t10,t11,t12,hv4,q,O',Tu];refine ad λi8 Z8 s8 a8 f8=>?_;have z8:=hs.none f8;replace hs:=hs.trans s8;simp only[go_sem,seval,a8,t0,t1,t5,t6,t10,t11,t12,hv4];generalize Ra:C' _ i8 _=Y8;replace a8:=(congrFun Ra i8).symm.trans af;replace hs:=Eq.subst (motive:=aa _) Ra (hs.aD z8);clear Ra;refine ad λi9 Z9 s9 a9 f9=>?_;have WD:=al a8 f9;replace a8:=s9 _ _ a8;have z9:=hs.none f9;replace hs:=hs.trans s9;simp only[go_sem,seval,a9,a8,t0,t1,t5,t6,t10,t11,t12,hv4,dL,ab WD,ab WD];generalize Qv:C' _ i9 _=Y9;replace a9:=(congrFun Qv i9).symm.trans af;replace a8:=((congrFun Qv i8).symm.trans (ab WD)).trans a8;replace hs:=Eq.subst (motive:=aa _) Qv (hs.aD z9);clear Qv;refine ae.pF (by kernel_rfl) [0,1,2,3,4,5,6,7,8] [[],[],[1],[],[1,2,3],[0],[0,5],[0,1,2,3,4,5,6],[0,1,2,3,4,5,6,7]] [0,2,4,6,8,10,12,5,14,16] (by kernel_rfl) (by kernel_rfl) ?_;refine RE.Qx (n:=0) [5,14,16] [0,2,4,6,8,10,12] [⟨(.some 18),(.Qc (.t 6)),.none⟩,⟨(.some 19),(.P9 .false 6 1 (.t 8)),.none⟩,⟨(.some 20),(.load .false 1 (.t 19)),.none⟩,⟨(.some 21),(.Qc (.t 1)),.none⟩,⟨(.some 22),(.TA .false (.t 20) (.t 21)),.none⟩,⟨(.some 23),(.P9 .false 4 1 (.t 9)),.none⟩,⟨.none,(.store 1 (.t 23) (.t 18)),.none⟩] rfl rfl ?_;apply sG;simp only[go_sem,seval,a9,a8,t6,t1,fo];refine RE.QQ rfl rfl rfl rfl rfl trivial (by simp only[go_sem,seval,a9,a8,t6,t1,fo,ab WD,ab WD]) ?_;refine RE.Qx (n:=0) [] [14,16] [⟨(.some 24),(.P9 .false 6 1 (.t 9)),.none⟩,⟨.none,(.store 1 (.t 24) (.t 22)),.none⟩] rfl rfl ?_;apply sG;simp only[go_sem,seval,a9,a8,t6,t1,fo,ab WD,ab WD];generalize Qv:C' _ i9 _=Y9;replace a9:=(congrFun Qv i9).symm.trans af;replace a8:=((congrFun Qv i8).symm.trans (ab WD)).trans a8;replace hs:=Eq.subst (motive:=aa _) Qv (hs.aD z9);clear Qv;by_cases hgt:sh+min f.h body>body
   .have q1:(sh+min f.h body>body)=True:=PK hgt;rw[aE hgt]at heq;have r3:PY .i64 ((P.length:Int)-j):=ar;apply sR;simp only[go_sem,seval,a9,a8,t0,t1,t5,t6,t10,t11,t12,hv4,V1,r2,q1,r3];obtain⟨n,hn⟩:∃n:Nat,n=P.length-j:=⟨_,rfl⟩
    have hnj:(P.length:Int)-j=(n:Int):=by omega
    rw[hnj];have hbm:(0:Int)<=n/\(n:Int).toNat*57<=140737488355328:=by omega
    simp only[go_sem,seval,hbm];refine ad λi36 Z36 s36 a36 f36=>?_;have TD:=qW hj;simp only[BB,seval,<-decide_not,bx,fb,aM,dn,dk,dp,dv,dG,bO,jj,fG,bz,eR,dr,eQ,cD,bR,gW,cm,cA,cd,QS,jv,cV,bP,jX,cX,bX,cQ,cC,jf,binBV,bK,cW,V.cells,V.stays,t0,t5,TD,fp];have Si:(P.drop j).length=n:=by rw[wh,hn]
    refine ae.cpy (id:=i36) (off:=0) (len:=n) (rows:=(P.drop j).map aX) rfl rfl rfl a36 rfl (by simp) rfl (by rw[du,Si]) ?_;have Zu:(List.replicate (n:Int).toNat (V.agg [vI 0,vI 0,vI 0,vI 0,vI 0,vI 0,vI 0])).take 0++(P.drop j).map aX++(List.replicate (n:Int).toNat (V.agg [vI 0,vI 0,vI 0,vI 0,vI 0,vI 0,vI 0])).drop (0+n)=(P.drop j).map aX:=by
     generalize (P.drop j).map aX=X;simp
    rw[Zu];apply sR;simp only[go_sem,seval,t0,t1,t6,t10,t11,t12,hv4];have Qi:=(hsY.trans (hs.trans s36)).aD (o:=⟨143,7,(P.drop j).map aX⟩) ((hsY.trans hs).none f36);refine⟨acc,P.drop j,sh,?_,Qi,?_,?_,rfl⟩
    .rw[heq,kL,hd]
    .exact ho.mono ((hs.trans s36).aD (hs.none f36))
    .exact aU.new (by rw[du,Si]) af ((hsY.trans hs).none f36)
   .have q1:(sh+min f.h body>body)=False:=PF hgt;rw[aH hgt]at heq;apply sR;simp only[go_sem,seval,a9,a8,t0,t1,t5,t6,t10,t11,t12,hv4,r2,q1];refine ad λi44 Z44 s44 a44 f44=>?_;obtain⟨PU,QW,QJ,W4,Wn⟩:=ho.BD (hs.trans s44);have Vf:(acc.map aX).length=j:=by rw[du,Tx]
    have QD:(j+1)*57<=140737488355328:=by omega
    simp only[go_sem,seval,QW,dj a44,Vf,QD];refine ep λYt Z45 s45 a45 f45=>?_;have b9:=s45 _ _ ((Wn i9 z9 Z44).trans (s44 _ _ a9));have k45:=(QJ U (aa.refl _) Z44 (hsY.trans (hs.trans s44))).trans s45;have Rr:U Yt=none:=(hsY.trans (hs.trans s44)).none f45;simp only[go_sem,seval,t0,t1,t5,t6,t10,t11,t12,b9,r1,r2];refine⟨_,?_,j+1,acc++[{ f with y:=sh,h:=min f.h body }],sh+min f.h body,by omega,rfl,by simp[Tx],?_,by omega,by omega,k45,?_,by simp⟩
    .omega
    .rw[heq,ly];rfl
    .rw[fC];exact aU.new (by simp[Tx]) a45 Rr
  .have q:((j:Int)<P.length)=False:=PF;have Rf:j=P.length:=by omega
   rw[Rf,qx,eW,kL]at heq;apply sR;simp only[go_sem,seval,t0,t1,t5,t6,t10,t11,t12,hv4,q];exact⟨acc,[],sh,heq,hs,hv4▸ho,aU.start,rfl⟩
 .rintro⟨S,J⟩ ⟨p,q,sh,heq,hs,ho,hu,t6⟩;simp only at hs ho hu t6;generalize hv4:S 4=v4 at ho;generalize hv5:S 5=v5 at hu;refine ae.mix 13 ?_;apply sR;simp only[go_sem,seval,hv4,hv5,t6];rw[heq];exact⟨_,U,hs,Wk.PN (vs':=[aS p,aS q,vI sh]) ⟨ho.wk (aa.refl _) hs,hu.wk (aa.refl _) hs,Wk.refl hs _,trivial⟩,rfl,rfl⟩
open Go.Proofs Go.Proofs.Tryz
structure Bk where
 nodes:List Nd
 (w h:Int)
 atoms:List QB
 P6:List PI
 PM:Int
 PQ:List RX
def bW(b:Bk):V:=.agg [aQ b.nodes,vI b.w,vI b.h,bH b.atoms,aS b.P6,vI b.PM,bV b.PQ]
structure Wx where
 Qa:V
 (high body:Int)
 s:PH
 kind:Int
 (hs fs ls:List RR)
 shift:Int
def dF(b:Bk)(x:Wx)(vh vf vl:V):Ob:=⟨191,13,[.agg [x.Qa,vI x.high,vI x.body,.rp (bW b),vI x.s.atom,vI x.s.done,.bool x.s.free,vI 0,vI x.kind,vh,vf,vl,vI x.shift]]⟩
structure RY(b:Bk)(K:ag)(ix:Nat)(x:Wx)(U:ag)(vh vf vl:V):Prop where
 row:U ix=some (dF b x vh vf vl)
 oh:aU (bo K ix) U 46 7 vh (x.hs.map aY)
 of:aU (bo K ix) U 46 7 vf (x.fs.map aY)
 ol:aU (bo K ix) U 46 7 vl (x.ls.map aY)
 hf:dZ vh vf
 hl:dZ vh vl
 fl:dZ vf vl
 sub:aa K U
 no:K ix=none
def RY.mono{b:Bk}{K:ag}{ix:Nat}{x:Wx}{U J:ag}{vh vf vl:V}(h:RY b K ix x U vh vf vl)(hs:aa U J):RY b K ix x J vh vf vl:=
 ⟨hs _ _ h.row,h.oh.mono hs,h.of.mono hs,h.ol.mono hs,h.hf,h.hl,h.fl,h.sub.trans hs,h.no⟩
def At{K Z8:ag}{ix e sz:Nat}{v:V}{rows:List V}(Js:aa K Z8)(Jn:K ix=none){ox:Ob}(Jx:Z8 ix=some ox)(Jv:aU (bo K ix) Z8 e sz v rows):
 ∃PU,cZ Z8 e sz v=some (rows,PU)/\∀(Z9:ag) (id:Nat) (rows':List V),aa (Vc.bI Z8 PU) Z9->Z9 id=some ⟨e,sz,rows'⟩->Z8 id=none->
  Z9 ix=some ox/\∀o',aa K (C' Z9 ix o')/\aU (bo K ix) (C' Z9 ix o') e sz (.own id 0 rows'.length) rows'/\
  ∀u Vm,aU (bo K ix) Z8 e sz u Vm->dZ v u->aU (bo K ix) (C' Z9 ix o') e sz u Vm/\dZ (.own id 0 rows'.length) u:=by
 obtain⟨PU,QW,Ts⟩:=Jv.J4 (aa.refl Z8);have k2:bo K ix ix≠none:=λh=>(aL.1 h).1 rfl;have Tb:∀(i:Nat),bo K ix i≠none->Vc.bI Z8 PU i=Z8 i:=λi hk=>by
  cases PU with
  |none=>rfl
  |some a=>exact dN (λe=>hk (by rw[e];exact(Ts a rfl).1))
 refine⟨PU,QW,λZ9 id rows' hs9 h9 f=>⟨hs9 _ _ ((Tb _ k2).trans Jx),λo'=>⟨?_,?_,λu Vm hu YG=>⟨?_,dZ.new hu f⟩⟩⟩⟩
 .refine aa.aD (λi o h=>hs9 _ _ ((Tb _ (λhk=>?_)).trans (Js _ _ h))) Jn;rw[(aL.1 hk).2]at h;cases h
 .have m:id≠ix:=λe=>by rw[e,Jx]at f;cases f
  refine aU.new rfl ((ab m).trans h9) (aL.2 ⟨m,?_⟩);exact Js.none f
 .rcases hu with h|⟨a,rfl,h1,h2⟩
  .exact .inl h
  .refine .inr ⟨a,rfl,(ab (aL.1 h2).1).trans (hs9 _ _ ?_),h2⟩;cases hA:PU with
   |none=>exact h1
   |some i=>
    have:a≠i:=λe=>YG _ _ _ _ (Ts i hA).2.2 rfl e.symm;simp only[Vc.bI];rw[dN this];exact h1
def vC(high:Int)(f:PI):RR:=⟨f.node,-1,0,f.x,f.y+high,f.w,f.h⟩
def Wx.put(x:Wx)(l:List PI):Wx:={ x with ls:=x.ls++l.map (vC x.high) }
def nQ(b:Bk)(l:List PI)(hl:l.length<=1000000)(x:Wx)(hx:x.ls.length<=1000000)(hr:∀f∈l,PY .i64 (f.y+x.high)){K U:ag}{i1:Nat}{vh vf vl:V}(hJ:RY b K i1 x U vh vf vl):
 aB prog 102 [.ptr i1 0 0,aS l] U λ_ Z'=>∃SV,RY b K i1 (x.put l) Z' vh vf SV:=by
 refine NL.r (by simp[Jr]) ?_;have Ui:=fP l;obtain⟨ch,sh⟩:=hJ.oh.vc;obtain⟨cf,sf⟩:=hJ.of.vc;refine ae.mix 9 ?_;apply sR;simp only[go_sem,seval,Jr,Ui];refine ae.loop (λm st=>∃(j:Nat) (SV:V),j<=l.length/\m=l.length-j/\RY b K i1 (x.put (l.take j)) st.U vh vf SV/\st.s 0=.ptr i1 0 0/\st.s 6=aS l/\st.s 7=vI l.length/\st.s 8=vI j) l.length ?_ ?_
 .exact⟨0,vl,by omega,rfl,by simpa[Wx.put]using hJ,rfl,rfl,rfl,rfl⟩
 .rintro m ⟨S,J⟩ ⟨j,SV,hj,rfl,hJ,t0,t6,t7,t8⟩;simp only at hJ t0 t6 t7 t8;refine ae.mix 9 ?_;by_cases H':j<l.length
  .have q:((j:Int)<l.length)=True:=PK;have O':=λU=>kP (U:=U) H';have Tu:aX l[j]=.agg [vI l[j].node,vI l[j].side,vI l[j].anchor,vI l[j].x,vI l[j].y,vI l[j].w,vI l[j].h]:=rfl;have QF:l.take (j+1)=l.take j++[l[j]]:=Tp H';have Zi:x.put (l.take (j+1))={ x.put (l.take j)with ls:=(x.put (l.take j)).ls++[vC x.high l[j]] }:=by
    rw[QF];simp only[Wx.put,fC,eD,List.map_nil,ly]
   have r0:=hr _ (QL H');have r1:PY .i64 ((j:Int)+1):=ar;have hyl:((x.put (l.take j)).ls.map aY).length<=2000000:=by simp[Wx.put];omega
   have hyh:(x.put (l.take j)).high=x.high:=rfl;rw[<-hyh]at Zi r0;generalize l[j]=f at*;generalize x.put (l.take j)=y at*;have hs:=aa.refl J;have a1:=hJ.row;rw[dF]at a1;obtain⟨cl,sl⟩:=hJ.ol.vc;apply sR;simp only[go_sem,seval,t0,t6,t7,t8,q,O',Tu];refine ad λi5 Z5 s5 a5 f5=>?_;have Yp:=al a1 f5;replace a1:=s5 _ _ a1;have z5:=hs.none f5;replace hs:=hs.trans s5;simp only[go_sem,seval,a5,a1,t0,t6,t7,t8,ab Yp,ab Yp,r0,ch,sh,cf,sf,cl,sl];generalize RC:C' _ i5 _=Y5;replace a5:=(congrFun RC i5).symm.trans af;replace a1:=((congrFun RC i1).symm.trans (ab Yp)).trans a1;replace hs:=Eq.subst (motive:=aa _) RC (hs.aD z5);clear RC;refine bc λi35 Z35 s35 a35 f35=>?_;have SG:=hJ.mono (hs.trans s35);obtain⟨PU,QW,Ww⟩:=At SG.sub SG.no SG.row SG.ol;generalize Zu:y.ls.map aY=rows at*;have QD:(rows.length+1)*57<=140737488355328:=by omega
   simp only[go_sem,seval,QW,dj a35,QD];refine kB λi36 Z36 s36 a36 f36=>?_;obtain⟨b1,hg⟩:=Ww Z36 i36 _ s36 a36 f36;rw[dF]at b1;obtain⟨g1,g2,g3⟩:=hg (dF b { y with ls:=y.ls++[vC y.high f] } vh vf (.own i36 0 (rows.length+1)));simp only[go_sem,seval,b1,t0,t6,t7,t8,ch,sh,cf,sf,cl,sl,r1];refine⟨_,?_,j+1,.own i36 0 (rows.length+1),by omega,rfl,?_,by simp⟩
   .omega
   .rw[Zi];obtain⟨k1,k2⟩:=g3 _ _ SG.oh SG.hl.symm;obtain⟨k3,k4⟩:=g3 _ _ SG.of SG.fl.symm;rw[gY]at g2 k2 k4;refine⟨af,k1,k3,?_,hJ.hf,k2.symm,k4.symm,g1,hJ.no⟩;show aU _ _ _ _ _ ((y.ls++[vC y.high f]).map aY);rw[fC,Zu];exact g2
  .have q:((j:Int)<l.length)=False:=PF;have Rf:j=l.length:=by omega
   rw[Rf,jK]at hJ;apply sR;simp only[go_sem,seval,t0,t6,t7,t8,q];exact⟨_,_,aa.refl _,Wk.refl (aa.refl _) _,SV,hJ⟩
open Go.Proofs Go.Proofs.Tryz
structure BkOk(b:Bk):Prop where
 Qf:mE b.atoms
 tight:∀a∈b.atoms,-18014398509481984<=a.y/\a.y<=18014398509481984/\0<=a.h/\a.h<=18014398509481984
 len:b.atoms.length<=900000
 Un:b.P6.length<=1000000
 Xc:∀f∈b.P6,f.ok
 WL:b.PQ.length=b.atoms.length+1
structure Sf where
 s:PH
 cy:List PI
def dz(x:Sf):V:=.agg [vI x.s.atom,vI x.s.done,.bool x.s.free,aS x.cy]
def Dr{top shift body:Int}:∀{L:List PI} {m:PI},m∈(kF top shift body L).1->∃f∈L,m=fZ top shift f:=by
 have key:∀(L L0:List PI) (x:List PI×List PI),(∀m∈x.1,∃f∈L0,m=fZ top shift f)->∀m∈(L.foldl (λx f=>mS body x f (fZ top shift f)) x).1,∃f∈L0++L,m=fZ top shift f:=by
  intro L
  induction L with
  |nil=>intro L0 x h m hm;simpa using h m hm
  |cons f L ih=>
   intro L0 x h m hm;rw[kf]at hm;have:=ih (L0++[f]) _ (λm hm=>?_) m hm
   .simpa using this
   .unfold mS at hm;simp only at hm;split at hm
    .obtain⟨g,hg,e⟩:=h m hm;exact⟨g,by simp[hg],e⟩
    .rcases ei.1 hm with hm|hm
     .obtain⟨g,hg,e⟩:=h m hm;exact⟨g,by simp[hg],e⟩
     .simp at hm;exact⟨f,by simp,hm⟩
 intro L m hm;have:=key L [] ([],[]) (by simp) m hm;simpa using this
def wA{b:Bk}(hb:BkOk b){s:PH}(hd:s.done<=1152921504606846976){to kept shift body:Int}(hk:-1152921504606846976<=kept/\kept<=2305843009213693952)(SZ:0<=shift/\shift<=1152921504606846976):
 (fB b.atoms b.P6 s to kept shift body).1.length<=1000000/\∀m∈(fB b.atoms b.P6 s to kept shift body).1,0<=m.y/\m.y<=6917529027641081856:=by
 unfold fB;split
 .rename_i hm;have h1:=qH (vP b.atoms s kept) shift body (iK b.P6 s to);have h2:(iK b.P6 s to).length<=b.P6.length:=ry _ _ _;have h3:=hb.Un;refine⟨by omega,λm hmm=>?_⟩;obtain⟨f,hf,rfl⟩:=Dr hmm;have UR:=hb.Xc f (sX.1 hf).1;obtain⟨_,⟨o1,o2⟩,_⟩:=UR;obtain⟨h0,h4⟩:=hm.1;have Wc:-4611686018427387904<=vP b.atoms s kept:=by
   unfold vP;have:=hm.2.1;obtain⟨k,T0⟩:∃k:Nat,s.atom=k:=⟨s.atom.toNat,by omega⟩
   have Q6:k<b.atoms.length:=by omega
   have hy:=hb.Qf.Wm _ (QL Q6);rw[T0,bG Q6];omega
  simp only[fZ];omega
 .simp
def et(high:Int)(f:RR):RR:={ f with y:=f.y+high }
def cO(b:Bk)(x:Wx)(kept:Int)(n:Nat):List RR:=(List.range n).map λi:Nat=>et x.high (fm b.atoms x.s kept x.shift (x.s.atom+(i:Nat)))
def Wx.add(x:Wx)(l:List RR):Wx:={ x with fs:=x.fs++l }
def Bn{l:List QB}(hl:mE l){s:PH}(Us:0<=s.done)(hd:s.done<=1152921504606846976){kept shift:Int}(hk:-1152921504606846976<=kept/\kept<=2305843009213693952)(SZ:0<=shift/\shift<=1152921504606846976)(k:Int):
 -4611686018427387904<=(fm l s kept shift k).y/\(fm l s kept shift k).y<=6917529027641081856:=by
 have h:=oR hl hd hk SZ k;unfold fm;split
 .split
  .simp only;omega
  .simp only[oq];omega
 .simp
def gJ(l:List QB)(U:ag):cj U false 1 (.rp (bH l))=some (bH l):=rfl
def CN(l:List PI)(U:ag):cj U false 1 (.rp (aS l))=some (aS l):=rfl
def Ge(l:List RX)(U:ag):cj U false 1 (.rp (bV l))=some (bV l):=rfl
def M1(l:List Nd)(U:ag):cj U false 1 (.rp (aQ l))=some (aQ l):=rfl
def RY.oE{b:Bk}{K:ag}{ix:Nat}{x:Wx}{U J:ag}{vh vf vl:V}(h:RY b K ix x U vh vf vl)(hs:aa U J){i:Nat}{o:Ob}(h1:U i=none)(h2:J i=some o):RY b (C' K i o) ix x J vh vf vl:=by
 have key:∀{v rows},aU (bo K ix) U 46 7 v rows->aU (bo (C' K i o) ix) J 46 7 v rows:=λhv=>by
  rcases hv with h|⟨a,e,h3,h4⟩
  .exact .inl h
  .refine .inr ⟨a,e,hs _ _ h3,aL.2 ⟨(aL.1 h4).1,?_⟩⟩;rw[ab (λe=>by subst e;rw[h1]at h3;cases h3)];exact(aL.1 h4).2
 refine⟨hs _ _ h.row,key h.oh,key h.of,key h.ol,h.hf,h.hl,h.fl,λa q ha=>?_,?_⟩
 .by_cases e:a=i
  .subst e;rw[Vc.af]at ha;cases ha;exact h2
  .rw[Vc.ab e]at ha;exact hs _ _ (h.sub _ _ ha)
 .rw[Vc.ab (λe=>by subst e;rw[h.row]at h1;cases h1)];exact h.no
def RY.narrow{b:Bk}{K:ag}{ix i:Nat}{o:Ob}{x:Wx}{U:ag}{vh vf vl:V}(h:RY b (C' K i o) ix x U vh vf vl)(hK:K i=none):RY b K ix x U vh vf vl:=by
 have hk:∀a,C' K i o a=none->K a=none:=λa ha=>by
  by_cases e:a=i
  .subst e;exact hK
  .rwa [Vc.ab e]at ha
 have key:∀{v rows},aU (bo (C' K i o) ix) U 46 7 v rows->aU (bo K ix) U 46 7 v rows:=λhv=>by
  rcases hv with h|⟨a,e,h3,h4⟩
  .exact .inl h
  .exact .inr ⟨a,e,h3,aL.2 ⟨(aL.1 h4).1,hk _ (aL.1 h4).2⟩⟩
 refine⟨h.row,key h.oh,key h.of,key h.ol,h.hf,h.hl,h.fl,λa q ha=>h.sub _ _ ?_,hk _ h.no⟩;rw[Vc.ab (λe=>by subst e;rw[hK]at ha;cases ha)];exact ha
def RY.drop{b:Bk}{K:ag}{ix i:Nat}{o:Ob}{x:Wx}{U:ag}{vh vf vl:V}(h:RY b (C' K i o) ix x U vh vf vl)(hK:K i=none)(o':Ob):RY b K ix x (C' U i o') vh vf vl:=by
 have hn:ix≠i:=λe=>by have:=h.no;subst e;rw[Vc.af]at this;cases this
 have key:∀{v rows},aU (bo K ix) U 46 7 v rows->aU (bo (C' K i o) ix) U 46 7 v rows->aU (bo K ix) (C' U i o') 46 7 v rows:=λhv hw=>by
  rcases hv with h|⟨a,rfl,h3,h4⟩
  .exact .inl h
  .refine .inr ⟨a,rfl,?_,h4⟩;rcases hw with⟨h,_⟩|⟨c,h,h5,h6⟩
   .cases h
   .cases h;have:a≠i:=λe=>by subst e;have:=(aL.1 h6).2;rw[Vc.af]at this;cases this
    rw[Vc.ab this];exact h3
 have g:=h.narrow hK;refine⟨(Vc.ab hn).trans h.row,key g.oh h.oh,key g.of h.of,key g.ol h.ol,h.hf,h.hl,h.fl,g.sub.aD hK,g.no⟩
def FK(b:Bk)(hb:BkOk b)(x:Wx)(hm:cM b.atoms x.s)(hd:x.s.done<=1152921504606846976)(hx:x.fs.length<=1000000)(ZT:x.ls.length<=1000000)(hh:0<=x.high/\x.high<=1152921504606846976)(kept:Int)(hk:-1152921504606846976<=kept/\kept<=2305843009213693952)
 (SZ:0<=x.shift/\x.shift<=1152921504606846976)(cut:Nat)(hc:x.s.atom<=cut)(QG:cut<=b.atoms.length){K U:ag}{i1:Nat}{vh vf vl:V}(hJ:RY b K i1 x U vh vf vl):
 aB prog 129 [.ptr i1 0 0,vI kept,vI cut] U λr Z'=>∃TV SV,r=dz ⟨⟨cut,0,decide ((b.PQ.getD cut ⟨0,0,0⟩).forced≠0)⟩,(fB b.atoms b.P6 x.s cut kept x.shift x.body).2⟩/\
  RY b K i1 ((x.add (cO b x kept (cut-x.s.atom.toNat))).put (fB b.atoms b.P6 x.s cut kept x.shift x.body).1) Z' vh TV SV:=by
 refine NQ.r (by simp[JF]) ?_;have hs:=aa.refl U;have To:bW b=.agg [aQ b.nodes,vI b.w,vI b.h,bH b.atoms,aS b.P6,vI b.PM,bV b.PQ]:=rfl;have a1:=hJ.row;rw[dF]at a1;obtain⟨ch,sh⟩:=hJ.oh.vc;obtain⟨a,haa⟩:∃a:Nat,x.s.atom=a:=⟨x.s.atom.toNat,by have:=hm.1;omega⟩
 obtain⟨n,hn⟩:∃n,n=cut-x.s.atom.toNat:=⟨_,rfl⟩
 have hnc:a+n=cut:=by omega
 rw[<-hn];have hlen:=hb.len;refine ae.mix 13 ?_;apply sR;simp only[go_sem,seval,JF];refine ad λi6 Z6 s6 a6 f6=>?_;have n16:=al a1 f6;replace a1:=s6 _ _ a1;have z6:=hs.none f6;replace hs:=hs.trans s6;have Uk:=hJ.oE s6 f6 a6;have k6:K i6=none:=hJ.sub.none f6;simp only[go_sem,seval,a1,To,haa,gJ];refine ae.jd (λst=>∃TV,RY b (C' K i6 ⟨134,4,[.agg [vI 0,vI 0,.bool false,.aT]]⟩) i1 (x.add (cO b x kept n)) st.U vh TV vl/\st.s 0=.ptr i1 0 0/\st.s 1=vI kept/\st.s 2=vI cut/\st.s 6=.ptr i6 0 0/\st.s 7=bH b.atoms)
  (λm st=>∃(j:Nat) (TV:V),j<=n/\m=n-j/\RY b (C' K i6 ⟨134,4,[.agg [vI 0,vI 0,.bool false,.aT]]⟩) i1 (x.add (cO b x kept j)) st.U vh TV vl/\st.s 0=.ptr i1 0 0/\st.s 1=vI kept/\st.s 2=vI cut/\st.s 6=.ptr i6 0 0/\st.s 7=bH b.atoms/\∃z:Int,st.s 8=vI z/\z=(a:Int)+j) n ?_ ?_ ?_
 .exact⟨0,vf,by omega,rfl,by simpa[Wx.add,cO]using Uk,rfl,rfl,rfl,rfl,rfl,_,rfl,by omega⟩
 .clear hs Uk a1 hJ a6;rintro m ⟨S,J⟩ ⟨j,TV,hj,rfl,hJ,t0,t1,t2,t6,t7,z,t8,hz⟩;simp only at hJ t0 t1 t2 t6 t7 t8;refine ae.mix 13 ?_;by_cases H':j<n
  .have q:(z<(cut:Int))=True:=PK;have ZM:x.add (cO b x kept (j+1))={ x.add (cO b x kept j)with fs:=(x.add (cO b x kept j)).fs++[et x.high (fm b.atoms x.s kept x.shift z)] }:=by
    simp only[Wx.add,cO,List.range_succ,fC,eD,List.map_nil,ly];rw[hz,haa]
   have Rq:bb prog 158 [bH b.atoms,aF (x.add (cO b x kept j)).s,vI kept,vI (x.add (cO b x kept j)).shift,vI z] (aY (fm b.atoms x.s kept x.shift z)):=Ee b.atoms hb.Qf x.s hd kept x.shift z hk SZ;have Vb:=Bn hb.Qf hm.2.1 hd hk SZ z;have hyl:((x.add (cO b x kept j)).fs.map aY).length<=2000000:=by simp[Wx.add,cO];omega
   have hyh:(x.add (cO b x kept j)).high=x.high:=rfl;rw[<-hyh]at ZM;generalize fm b.atoms x.s kept x.shift z=w at*;generalize x.add (cO b x kept j)=y at*;have hs:=aa.refl J;have a1:=hJ.row;rw[dF]at a1;rw[aF]at Rq;have r1:PY .i64 (z+1):=ar;have r2:PY .i64 (w.y+y.high):=ar;obtain⟨cf,sf⟩:=hJ.of.vc;obtain⟨cl,sl⟩:=hJ.ol.vc;apply sR;simp only[go_sem,seval,t0,t1,t2,t6,t7,t8,q,dL];refine ae.vW (by kernel_rfl) 8 (.fork [[],[],[1],[2,1],[3,2,1],[],[],[6],[7,6],[8,7,6],[],[0,4,5,9,10,3,2,1,8,7,6],[],[12,11,0,1,2,3,4,5,6,7,8,9,10]] [0,1,2,3,4,5,6,7,8,9,10] [11,12] [(.leaf [[],[],[1],[2,1],[3,2,1],[],[],[6],[7,6],[8,7,6],[],[0,4,5,9,10,3,2,1,8,7,6],[11,0,4,5,9,10,3,2,1,8,7,6],[11,0,4,5,9,10,3,2,1,8,7,6,12]] [11,12,13]),(.leaf [[],[],[1],[2,1],[3,2,1],[],[],[6],[7,6],[8,7,6],[],[12,0,4,5,9,10,3,2,1,8,7,6],[],[12,11,0,1,2,3,4,5,6,7,8,9,10]] [12,11,13])]) (by kernel_rfl) ?_;refine GT.lh (its:=[0,2,4,6,8,10,12,14,16,18,20]) (by kernel_rfl) ?_;refine RE.Qx (n:=0) [] [0,2,4,6,8,10,12,14,16,18,20] [⟨(.some 31),(.Qc (.t 7)),.none⟩,⟨(.some 32),(.Qc (.t 0)),.none⟩,⟨(.some 33),(.nilCheck (.t 32)),.none⟩,⟨(.some 34),(.P9 .true 4 3 (.t 33)),.none⟩,⟨(.some 35),(.load .true 3 (.t 34)),.none⟩,⟨(.some 36),(.Qc (.t 1)),.none⟩,⟨(.some 37),(.Qc (.t 0)),.none⟩,⟨(.some 38),(.nilCheck (.t 37)),.none⟩,⟨(.some 39),(.P9 .false 12 1 (.t 38)),.none⟩,⟨(.some 40),(.load .false 1 (.t 39)),.none⟩,⟨(.some 41),(.Qc (.t 8)),.none⟩] rfl rfl ?_;apply sG;simp only[go_sem,seval,a1,t0,t1,t7,t8,aY];refine⟨?_,?_⟩
   .refine GT.eS (its:=[22,24,26]) (by kernel_rfl) ?_;refine RE.aC rfl rfl rfl rfl rfl (Rq _) ?_;refine RE.Qx (n:=0) [] [24,26] [⟨(.some 9),(.alloc 46 7 (.agg [(.int .i64 0),(.int .i64 0),(.int .i64 0),(.int .i64 0),(.int .i64 0),(.int .i64 0),(.int .i64 0)])),.none⟩,⟨.none,(.store 7 (.t 9) (.t 42)),.none⟩] rfl rfl ?_;apply sG;simp only[go_sem,seval,a1,t0,t1,t7,t8,aY];refine bc λi9 Z9 s9 a9 f9=>?_;have n19:=al a1 f9;replace a1:=s9 _ _ a1;have z9:=hs.none f9;replace hs:=hs.trans s9;simp only[go_sem,seval,a1,t0,t1,t7,t8,aY,a9];generalize Qv:C' _ i9 _=Y9;replace a9:=(congrFun Qv i9).symm.trans af;replace a1:=((congrFun Qv i1).symm.trans (ab n19)).trans a1;replace hs:=Eq.subst (motive:=aa _) Qv (hs.aD z9);clear Qv;apply sR;simp only[go_sem,seval,a9,a1,t0,r2,ab n19,ab n19,cf,sf];generalize Qv:C' _ i9 _=Y9;replace a9:=(congrFun Qv i9).symm.trans af;replace a1:=((congrFun Qv i1).symm.trans (ab n19)).trans a1;replace hs:=Eq.subst (motive:=aa _) Qv (hs.aD z9);clear Qv;refine bc λi59 Z59 s59 a59 f59=>?_;have QZ:=(hJ.mono hs).mono s59;obtain⟨PU,QW,Ww⟩:=At QZ.sub QZ.no QZ.row QZ.of;generalize Zu:y.fs.map aY=rows at*;have QD:(rows.length+1)*57<=140737488355328:=by omega
    simp only[go_sem,seval,QW,dj a59,QD];refine kB λi60 Z60 s60 a60 f60=>?_;obtain⟨b1,hg⟩:=Ww Z60 i60 _ s60 a60 f60;rw[dF]at b1;obtain⟨g1,g2,g3⟩:=hg (dF b { y with fs:=y.fs++[et y.high w] } vh (.own i60 0 (rows.length+1)) vl);simp only[go_sem,seval,b1,t0,t1,t2,t6,t7,t8,ch,sh,cf,sf,cl,sl,r1];refine⟨_,?_,j+1,.own i60 0 (rows.length+1),by omega,rfl,?_,_,rfl,by omega⟩
    .omega
    .rw[ZM];obtain⟨k1,k2⟩:=g3 _ _ QZ.oh QZ.hf.symm;obtain⟨k3,k4⟩:=g3 _ _ QZ.ol QZ.fl;rw[gY]at g2 k2 k4;refine⟨?_,k1,?_,k3,k2.symm,hJ.hl,k4,g1,hJ.no⟩
     .exact af
     .show aU _ _ _ _ _ ((y.fs++[et y.high w]).map aY);rw[fC,Zu];exact g2
   .refine GT.eS (its:=[24,9,19,22,26]) (by kernel_rfl) ?_;refine RE.Qx (n:=0) [9,19,22,26] [24] [⟨(.some 9),(.alloc 46 7 (.agg [(.int .i64 0),(.int .i64 0),(.int .i64 0),(.int .i64 0),(.int .i64 0),(.int .i64 0),(.int .i64 0)])),.none⟩] rfl rfl ?_;apply sG;simp only[go_sem,seval,a1,t0,t1,t7,t8,aY];refine bc λi9 Z9 s9 a9 f9=>?_;have n19:=al a1 f9;replace a1:=s9 _ _ a1;have z9:=hs.none f9;replace hs:=hs.trans s9;simp only[go_sem,seval,a1,t0,t1,t7,t8,aY,a9];refine RE.QQ rfl rfl rfl rfl rfl trivial (by simp only[go_sem,seval,a1,t0,t1,t7,t8,aY,a9]) ?_;refine RE.QQ rfl rfl rfl rfl rfl trivial (by simp only[go_sem,seval,a1,t0,t1,t7,t8,aY,a9]) ?_;refine RE.aC rfl rfl rfl rfl rfl (Rq _) ?_;refine RE.Qx (n:=0) [] [26] [⟨.none,(.store 7 (.t 9) (.t 42)),.none⟩] rfl rfl ?_;apply sG;simp only[go_sem,seval,a1,t0,t1,t7,t8,aY,a9];generalize Qv:C' _ i9 _=Y9;replace a9:=(congrFun Qv i9).symm.trans af;replace a1:=((congrFun Qv i1).symm.trans (ab n19)).trans a1;replace hs:=Eq.subst (motive:=aa _) Qv (hs.aD z9);clear Qv;apply sR;simp only[go_sem,seval,a9,a1,t0,r2,ab n19,ab n19,cf,sf];generalize Qv:C' _ i9 _=Y9;replace a9:=(congrFun Qv i9).symm.trans af;replace a1:=((congrFun Qv i1).symm.trans (ab n19)).trans a1;replace hs:=Eq.subst (motive:=aa _) Qv (hs.aD z9);clear Qv;refine bc λi59 Z59 s59 a59 f59=>?_;have QZ:=(hJ.mono hs).mono s59;obtain⟨PU,QW,Ww⟩:=At QZ.sub QZ.no QZ.row QZ.of;generalize Zu:y.fs.map aY=rows at*;have QD:(rows.length+1)*57<=140737488355328:=by omega
    simp only[go_sem,seval,QW,dj a59,QD];refine kB λi60 Z60 s60 a60 f60=>?_;obtain⟨b1,hg⟩:=Ww Z60 i60 _ s60 a60 f60;rw[dF]at b1;obtain⟨g1,g2,g3⟩:=hg (dF b { y with fs:=y.fs++[et y.high w] } vh (.own i60 0 (rows.length+1)) vl);simp only[go_sem,seval,b1,t0,t1,t2,t6,t7,t8,ch,sh,cf,sf,cl,sl,r1];refine⟨_,?_,j+1,.own i60 0 (rows.length+1),by omega,rfl,?_,_,rfl,by omega⟩
    .omega
    .rw[ZM];obtain⟨k1,k2⟩:=g3 _ _ QZ.oh QZ.hf.symm;obtain⟨k3,k4⟩:=g3 _ _ QZ.ol QZ.fl;rw[gY]at g2 k2 k4;refine⟨?_,k1,?_,k3,k2.symm,hJ.hl,k4,g1,hJ.no⟩
     .exact af
     .show aU _ _ _ _ _ ((y.fs++[et y.high w]).map aY);rw[fC,Zu];exact g2
  .have q:(z<(cut:Int))=False:=PF;have Rf:j=n:=by omega
   subst Rf;apply sR;simp only[go_sem,seval,t0,t1,t2,t6,t7,t8,q];exact⟨TV,hJ⟩
 .clear hs Uk a1 hJ a6;rintro⟨S,J⟩ ⟨TV,hJ,t0,t1,t2,t6,t7⟩;simp only at hJ t0 t1 t2 t6 t7;have Rq:bb prog 157 [bH b.atoms,aS b.P6,aF (x.add (cO b x kept n)).s,vI cut,vI kept,vI (x.add (cO b x kept n)).shift,vI (x.add (cO b x kept n)).body] (.PN [aS (fB b.atoms b.P6 x.s cut kept x.shift x.body).1,aS (fB b.atoms b.P6 x.s cut kept x.shift x.body).2]):=
   Ga b.atoms hb.Qf b.P6 hb.Un hb.Xc x.s hd cut kept x.shift x.body hk SZ
  have Vb:=wA hb hd (to:=cut) (body:=x.body) hk SZ;have hyl:(x.add (cO b x kept n)).ls.length<=1000000:=ZT;have hyh:(x.add (cO b x kept n)).high=x.high:=rfl;rw[aF]at Rq;generalize fB b.atoms b.P6 x.s cut kept x.shift x.body=R at*;generalize x.add (cO b x kept n)=y at*;have a1:=hJ.row;rw[dF]at a1;have hflo:=nQ b R.1 Vb.1 y hyl (λf hf=>by
   have:=Vb.2 f hf;rw[hyh];exact ar) hJ
  have hcb:cut<b.PQ.length:=by have:=hb.WL;omega
  have O':=λU=>uO (U:=U) hcb;have Vs:b.PQ.getD cut ⟨0,0,0⟩=b.PQ[cut]:=by simp[hcb]
  rw[Vs];generalize b.PQ[cut]=bk at*;refine ae.mix 13 ?_;apply sR;simp only[go_sem,seval,t0,t1,t2,t6,t7,a1,To,gJ,CN];refine Go.bZ rfl rfl rfl Rq ?_;apply sG;simp only[go_sem,seval,t0];refine ae.call rfl rfl rfl hflo ?_;rintro r Z' ⟨SV,RK⟩;clear a1;have a1:=RK.row;rw[dF]at a1;have a6:=RK.sub _ _ af;have hs:=aa.refl Z';apply sR;simp only[go_sem,seval,t0,t2,t6,a1,To,Ge,O',fT];refine ad λQT Z12 TT a12 f12=>?_;have n112:=al a1 f12;replace a1:=TT _ _ a1;have n612:=al a6 f12;replace a6:=TT _ _ a6;have z12:=hs.none f12;replace hs:=hs.trans TT;simp only[go_sem,seval,a12,a6,t6,aO,aP,ab n112,ab n612];exact⟨_,_,aa.refl _,Wk.refl (aa.refl _) _,TV,SV,rfl,(RK.mono (hs.aD f12)).drop k6 _⟩
open Go.Proofs Go.Proofs.Tryz
def bM.rt:bM->bM
 |.seq _ b=>b
 |c=>c
def cY{i j:Nat}(h:i≠j):(∀(U:ag) (o:Ob),C' U i o j=U j)/\∀(U:ag) (o:Ob),C' U j o i=U i:=⟨λ_ _=>ab h.symm,λ_ _=>ab h⟩
def Ii(l:List QB)(s:PH)(Ql:Int):(kQ l s Ql).y=0:=by
 unfold kQ;split<;>rfl
def vp(b:Bk)(x:Wx):Wx:=(x.add [et x.high (kQ b.atoms x.s x.body)]).put (fB b.atoms b.P6 x.s (x.s.atom+1) 0 0 x.body).1
def uz(b:Bk)(x:Wx):Sf:=⟨dI b.atoms x.s x.body,(fB b.atoms b.P6 x.s (x.s.atom+1) 0 0 x.body).2⟩
def Ia(b:Bk)(hb:BkOk b)(x:Wx)(hm:cM b.atoms x.s)(hd:x.s.done<=1152921504606846976)(hx:x.fs.length<=1000000)(ZT:x.ls.length<=1000000)(hh:0<=x.high/\x.high<=1152921504606846976)(u v:Int)
 {K U:ag}{i1:Nat}{vh vf vl:V}(hJ:RY b K i1 x U vh vf vl):
 aB prog 128 [.ptr i1 0 0,vI u,vI v] U λr Z'=>∃TV SV,r=dz (uz b x)/\RY b K i1 (vp b x) Z' vh TV SV:=by
 refine Pv.r (by simp[E1]) ?_;have To:bW b=.agg [aQ b.nodes,vI b.w,vI b.h,bH b.atoms,aS b.P6,vI b.PM,bV b.PQ]:=rfl;have a1:=hJ.row;rw[dF]at a1;obtain⟨ch,sh⟩:=hJ.oh.vc;have hlen:=hb.len;refine ae.mix 12 ?_;have hs:=aa.refl U;apply sR;simp only[go_sem,seval,E1];refine ad λi6 Z6 s6 a6 f6=>?_;have n16:=al a1 f6;replace a1:=s6 _ _ a1;have z6:=hs.none f6;replace hs:=hs.trans s6;have k6:K i6=none:=hJ.sub.none f6;have Uk:=hJ.oE s6 f6 a6;clear hJ;simp only[go_sem,seval,a1,To,gJ,dL];have Q7:=GF b.atoms hb.Qf x.s hd x.body;have hw0:=Ii b.atoms x.s x.body;unfold vp uz;have Rq:=Ga b.atoms hb.Qf b.P6 hb.Un hb.Xc x.s hd (x.s.atom+1) 0 0 x.body (by omega) (by omega);have Vb:=wA hb hd (to:=x.s.atom+1) (kept:=0) (shift:=0) (body:=x.body) (by omega) (by omega);generalize kQ b.atoms x.s x.body=w at*;generalize dI b.atoms x.s x.body=nx at*;generalize fB b.atoms b.P6 x.s (x.s.atom+1) 0 0 x.body=R at*;rw[aF]at Q7 Rq;obtain⟨cf,sf⟩:=Uk.of.vc;obtain⟨cl,sl⟩:=Uk.ol.vc;have nc:(aF nx).cells=[vI nx.atom,vI nx.done,.bool nx.free]:=rfl;have ns:(aF nx).stays=true:=rfl;have fin:∀(S:Nat->V) (J:ag) (i8 i9:Nat),aa Z6 J->((∀(U:ag) (o:Ob),C' U i8 o i9=U i9)/\∀(U:ag) (o:Ob),C' U i9 o i8=U i8)->Z6 i8=none->Z6 i9=none->J i8=some ⟨46,7,[.agg [vI w.node,vI w.atom,vI w.fr,vI w.x,vI w.y,vI w.w,vI w.h]]⟩->J i9=some ⟨37,3,[.agg [vI nx.atom,vI nx.done,.bool nx.free]]⟩->
  S 0=.ptr i1 0 0->S 6=.ptr i6 0 0->S 7=bH b.atoms->S 8=.ptr i8 0 0->S 9=.ptr i9 0 0->
  ae prog 89 [It.code E1.code.rt.rt.rt] ⟨S,J⟩ λst=>TF [.cell true 4 (.t 6)] st λr Z'=>∃TV SV,r=dz ⟨nx,R.2⟩/\RY b K i1 ((x.add [et x.high w]).put R.1) Z' vh TV SV:=by
  intro S J i8 i9 hsZ hn z8 z9 a8 a9 t0 t6 t7 t8 t9;have YR:=al a6 z9;have k9:=Uk.sub.none z9;have hJ:=Uk.oE hsZ z9 a9;have n18:i1≠i8:=al a1 z8;have a1:=hJ.row;rw[dF]at a1;have r2:PY .i64 (w.y+x.high):=ar;have r3:PY .i64 (x.s.atom+1):=ar (by have:=hm.1;omega) (by have:=hm.1;omega);have hs:=aa.refl J;have z8:=z8;refine ae.mix 12 ?_;apply sR;simp only[go_sem,seval,E1,bM.rt,t0,t6,t7,t8,t9,a8,a1,r2,ab n18,cf,sf];generalize Ra:C' J i8 _=Y8;have Rg:RY b (C' K i6 ⟨134,4,[.agg [vI 0,vI 0,.bool false,.aT]]⟩) i1 x Y8 vh vf vl:=Uk.mono (Ra▸hsZ.aD z8);replace a8:=(congrFun Ra i8).symm.trans af;replace a9:=((congrFun Ra i9).symm.trans (hn.1 _ _)).trans a9;replace hJ:=Uk.oE (Ra▸hsZ.aD z8) z9 a9;clear Ra;refine bc λi50 Z50 s50 a50 f50=>?_;have QZ:=hJ.mono s50;obtain⟨PU,QW,Ww⟩:=At QZ.sub QZ.no QZ.row QZ.of;have Tu:(x.fs.map aY).length<=1000000:=by simpa using hx
  generalize Zu:x.fs.map aY=rows at*;have QD:(rows.length+1)*57<=140737488355328:=by omega
  simp only[go_sem,seval,QW,dj a50,QD];refine kB λi51 Z51 s51 a51 f51=>?_;obtain⟨b1,hg⟩:=Ww Z51 i51 _ s51 a51 f51;rw[dF]at b1;obtain⟨g1,g2,g3⟩:=hg (dF b (x.add [et x.high w]) vh (.own i51 0 (rows.length+1)) vl);have hJa:RY b (C' (C' K i6 ⟨134,4,[.agg [vI 0,vI 0,.bool false,.aT]]⟩) i9 ⟨37,3,[.agg [vI nx.atom,vI nx.done,.bool nx.free]]⟩) i1 (x.add [et x.high w]) (C' Z51 i1 (dF b (x.add [et x.high w]) vh (.own i51 0 (rows.length+1)) vl)) vh (.own i51 0 (rows.length+1)) vl:=by
   obtain⟨k1,k2⟩:=g3 _ _ QZ.oh QZ.hf.symm;obtain⟨k3,k4⟩:=g3 _ _ QZ.ol QZ.fl;rw[gY]at g2 k2 k4;refine⟨af,k1,?_,k3,k2.symm,QZ.hl,k4,g1,QZ.no⟩;show aU _ _ _ _ _ ((x.fs++[et x.high w]).map aY);rw[fC,Zu];exact g2
  have hya:(x.add [et x.high w]).high=x.high:=rfl;have hys:(x.add [et x.high w]).ls=x.ls:=rfl;have hxl':(x.add [et x.high w]).ls.length<=1000000:=ZT;generalize hY:x.add [et x.high w]=y at*;simp only[go_sem,seval,b1,t0,t6,t7,t8,t9,ch,sh,cl,sl,To,gJ,CN,r3];generalize hq1:C' Z51 i1 _=Y1;have Zk:=hJa;rw[show C' Z51 i1 (dF b y vh (.own i51 0 (rows.length+1)) vl)=Y1 by rw[<-hq1,dF,<-hY];rfl]at Zk;clear hJa hq1;refine Go.bZ rfl rfl rfl Rq ?_;apply sG;simp only[go_sem,seval,t0];refine ae.call rfl rfl rfl (nQ b R.1 Vb.1 y hxl' (λf hf=>by
   have:=Vb.2 f hf;rw[hya];exact ar) Zk) ?_
  rintro r Z' ⟨SV,RK⟩;have c9:=RK.sub _ _ af;have c6:=RK.sub i6 _ ((ab YR).trans af);apply sR;simp only[go_sem,seval,t6,t9,c9,c6,aO,aP];exact⟨_,_,aa.refl _,Wk.refl (aa.refl _) _,_,SV,rfl,(RK.narrow k9).drop k6 _⟩
 have a8:True:=trivial;have a9:True:=trivial;have hn:True:=trivial;have QP:=aa.refl Z6;refine ae.vW (by kernel_rfl) 8 (.fork [[],[],[1],[2,1],[3,2,1],[],[5],[6,5],[7,6,5],[8,7,6,5],[0,4,9,3,2,1,8,7,6,5],[10,0,4,9,3,2,1,8,7,6,5],[11,10,0,4,9,3,2,1,8,7,6,5],[11,10,0,4,9,3,2,1,8,7,6,5],[],[],[14,12,10,0,1,2,3,4,5,6,7,8,9,11,15],[15,13,16,0,1,2,3,4,5,6,7,8,9,10,11,12,14]] [0,1,2,3,4,5,6,7,8,9] [10,14,15] [(.fork [[],[],[1],[2,1],[3,2,1],[],[5],[6,5],[7,6,5],[8,7,6,5],[0,4,9,3,2,1,8,7,6,5],[10,0,4,9,3,2,1,8,7,6,5],[11,10,0,4,9,3,2,1,8,7,6,5],[11,10,0,4,9,3,2,1,8,7,6,5],[10,0,4,9,3,2,1,8,7,6,5],[10,0,4,9,3,2,1,8,7,6,5],[10,0,4,9,3,2,1,8,7,6,5,14,12,11,15],[10,0,4,9,3,2,1,8,7,6,5,15,13,16,11,12,14]] [10,11,12,13] [14,15] [(.leaf [[],[],[1],[2,1],[3,2,1],[],[5],[6,5],[7,6,5],[8,7,6,5],[0,4,9,3,2,1,8,7,6,5],[10,0,4,9,3,2,1,8,7,6,5],[11,10,0,4,9,3,2,1,8,7,6,5],[11,10,0,4,9,3,2,1,8,7,6,5],[10,0,4,9,3,2,1,8,7,6,5],[14,10,0,4,9,3,2,1,8,7,6,5],[14,10,0,4,9,3,2,1,8,7,6,5,12,11,15],[14,10,0,4,9,3,2,1,8,7,6,5,15,13,16,11,12]] [14,15,16,17]),(.leaf [[],[],[1],[2,1],[3,2,1],[],[5],[6,5],[7,6,5],[8,7,6,5],[0,4,9,3,2,1,8,7,6,5],[10,0,4,9,3,2,1,8,7,6,5],[11,10,0,4,9,3,2,1,8,7,6,5],[11,10,0,4,9,3,2,1,8,7,6,5],[15,10,0,4,9,3,2,1,8,7,6,5],[10,0,4,9,3,2,1,8,7,6,5],[15,10,0,4,9,3,2,1,8,7,6,5,14,12,11],[15,10,0,4,9,3,2,1,8,7,6,5,13,16,11,12,14]] [15,14,16,17])]),(.fork [[],[],[1],[2,1],[3,2,1],[],[5],[6,5],[7,6,5],[8,7,6,5],[14,0,4,9,3,2,1,8,7,6,5],[14,10,0,4,9,3,2,1,8,7,6,5],[14,11,10,0,4,9,3,2,1,8,7,6,5],[14,11,10,0,4,9,3,2,1,8,7,6,5],[],[14],[14,12,10,0,1,2,3,4,5,6,7,8,9,11,15],[14,15,13,16,0,1,2,3,4,5,6,7,8,9,10,11,12]] [14] [10,15] [(.leaf [[],[],[1],[2,1],[3,2,1],[],[5],[6,5],[7,6,5],[8,7,6,5],[14,0,4,9,3,2,1,8,7,6,5],[14,10,0,4,9,3,2,1,8,7,6,5],[14,11,10,0,4,9,3,2,1,8,7,6,5],[14,11,10,0,4,9,3,2,1,8,7,6,5],[],[10,14,0,4,9,3,2,1,8,7,6,5],[10,14,0,4,9,3,2,1,8,7,6,5,12,11,15],[10,14,0,4,9,3,2,1,8,7,6,5,15,13,16,11,12]] [10,11,12,13,15,16,17]),(.leaf [[],[],[1],[2,1],[3,2,1],[],[5],[6,5],[7,6,5],[8,7,6,5],[15,14,0,4,9,3,2,1,8,7,6,5],[15,14,10,0,4,9,3,2,1,8,7,6,5],[15,14,11,10,0,4,9,3,2,1,8,7,6,5],[15,14,11,10,0,4,9,3,2,1,8,7,6,5],[],[14],[15,14,12,10,0,1,2,3,4,5,6,7,8,9,11],[15,14,13,16,0,1,2,3,4,5,6,7,8,9,10,11,12]] [15,10,11,12,13,16,17])]),(.fork [[],[],[1],[2,1],[3,2,1],[],[5],[6,5],[7,6,5],[8,7,6,5],[15,0,4,9,3,2,1,8,7,6,5],[15,10,0,4,9,3,2,1,8,7,6,5],[15,11,10,0,4,9,3,2,1,8,7,6,5],[15,11,10,0,4,9,3,2,1,8,7,6,5],[15],[],[15,14,12,10,0,1,2,3,4,5,6,7,8,9,11],[15,13,16,0,1,2,3,4,5,6,7,8,9,10,11,12,14]] [15] [10,14] [(.leaf [[],[],[1],[2,1],[3,2,1],[],[5],[6,5],[7,6,5],[8,7,6,5],[15,0,4,9,3,2,1,8,7,6,5],[15,10,0,4,9,3,2,1,8,7,6,5],[15,11,10,0,4,9,3,2,1,8,7,6,5],[15,11,10,0,4,9,3,2,1,8,7,6,5],[10,15,0,4,9,3,2,1,8,7,6,5],[],[10,15,0,4,9,3,2,1,8,7,6,5,14,12,11],[10,15,0,4,9,3,2,1,8,7,6,5,13,16,11,12,14]] [10,11,12,13,14,16,17]),(.leaf [[],[],[1],[2,1],[3,2,1],[],[5],[6,5],[7,6,5],[8,7,6,5],[14,15,0,4,9,3,2,1,8,7,6,5],[14,15,10,0,4,9,3,2,1,8,7,6,5],[14,15,11,10,0,4,9,3,2,1,8,7,6,5],[14,15,11,10,0,4,9,3,2,1,8,7,6,5],[15],[],[14,15,12,10,0,1,2,3,4,5,6,7,8,9,11],[14,15,13,16,0,1,2,3,4,5,6,7,8,9,10,11,12]] [14,10,11,12,13,16,17])])]) (by kernel_rfl) ?_;refine GT.IT (its:=[0,2,4,6,8,10,12,14,16,18]) (by kernel_rfl) ?_;refine RE.Qx (n:=0) [] [0,2,4,6,8,10,12,14,16,18] [⟨(.some 21),(.Qc (.t 7)),.none⟩,⟨(.some 22),(.Qc (.t 0)),.none⟩,⟨(.some 23),(.nilCheck (.t 22)),.none⟩,⟨(.some 24),(.P9 .true 4 3 (.t 23)),.none⟩,⟨(.some 25),(.load .true 3 (.t 24)),.none⟩,⟨(.some 26),(.Qc (.t 0)),.none⟩,⟨(.some 27),(.nilCheck (.t 26)),.none⟩,⟨(.some 28),(.P9 .true 0 3 (.t 27)),.none⟩,⟨(.some 29),(.P9 .false 2 1 (.t 28)),.none⟩,⟨(.some 30),(.load .false 1 (.t 29)),.none⟩] rfl rfl ?_;apply sG;simp only[go_sem,seval,a1,aY,nc,ns,a8,a9,hn];refine⟨?_,?_,?_⟩
 .refine GT.lh (its:=[20,22,24,26]) (by kernel_rfl) ?_;refine RE.aC rfl rfl rfl rfl rfl (Q7 _) ?_;refine RE.Qx (n:=0) [] [22,24,26] [⟨(.some 20),(.Qc (.t 31)),.none⟩,⟨(.some 32),(.ext 0 (.t 20)),.none⟩,⟨(.some 33),(.ext 1 (.t 20)),.none⟩] rfl rfl ?_;apply sG;simp only[go_sem,seval,a1,aY,nc,ns,a8,a9,hn];refine⟨?_,?_⟩
  .refine GT.eS (its:=[28,30,32,34]) (by kernel_rfl) ?_;refine RE.Qx (n:=0) [] [28,30,32,34] [⟨(.some 8),(.alloc 46 7 (.agg [(.int .i64 0),(.int .i64 0),(.int .i64 0),(.int .i64 0),(.int .i64 0),(.int .i64 0),(.int .i64 0)])),.none⟩,⟨(.some 9),(.alloc 37 3 (.agg [(.int .i64 0),(.int .i64 0),(.bool .false)])),.none⟩,⟨.none,(.store 7 (.t 8) (.t 32)),.none⟩,⟨.none,(.store 3 (.t 9) (.t 33)),.none⟩] rfl rfl ?_;apply sG;simp only[go_sem,seval,a1,aY,nc,ns,a8,a9,hn];refine bc λi8 Z8 s8 a8 f8=>?_;replace a1:=s8 _ _ a1
   try replace hn:=cY (al a9 f8).symm
   try replace a9:=s8 _ _ a9
   have z8:=QP.none f8;replace QP:=QP.trans s8;simp only[go_sem,seval,a1,aY,nc,ns,a8,a9,hn];refine bc λi9 Z9 s9 a9 f9=>?_;replace a1:=s9 _ _ a1
   try replace hn:=cY (al a8 f9)
   try replace a8:=s9 _ _ a8
   have z9:=QP.none f9;replace QP:=QP.trans s9;simp only[go_sem,seval,a1,aY,nc,ns,a8,a9,hn];exact fin _ _ i8 i9 ((QP.aD z8).aD z9) hn z8 z9 ((hn.2 _ _).trans af) af rfl rfl rfl rfl rfl
  .refine GT.eS (its:=[30,28,32,34]) (by kernel_rfl) ?_;refine RE.Qx (n:=0) [] [30,28,32,34] [⟨(.some 9),(.alloc 37 3 (.agg [(.int .i64 0),(.int .i64 0),(.bool .false)])),.none⟩,⟨(.some 8),(.alloc 46 7 (.agg [(.int .i64 0),(.int .i64 0),(.int .i64 0),(.int .i64 0),(.int .i64 0),(.int .i64 0),(.int .i64 0)])),.none⟩,⟨.none,(.store 7 (.t 8) (.t 32)),.none⟩,⟨.none,(.store 3 (.t 9) (.t 33)),.none⟩] rfl rfl ?_;apply sG;simp only[go_sem,seval,a1,aY,nc,ns,a8,a9,hn];refine bc λi9 Z9 s9 a9 f9=>?_;replace a1:=s9 _ _ a1
   try replace hn:=cY (al a8 f9)
   try replace a8:=s9 _ _ a8
   have z9:=QP.none f9;replace QP:=QP.trans s9;simp only[go_sem,seval,a1,aY,nc,ns,a8,a9,hn];refine bc λi8 Z8 s8 a8 f8=>?_;replace a1:=s8 _ _ a1
   try replace hn:=cY (al a9 f8).symm
   try replace a9:=s8 _ _ a9
   have z8:=QP.none f8;replace QP:=QP.trans s8;simp only[go_sem,seval,a1,aY,nc,ns,a8,a9,hn];exact fin _ _ i8 i9 ((QP.aD z8).aD z9) hn z8 z9 ((hn.2 _ _).trans af) af rfl rfl rfl rfl rfl
 .refine GT.lh (its:=[28,9,19]) (by kernel_rfl) ?_;refine RE.Qx (n:=0) [9,19] [28] [⟨(.some 8),(.alloc 46 7 (.agg [(.int .i64 0),(.int .i64 0),(.int .i64 0),(.int .i64 0),(.int .i64 0),(.int .i64 0),(.int .i64 0)])),.none⟩] rfl rfl ?_;apply sG;simp only[go_sem,seval,a1,aY,nc,ns,a8,a9,hn];refine bc λi8 Z8 s8 a8 f8=>?_;replace a1:=s8 _ _ a1
  try replace hn:=cY (al a9 f8).symm
  try replace a9:=s8 _ _ a9
  have z8:=QP.none f8;replace QP:=QP.trans s8;simp only[go_sem,seval,a1,aY,nc,ns,a8,a9,hn];refine RE.QQ rfl rfl rfl rfl rfl trivial (by simp only[go_sem,seval,a1,aY,nc,ns,a8,a9,hn]) ?_;refine RE.QQ rfl rfl rfl rfl rfl trivial (by simp only[go_sem,seval,a1,aY,nc,ns,a8,a9,hn]) ?_;refine⟨?_,?_⟩
  .refine GT.eS (its:=[20,22,24,26,30,32,34]) (by kernel_rfl) ?_;refine RE.aC rfl rfl rfl rfl rfl (Q7 _) ?_;refine RE.Qx (n:=0) [] [22,24,26,30,32,34] [⟨(.some 20),(.Qc (.t 31)),.none⟩,⟨(.some 32),(.ext 0 (.t 20)),.none⟩,⟨(.some 33),(.ext 1 (.t 20)),.none⟩,⟨(.some 9),(.alloc 37 3 (.agg [(.int .i64 0),(.int .i64 0),(.bool .false)])),.none⟩,⟨.none,(.store 7 (.t 8) (.t 32)),.none⟩,⟨.none,(.store 3 (.t 9) (.t 33)),.none⟩] rfl rfl ?_;apply sG;simp only[go_sem,seval,a1,aY,nc,ns,a8,a9,hn];refine bc λi9 Z9 s9 a9 f9=>?_;replace a1:=s9 _ _ a1
   try replace hn:=cY (al a8 f9)
   try replace a8:=s9 _ _ a8
   have z9:=QP.none f9;replace QP:=QP.trans s9;simp only[go_sem,seval,a1,aY,nc,ns,a8,a9,hn];exact fin _ _ i8 i9 ((QP.aD z8).aD z9) hn z8 z9 ((hn.2 _ _).trans af) af rfl rfl rfl rfl rfl
  .refine GT.eS (its:=[30,9,19,20,22,24,26,32,34]) (by kernel_rfl) ?_;refine RE.Qx (n:=0) [9,19,20,22,24,26,32,34] [30] [⟨(.some 9),(.alloc 37 3 (.agg [(.int .i64 0),(.int .i64 0),(.bool .false)])),.none⟩] rfl rfl ?_;apply sG;simp only[go_sem,seval,a1,aY,nc,ns,a8,a9,hn];refine bc λi9 Z9 s9 a9 f9=>?_;replace a1:=s9 _ _ a1
   try replace hn:=cY (al a8 f9)
   try replace a8:=s9 _ _ a8
   have z9:=QP.none f9;replace QP:=QP.trans s9;simp only[go_sem,seval,a1,aY,nc,ns,a8,a9,hn];refine RE.QQ rfl rfl rfl rfl rfl trivial (by simp only[go_sem,seval,a1,aY,nc,ns,a8,a9,hn]) ?_;refine RE.QQ rfl rfl rfl rfl rfl trivial (by simp only[go_sem,seval,a1,aY,nc,ns,a8,a9,hn]) ?_;refine RE.aC rfl rfl rfl rfl rfl (Q7 _) ?_;refine RE.Qx (n:=0) [] [22,24,26,32,34] [⟨(.some 20),(.Qc (.t 31)),.none⟩,⟨(.some 32),(.ext 0 (.t 20)),.none⟩,⟨(.some 33),(.ext 1 (.t 20)),.none⟩,⟨.none,(.store 7 (.t 8) (.t 32)),.none⟩,⟨.none,(.store 3 (.t 9) (.t 33)),.none⟩] rfl rfl ?_;apply sG;simp only[go_sem,seval,a1,aY,nc,ns,a8,a9,hn];exact fin _ _ i8 i9 ((QP.aD z8).aD z9) hn z8 z9 ((hn.2 _ _).trans af) af rfl rfl rfl rfl rfl
 .refine GT.lh (its:=[30,9,19]) (by kernel_rfl) ?_;refine RE.Qx (n:=0) [9,19] [30] [⟨(.some 9),(.alloc 37 3 (.agg [(.int .i64 0),(.int .i64 0),(.bool .false)])),.none⟩] rfl rfl ?_;apply sG;simp only[go_sem,seval,a1,aY,nc,ns,a8,a9,hn];refine bc λi9 Z9 s9 a9 f9=>?_;replace a1:=s9 _ _ a1
  try replace hn:=cY (al a8 f9)
  try replace a8:=s9 _ _ a8
  have z9:=QP.none f9;replace QP:=QP.trans s9;simp only[go_sem,seval,a1,aY,nc,ns,a8,a9,hn];refine RE.QQ rfl rfl rfl rfl rfl trivial (by simp only[go_sem,seval,a1,aY,nc,ns,a8,a9,hn]) ?_;refine RE.QQ rfl rfl rfl rfl rfl trivial (by simp only[go_sem,seval,a1,aY,nc,ns,a8,a9,hn]) ?_;refine⟨?_,?_⟩
  .refine GT.eS (its:=[20,22,24,26,28,32,34]) (by kernel_rfl) ?_;refine RE.aC rfl rfl rfl rfl rfl (Q7 _) ?_;refine RE.Qx (n:=0) [] [22,24,26,28,32,34] [⟨(.some 20),(.Qc (.t 31)),.none⟩,⟨(.some 32),(.ext 0 (.t 20)),.none⟩,⟨(.some 33),(.ext 1 (.t 20)),.none⟩,⟨(.some 8),(.alloc 46 7 (.agg [(.int .i64 0),(.int .i64 0),(.int .i64 0),(.int .i64 0),(.int .i64 0),(.int .i64 0),(.int .i64 0)])),.none⟩,⟨.none,(.store 7 (.t 8) (.t 32)),.none⟩,⟨.none,(.store 3 (.t 9) (.t 33)),.none⟩] rfl rfl ?_;apply sG;simp only[go_sem,seval,a1,aY,nc,ns,a8,a9,hn];refine bc λi8 Z8 s8 a8 f8=>?_;replace a1:=s8 _ _ a1
   try replace hn:=cY (al a9 f8).symm
   try replace a9:=s8 _ _ a9
   have z8:=QP.none f8;replace QP:=QP.trans s8;simp only[go_sem,seval,a1,aY,nc,ns,a8,a9,hn];exact fin _ _ i8 i9 ((QP.aD z8).aD z9) hn z8 z9 ((hn.2 _ _).trans af) af rfl rfl rfl rfl rfl
  .refine GT.eS (its:=[28,9,19,20,22,24,26,32,34]) (by kernel_rfl) ?_;refine RE.Qx (n:=0) [9,19,20,22,24,26,32,34] [28] [⟨(.some 8),(.alloc 46 7 (.agg [(.int .i64 0),(.int .i64 0),(.int .i64 0),(.int .i64 0),(.int .i64 0),(.int .i64 0),(.int .i64 0)])),.none⟩] rfl rfl ?_;apply sG;simp only[go_sem,seval,a1,aY,nc,ns,a8,a9,hn];refine bc λi8 Z8 s8 a8 f8=>?_;replace a1:=s8 _ _ a1
   try replace hn:=cY (al a9 f8).symm
   try replace a9:=s8 _ _ a9
   have z8:=QP.none f8;replace QP:=QP.trans s8;simp only[go_sem,seval,a1,aY,nc,ns,a8,a9,hn];refine RE.QQ rfl rfl rfl rfl rfl trivial (by simp only[go_sem,seval,a1,aY,nc,ns,a8,a9,hn]) ?_;refine RE.QQ rfl rfl rfl rfl rfl trivial (by simp only[go_sem,seval,a1,aY,nc,ns,a8,a9,hn]) ?_;refine RE.aC rfl rfl rfl rfl rfl (Q7 _) ?_;refine RE.Qx (n:=0) [] [22,24,26,32,34] [⟨(.some 20),(.Qc (.t 31)),.none⟩,⟨(.some 32),(.ext 0 (.t 20)),.none⟩,⟨(.some 33),(.ext 1 (.t 20)),.none⟩,⟨.none,(.store 7 (.t 8) (.t 32)),.none⟩,⟨.none,(.store 3 (.t 9) (.t 33)),.none⟩] rfl rfl ?_;apply sG;simp only[go_sem,seval,a1,aY,nc,ns,a8,a9,hn];exact fin _ _ i8 i9 ((QP.aD z8).aD z9) hn z8 z9 ((hn.2 _ _).trans af) af rfl rfl rfl rfl rfl
end Go.Vc
