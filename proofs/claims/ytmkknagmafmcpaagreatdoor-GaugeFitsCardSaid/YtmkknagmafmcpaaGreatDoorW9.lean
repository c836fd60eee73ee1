/- Part 9 of the library of this proof. -/
import Derived.Test.YtmkknagmafmcpaaGreatDoorW8
set_option linter.all false
set_option maxHeartbeats 8000000
set_option maxRecDepth 100000
open Go.Proofs.Tryz
namespace Go.Vc
open Go.Proofs
def zj(l:List Nd)(of:List Int):List Int:=(List.range (of.length+1)).map (pW l of)
def Kj(l:List Nd)(hl:eY l)(hb:Qs l=true)(of:List Int)(R4:of.length<=1000000)(Ra:∀x∈of,0<=x/\x<l.length)(hm:pN l of=true):
 aP prog 68 [aM l,encI of] (.PI [encI (zj l of),vI 0]):=λU=>by
 refine e68.r (by simp[c68]) ?_;have hs:=aa.refl U;have Tm:=eO of;refine ad.mix 11 ?_;apply sR;simp only[go_sem,seval,c68];refine ad.ay rfl rfl rfl (pk l hl hb of R4 hm _) ?_;have q0:((0:Int)≠0)=False:=PG (λh=>h rfl);have r0:PM .i64 ((of.length:Int)+1):=ak;apply sR;simp only[go_sem,seval,q0,Tm,r0];refine ad.eh (λst=>aa U st.U/\aN U st.U 3 1 (st.s 7) ((zj l of).map vI))
  (λm st=>∃j:Nat,j<=of.length+1/\m=of.length+1-j/\aa U st.U/\aN U st.U 3 1 (st.s 7) (((List.range j).map (pW l of)).map vI)/\st.s 0=aM l/\st.s 1=encI of/\st.s 19=vI ((of.length:Int)+1)/\st.s 20=vI j) (of.length+1) ?_ ?_ ?_
 .exact⟨0,by omega,rfl,hs,aN.start,rfl,rfl,rfl,rfl⟩
 .clear hs;rintro m ⟨S,J⟩ ⟨j,hj,rfl,hs,ho,t0,t1,t19,t20⟩;simp only at hs ho t0 t1 t19 t20;generalize Zp:S 7=v7 at ho;refine ad.mix 11 ?_;by_cases C':j<of.length+1
  .have q:((j:Int)<of.length+1)=True:=PK;have r1:PM .i64 ((j:Int)+1):=ak;have Qj:(((List.range (j+1)).map (pW l of)).map vI)=(((List.range j).map (pW l of)).map vI)++[vI (pW l of j)]:=by
    rw[List.range_succ];simp
   have UN:(((List.range j).map (pW l of)).map vI).length=j:=by simp
   apply sR;simp only[go_sem,seval,t0,t1,t19,t20,q];refine ad.ay rfl rfl rfl (Ng l hl hb of R4 Ra hm j (by omega) _) ?_;generalize ((List.range j).map (pW l of)).map vI=rows at*;apply sR;simp only[go_sem,seval,t0,t1,t19,t20,Zp];refine ae λi32 Z32 s32 a32 f32=>?_;obtain⟨PU,QV,Qx,VC,We⟩:=ho.BC s32;have Qp:(rows.length+1)*9<=140737488355328:=by omega
   simp only[go_sem,seval,t0,t1,t19,t20,Zp,QV,cW a32,Qp];refine dI λi33 Z33 VL XA f33=>?_;have k33:=(Qx U (aa.refl _) Z32 (hs.trans s32)).trans VL;have n33:U i33=none:=(hs.trans s32).none f33;simp only[go_sem,seval,t0,t1,t19,t20,r1];refine⟨_,?_,j+1,by omega,rfl,k33,?_,by simp[t0,t1,t19]⟩
   .omega
   .rw[Qj];exact aN.new (by simp) XA n33
  .have q:((j:Int)<of.length+1)=False:=PG;have Rw:j=of.length+1:=by omega
   subst Rw;apply sR;simp only[go_sem,seval,t0,t1,t19,t20,q];exact⟨hs,Zp▸ho⟩
 .rintro⟨S,J⟩ ⟨hs,ho⟩;simp only at hs ho;generalize Zp:S 7=v7 at ho;refine ad.mix 11 ?_;apply sR;simp only[go_sem,seval,Zp];exact⟨_,U,hs,Wk.PI (vs':=[encI (zj l of),vI 0]) ⟨ho.wk (aa.refl _) hs,Wk.refl hs _,trivial⟩,rfl,rfl⟩
open Go.Proofs
structure Sb where
 (cls forced QI:Int)
deriving DecidableEq
def ga(x:Sb):V:=.agg [vI x.cls,vI x.forced,vI x.QI]
def bR(l:List Sb):V:=.sl 3 (l.map ga)
def gN(l:List Sb):(bR l).cells=[bR l]:=rfl
def gJ(l:List Sb):(bR l).stays=true:=rfl
def BP(l:List Sb):dY false (bR l)=some (.int .i64 l.length):=by simp[bR,dY]
def xV{U:ag}{l:List Sb}{i:Nat}(h:i<l.length):bL U 3 (bR l) (.int .i64 i)=some (.rp (ga l[i])):=by simp[bR,bL,h,ga]
def pP(of:List Int)(k:Nat):Int:=if k=0 then 0 else if k=of.length then 3 else if of.getD k 0=of.getD (k-1) 0 then 2 else 1
def I9(of:List Int)(R4:of.length<=1000000)(k:Nat)(hk:k<=of.length):aP prog 69 [encI of,vI k] (vI (pP of k)):=λU=>by
 refine e69.r (by simp[c69]) ?_;have Tm:=eO of;refine ad.mix 6 ?_;unfold pP;rcases Nat.eq_zero_or_pos k with rfl|h0
 .have q1:(((0:Nat):Int)=0)=True:=PK rfl;apply sR;simp only[go_sem,seval,c69,q1];exact au.same rfl
 have q1:((k:Int)=0)=False:=PG;rw[aF (by omega)];by_cases Sc:k=of.length
 .have q2:((k:Int)=of.length)=True:=PK;rw[aE Sc];apply sR;simp only[go_sem,seval,c69,q1,q2,Tm];exact au.same rfl
 have q2:((k:Int)=of.length)=False:=PG;rw[aF Sc];have h1:k<of.length:=by omega
 have q5:=ak (m:=((k-1:Nat):Int)) (by omega) (by omega);have q6:((k:Int)-1)=((k-1:Nat):Int):=by omega
 have q7:=λU=>gG (U:=U) h1;have q8:=λU=>gG (U:=U) (l:=of) (i:=k-1) (by omega);have g1:of.getD k 0=of[k]:=by simp[h1]
 have g2:of.getD (k-1) 0=of[k-1]:=by
  have:k-1<of.length:=by omega
  simp[this]
 rw[g1,g2];by_cases h2:of[k]=of[k-1]
 .have q9:(of[k]=of[k-1])=True:=PK h2;rw[aE h2];apply sR;simp only[go_sem,seval,c69,q1,q2,Tm,q5,q6,q7,q8,q9];exact au.same rfl
 .have q9:(of[k]=of[k-1])=False:=PG h2;rw[aF h2];apply sR;simp only[go_sem,seval,c69,q1,q2,Tm,q5,q6,q7,q8,q9];exact au.same rfl
open Go.Proofs
def XB(l:List Nd)(of:List Int)(k:Nat):Sb:=⟨pP of k,jf l of k,if jf l of k=0 then pW l of k else 0⟩
def rQ(l:List Nd)(of:List Int):List Sb:=(List.range (of.length+1)).map (XB l of)
def JB{U:ag}{f:Nat->Int}{n j:Nat}(h:j<n):bL U 1 (encI ((List.range n).map f)) (.int .i64 j)=some (.rp (vI (f j))):=by
 rw[gG (by simpa using h)];simp
def LZ(l:List Nd)(hl:eY l)(hb:Qs l=true)(of:List Int)(R4:of.length<=1000000)(Ra:∀x∈of,0<=x/\x<l.length)(hm:pN l of=true):
 aP prog 34 [aM l,encI of] (.PI [bR (rQ l of),vI 0]):=λU=>by
 refine e34.r (by simp[c34]) ?_;have hs:=aa.refl U;have Tm:=eO of;refine ad.mix 14 ?_;apply sR;simp only[go_sem,seval,c34];refine ad.ay rfl rfl rfl (pk l hl hb of R4 hm _) ?_;have q0:((0:Int)≠0)=False:=PG (λh=>h rfl);have r0:PM .i64 ((of.length:Int)+1):=ak;apply sR;simp only[go_sem,seval,q0,Tm,r0];refine ad.ay rfl rfl rfl (Kk l hl hb of R4 Ra hm _) ?_;apply sR;simp only[go_sem,seval];refine ad.ay rfl rfl rfl (Kj l hl hb of R4 Ra hm _) ?_;apply sR;simp only[go_sem,seval,Tm,r0];refine ad.eh (λst=>aa U st.U/\aN U st.U 165 3 (st.s 11) ((rQ l of).map ga))
  (λm st=>∃j:Nat,j<=of.length+1/\m=of.length+1-j/\aa U st.U/\aN U st.U 165 3 (st.s 11) (((List.range j).map (XB l of)).map ga)/\st.s 0=aM l/\st.s 1=encI of/\st.s 7=encI (A0 l of)/\st.s 9=encI (zj l of)/\st.s 34=vI ((of.length:Int)+1)/\st.s 35=vI j) (of.length+1) ?_ ?_ ?_
 .exact⟨0,by omega,rfl,hs,aN.start,rfl,rfl,rfl,rfl,rfl,rfl⟩
 .clear hs;rintro m ⟨S,J⟩ ⟨j,hj,rfl,hs,ho,t0,t1,t7,t9,t34,t35⟩;simp only at hs ho t0 t1 t7 t9 t34 t35;generalize Vv:S 11=v11 at ho;refine ad.mix 14 ?_;by_cases C':j<of.length+1
  .have q:((j:Int)<of.length+1)=True:=PK;have r1:PM .i64 ((j:Int)+1):=ak;have Qj:(((List.range (j+1)).map (XB l of)).map ga)=(((List.range j).map (XB l of)).map ga)++[ga (XB l of j)]:=by
    rw[List.range_succ];simp
   have UN:(((List.range j).map (XB l of)).map ga).length=j:=by simp
   have hi7:∀U,bL U 1 (encI (A0 l of)) (.int .i64 j)=some (.rp (vI (jf l of j))):=λU=>JB C';have hi9:∀U,bL U 1 (encI (zj l of)) (.int .i64 j)=some (.rp (vI (pW l of j))):=λU=>JB C';apply sR;simp only[go_sem,seval,t0,t1,t7,t9,Vv,t34,t35,q];refine Go.cN rfl rfl rfl (I9 of R4 j (by omega)) ?_;apply sG;simp only[go_sem,seval,t0,t1,t7,t9,Vv,t34,t35,hi7];refine bj λi13 Y13 s13 RW f13=>?_;by_cases hz:jf l of j=0
   .have q2:(jf l of j=0)=True:=PK hz;have Ul:ga (XB l of j)=.agg [vI (pP of j),vI (jf l of j),vI (pW l of j)]:=by rw[XB,aE hz];rfl
    simp only[go_sem,seval,RW,t0,t1,t7,t9,Vv,t34,t35,hi7,hi9,q2];generalize Zq:u' _ i13 _=Z13;have W9:aa J Z13:=by rw[<-Zq];exact s13.az f13
    clear Zq;refine ae λi58 Z58 s58 a58 f58=>?_;obtain⟨PU,QV,Qx,VC,We⟩:=ho.BC (W9.trans s58);generalize ((List.range j).map (XB l of)).map ga=rows at*;have Qp:(rows.length+1)*25<=140737488355328:=by omega
    simp only[go_sem,seval,t0,t1,t7,t9,Vv,t34,t35,QV,cW a58,Qp];refine dI λi59 Z59 s59 a59 f59=>?_;have k59:=(Qx U (aa.refl _) Z58 (hs.trans (W9.trans s58))).trans s59;have n59:U i59=none:=(hs.trans (W9.trans s58)).none f59;simp only[go_sem,seval,t0,t1,t7,t9,t34,t35,r1];refine⟨_,?_,j+1,by omega,rfl,k59,?_,by simp[t0,t1,t7,t9,t34]⟩
    .omega
    .rw[Qj,Ul];exact aN.new (by simp) a59 n59
   .have q2:(jf l of j=0)=False:=PG hz;have Ul:ga (XB l of j)=.agg [vI (pP of j),vI (jf l of j),vI 0]:=by rw[XB,aF hz];rfl
    simp only[go_sem,seval,RW,t0,t1,t7,t9,Vv,t34,t35,hi7,hi9,q2];generalize Zq:u' _ i13 _=Z13;have W9:aa J Z13:=by rw[<-Zq];exact s13.az f13
    clear Zq;refine ae λi58 Z58 s58 a58 f58=>?_;obtain⟨PU,QV,Qx,VC,We⟩:=ho.BC (W9.trans s58);generalize ((List.range j).map (XB l of)).map ga=rows at*;have Qp:(rows.length+1)*25<=140737488355328:=by omega
    simp only[go_sem,seval,t0,t1,t7,t9,Vv,t34,t35,QV,cW a58,Qp];refine dI λi59 Z59 s59 a59 f59=>?_;have k59:=(Qx U (aa.refl _) Z58 (hs.trans (W9.trans s58))).trans s59;have n59:U i59=none:=(hs.trans (W9.trans s58)).none f59;simp only[go_sem,seval,t0,t1,t7,t9,t34,t35,r1];refine⟨_,?_,j+1,by omega,rfl,k59,?_,by simp[t0,t1,t7,t9,t34]⟩
    .omega
    .rw[Qj,Ul];exact aN.new (by simp) a59 n59
  .have q:((j:Int)<of.length+1)=False:=PG;have Rw:j=of.length+1:=by omega
   subst Rw;apply sR;simp only[go_sem,seval,t0,t1,t7,t9,t34,t35,q];exact⟨hs,Vv▸ho⟩
 .rintro⟨S,J⟩ ⟨hs,ho⟩;simp only at hs ho;generalize Vv:S 11=v11 at ho;refine ad.mix 14 ?_;apply sR;simp only[go_sem,seval,Vv];exact⟨_,U,hs,Wk.PI (vs':=[bR (rQ l of),vI 0]) ⟨ho.wk (aa.refl _) hs,Wk.refl hs _,trivial⟩,rfl,rfl⟩
open Go.Proofs
def oJ(x:Sb)(first last:Bool):Prop:=
 (first=true->x.cls=0)/\(first=false->last=true->x.cls=3)/\(first=false->last=false->x.cls=1\/x.cls=2)/\
 (x.forced=0\/(2<=x.forced/\x.forced<=4/\x.cls≠3/\x.cls≠2))/\(x.QI=0\/((x.cls=1\/x.cls=2)/\x.forced=0/\0<x.QI/\x.QI<8))
instance (x:Sb) (a b:Bool):Decidable (oJ x a b):=by unfold oJ;infer_instance
def IK(x:Sb)(first last:Bool):aP prog 215 [ga x,.bool first,.bool last] (.bool (decide (oJ x first last))):=λU=>by
 refine Oo.r (by simp[Lf]) ?_;have hs:=aa.refl U;obtain⟨c,f,r⟩:=x;refine ad.mix 9 ?_;apply sR;simp only[go_sem,seval,Lf,ga];refine ae λi3 Z3 s3 a3 f3=>?_;have z3:=hs.none f3;replace hs:=hs.trans s3;unfold oJ;simp only;have C:c=0\/c=1\/c=2\/c=3\/((c=0)=False/\(c=1)=False/\(c=2)=False/\(c=3)=False/\(c≠0)=True/\(c≠3)=True):=by
  by_cases h0:c=0
  .exact .inl h0
  by_cases h1:c=1
  .exact .inr (.inl h1)
  by_cases h2:c=2
  .exact .inr (.inr (.inl h2))
  by_cases h3:c=3
  .exact .inr (.inr (.inr (.inl h3)))
  .exact .inr (.inr (.inr (.inr ⟨PG h0,PG h1,PG h2,PG h3,PK h0,PK h3⟩)))
 have F:f=0\/((f=0)=False/\((f<2)=True/\(2<=f/\f<=4)=False\/(f<2)=False/\((f>4)=True/\(2<=f/\f<=4)=False\/(f>4)=False/\(2<=f)=True/\(f<=4)=True))):=by
  by_cases h0:f=0
  .exact .inl h0
  refine .inr ⟨PG h0,?_⟩;by_cases h1:f<2
  .exact .inl ⟨PK h1,PG⟩
  refine .inr ⟨PG h1,?_⟩;by_cases h2:f>4
  .exact .inl ⟨PK h2,PG⟩
  .exact .inr ⟨PG h2,PK,PK⟩
 have R:r=0\/((r=0)=False/\((r>0)=False/\(0<r)=False\/(r>0)=True/\(0<r)=True/\((r<8)=True\/(r<8)=False))):=by
  by_cases h0:r=0
  .exact .inl h0
  refine .inr ⟨PG h0,?_⟩;by_cases h1:r>0
  .refine .inr ⟨PK h1,PK h1,?_⟩;by_cases h2:r<8
   .exact .inl (PK h2)
   .exact .inr (PG h2)
  .exact .inl ⟨PG h1,PG⟩
 rcases C with rfl|rfl|rfl|rfl|⟨c0,c1,c2,c3,c4,c5⟩
 .rcases F with rfl|⟨f0,⟨f1,f2⟩|⟨f1,⟨f2,f3⟩|⟨f2,f3,f4⟩⟩⟩
  .cases first
   .cases last
    .simp only[go_sem,seval,a3];exact au.pure hs (by simp)
    .simp only[go_sem,seval,a3];exact au.pure hs (by simp)
   .cases last
    .rcases R with rfl|⟨r0,⟨r1,r2⟩|⟨r1,r2,r3|r3⟩⟩
     .simp only[go_sem,seval,a3];exact au.pure hs (by simp)
     .simp only[go_sem,seval,a3,r0,r1];exact au.pure hs (by simp[r0,r2])
     .simp only[go_sem,seval,a3,r0,r1,r3];exact au.pure hs (by simp[r0,r2,r3])
     .simp only[go_sem,seval,a3,r0,r1,r3];exact au.pure hs (by simp[r0,r2,r3])
    .rcases R with rfl|⟨r0,⟨r1,r2⟩|⟨r1,r2,r3|r3⟩⟩
     .simp only[go_sem,seval,a3];exact au.pure hs (by simp)
     .simp only[go_sem,seval,a3,r0,r1];exact au.pure hs (by simp[r0,r2])
     .simp only[go_sem,seval,a3,r0,r1,r3];exact au.pure hs (by simp[r0,r2,r3])
     .simp only[go_sem,seval,a3,r0,r1,r3];exact au.pure hs (by simp[r0,r2,r3])
  .cases first
   .cases last
    .simp only[go_sem,seval,a3,f0,f1];exact au.pure hs (by simp[f0,f2])
    .simp only[go_sem,seval,a3,f0,f1];exact au.pure hs (by simp[f0,f2])
   .cases last
    .simp only[go_sem,seval,a3,f0,f1];exact au.pure hs (by simp[f0,f2])
    .simp only[go_sem,seval,a3,f0,f1];exact au.pure hs (by simp[f0,f2])
  .cases first
   .cases last
    .simp only[go_sem,seval,a3,f0,f1,f2];exact au.pure hs (by simp[f0,f3])
    .simp only[go_sem,seval,a3,f0,f1,f2];exact au.pure hs (by simp[f0,f3])
   .cases last
    .simp only[go_sem,seval,a3,f0,f1,f2];exact au.pure hs (by simp[f0,f3])
    .simp only[go_sem,seval,a3,f0,f1,f2];exact au.pure hs (by simp[f0,f3])
  .cases first
   .cases last
    .simp only[go_sem,seval,a3,f0,f1,f2];exact au.pure hs (by simp[f0,f3,f4])
    .simp only[go_sem,seval,a3,f0,f1,f2];exact au.pure hs (by simp[f0,f3,f4])
   .cases last
    .rcases R with rfl|⟨r0,⟨r1,r2⟩|⟨r1,r2,r3|r3⟩⟩
     .simp only[go_sem,seval,a3,f0,f1,f2];exact au.pure hs (by simp[f0,f3,f4])
     .simp only[go_sem,seval,a3,f0,f1,f2,r0,r1];exact au.pure hs (by simp[f0,f3,f4,r0,r2])
     .simp only[go_sem,seval,a3,f0,f1,f2,r0,r1,r3];exact au.pure hs (by simp[f0,f3,f4,r0,r2,r3])
     .simp only[go_sem,seval,a3,f0,f1,f2,r0,r1,r3];exact au.pure hs (by simp[f0,f3,f4,r0,r2,r3])
    .rcases R with rfl|⟨r0,⟨r1,r2⟩|⟨r1,r2,r3|r3⟩⟩
     .simp only[go_sem,seval,a3,f0,f1,f2];exact au.pure hs (by simp[f0,f3,f4])
     .simp only[go_sem,seval,a3,f0,f1,f2,r0,r1];exact au.pure hs (by simp[f0,f3,f4,r0,r2])
     .simp only[go_sem,seval,a3,f0,f1,f2,r0,r1,r3];exact au.pure hs (by simp[f0,f3,f4,r0,r2,r3])
     .simp only[go_sem,seval,a3,f0,f1,f2,r0,r1,r3];exact au.pure hs (by simp[f0,f3,f4,r0,r2,r3])
 .rcases F with rfl|⟨f0,⟨f1,f2⟩|⟨f1,⟨f2,f3⟩|⟨f2,f3,f4⟩⟩⟩
  .cases first
   .cases last
    .rcases R with rfl|⟨r0,⟨r1,r2⟩|⟨r1,r2,r3|r3⟩⟩
     .simp only[go_sem,seval,a3];exact au.pure hs (by simp)
     .simp only[go_sem,seval,a3,r0,r1];exact au.pure hs (by simp[r0,r2])
     .simp only[go_sem,seval,a3,r0,r1,r3];exact au.pure hs (by simp[r0,r2,r3])
     .simp only[go_sem,seval,a3,r0,r1,r3];exact au.pure hs (by simp[r0,r2,r3])
    .simp only[go_sem,seval,a3];exact au.pure hs (by simp)
   .cases last
    .simp only[go_sem,seval,a3];exact au.pure hs (by simp)
    .simp only[go_sem,seval,a3];exact au.pure hs (by simp)
  .cases first
   .cases last
    .simp only[go_sem,seval,a3,f0,f1];exact au.pure hs (by simp[f0,f2])
    .simp only[go_sem,seval,a3,f0,f1];exact au.pure hs (by simp[f0,f2])
   .cases last
    .simp only[go_sem,seval,a3,f0,f1];exact au.pure hs (by simp[f0,f2])
    .simp only[go_sem,seval,a3,f0,f1];exact au.pure hs (by simp[f0,f2])
  .cases first
   .cases last
    .simp only[go_sem,seval,a3,f0,f1,f2];exact au.pure hs (by simp[f0,f3])
    .simp only[go_sem,seval,a3,f0,f1,f2];exact au.pure hs (by simp[f0,f3])
   .cases last
    .simp only[go_sem,seval,a3,f0,f1,f2];exact au.pure hs (by simp[f0,f3])
    .simp only[go_sem,seval,a3,f0,f1,f2];exact au.pure hs (by simp[f0,f3])
  .cases first
   .cases last
    .rcases R with rfl|⟨r0,⟨r1,r2⟩|⟨r1,r2,r3|r3⟩⟩
     .simp only[go_sem,seval,a3,f0,f1,f2];exact au.pure hs (by simp[f0,f3,f4])
     .simp only[go_sem,seval,a3,f0,f1,f2,r0,r1];exact au.pure hs (by simp[f0,f3,f4,r0,r2])
     .simp only[go_sem,seval,a3,f0,f1,f2,r0,r1,r3];exact au.pure hs (by simp[f0,f3,f4,r0,r2,r3])
     .simp only[go_sem,seval,a3,f0,f1,f2,r0,r1,r3];exact au.pure hs (by simp[f0,f3,f4,r0,r2,r3])
    .simp only[go_sem,seval,a3,f0,f1,f2];exact au.pure hs (by simp[f0,f3,f4])
   .cases last
    .simp only[go_sem,seval,a3,f0,f1,f2];exact au.pure hs (by simp[f0,f3,f4])
    .simp only[go_sem,seval,a3,f0,f1,f2];exact au.pure hs (by simp[f0,f3,f4])
 .rcases F with rfl|⟨f0,⟨f1,f2⟩|⟨f1,⟨f2,f3⟩|⟨f2,f3,f4⟩⟩⟩
  .cases first
   .cases last
    .rcases R with rfl|⟨r0,⟨r1,r2⟩|⟨r1,r2,r3|r3⟩⟩
     .simp only[go_sem,seval,a3];exact au.pure hs (by simp)
     .simp only[go_sem,seval,a3,r0,r1];exact au.pure hs (by simp[r0,r2])
     .simp only[go_sem,seval,a3,r0,r1,r3];exact au.pure hs (by simp[r0,r2,r3])
     .simp only[go_sem,seval,a3,r0,r1,r3];exact au.pure hs (by simp[r0,r2,r3])
    .simp only[go_sem,seval,a3];exact au.pure hs (by simp)
   .cases last
    .simp only[go_sem,seval,a3];exact au.pure hs (by simp)
    .simp only[go_sem,seval,a3];exact au.pure hs (by simp)
  .cases first
   .cases last
    .simp only[go_sem,seval,a3,f0,f1];exact au.pure hs (by simp[f0,f2])
    .simp only[go_sem,seval,a3,f0,f1];exact au.pure hs (by simp[f0,f2])
   .cases last
    .simp only[go_sem,seval,a3,f0,f1];exact au.pure hs (by simp[f0,f2])
    .simp only[go_sem,seval,a3,f0,f1];exact au.pure hs (by simp[f0,f2])
  .cases first
   .cases last
    .simp only[go_sem,seval,a3,f0,f1,f2];exact au.pure hs (by simp[f0,f3])
    .simp only[go_sem,seval,a3,f0,f1,f2];exact au.pure hs (by simp[f0,f3])
   .cases last
    .simp only[go_sem,seval,a3,f0,f1,f2];exact au.pure hs (by simp[f0,f3])
    .simp only[go_sem,seval,a3,f0,f1,f2];exact au.pure hs (by simp[f0,f3])
  .cases first
   .cases last
    .simp only[go_sem,seval,a3,f0,f1,f2];exact au.pure hs (by simp[f0,f3,f4])
    .simp only[go_sem,seval,a3,f0,f1,f2];exact au.pure hs (by simp[f0,f3,f4])
   .cases last
    .simp only[go_sem,seval,a3,f0,f1,f2];exact au.pure hs (by simp[f0,f3,f4])
    .simp only[go_sem,seval,a3,f0,f1,f2];exact au.pure hs (by simp[f0,f3,f4])
 .rcases F with rfl|⟨f0,⟨f1,f2⟩|⟨f1,⟨f2,f3⟩|⟨f2,f3,f4⟩⟩⟩
  .cases first
   .cases last
    .simp only[go_sem,seval,a3];exact au.pure hs (by simp)
    .rcases R with rfl|⟨r0,⟨r1,r2⟩|⟨r1,r2,r3|r3⟩⟩
     .simp only[go_sem,seval,a3];exact au.pure hs (by simp)
     .simp only[go_sem,seval,a3,r0,r1];exact au.pure hs (by simp[r0,r2])
     .simp only[go_sem,seval,a3,r0,r1,r3];exact au.pure hs (by simp[r0,r2,r3])
     .simp only[go_sem,seval,a3,r0,r1,r3];exact au.pure hs (by simp[r0,r2,r3])
   .cases last
    .simp only[go_sem,seval,a3];exact au.pure hs (by simp)
    .simp only[go_sem,seval,a3];exact au.pure hs (by simp)
  .cases first
   .cases last
    .simp only[go_sem,seval,a3,f0,f1];exact au.pure hs (by simp[f0,f2])
    .simp only[go_sem,seval,a3,f0,f1];exact au.pure hs (by simp[f0,f2])
   .cases last
    .simp only[go_sem,seval,a3,f0,f1];exact au.pure hs (by simp[f0,f2])
    .simp only[go_sem,seval,a3,f0,f1];exact au.pure hs (by simp[f0,f2])
  .cases first
   .cases last
    .simp only[go_sem,seval,a3,f0,f1,f2];exact au.pure hs (by simp[f0,f3])
    .simp only[go_sem,seval,a3,f0,f1,f2];exact au.pure hs (by simp[f0,f3])
   .cases last
    .simp only[go_sem,seval,a3,f0,f1,f2];exact au.pure hs (by simp[f0,f3])
    .simp only[go_sem,seval,a3,f0,f1,f2];exact au.pure hs (by simp[f0,f3])
  .cases first
   .cases last
    .simp only[go_sem,seval,a3,f0,f1,f2];exact au.pure hs (by simp[f0,f3,f4])
    .simp only[go_sem,seval,a3,f0,f1,f2];exact au.pure hs (by simp[f0,f3,f4])
   .cases last
    .simp only[go_sem,seval,a3,f0,f1,f2];exact au.pure hs (by simp[f0,f3,f4])
    .simp only[go_sem,seval,a3,f0,f1,f2];exact au.pure hs (by simp[f0,f3,f4])
 .rcases F with rfl|⟨f0,⟨f1,f2⟩|⟨f1,⟨f2,f3⟩|⟨f2,f3,f4⟩⟩⟩
  .cases first
   .cases last
    .simp only[go_sem,seval,a3,c0,c1,c2,c3,c4,c5];exact au.pure hs (by simp[c0,c1,c2,c3,c4,c5])
    .simp only[go_sem,seval,a3,c0,c1,c2,c3,c4,c5];exact au.pure hs (by simp[c0,c1,c2,c3,c4,c5])
   .cases last
    .simp only[go_sem,seval,a3,c0,c1,c2,c3,c4,c5];exact au.pure hs (by simp[c0,c1,c2,c3,c4,c5])
    .simp only[go_sem,seval,a3,c0,c1,c2,c3,c4,c5];exact au.pure hs (by simp[c0,c1,c2,c3,c4,c5])
  .cases first
   .cases last
    .simp only[go_sem,seval,a3,c0,c1,c2,c3,c4,c5,f0,f1];exact au.pure hs (by simp[c0,c1,c2,c3,c4,c5,f0,f2])
    .simp only[go_sem,seval,a3,c0,c1,c2,c3,c4,c5,f0,f1];exact au.pure hs (by simp[c0,c1,c2,c3,c4,c5,f0,f2])
   .cases last
    .simp only[go_sem,seval,a3,c0,c1,c2,c3,c4,c5,f0,f1];exact au.pure hs (by simp[c0,c1,c2,c3,c4,c5,f0,f2])
    .simp only[go_sem,seval,a3,c0,c1,c2,c3,c4,c5,f0,f1];exact au.pure hs (by simp[c0,c1,c2,c3,c4,c5,f0,f2])
  .cases first
   .cases last
    .simp only[go_sem,seval,a3,c0,c1,c2,c3,c4,c5,f0,f1,f2];exact au.pure hs (by simp[c0,c1,c2,c3,c4,c5,f0,f3])
    .simp only[go_sem,seval,a3,c0,c1,c2,c3,c4,c5,f0,f1,f2];exact au.pure hs (by simp[c0,c1,c2,c3,c4,c5,f0,f3])
   .cases last
    .simp only[go_sem,seval,a3,c0,c1,c2,c3,c4,c5,f0,f1,f2];exact au.pure hs (by simp[c0,c1,c2,c3,c4,c5,f0,f3])
    .simp only[go_sem,seval,a3,c0,c1,c2,c3,c4,c5,f0,f1,f2];exact au.pure hs (by simp[c0,c1,c2,c3,c4,c5,f0,f3])
  .cases first
   .cases last
    .simp only[go_sem,seval,a3,c0,c1,c2,c3,c4,c5,f0,f1,f2];exact au.pure hs (by simp[c0,c1,c2,c3,c4,c5,f0,f3,f4])
    .simp only[go_sem,seval,a3,c0,c1,c2,c3,c4,c5,f0,f1,f2];exact au.pure hs (by simp[c0,c1,c2,c3,c4,c5,f0,f3,f4])
   .cases last
    .simp only[go_sem,seval,a3,c0,c1,c2,c3,c4,c5,f0,f1,f2];exact au.pure hs (by simp[c0,c1,c2,c3,c4,c5,f0,f3,f4])
    .simp only[go_sem,seval,a3,c0,c1,c2,c3,c4,c5,f0,f1,f2];exact au.pure hs (by simp[c0,c1,c2,c3,c4,c5,f0,f3,f4])
open Go.Proofs
def Tj(b:List Sb)(i:Nat):Sb:=b.getD i ⟨0,0,0⟩
def gL(b:List Sb)(i:Nat):Bool:=decide (oJ (Tj b i) (decide ((i:Int)=0)) (decide ((i:Int)=(b.length:Int)-1)))
def vd(b:List Sb):Bool:=(List.range b.length).all (gL b)&&decide ((b.length:Int)>0)
def Ee{b:List Sb}{j:Nat}(h:(List.range j).all (gL b)=true)(hr:gL b j=true):(List.range (j+1)).all (gL b)=true:=by
 rw[List.range_succ,List.all_append,h];simp[hr]
def LB(b:List Sb)(hb:b.length<=1000000):aP prog 170 [bR b] (.bool (vd b)):=λU=>by
 refine NI.r (by simp[KP]) ?_;have W6:=BP b;refine ad.mix 5 ?_;apply sR;simp only[go_sem,seval,KP,W6];refine ad.eh (λst=>aa U st.U/\st.s 0=bR b/\(List.range b.length).all (gL b)=true)
  (λm st=>∃j:Nat,j<=b.length/\m=b.length-j/\aa U st.U/\(List.range j).all (gL b)=true/\st.s 0=bR b/\st.s 5=bR b/\st.s 6=vI b.length/\st.s 7=vI j) b.length ?_ ?_ ?_
 .exact⟨0,by omega,rfl,aa.refl _,rfl,rfl,rfl,rfl,rfl⟩
 .rintro m ⟨S,J⟩ ⟨j,hj,rfl,hs,Qa,t0,t5,t6,t7⟩;simp only at hs t0 t5 t6 t7;refine ad.mix 5 ?_;by_cases C':j<b.length
  .have q:((j:Int)<b.length)=True:=PK;have r1:PM .i64 ((j:Int)+1):=ak;have r2:PM .i64 ((b.length:Int)-1):=ak;have E':=λU=>xV (U:=U) C';have hg:Tj b j=b[j]:=by simp[Tj,C']
   have hra:gL b j=decide (oJ b[j] (decide ((j:Int)=0)) (decide ((j:Int)=(b.length:Int)-1))):=by rw[gL,hg]
   apply sR;simp only[go_sem,seval,t0,t5,t6,t7,q,E',ga];refine ae λi4 Z4 s4 a4 f4=>?_;simp only[go_sem,seval,a4,t0,t5,t6,t7,W6,r2];generalize Tt:u' Z4 i4 _=Y4;have Xz:aa J Y4:=by rw[<-Tt];exact s4.az f4
   clear Tt;refine ad.ay rfl rfl rfl (IK b[j] (decide ((j:Int)=0)) (decide ((j:Int)=(b.length:Int)-1)) _) ?_;rw[<-hra];cases hv:gL b j
   .apply sR;simp only[go_sem,seval,t0,t5,t6,t7];have hm:vd b=false:=by
     rw[vd];have:(List.range b.length).all (gL b)=false:=by
      rw[List.all_eq_false];exact⟨j,List.mem_range.2 C',by simp[hv]⟩
     rw[this];rfl
    exact au.pure (hs.trans Xz) (by rw[hm])
   .apply sR;simp only[go_sem,seval,t0,t5,t6,t7,r1];refine⟨_,?_,j+1,by omega,rfl,hs.trans Xz,Ee Qa hv,by simp[t0,t5,t6]⟩;omega
  .have q:((j:Int)<b.length)=False:=PG;have Rw:j=b.length:=by omega
   subst Rw;apply sR;simp only[go_sem,seval,t0,t5,t6,t7,q];exact⟨hs,Qa⟩
 .rintro⟨S,J⟩ ⟨hs,t0,Qa⟩;simp only at hs t0 Qa;refine ad.mix 5 ?_;apply sR;simp only[go_sem,seval,t0,W6];exact au.pure hs (by rw[vd,Qa];rfl)
open Go.Proofs
def jd(b:List Sb)(i:Nat):V:=.agg [vI (Tj b i).cls,vI (Tj b i).forced,vI (Tj b i).QI,vI i]
def vg(b:List Sb)(bQ to:Int):Nat:=(min to ((b.length:Int)-1)+1-max bQ 0).toNat
def Wo(b:List Sb)(bQ to:Int):List Nat:=List.range' (max bQ 0).toNat (vg b bQ to)
def M1(U:ag)(b:List Sb):bT U false 1 (.rp (bR b))=some (bR b):=rfl
def range_split:∀(j s n:Nat),j<n->List.range' s n=List.range' s j++(s+j)::List.range' (s+j+1) (n-j-1)
 |0,s,n+1,_=>by simp[List.range']
 |j+1,s,n+1,h=>by
  have:=range_split j (s+1) n (by omega);rw[List.range',this,List.range'];have e1:s+1+j=s+(j+1):=by omega
  have e2:n-j-1=n+1-(j+1)-1:=by omega
  rw[e1,e2];rfl
def qL(s j:Nat):List.range' s (j+1)=List.range' s j++[s+j]:=by
 rw[range_split j s (j+1) (by omega),show j+1-j-1=0 by omega];rfl
def Fw(b:List Sb)(hb:b.length<=1000000)(bQ to:Int):Iter prog 252 [.rp (vI bQ),.rp (vI to),.rp (bR b)] ((Wo b bQ to).map λi=>[jd b i]):=by
 refine⟨Na.c,λP9 τ Jx Z0 hy hJ=>?_⟩;refine(Na.r (by simp[JR]) ?_).2;have W6:=BP b;refine ad.mix 6 ?_;apply sR;simp only[go_sem,seval,JR,dd];obtain⟨s,hsv⟩:∃s:Nat,s=(max bQ 0).toNat:=⟨_,rfl⟩
 have QJ:max bQ 0=(s:Int):=by omega
 obtain⟨n,hnv⟩:∃n:Nat,n=vg b bQ to:=⟨_,rfl⟩
 have hn1:∀j:Nat,(((s+j:Nat):Int)<=min to ((b.length:Int)-1))↔j<n:=λj=>by rw[hnv,vg,QJ];omega
 rw[Wo,<-hsv,<-hnv]at hy|-;rw[QJ];refine ad.loop (λm st=>∃(j:Nat) (ZJ:ag),j<=n/\m=n-j/\τ ((List.range' s j).map λi=>[jd b i]) ZJ/\aa ZJ st.U/\st.s 0=.yl P9/\st.s 1=.rp (vI bQ)/\st.s 2=.rp (vI to)/\st.s 3=.rp (bR b)/\st.s 5=vI (s+j:Nat)) n ?_ ?_
 .exact⟨0,Z0,by omega,rfl,by simpa using hJ,aa.refl _,rfl,rfl,rfl,rfl,rfl⟩
 .rintro m ⟨S,J⟩ ⟨j,ZJ,hj,rfl,Rt,B',t0,t1,t2,t3,t5⟩;simp only at B' t0 t1 t2 t3 t5;refine ad.mix 6 ?_;have r2:PM .i64 ((b.length:Int)-1):=ak;by_cases C':j<n
  .have hle:=(hn1 j).2 C';have Q0:s+j<b.length:=by omega
   have q:(((s+j:Nat):Int)<=min to ((b.length:Int)-1))=True:=PK hle;have r1:PM .i64 (((s+j:Nat):Int)+1):=ak;have E':=λU=>xV (U:=U) Q0;have hg:Tj b (s+j)=b[s+j]:=by simp[Tj,Q0]
   have hfd:jd b (s+j)=.agg [vI b[s+j].cls,vI b[s+j].forced,vI b[s+j].QI,vI (s+j:Nat)]:=by rw[jd,hg]
   have e:((List.range' s n).map λi=>[jd b i])=((List.range' s j).map λi=>[jd b i])++[jd b (s+j)]::((List.range' (s+j+1) (n-j-1)).map λi=>[jd b i]):=by
    rw[range_split j s n C'];simp
   have Qn:((List.range' s (j+1)).map λi=>[jd b i])=((List.range' s j).map λi=>[jd b i])++[[jd b (s+j)]]:=by rw[qL];simp
   have q5:s+(j+1)=s+j+1:=by omega
   generalize s+j=sj at*;apply sR;simp only[go_sem,seval,t0,t1,t2,t3,t5,M1,W6,r2,eW,q,E',ga];rw[<-hfd];refine ad.lK (Post:=λb' Z2=>∃P5,bf ZJ J P5 Z2/\((b'=true/\τ (((List.range' s j).map λi=>[jd b i])++[[jd b sj]]) P5)\/(b'=false/\Jx (((List.range' s j).map λi=>[jd b i])++[[jd b sj]]) P5))) rfl rfl rfl (hy _ [jd b sj] _ ZJ J e Rt B') ?_;rintro b' Z2 ⟨P5,QM,QE⟩;rcases QE with⟨rfl,QE⟩|⟨rfl,QE⟩
   .apply sR;simp only[go_sem,seval,t0,t1,t2,t3,t5,r1];refine⟨_,?_,j+1,P5,by omega,rfl,by rw[Qn];exact QE,QM.1,by simp[t0,t1,t2,t3,q5]⟩;omega
   .apply sR;simp only[go_sem,seval,t0,t1,t2,t3,t5];exact⟨_,P5,QM.1,Wk.refl QM.1 _,.inr ⟨_,⟨_,by rw[e,gw];rfl⟩,QE⟩⟩
  .have q:(((s+j:Nat):Int)<=min to ((b.length:Int)-1))=False:=PG (λh=>C' ((hn1 j).1 h));have Rw:j=n:=by omega
   subst Rw;generalize s+j=sj at*;apply sR;simp only[go_sem,seval,t0,t1,t2,t3,t5,M1,W6,r2,eW,q];exact⟨_,ZJ,B',Wk.refl B' _,.inl Rt⟩
open Go.Proofs
structure Fd where
 (b:Sb)(i:Int)
def fU(x:Fd):V:=.agg [vI x.b.cls,vI x.b.forced,vI x.b.QI,vI x.i]
def gd(ah:Fd->Fd->Bool->Bool)(p:Fd×Bool)(x:Fd):Fd×Bool:=if ah x p.1 p.2 then(x,true)else p
def fp(ah:Fd->Fd->Bool->Bool)(xs:List Fd)(d:Fd):Fd×Bool:=xs.foldl (gd ah) (d,false)
def sD(ah:Fd->Fd->Bool->Bool)(xs:List Fd)(x:Fd)(d:Fd):fp ah (xs++[x]) d=gd ah (fp ah xs d) x:=by simp[fp,ov]
def yO{g f:FuncId}{caps:List V}{xs:List Fd}(hit:Iter prog g caps (xs.map λx=>[fU x]))(d:Fd)(ah:Fd->Fd->Bool->Bool)
 (hf:∀x y s,aP prog f [fU x,fU y,.bool s] (.bool (ah x y s))):
 aP prog 216 [.fn g caps,fU d,.fn f []] (fU (fp ah xs d).1):=λU=>by
 refine Pz.r (by simp[Kq]) ?_;have hs:=aa.refl U;have TL:(V.fn f []).cells=[.fn f []]:=rfl;have Rr:(V.fn f []).stays=true:=rfl;refine ad.mix 10 ?_;apply sR;simp only[go_sem,seval,Kq,fU,TL,Rr];refine ae λi4 Z4 s4 a4 f4=>?_;have z4:=hs.none f4;replace hs:=hs.trans s4;simp only[go_sem,seval,TL,Rr];refine ae λi5 Z5 s5 a5 f5=>?_;have R0:=ao a4 f5;replace a4:=s5 _ _ a4;have z5:=hs.none f5;replace hs:=hs.trans s5;simp only[go_sem,seval,TL,Rr];refine ae λi6 Z6 s6 a6 f6=>?_;have n46:=ao a4 f6;replace a4:=s6 _ _ a4;have n56:=ao a5 f6;replace a5:=s6 _ _ a5;have z6:=hs.none f6;replace hs:=hs.trans s6;simp only[go_sem,seval,a4,TL,Rr];have hs6:=aa.refl Z6;refine ae λi7 Z7 s7 a7 f7=>?_;simp only[go_sem,seval,a7,TL,Rr];refine ae λi8 Z8 s8 a8 f8=>?_;have V8:i7≠i8:=ao a7 f8;have b7:=s8 _ _ a7;simp only[go_sem,seval,b7,a8,ab V8,ab V8.symm,TL,Rr];generalize hS:mix 10 _ _=S;have S5:S 5=.ptr i5 0 0:=by rw[<-hS];rfl
 have S6:S 6=.ptr i6 0 0:=by rw[<-hS];rfl
 have S7:S 7=.ptr i7 0 0:=by rw[<-hS];rfl
 have S8:S 8=.ptr i8 0 0:=by rw[<-hS];rfl
 have S11:S 11=.fn g caps:=by rw[<-hS];rfl
 clear hS;refine ad.eK (g:=.t 11) (caps:=caps) S11 hit (λy hy=>?_) [] (λpre ZJ=>ZJ i7=some ⟨330,4,[fU (fp ah (xs.take pre.length) d).1]⟩/\ZJ i8=some ⟨4,1,[.bool (fp ah (xs.take pre.length) d).2]⟩/\aa Z6 ZJ)
  (λ_ _ _=>False) ?_ ?_ ?_ ?_ ?_
 .obtain⟨t,_,rfl⟩:=eI.1 hy;rfl
 .refine⟨(ab V8).trans af,af,?_⟩;have h7:=(s7.trans s8).az (id:=i7) (o:=⟨330,4,[.agg [vI d.b.cls,vI d.b.forced,vI d.b.QI,vI d.i]]⟩) f7;exact h7.az (s7.none f8)
 .rintro pre y post ZJ ZB Rv ⟨J7,J8,Js⟩ B';obtain⟨t,W2,rfl⟩:=pH (f:=fU) Rv;have Qn:fp ah (xs.take (pre.length+1)) d=gd ah (fp ah (xs.take pre.length) d) t:=by rw[Ax,W2];exact sD _ _ _ _
  have hlen:(pre++[[fU t]]).length=pre.length+1:=by simp
  rw[hlen,Qn];generalize fp ah (xs.take pre.length) d=p at*;obtain⟨p1,p2⟩:=p;simp only at J7 J8;have c7:=B' _ _ J7;have c8:=B' _ _ J8;have c5:=B' _ _ (Js _ _ a5);generalize Ro:lT S [12] [fU t]=S0;have T5:S0 5=.ptr i5 0 0:=by rw[<-Ro];exact S5
  have T7:S0 7=.ptr i7 0 0:=by rw[<-Ro];exact S7
  have T8:S0 8=.ptr i8 0 0:=by rw[<-Ro];exact S8
  have T12:S0 12=fU t:=by rw[<-Ro];rfl
  clear Ro;rw[fU]at c7 T12;refine ad.mix 10 ?_;apply sR;simp only[go_sem,seval,T5,T7,T8,T12];rw[av];intro i9 f9;have m7:i7≠i9:=ao c7 f9;have m8:i8≠i9:=ao c8 f9;have m5:i5≠i9:=ao c5 f9;simp only[go_sem,seval,T5,T7,T8,T12];have TS:=(bf.refl B').qH (o:=⟨330,4,[.agg [vI t.b.cls,vI t.b.forced,vI t.b.QI,vI t.i]]⟩) f9;have d7:=(ab (o:=⟨330,4,[.agg [vI t.b.cls,vI t.b.forced,vI t.b.QI,vI t.i]]⟩) m7).trans c7;have d8:=(ab (o:=⟨330,4,[.agg [vI t.b.cls,vI t.b.forced,vI t.b.QI,vI t.i]]⟩) m8).trans c8;have d5:=(ab (o:=⟨330,4,[.agg [vI t.b.cls,vI t.b.forced,vI t.b.QI,vI t.i]]⟩) m5).trans c5;have d9:u' ZB i9 ⟨330,4,[.agg [vI t.b.cls,vI t.b.forced,vI t.b.QI,vI t.i]]⟩ i9=_:=af;generalize u' ZB i9 ⟨330,4,[.agg [vI t.b.cls,vI t.b.forced,vI t.b.QI,vI t.i]]⟩=Y9 at*;apply sR;simp only[go_sem,seval,T5,T7,T8,d5,d7,d8,d9];refine ad.ay rfl rfl rfl (hf t p1 p2 _) ?_;cases hv:ah t p1 p2
  .apply sR;simp only[go_sem,seval,T5,T7,T8];refine⟨_,TS,?_,?_,Js⟩
   .rw[gd,hv];exact J7
   .rw[gd,hv];exact J8
  .apply sR;simp only[go_sem,seval,T5,T7,T8,d5,d7,d8,d9,ab V8,ab V8.symm];refine⟨_,(TS.set (id:=i7) J7).set (id:=i8) (by rw[ab V8.symm];exact J8),?_,?_,?_⟩
   .rw[gd,hv];exact(ab V8).trans af
   .rw[gd,hv];exact af
   .exact(Js.az f7).az (s7.none f8)
 .rintro Z' ⟨J7,J8,Js⟩;rw[cL,hU]at J7 J8;rw[fU]at J7;have e6:=Js _ _ a6;refine ad.mix 10 ?_;apply sR;simp only[go_sem,seval,S6,S7,J7,e6];exact au.pure ((hs.trans Js).az z6) rfl
 .intro id h;cases h
 .rintro pre Z' _ ⟨⟩
open Go.Proofs
def vM(b:List Sb)(bQ to:Int):aP prog 217 [bR b,vI bQ,vI to] (.fn 252 [.rp (vI bQ),.rp (vI to),.rp (bR b)]):=λU=>by
 refine Pe.r (by simp[Md]) ?_;refine ad.mix 7 ?_;have q1:=gN b;have q2:=gJ b;generalize bR b=x at*;apply sR;simp only[go_sem,seval,Md,q1,q2];refine ae λSn Z1 s1 a1 f1=>?_;simp only[go_sem,seval,q1,q2];refine ae λRs Z2 s2 a2 f2=>?_;simp only[go_sem,seval,q1,q2];refine ae λWU Z3 s3 a3 f3=>?_;simp only[go_sem,seval,q1,q2];have hs:=(s1.trans s2).trans s3;exact⟨_,U,hs,Wk.fn (vs':=[.rp (vI bQ),.rp (vI to),.rp x]) ⟨Wk.ptr hs (s3 _ _ a2) (s1.none f2),Wk.ptr hs a3 ((s1.trans s2).none f3),Wk.ptr hs (s3 _ _ (s2 _ _ a1)) f1,trivial⟩,rfl,rfl⟩
def mf(b:List Sb)(i:Nat):Fd:=⟨Tj b i,i⟩
def AZ:Fd:=⟨⟨0,0,0⟩,-1⟩
def gW(x _y:Fd)(s:Bool):Bool:=!s&&decide (x.b.forced≠0)
def jb(x y:Fd)(s:Bool):Bool:=!s||decide (x.b.QI<=y.b.QI)
def Hk(x y:Fd)(s:Bool):aP prog 218 [fU x,fU y,.bool s] (.bool (gW x y s)):=λU=>by
 refine NZ.r (by simp[c218]) ?_;have hs:=aa.refl U;obtain⟨⟨c,f,r⟩,i⟩:=x;obtain⟨⟨c',f',r'⟩,i'⟩:=y;refine ad.mix 7 ?_;apply sR;simp only[go_sem,seval,c218,fU];refine ae λi3 Z3 s3 a3 f3=>?_;have z3:=hs.none f3;replace hs:=hs.trans s3;simp only[go_sem,seval];refine ae λi4 Z4 s4 a4 f4=>?_;have YN:=ao a3 f4;replace a3:=s4 _ _ a3;have z4:=hs.none f4;replace hs:=hs.trans s4;cases s
 .by_cases h:f≠0
  .have q:(f≠0)=True:=PK h;simp only[go_sem,seval,a3,a4,q];exact au.pure hs (by simp[gW,h])
  .have q:(f≠0)=False:=PG h;simp only[go_sem,seval,a3,a4,q];exact au.pure hs (by simp[gW,h])
 .simp only[go_sem,seval,a3,a4];exact au.pure hs (by simp[gW])
def HJ(x y:Fd)(s:Bool):aP prog 219 [fU x,fU y,.bool s] (.bool (jb x y s)):=λU=>by
 refine Pu.r (by simp[JO]) ?_;have hs:=aa.refl U;obtain⟨⟨c,f,r⟩,i⟩:=x;obtain⟨⟨c',f',r'⟩,i'⟩:=y;refine ad.mix 7 ?_;apply sR;simp only[go_sem,seval,JO,fU];refine ae λi3 Z3 s3 a3 f3=>?_;have z3:=hs.none f3;replace hs:=hs.trans s3;simp only[go_sem,seval];refine ae λi4 Z4 s4 a4 f4=>?_;have YN:=ao a3 f4;replace a3:=s4 _ _ a3;have z4:=hs.none f4;replace hs:=hs.trans s4;cases s
 .simp only[go_sem,seval,a3,a4];exact au.pure hs (by simp[jb])
 .by_cases h:r<=r'
  .have q:(r<=r')=True:=PK h;simp only[go_sem,seval,a3,a4,q];exact au.pure hs (by simp[jb,h])
  .have q:(r<=r')=False:=PG h;simp only[go_sem,seval,a3,a4,q];exact au.pure hs (by simp[jb,h])
def lC(b:List Sb)(bQ to:Int):Int:=(fp gW ((Wo b bQ to).map (mf b)) AZ).1.i
def ET(b:List Sb)(bQ to:Int):Int:=(fp jb ((Wo b bQ to).map (mf b)) AZ).1.i
def vX(b:List Sb)(hb:b.length<=1000000)(bQ to:Int):Iter prog 252 [.rp (vI bQ),.rp (vI to),.rp (bR b)] (((Wo b bQ to).map (mf b)).map λx=>[fU x]):=by
 have h:=Fw b hb bQ to;rw[List.map_map];exact h
def H3(b:List Sb)(hb:b.length<=1000000)(bQ to:Int):aP prog 171 [bR b,vI bQ,vI to] (vI (lC b bQ to)):=λU=>by
 refine NS.r (by simp[c171]) ?_;have hs:=aa.refl U;refine ad.mix 8 ?_;apply sR;simp only[go_sem,seval,c171];refine ad.ay rfl rfl rfl (vM b bQ to _) ?_;apply sR;simp only[go_sem,seval];refine ad.ay rfl rfl rfl (yO (vX b hb bQ to) AZ gW Hk _) ?_;have QT:∀x,(fU x).cells=[vI x.b.cls,vI x.b.forced,vI x.b.QI,vI x.i]:=λ_=>rfl;apply sR;simp only[go_sem,seval,fU];refine ae λi7 Z7 s7 a7 f7=>?_;have z7:=hs.none f7;replace hs:=hs.trans s7;simp only[go_sem,seval,a7];exact au.pure (hs.az z7) rfl
def KB(b:List Sb)(hb:b.length<=1000000)(bQ to:Int):aP prog 172 [bR b,vI bQ,vI to] (vI (ET b bQ to)):=λU=>by
 refine Py.r (by simp[Kr]) ?_;have hs:=aa.refl U;refine ad.mix 8 ?_;apply sR;simp only[go_sem,seval,Kr];refine ad.ay rfl rfl rfl (vM b bQ to _) ?_;apply sR;simp only[go_sem,seval];refine ad.ay rfl rfl rfl (yO (vX b hb bQ to) AZ jb HJ _) ?_;apply sR;simp only[go_sem,seval,fU];refine ae λi7 Z7 s7 a7 f7=>?_;have z7:=hs.none f7;replace hs:=hs.trans s7;simp only[go_sem,seval,a7];exact au.pure (hs.az z7) rfl
open Go.Proofs
structure Kp where
 (P6:List Int)
 (high body:Int)
def je(l:List Nd)(x:Kp)(a:Int):Kp:=if(SV l a).head<1\/x.body-(SV l a).head<1 then x else⟨x.P6++[a],x.high+(SV l a).head,x.body-(SV l a).head⟩
structure KpJ(Z0:ag)(i7:Nat)(x:Kp)(U:ag):Prop where
 row:∃v,U i7=some ⟨216,3,[.agg [v,vI x.high,vI x.body]]⟩/\aN (bg Z0 i7) U 3 1 v (x.P6.map vI)
 sub:aa Z0 U
 no:Z0 i7=none
def Ho(l:List Nd)(hb:Qs l=true)(x:Kp)(hlen:x.P6.length<=1000000)(h0:0<=x.high)(h1:x.high<=4398046511104)(h2:0<=x.body)(h3:x.body<=4398046511104)(a:Nat)(ha:a<l.length)
 {Z0 ZJ ZB:ag}{i7:Nat}(hJ:KpJ Z0 i7 x ZJ)(B':aa ZJ ZB):
 aC prog 113 [.ptr i7 0 0,aM l,vI a] ZB λ_ Z'=>∃P5,bf ZJ ZB P5 Z'/\KpJ Z0 i7 (je l x a) P5:=by
 refine PB.r (by simp[EM]) ?_;have Qf:=(gi hb ha).st.head;have Q8:=λU=>dJ (U:=U) (l:=l) (a:=a) ha;obtain⟨⟨v,J7,Jo⟩,Js,Jn⟩:=hJ;obtain⟨hds,high,body⟩:=x;simp only at hlen h0 h1 h2 h3 J7 Jo;have TF:v.cells=[v]:=by rcases Jo with⟨rfl,_⟩|⟨_,rfl,_⟩<;>rfl
 have c7:=B' _ _ J7;unfold je;rw[jo ha];simp only;have same:(l[a].st.head<1\/body-l[a].st.head<1)->au (.PI []) ZB λ_ Z'=>∃P5,bf ZJ ZB P5 Z'/\KpJ Z0 i7 (if l[a].st.head<1\/body-l[a].st.head<1 then⟨hds,high,body⟩else⟨hds++[(a:Int)],high+l[a].st.head,body-l[a].st.head⟩) P5:=λh=>by
  rw[aE h];exact⟨_,ZB,aa.refl _,Wk.refl (aa.refl _) _,ZJ,bf.refl B',⟨v,J7,Jo⟩,Js,Jn⟩
 refine ad.mix 7 ?_;have r1:PM .i64 (body-l[a].st.head):=ak;have r2:PM .i64 (high+l[a].st.head):=ak;by_cases hn:l[a].st.head<1
 .have q1:(l[a].st.head<1)=True:=PK hn;have fin:=same (.inl hn);generalize hX:(if l[a].st.head<1\/body-l[a].st.head<1 then(⟨hds,high,body⟩:Kp)else⟨hds++[(a:Int)],high+l[a].st.head,body-l[a].st.head⟩)=X at*;apply sR;simp only[go_sem,seval,EM,Q8,Nd.cells,q1,c7,TF];exact fin
 have q1:(l[a].st.head<1)=False:=PG hn;by_cases WR:body-l[a].st.head<1
 .have q2:(body-l[a].st.head<1)=True:=PK WR;have fin:=same (.inr WR);generalize hX:(if l[a].st.head<1\/body-l[a].st.head<1 then(⟨hds,high,body⟩:Kp)else⟨hds++[(a:Int)],high+l[a].st.head,body-l[a].st.head⟩)=X at*;apply sR;simp only[go_sem,seval,EM,Q8,Nd.cells,q1,r1,q2,c7,TF];exact fin
 have q2:(body-l[a].st.head<1)=False:=PG WR;rw[aF (by omega)];clear same;apply sR;simp only[go_sem,seval,EM,Q8,Nd.cells,q1,r1,q2,c7,TF];rw[av];intro TG f28;have Ux:(hds.map vI).length<=1000000:=by simpa using hlen
 have Qj:((hds++[(a:Int)]).map vI)=hds.map vI++[vI a]:=by simp
 generalize hds.map vI=rows at*;have TS:=(bf.refl B').qH (o:=⟨3,1,[vI (a:Int)]⟩) f28;have y2:u' ZB TG ⟨3,1,[vI (a:Int)]⟩ i7=_:=(ab (ao c7 f28)).trans c7;have a28:u' ZB TG ⟨3,1,[vI (a:Int)]⟩ TG=some ⟨3,1,[vI (a:Int)]⟩:=af;generalize u' ZB TG ⟨3,1,[vI (a:Int)]⟩=Z8 at*;obtain⟨PU,QV,Uh⟩:=Jo.C6 TS.1;have Qp:(rows.length+1)*9<=140737488355328:=by omega
 have k2:bg Z0 i7 i7≠none:=λh=>(aI.1 h).1 rfl;have Ti:∀(i:Nat) (Zx:ag),bg Z0 i7 i≠none->Vc.bF Zx PU i=Zx i:=λi Zx hk=>by
  cases PU with
  |none=>rfl
  |some a=>exact er (λe=>hk (by rw[e];exact(Uh a rfl).1))
 simp only[go_sem,seval,QV,cW a28,Qp];rw[av];intro Rp f29;have f29:Z8 Rp=none:=f29;have Xw:i7≠Rp:=ao y2 f29;have Zh:Vc.bF Z8 PU Rp=none:=by
  cases PU with
  |none=>exact f29
  |some a=>simp only[Vc.bF,del];split<;>first|rfl|exact f29
 have y2':u' (Vc.bF Z8 PU) Rp ⟨3,1,rows++[vI (a:Int)]⟩ i7=some ⟨216,3,[.agg [v,vI high,vI body]]⟩:=by rw[ab Xw,Ti _ _ k2];exact y2
 have hB9:=((TS.DS (e:=PU) λi h=>(Uh i h).2).new (o:=⟨3,1,rows++[vI (a:Int)]⟩) Zh).set (id:=i7) (o:=⟨216,3,[.agg [v,vI high,vI body]]⟩) (o':=⟨216,3,[.agg [.own Rp 0 (rows.length+1),vI (high+l[a].st.head),vI (body-l[a].st.head)]]⟩) (by rw[ab Xw,Ti _ _ k2];exact J7);simp only[go_sem,seval,TF,y2',r1,r2];refine⟨_,_,aa.refl _,Wk.refl (aa.refl _) _,_,hB9,⟨.own Rp 0 (rows.length+1),af,?_⟩,?_,Jn⟩
 .rw[Qj];refine aN.new (by simp) (by rw[ab Xw.symm,af]) ?_;rw[aI];refine⟨Xw.symm,?_⟩;cases h:Z0 Rp with
  |none=>rfl
  |some o=>rw[TS.1 _ _ (Js _ _ h)]at f29;cases f29
 .refine aa.az (λi o h=>?_) Jn;have h1:=Js _ _ h;rw[ab (ao (TS.1 _ _ h1) f29),Ti _ _ (λhk=>by rw[(aI.1 hk).2]at h;cases h)];exact h1
open Go.Proofs
def bwd(L:List Int):List (List V):=(List.range' 0 L.length).map λq=>[vI ((L.length-1-q:Nat):Int),vI (L.getD (L.length-1-q) 0)]
def Hf(L:List Int)(hL:L.length<=1000000):Iter prog 159 [.rp (encI L)] (bwd L):=by
 refine⟨Ml.c,λP9 τ Jx Z0 hy hJ=>?_⟩;refine(Ml.r (by simp[c159]) ?_).2;have hlL:=eO L;have ldI:∀(U:ag) (X:List Int),bT U false 1 (.rp (encI X))=some (encI X):=λU X=>rfl;have r2:PM .i64 ((L.length:Int)-1):=ak;refine ad.mix 4 ?_;apply sR;simp only[go_sem,seval,c159,ldI,hlL,r2];generalize hT:bwd L=T at hy|-
 let F:Nat->List V:=λq=>[vI ((L.length-1-q:Nat):Int),vI (L.getD (L.length-1-q) 0)]
 have hTF:T=(List.range' 0 L.length).map F:=hT.symm;refine ad.loop (λm st=>∃(j:Nat) (ZJ:ag),j<=L.length/\m=L.length-j/\τ ((List.range' 0 j).map F) ZJ/\aa ZJ st.U/\st.s 0=.yl P9/\st.s 1=.rp (encI L)/\st.s 3=vI ((L.length:Int)-1-j)) L.length ?_ ?_
 .exact⟨0,Z0,by omega,rfl,by simpa using hJ,aa.refl _,rfl,rfl,by simp[aW,mix]⟩
 .rintro m ⟨S,J⟩ ⟨j,ZJ,hj,rfl,Rt,B',t0,t1,t3⟩;simp only at B' t0 t1 t3;refine ad.mix 4 ?_;by_cases C':j<L.length
  .obtain⟨i,hi⟩:∃i:Nat,i=L.length-1-j:=⟨_,rfl⟩
   have RR:i<L.length:=by omega
   have t3':S 3=vI (i:Int):=by rw[t3];congr 1;omega
   have q:((i:Int)>=0)=True:=PK;have r1:PM .i64 ((i:Int)-1):=ak;have E':=λU=>gG (U:=U) RR;have hF:F j=[vI (i:Int),vI L[i]]:=by
    show[vI ((L.length-1-j:Nat):Int),vI (L.getD (L.length-1-j) 0)]=_;rw[<-hi];simp[RR]
   have e:T=((List.range' 0 j).map F)++[vI (i:Int),vI L[i]]::((List.range' (0+j+1) (L.length-j-1)).map F):=by
    rw[hTF,range_split j 0 L.length C',eo,dO,gY,hF]
   have Qn:((List.range' 0 (j+1)).map F)=((List.range' 0 j).map F)++[[vI (i:Int),vI L[i]]]:=by rw[qL,eo,gY,dO,hF];rfl
   have q5:(i:Int)-1=(L.length:Int)-1-((j+1:Nat):Int):=by omega
   apply sR;simp only[go_sem,seval,t0,t1,t3',ldI,q,E'];refine ad.lK (Post:=λb' Z2=>∃P5,bf ZJ J P5 Z2/\((b'=true/\τ (((List.range' 0 j).map F)++[[vI (i:Int),vI L[i]]]) P5)\/(b'=false/\Jx (((List.range' 0 j).map F)++[[vI (i:Int),vI L[i]]]) P5))) rfl rfl rfl (hy _ [vI (i:Int),vI L[i]] _ ZJ J e Rt B') ?_;rintro b' Z2 ⟨P5,QM,QE⟩;rcases QE with⟨rfl,QE⟩|⟨rfl,QE⟩
   .apply sR;simp only[go_sem,seval,t0,t1,t3',r1];refine⟨_,?_,j+1,P5,by omega,rfl,by rw[Qn];exact QE,QM.1,by simp[t0,t1,q5]⟩;omega
   .apply sR;simp only[go_sem,seval,t0,t1,t3'];exact⟨_,P5,QM.1,Wk.refl QM.1 _,.inr ⟨_,⟨_,by rw[e,gw];rfl⟩,QE⟩⟩
  .have Rw:j=L.length:=by omega
   subst Rw;have q:((L.length:Int)-1-(L.length:Int)>=0)=False:=PG;apply sR;simp only[go_sem,seval,t0,t1,t3,q];exact⟨_,ZJ,B',Wk.refl B' _,.inl (hTF▸Rt)⟩
def MN(L:List Int):aP prog 111 [encI L] (.fn 159 [.rp (encI L)]):=λU=>by
 refine Ow.r (by simp[K0]) ?_;refine ad.mix 3 ?_;apply sR;simp only[go_sem,seval,K0,aj,al];refine ae λSn Z1 s1 a1 f1=>?_;simp only[go_sem,seval,aj,al];exact⟨_,U,s1,Wk.fn (vs':=[.rp (encI L)]) ⟨Wk.ptr s1 a1 f1,trivial⟩,rfl,rfl⟩
open Go.Proofs
def ud(x:Kp):V:=.agg [encI x.P6,vI x.high,vI x.body]
def gr(l:List Nd)(L:List Int)(h:Int):Nat->Kp
 |0=>⟨[],0,h⟩
 |m+1=>je l (gr l L h m) (L.getD (L.length-1-m) 0)
def En{l:List Nd}{x:Kp}{a:Int}{m:Nat}{h:Int}(h0:0<=(SV l a).head)(hx:x.P6.length<=m/\0<=x.high/\0<=x.body/\x.high+x.body=h):(je l x a).P6.length<=m+1/\0<=(je l x a).high/\0<=(je l x a).body/\(je l x a).high+(je l x a).body=h:=by
 obtain⟨h1,h2,h3,h4⟩:=hx;unfold je;split
 .exact⟨by omega,h2,h3,h4⟩
 .simp only[fB,Rc,List.length_nil];omega
def pB{l:List Nd}(hb:Qs l=true){L:List Int}(hL:∀x∈L,∃n:Nat,x=n/\n<l.length){h:Int}(hh:0<=h):∀m,m<=L.length->(gr l L h m).P6.length<=m/\0<=(gr l L h m).high/\0<=(gr l L h m).body/\(gr l L h m).high+(gr l L h m).body=h
 |0,_=>by simp[gr];omega
 |m+1,hm=>by
  have ih:=pB hb hL hh m (by omega);rw[gr];refine En ?_ ih;have C':L.length-1-m<L.length:=by omega
  have hg:L.getD (L.length-1-m) 0=L[L.length-1-m]:=by simp[C']
  rw[hg];obtain⟨n,hn,TA⟩:=hL _ (QF C');rw[hn,jo TA];exact(gi hb TA).st.head.1
def x8(l:List Nd)(a:Nat)(h:Int):Kp:=gr l (T0 l a) h (T0 l a).length
def Hj(l:List Nd)(hl:eY l)(hb:Qs l=true)(hn:l.length<=100000)(a:Nat)(ha:a<l.length)(h:Int)(h0:0<=h)(h1:h<=2199023255552):
 aP prog 65 [aM l,vI a,vI h] (ud (x8 l a h)):=λU=>by
 refine e65.r (by simp[c65]) ?_;have hs:=aa.refl U;refine ad.mix 10 ?_;apply sR;simp only[go_sem,seval,c65,ai,aK];refine ae λi3 Z3 s3 a3 f3=>?_;have z3:=hs.none f3;replace hs:=hs.trans s3;simp only[go_sem,seval];refine ae λi6 Z6 s6 a6 f6=>?_;have n36:=ao a3 f6;replace a3:=s6 _ _ a3;have z6:=hs.none f6;replace hs:=hs.trans s6;simp only[go_sem,seval,a3,ai];refine ae λi7 Z7 s7 a7 f7=>?_;have n37:i3≠i7:=ao a3 f7;have UF:i6≠i7:=ao a6 f7;have b3:=s7 _ _ a3;simp only[go_sem,seval,a7,b3,ab n37,ai,aK];have h7:KpJ Z6 i7 ⟨[],0,h⟩ (u' Z7 i7 ⟨216,3,[.agg [.aL,vI 0,vI h]]⟩):=⟨⟨.aL,af,aN.start⟩,s7.az f7,f7⟩
 have e3:u' Z7 i7 ⟨216,3,[.agg [.aL,vI 0,vI h]]⟩ i3=_:=(ab n37).trans b3;generalize u' Z7 i7 ⟨216,3,[.agg [.aL,vI 0,vI h]]⟩=Y7 at*;refine ad.ay rfl rfl rfl (Av l hl hb hn a ha _) ?_;have U7:∀x∈T0 l a,∃n:Nat,x=n/\n<l.length:=λx hx=>by
  obtain⟨n,h1,h2⟩:=pz ha x hx;exact⟨n,h1,by omega⟩
 have hlL:(T0 l a).length<=l.length+1:=iK _ _ _;unfold x8;generalize T0 l a=L at*;apply sR;simp only[go_sem,seval];refine ad.ay rfl rfl rfl (MN L _) ?_;apply sR;simp only[go_sem,seval];generalize hS:mix 10 _ _=S;have S3:S 3=.ptr i3 0 0:=by rw[<-hS];rfl
 have S6:S 6=.ptr i6 0 0:=by rw[<-hS];rfl
 have S7:S 7=.ptr i7 0 0:=by rw[<-hS];rfl
 have S16:S 16=.fn 159 [.rp (encI L)]:=by rw[<-hS];rfl
 clear hS;refine ad.eK (g:=.t 16) (caps:=[.rp (encI L)]) S16 (Hf L (by omega)) (λy hy=>?_) [] (λpre ZJ=>KpJ Z6 i7 (gr l L h pre.length) ZJ)
  (λ_ _ _=>False) ?_ ?_ ?_ ?_ ?_
 .obtain⟨t,_,rfl⟩:=eI.1 hy;rfl
 .exact h7
 .rintro pre y post ZJ ZB Rv hJ B';have Uc:pre.length<L.length:=by
   have:=congrArg List.length Rv;simp[bwd]at this;omega
  obtain⟨i,hi⟩:∃i:Nat,i=L.length-1-pre.length:=⟨_,rfl⟩
  have RR:i<L.length:=by omega
  have hy:y=[vI (i:Int),vI (L.getD i 0)]:=by
   have h1:(bwd L)[pre.length]?=some y:=by rw[Rv];simp
   simp[bwd,Uc]at h1;rw[<-h1,hi];simp
  have hlen:(pre++[y]).length=pre.length+1:=by simp
  have hinv:=pB hb U7 h0 pre.length (by omega);have P8:gr l L h (pre.length+1)=je l (gr l L h pre.length) (L.getD i 0):=by rw[gr,hi]
  have hg:L.getD i 0=L[i]:=by simp[RR]
  obtain⟨n,PZ,TA⟩:=U7 _ (QF RR);rw[hlen,P8,hg,PZ];rw[hg,PZ]at hy;subst hy;generalize gr l L h pre.length=x at*;have c3:=B' _ _ (hJ.sub _ _ a3);generalize Ro:lT S [17,18] [vI (i:Int),vI (n:Int)]=S0;have T3:S0 3=.ptr i3 0 0:=by rw[<-Ro];exact S3
  have T7:S0 7=.ptr i7 0 0:=by rw[<-Ro];exact S7
  have T18:S0 18=vI (n:Int):=by rw[<-Ro];rfl
  clear Ro;refine ad.mix 10 ?_;apply sR;simp only[go_sem,seval,T3,T7,T18];apply sR;simp only[go_sem,seval,T3,T7,T18,c3,ai];have hc:=Ho l hb x (by omega) (by omega) (by omega) (by omega) (by omega) n TA hJ B';rw[<-T7]at hc;refine ad.call rfl rfl rfl hc ?_;rintro-Z2 ⟨P5,hB,RX⟩;apply sR;simp only[go_sem,seval];exact⟨_,hB,RX⟩
 .rintro Z' hJ;have Q0:(bwd L).length=L.length:=by simp[bwd]
  rw[Q0]at hJ;obtain⟨⟨v,J7,Jo⟩,Js,Jn⟩:=hJ;have TF:v.cells=[v]:=by rcases Jo with⟨rfl,_⟩|⟨_,rfl,_⟩<;>rfl
  have e6:=Js _ _ a6;refine ad.mix 10 ?_;apply sR;simp only[go_sem,seval,S6,S7,J7,e6,TF];have P8:=(hs.trans Js).az (o:=⟨158,3,[.agg [v,vI (gr l L h L.length).high,vI (gr l L h L.length).body]]⟩) z6;have Jo':aN (bg Z6 i7) (u' Z' i6 ⟨158,3,[.agg [v,vI (gr l L h L.length).high,vI (gr l L h L.length).body]]⟩) 3 1 v ((gr l L h L.length).P6.map vI):=by
   rcases Jo with h|⟨id,g1,g2,g3⟩
   .exact .inl h
   .refine .inr ⟨id,g1,?_,g3⟩;rw[ab (λe=>by rw[e,aI]at g3;rw[a6]at g3;cases g3.2)];exact g2
  have hK:aa U (bg Z6 i7):=λi o hh=>by
   rw[bg,aF (λe=>by rw[e,hs.none f7]at hh;cases hh)];exact hs _ _ hh
  exact⟨_,U,P8,Wk.agg (vs':=[encI (gr l L h L.length).P6,vI (gr l L h L.length).high,vI (gr l L h L.length).body]) ⟨Jo'.wk hK P8,Wk.refl P8 _,Wk.refl P8 _,trivial⟩,rfl,rfl⟩
 .intro id h;cases h
 .rintro pre Z' _ ⟨⟩
open Go.Proofs
def ja(l:List Nd)(h:Int):Bool:=decide (1<=h/\h<=1099511627776)&&Qs l
def F4(l:List Nd)(hl:eY l)(h:Int):aP prog 64 [aM l,vI h] (.bool (ja l h)):=λU=>by
 refine e64.r (by simp[c64]) ?_;refine ad.mix 5 ?_;apply sR;simp only[go_sem,seval,c64];refine ad.ay rfl rfl rfl (mF h _) ?_;unfold ja;cases hd:decide (1<=h/\h<=1099511627776)
 .apply sR;simp only[go_sem,seval];exact au.same (by simp)
 .apply sR;simp only[go_sem,seval];refine ad.ay rfl rfl rfl (C2 l hl _) ?_;apply sR;simp only[go_sem,seval];exact au.same (by simp)
def rT(l:List Nd)(a h:Int):Kp:=if ja l h=true/\0<=a/\a<l.length then x8 l a.toNat h else⟨[],0,0⟩
def Mm(l:List Nd)(hl:eY l)(a h:Int):aP prog 119 [aM l,vI a,vI h] (ud (rT l a h)):=λU=>by
 refine Ou.r (by simp[c119]) ?_;have hs:=aa.refl U;have UE:=eU l;have hn:l.length<=100000:=by have:=hl.1;omega
 refine ad.mix 7 ?_;apply sR;simp only[go_sem,seval,c119];refine ae λi6 Z6 s6 a6 f6=>?_;have z6:=hs.none f6;replace hs:=hs.trans s6;simp only[go_sem,seval];refine ad.ay rfl rfl rfl (F4 l hl h _) ?_;have bad:¬(ja l h=true/\0<=a/\a<l.length)->au (.agg [.aL,vI 0,vI 0]) Z6 λr Z'=>r=ud (rT l a h)/\Z'=U:=λhb=>by
  rw[rT,aF hb];exact⟨_,U,hs,Wk.agg (vs':=[encI [],vI 0,vI 0]) ⟨Wk.aL 1,Wk.refl hs _,Wk.refl hs _,trivial⟩,rfl,rfl⟩
 have a6':u' Z6 i6 ⟨158,3,[.agg [.aL,vI 0,vI 0]]⟩=Z6:=by
  funext i;by_cases hi:i=i6
  .rw[hi,af];exact a6.symm
  .rw[ab hi]
 cases hm:ja l h
 .have fin:=bad (by simp[hm]);apply sR;simp only[go_sem,seval,a6];rw[a6'];exact fin
 by_cases h0:a<0
 .have q0:(a<0)=True:=PK h0;have fin:=bad (by omega);apply sR;simp only[go_sem,seval,a6,q0];rw[a6'];exact fin
 have q0:(a<0)=False:=PG h0;by_cases h1:a>=l.length
 .have q1:(a>=l.length)=True:=PK h1;have fin:=bad (by omega);apply sR;simp only[go_sem,seval,a6,q0,q1,UE];rw[a6'];exact fin
 have q1:(a>=l.length)=False:=PG h1;clear bad a6';obtain⟨n,rfl⟩:∃n:Nat,a=n:=⟨a.toNat,by omega⟩
 have hb:Qs l=true:=by unfold ja at hm;simp at hm;exact hm.2
 have hh:1<=h/\h<=1099511627776:=by unfold ja at hm;simp at hm;exact hm.1
 have hr:rT l n h=x8 l n h:=by rw[rT,aE ⟨hm,by omega,by omega⟩,eL]
 rw[hr];apply sR;simp only[go_sem,seval,a6,q0,q1,UE];refine ad.ay rfl rfl rfl (Hj l hl hb hn n (by omega) h (by omega) (by omega) _) ?_;apply sR;simp only[go_sem,seval,a6,ud,aj,al];exact au.pure (hs.az z6) rfl
def iC(l:List Nd)(h:Int):Nat->Int
 |0=>h
 |j+1=>if(Qb l j).kind=2\/(Qb l j).kind=3 then min (iC l h j) (x8 l j h).body else iC l h j
def gS(l:List Nd)(h:Int):Int:=if ja l h=true then iC l h l.length else 0
def Fi(l:List Nd)(hl:eY l)(h:Int):aP prog 31 [aM l,vI h] (vI (gS l h)):=λU=>by
 refine e31.r (by simp[c31]) ?_;have hs:=aa.refl U;have UE:=eU l;have hn:l.length<=100000:=by have:=hl.1;omega
 refine ad.mix 8 ?_;apply sR;simp only[go_sem,seval,c31];refine ad.ay rfl rfl rfl (F4 l hl h _) ?_;unfold gS;cases hm:ja l h
 .apply sR;simp only[go_sem,seval];exact au.same rfl
 have hb:Qs l=true:=by unfold ja at hm;simp at hm;exact hm.2
 have hh:1<=h/\h<=1099511627776:=by unfold ja at hm;simp at hm;exact hm.1
 rw[aE rfl];apply sR;simp only[go_sem,seval,UE];refine ad.loop (λm st=>∃j:Nat,j<=l.length/\m=l.length-j/\aa U st.U/\st.s 0=aM l/\st.s 1=vI h/\st.s 5=vI (iC l h j)/\st.s 13=aM l/\st.s 14=vI l.length/\st.s 15=vI j) l.length ?_ ?_
 .exact⟨0,by omega,rfl,hs,rfl,rfl,rfl,rfl,rfl,rfl⟩
 .clear hs;rintro m ⟨S,J⟩ ⟨j,hj,rfl,hs,t0,t1,t5,t13,t14,t15⟩;simp only at hs t0 t1 t5 t13 t14 t15;refine ad.mix 8 ?_;by_cases C':j<l.length
  .have q:((j:Int)<l.length)=True:=PK;have r1:PM .i64 ((j:Int)+1):=ak;have Q8:=λU=>dJ (U:=U) (l:=l) (a:=j) C';have P8:iC l h (j+1)=if l[j].kind=2\/l[j].kind=3 then min (iC l h j) (x8 l j h).body else iC l h j:=by rw[iC,iU C']
   apply sR;simp only[go_sem,seval,t0,t1,t5,t13,t14,t15,q,Q8,Nd.cells];refine ae λi7 Z7 s7 a7 f7=>?_;by_cases hk:l[j].kind=2
   .have q1:(l[j].kind=2)=True:=PK hk;simp only[go_sem,seval,a7,q1,t0,t1,t5,t13,t14,t15,aj,al];refine ad.ay rfl rfl rfl (Hj l hl hb hn j C' h (by omega) (by omega) _) ?_;apply sR;simp only[go_sem,seval,t0,t1,t5,t13,t14,t15,ud,r1,eW,aj,al];refine⟨_,?_,j+1,by omega,rfl,hs.trans (s7.az f7),by simp[t0,t1,t13,t14,P8,hk]⟩;omega
   .have q1:(l[j].kind=2)=False:=PG hk;by_cases TN:l[j].kind=3
    .have q2:(l[j].kind=3)=True:=PK TN;have hk:=TN;simp only[go_sem,seval,a7,q1,q2,t0,t1,t5,t13,t14,t15,aj,al];refine ad.ay rfl rfl rfl (Hj l hl hb hn j C' h (by omega) (by omega) _) ?_;apply sR;simp only[go_sem,seval,t0,t1,t5,t13,t14,t15,ud,r1,eW,aj,al];refine⟨_,?_,j+1,by omega,rfl,hs.trans (s7.az f7),by simp[t0,t1,t13,t14,P8,hk]⟩;omega
    .have q2:(l[j].kind=3)=False:=PG TN;simp only[go_sem,seval,a7,q1,q2,t0,t1,t5,t13,t14,t15,r1,aj,al];refine⟨_,?_,j+1,by omega,rfl,hs.trans (s7.az f7),by simp[t0,t1,t13,t14,P8,hk,TN]⟩;omega
  .have q:((j:Int)<l.length)=False:=PG;have Rw:j=l.length:=by omega
   apply sR;simp only[go_sem,seval,t0,t1,t5,t13,t14,t15,q];exact au.pure hs (by rw[Rw])
open Go.Proofs
def aA(l:List Qy):(bC l).cells=[bC l]:=rfl
def aD(l:List Qy):(bC l).stays=true:=rfl
def iV(l:List Qy):dY false (bC l)=some (.int .i64 l.length):=by simp[bC,dY]
def iD{U:ag}{l:List Qy}{i:Nat}(h:i<l.length):bL U 8 (bC l) (.int .i64 i)=some (.rp (dx l[i])):=by simp[bC,bL,h,dx]
structure lQ(l:List Qy):Prop where
 len:l.length<=1000000000
 Wd:∀a∈l,-1152921504606846976<=a.y/\a.y<=1152921504606846976/\0<=a.h/\a.h<=1152921504606846976
def yq(l:List Qy)(k:Int):aP prog 213 [bC l,vI k] (.bool (decide (0<=k/\k<l.length))):=λU=>by
 refine NQ.r (by simp[c213]) ?_;have hl:=iV l;refine ad.mix 5 ?_;by_cases h0:k>=0
 .have q0:(k>=0)=True:=PK h0;by_cases h1:k<l.length
  .have q1:(k<l.length)=True:=PK h1;apply sR;simp only[go_sem,seval,c213,q0,q1,hl];exact au.same (by simp[h0,h1])
  .have q1:(k<l.length)=False:=PG h1;apply sR;simp only[go_sem,seval,c213,q0,q1,hl];exact au.same (by simp[h1])
 .have q0:(k>=0)=False:=PG h0;apply sR;simp only[go_sem,seval,c213,q0,hl];exact au.same (by simp<;>omega)
def D0(a:Qy)(h:-1152921504606846976<=a.y/\a.y<=1152921504606846976/\0<=a.h/\a.h<=1152921504606846976):aP prog 251 [dx a] (vI (a.y+a.h)):=λU=>by
 refine Oa.r (by simp[Kl]) ?_;have hs:=aa.refl U;have r1:PM .i64 (a.y+a.h):=ak;refine ad.mix 3 ?_;apply sR;simp only[go_sem,seval,Kl,dx];refine ae λi1 Z1 s1 a1 f1=>?_;have z1:=hs.none f1;replace hs:=hs.trans s1;simp only[go_sem,seval,a1,r1];exact au.pure hs rfl
def Rx(l:List Qy)(k:Int):Qy:=l.getD k.toNat ⟨0,0,0,0,0,0,0,0⟩
def gK(l:List Qy)(k:Int):Int:=if 0<=k/\k<l.length then(Rx l k).y+(Rx l k).h else 0
def nH(l:List Qy)(k:Int):Int:=if 0<=k/\k<l.length then(Rx l k).y-gK l (k-1)else 0
def gx(l:List Qy)(i k:Int):Int:=if(0<=i/\i<l.length)/\(0<=k/\k<l.length)then(Rx l k).y-(Rx l i).y else 0
def bn{l:List Qy}{k:Nat}(h:k<l.length):Rx l k=l[k]:=by simp[Rx,h]
def rf{l:List Qy}(hl:lQ l)(k:Int):-1152921504606846976<=gK l k/\gK l k<=2305843009213693952:=by
 unfold gK;split
 .rename_i h;obtain⟨n,rfl⟩:∃n:Nat,k=n:=⟨k.toNat,by omega⟩
  have hn:n<l.length:=by omega
  rw[bn hn];have:=hl.Wd _ (QF hn);omega
 .omega
def DK(l:List Qy)(hl:lQ l)(k:Int):aP prog 214 [bC l,vI k] (vI (gK l k)):=λU=>by
 refine O5.r (by simp[Lt]) ?_;refine ad.mix 5 ?_;apply sR;simp only[go_sem,seval,Lt];refine ad.ay rfl rfl rfl (yq l k _) ?_;unfold gK;by_cases h:0<=k/\k<l.length
 .obtain⟨n,rfl⟩:∃n:Nat,k=n:=⟨k.toNat,by omega⟩
  have hn:n<l.length:=by omega
  have hd:decide (0<=(n:Int)/\(n:Int)<l.length)=true:=by simp;omega
  have E':=λU=>iD (U:=U) hn;rw[hd,aE h,bn hn];apply sR;simp only[go_sem,seval,E',dx];refine ad.ay rfl rfl rfl (D0 l[n] (hl.Wd _ (QF hn)) _) ?_;apply sR;simp only[go_sem,seval];exact au.same rfl
 .have hd:decide (0<=k/\k<l.length)=false:=by simpa using h
  rw[hd,aF h];apply sR;simp only[go_sem,seval];exact au.same rfl
def Kf(l:List Qy)(hl:lQ l)(k:Int):aP prog 169 [bC l,vI k] (vI (nH l k)):=λU=>by
 refine Po.r (by simp[K7]) ?_;refine ad.mix 5 ?_;apply sR;simp only[go_sem,seval,K7];refine ad.ay rfl rfl rfl (yq l k _) ?_;unfold nH;by_cases h:0<=k/\k<l.length
 .obtain⟨n,rfl⟩:∃n:Nat,k=n:=⟨k.toNat,by omega⟩
  have hn:n<l.length:=by omega
  have hd:decide (0<=(n:Int)/\(n:Int)<l.length)=true:=by simp;omega
  have E':=λU=>iD (U:=U) hn;have Tu:=hl.len;have hy:=hl.Wd _ (QF hn);have hbr:=rf hl ((n:Int)-1);have r1:PM .i64 ((n:Int)-1):=ak;have r2:PM .i64 (l[n].y-gK l ((n:Int)-1)):=ak;rw[hd,aE h,bn hn];apply sR;simp only[go_sem,seval,E',dx,r1];refine Go.cN rfl rfl rfl (DK l hl ((n:Int)-1)) ?_;apply sG;simp only[go_sem,seval,r2];exact au.same rfl
 .have hd:decide (0<=k/\k<l.length)=false:=by simpa using h
  rw[hd,aF h];apply sR;simp only[go_sem,seval];exact au.same rfl
def Dl(l:List Qy)(hl:lQ l)(i k:Int):aP prog 220 [bC l,vI i,vI k] (vI (gx l i k)):=λU=>by
 refine NA.r (by simp[LI]) ?_;refine ad.mix 8 ?_;apply sR;simp only[go_sem,seval,LI];refine ad.ay rfl rfl rfl (yq l i _) ?_;unfold gx;by_cases h:0<=i/\i<l.length
 .have hd:decide (0<=i/\i<l.length)=true:=by simp;omega
  rw[hd];apply sR;simp only[go_sem,seval];refine ad.ay rfl rfl rfl (yq l k _) ?_;by_cases h2:0<=k/\k<l.length
  .obtain⟨m,rfl⟩:∃m:Nat,i=m:=⟨i.toNat,by omega⟩
   obtain⟨n,rfl⟩:∃n:Nat,k=n:=⟨k.toNat,by omega⟩
   have hm:m<l.length:=by omega
   have hn:n<l.length:=by omega
   have We:decide (0<=(n:Int)/\(n:Int)<l.length)=true:=by simp;omega
   have E':=λU=>iD (U:=U) hn;have hidx2:=λU=>iD (U:=U) hm;have hy:=hl.Wd _ (QF hn);have hy2:=hl.Wd _ (QF hm);have r1:PM .i64 (l[n].y-l[m].y):=ak;rw[We,aE ⟨h,h2⟩,bn hn,bn hm];apply sR;simp only[go_sem,seval,E',hidx2,dx,r1];exact au.same rfl
  .have We:decide (0<=k/\k<l.length)=false:=by simpa using h2
   rw[We,aF (λh=>h2 h.2)];apply sR;simp only[go_sem,seval];exact au.same rfl
 .have hd:decide (0<=i/\i<l.length)=false:=by simpa using h
  rw[hd,aF (λh'=>h h'.1)];apply sR;simp only[go_sem,seval];exact au.same rfl
open Go.Proofs
def fQ(b:List Sb)(i fit:Int):Prop:=vd b=true/\0<=i/\i<(b.length:Int)-1/\i<fit
instance (b:List Sb) (i fit:Int):Decidable (fQ b i fit):=by unfold fQ;infer_instance
def vx(b:List Sb)(i fit:Int):Int:=if lC b (i+1) fit<0 then ET b (i+1) fit else lC b (i+1) fit
def Lv(b:List Sb)(hb:b.length<=1000000)(i fit:Int):aP prog 123 [bR b,vI i,vI fit] (.PI [vI (if fQ b i fit then vx b i fit else 0),.bool (decide (fQ b i fit))]):=λU=>by
 refine NC.r (by simp[L6]) ?_;have W6:=BP b;have r0:PM .i64 ((b.length:Int)-1):=ak;refine ad.mix 8 ?_;apply sR;simp only[go_sem,seval,L6];refine ad.ay rfl rfl rfl (LB b hb _) ?_;have bad:¬fQ b i fit->au (.PI [vI 0,.bool false]) U λr Z'=>r=.PI [vI (if fQ b i fit then vx b i fit else 0),.bool (decide (fQ b i fit))]/\Z'=U:=λh=>au.same (by rw[aF h,Sz h]);generalize hX:(V.PI [vI (if fQ b i fit then vx b i fit else 0),.bool (decide (fQ b i fit))])=X at*;cases hm:vd b
 .have fin:=bad (λh=>by rw[h.1]at hm;cases hm);apply sR;simp only[go_sem,seval];exact fin
 by_cases h0:i<0
 .have q0:(i<0)=True:=PK h0;have fin:=bad (λh=>by have:=h.2.1;omega);apply sR;simp only[go_sem,seval,q0];exact fin
 have q0:(i<0)=False:=PG h0;by_cases h1:i>=(b.length:Int)-1
 .have q1:(i>=(b.length:Int)-1)=True:=PK h1;have fin:=bad (λh=>by have:=h.2.2.1;omega);apply sR;simp only[go_sem,seval,q0,W6,r0,q1];exact fin
 have q1:(i>=(b.length:Int)-1)=False:=PG h1;by_cases h2:fit<=i
 .have q2:(fit<=i)=True:=PK h2;have fin:=bad (λh=>by have:=h.2.2.2;omega);apply sR;simp only[go_sem,seval,q0,W6,r0,q1,q2];exact fin
 have q2:(fit<=i)=False:=PG h2;clear bad;have P4:fQ b i fit:=⟨hm,by omega,by omega,by omega⟩
 have r1:PM .i64 (i+1):=ak;rw[aE P4,SP P4]at hX;subst hX;apply sR;simp only[go_sem,seval,q0,W6,r0,q1,q2,r1];refine ad.ay rfl rfl rfl (H3 b hb (i+1) fit _) ?_;unfold vx;by_cases h3:lC b (i+1) fit<0
 .have q3:(lC b (i+1) fit<0)=True:=PK h3;rw[aE h3];apply sR;simp only[go_sem,seval,q3,r1];refine ad.ay rfl rfl rfl (KB b hb (i+1) fit _) ?_;apply sR;simp only[go_sem,seval];exact au.same rfl
 .have q3:(lC b (i+1) fit<0)=False:=PG h3;rw[aF h3];apply sR;simp only[go_sem,seval,q3];exact au.same rfl
open Go.Proofs
structure Q6 where
 (atom done:Int)
 free:Bool
def br(s:Q6):V:=.agg [vI s.atom,vI s.done,.bool s.free]
def tf(s:Q6)(l:List Qy):V:=.agg [vI s.atom,vI s.done,.bool s.free,bC l]
def dS(l:List Qy)(s:Q6):Prop:=(0<=s.atom/\s.atom<l.length)/\0<=s.done/\(s.done=0\/s.done<(Rx l s.atom).h)
instance (l:List Qy) (s:Q6):Decidable (dS l s):=by unfold dS;infer_instance
def BL(l:List Qy)(s:Q6):aP prog 120 [tf s l] (.bool (decide (dS l s))):=λU=>by
 refine Nz.r (by simp[LM]) ?_;have hs:=aa.refl U;have hl:=iV l;obtain⟨a,d,fr⟩:=s;refine ad.mix 3 ?_;apply sR;simp only[go_sem,seval,LM,tf,aA,aD];refine ae λi1 Z1 s1 a1 f1=>?_;have z1:=hs.none f1;replace hs:=hs.trans s1;by_cases h0:a>=0
 .have q0:(a>=0)=True:=PK h0;by_cases h1:a<l.length
  .have q1:(a<l.length)=True:=PK h1;obtain⟨n,rfl⟩:∃n:Nat,a=n:=⟨a.toNat,by omega⟩
   have hn:n<l.length:=by omega
   have E':=λU=>iD (U:=U) hn;have hg:=bn hn;by_cases h2:d>=0
   .have q2:(d>=0)=True:=PK h2;by_cases h3:d=0
    .have q3:(d=0)=True:=PK h3;simp only[go_sem,seval,a1,q0,q1,q2,q3,hl,aA,aD];have hh:dS l ⟨n,d,fr⟩:=⟨⟨h0,h1⟩,h2,.inl h3⟩
     exact au.pure hs (by rw[SP hh])
    .have q3:(d=0)=False:=PG h3;by_cases h4:d<l[n].h
     .have q4:(d<l[n].h)=True:=PK h4;simp only[go_sem,seval,a1,q0,q1,q2,q3,q4,hl,E',dx,aA,aD];have hh:dS l ⟨n,d,fr⟩:=⟨⟨h0,h1⟩,h2,.inr (by rw[hg];exact h4)⟩
      exact au.pure hs (by rw[SP hh])
     .have q4:(d<l[n].h)=False:=PG h4;simp only[go_sem,seval,a1,q0,q1,q2,q3,q4,hl,E',dx,aA,aD];exact au.pure hs (by rw[Sz (λh:dS l ⟨n,d,fr⟩=>by rcases h.2.2 with h|h;exact h3 h;rw[hg]at h;exact h4 h)])
   .have q2:(d>=0)=False:=PG h2;simp only[go_sem,seval,a1,q0,q1,q2,hl,aA,aD];exact au.pure hs (by rw[Sz (λh:dS l ⟨n,d,fr⟩=>h2 h.2.1)])
  .have q1:(a<l.length)=False:=PG h1;simp only[go_sem,seval,a1,q0,q1,hl,aA,aD];exact au.pure hs (by rw[Sz (λh:dS l ⟨a,d,fr⟩=>h1 h.1.2)])
 .have q0:(a>=0)=False:=PG h0;simp only[go_sem,seval,a1,q0,hl,aA,aD];exact au.pure hs (by rw[Sz (λh:dS l ⟨a,d,fr⟩=>h0 h.1.1)])
def pR(l:List Qy)(s:Q6):aP prog 118 [bC l,br s] (.bool (decide (dS l s))):=λU=>by
 refine N2.r (by simp[Kw]) ?_;have hs:=aa.refl U;have hc:=BL l s;obtain⟨a,d,fr⟩:=s;rw[tf]at hc;refine ad.mix 5 ?_;apply sR;simp only[go_sem,seval,Kw,br,aA,aD];refine ae λi3 Z3 s3 a3 f3=>?_;have z3:=hs.none f3;replace hs:=hs.trans s3;simp only[go_sem,seval,a3,aA,aD];refine ad.ay rfl rfl rfl (hc _) ?_;apply sR;simp only[go_sem,seval];exact au.pure hs rfl
def CB(l:List Qy)(hl:lQ l)(s:Q6)(h:dS l s)(hd:s.done<=1152921504606846976):aP prog 121 [tf s l] (vI ((Rx l s.atom).h-s.done)):=λU=>by
 refine ND.r (by simp[Lh]) ?_;have hs:=aa.refl U;obtain⟨a,d,fr⟩:=s;obtain⟨⟨h0,h1⟩,h2,h3⟩:=h;simp only at h0 h1 h2 h3 hd|-;obtain⟨n,rfl⟩:∃n:Nat,a=n:=⟨a.toNat,by omega⟩
 have hn:n<l.length:=by omega
 have E':=λU=>iD (U:=U) hn;have hy:=hl.Wd _ (QF hn);rw[bn hn];have r1:PM .i64 (l[n].h-d):=ak;refine ad.mix 3 ?_;apply sR;simp only[go_sem,seval,Lh,tf,aA,aD];refine ae λi1 Z1 s1 a1 f1=>?_;have z1:=hs.none f1;replace hs:=hs.trans s1;simp only[go_sem,seval,a1,E',r1,dx,aA,aD];exact au.pure hs rfl
def pE(l:List Qy)(s:Q6)(Qe:Int):Int:=if dS l s/\s.free=true/\s.done=0/\nH l s.atom+((Rx l s.atom).h-s.done)<=Qe then nH l s.atom else 0
def Gl{l:List Qy}(hl:lQ l)(k:Int):-3458764513820540928<=nH l k/\nH l k<=2305843009213693952:=by
 unfold nH;have hb:=rf hl (k-1);split
 .rename_i h;obtain⟨n,rfl⟩:∃n:Nat,k=n:=⟨k.toNat,by omega⟩
  have hn:n<l.length:=by omega
  rw[bn hn];have:=hl.Wd _ (QF hn);omega
 .omega
def Hs(l:List Qy)(hl:lQ l)(s:Q6)(Qe:Int):aP prog 122 [bC l,br s,vI Qe] (vI (pE l s Qe)):=λU=>by
 refine Nu.r (by simp[KA]) ?_;have hs:=aa.refl U;have hc:=BL l s;have Vu:=λh hd=>CB l hl s h hd;have Wp:=Gl hl s.atom;obtain⟨a,d,fr⟩:=s;rw[tf]at hc Vu;simp only at Wp Vu;refine ad.mix 9 ?_;apply sR;simp only[go_sem,seval,KA,br,aA,aD];refine ae λi4 Z4 s4 a4 f4=>?_;have z4:=hs.none f4;replace hs:=hs.trans s4;simp only[go_sem,seval,a4,aA,aD];refine ae λi7 Z7 s7 a7 f7=>?_;have n47:=ao a4 f7;replace a4:=s7 _ _ a4;have z7:=hs.none f7;replace hs:=hs.trans s7;simp only[go_sem,seval,a7,a4,aA,aD];refine ad.ay rfl rfl rfl (hc _) ?_;have bad:¬(dS l ⟨a,d,fr⟩/\fr=true/\d=0/\nH l a+((Rx l a).h-d)<=Qe)->pE l ⟨a,d,fr⟩ Qe=0:=λh=>aF h;by_cases hm:dS l ⟨a,d,fr⟩
 .rw[SP hm];cases fr
  .apply sR;simp only[go_sem,seval,a7,aA,aD];exact au.pure (hs.az z7) (by rw[bad (λh=>by cases h.2.1)])
  have Up:=hm.2.1;simp only at Up;by_cases hd:d>0
  .have q:(d>0)=True:=PK hd;apply sR;simp only[go_sem,seval,a7,q,aA,aD];exact au.pure (hs.az z7) (by rw[bad (λh=>by have:=h.2.2.1;omega)])
  .have q:(d>0)=False:=PG hd;obtain rfl:d=0:=by omega
   apply sR;simp only[go_sem,seval,a7,q,aA,aD];refine ad.ay rfl rfl rfl (Kf l hl a _) ?_;have hlf':=Vu hm (by omega);have hy:0<=(Rx l a).h/\(Rx l a).h<=1152921504606846976:=by
    obtain⟨h0,h1⟩:=hm.1;simp only at h0 h1;obtain⟨n,rfl⟩:∃n:Nat,a=n:=⟨a.toNat,by omega⟩
    have hn:n<l.length:=by omega
    rw[bn hn];exact(hl.Wd _ (QF hn)).2.2
   have r1:PM .i64 (nH l a+((Rx l a).h-0)):=ak;apply sR;simp only[go_sem,seval,a7,af,aA,aD];refine ad.ay rfl rfl rfl (hlf' _) ?_;by_cases h4:nH l a+((Rx l a).h-0)<=Qe
   .have q4:(nH l a+((Rx l a).h-0)<=Qe)=True:=PK h4;have hk:pE l ⟨a,0,true⟩ Qe=nH l a:=aE ⟨hm,rfl,rfl,h4⟩;rw[hk];apply sR;simp only[go_sem,seval,r1,q4];exact au.pure (hs.az z7) rfl
   .have q4:(nH l a+((Rx l a).h-0)<=Qe)=False:=PG h4;rw[bad (λh=>h4 h.2.2.2)];apply sR;simp only[go_sem,seval,r1,q4];exact au.pure (hs.az z7) rfl
 .rw[Sz hm];apply sR;simp only[go_sem,seval,a7,aA,aD];exact au.pure (hs.az z7) (by rw[bad (λh=>hm h.1)])
open Go.Proofs
def iP(l:List Qy)(s:Q6):Int:=if dS l s then(Rx l s.atom).h-s.done else 0
def Ib(l:List Qy)(hl:lQ l)(s:Q6)(hd:s.done<=1152921504606846976):aP prog 76 [bC l,br s] (vI (iP l s)):=λU=>by
 refine e76.r (by simp[c76]) ?_;have hs:=aa.refl U;have hc:=BL l s;have Vu:=λh=>CB l hl s h hd;unfold iP;obtain⟨a,d,fr⟩:=s;rw[tf]at hc Vu;refine ad.mix 6 ?_;apply sR;simp only[go_sem,seval,c76,br,aA,aD];refine ae λi3 Z3 s3 a3 f3=>?_;have z3:=hs.none f3;replace hs:=hs.trans s3;simp only[go_sem,seval,a3,aA,aD];refine ae λi5 Z5 s5 a5 f5=>?_;have Xp:=ao a3 f5;replace a3:=s5 _ _ a3;have z5:=hs.none f5;replace hs:=hs.trans s5;simp only[go_sem,seval,a5,a3,aA,aD];refine ad.ay rfl rfl rfl (hc _) ?_;by_cases hm:dS l ⟨a,d,fr⟩
 .rw[SP hm,aE hm];apply sR;simp only[go_sem,seval,a5,aA,aD];refine ad.ay rfl rfl rfl (Vu hm _) ?_;apply sR;simp only[go_sem,seval];exact au.pure (hs.az z5) rfl
 .rw[Sz hm,aF hm];apply sR;simp only[go_sem,seval];exact au.pure (hs.az z5) rfl
def dK(l:List Qy)(s:Q6)(kept shift k:Int):Int:=if dS l s/\s.atom<=k/\k<l.length then gx l s.atom k-s.done+kept+shift else 0
def rF{l:List Qy}(hl:lQ l)(i k:Int):-2305843009213693952<=gx l i k/\gx l i k<=2305843009213693952:=by
 unfold gx;split
 .rename_i h;obtain⟨n,rfl⟩:∃n:Nat,k=n:=⟨k.toNat,by omega⟩
  obtain⟨m,rfl⟩:∃m:Nat,i=m:=⟨i.toNat,by omega⟩
  have hn:n<l.length:=by omega
  have hm:m<l.length:=by omega
  rw[bn hn,bn hm];have h1:=hl.Wd _ (QF hn);have h2:=hl.Wd _ (QF hm);omega
 .omega
def yR(l:List Qy)(hl:lQ l)(s:Q6)(hd:s.done<=1152921504606846976)(kept shift k:Int)(hk:-1152921504606846976<=kept/\kept<=2305843009213693952)(Tp:0<=shift/\shift<=1152921504606846976):
 aP prog 175 [bC l,br s,vI kept,vI shift,vI k] (vI (dK l s kept shift k)):=λU=>by
 refine Nt.r (by simp[c175]) ?_;have hs:=aa.refl U;have hc:=pR l s;have hor:=rF hl s.atom k;have hlen:=iV l;have bad:¬(dS l s/\s.atom<=k/\k<l.length)->dK l s kept shift k=0:=λh=>aF h;have Wq:(dS l s/\s.atom<=k/\k<l.length)->dK l s kept shift k=gx l s.atom k-s.done+kept+shift:=λh=>aE h;generalize dK l s kept shift k=P at*;obtain⟨a,d,fr⟩:=s;rw[br]at hc;simp only at hor hd Wq bad;refine ad.mix 11 ?_;apply sR;simp only[go_sem,seval,c175,br,aA,aD];refine ae λi6 Z6 s6 a6 f6=>?_;have z6:=hs.none f6;replace hs:=hs.trans s6;simp only[go_sem,seval,a6,aA,aD];refine ad.ay rfl rfl rfl (hc _) ?_;by_cases hm:dS l ⟨a,d,fr⟩
 .rw[SP hm];by_cases h1:k<a
  .have q1:(k<a)=True:=PK h1;apply sR;simp only[go_sem,seval,a6,q1,aA,aD];exact au.pure hs (by rw[bad (λh=>by omega)])
  have q1:(k<a)=False:=PG h1;by_cases h2:k>=l.length
  .have q2:(k>=l.length)=True:=PK h2;apply sR;simp only[go_sem,seval,a6,q1,q2,hlen,aA,aD];exact au.pure hs (by rw[bad (λh=>by omega)])
  have q2:(k>=l.length)=False:=PG h2;rw[Wq ⟨hm,by omega,by omega⟩];have Up:=hm.2.1;simp only at Up;have r1:PM .i64 (gx l a k-d):=ak;have r2:PM .i64 (gx l a k-d+kept):=ak;have r3:PM .i64 (gx l a k-d+kept+shift):=ak;apply sR;simp only[go_sem,seval,a6,q1,q2,hlen,aA,aD];refine Go.cN rfl rfl rfl (Dl l hl a k) ?_;apply sG;simp only[go_sem,seval,a6,r1,r2,r3];exact au.pure hs rfl
 .rw[Sz hm];apply sR;simp only[go_sem,seval,a6,aA,aD];exact au.pure hs (by rw[bad (λh=>hm h.1)])
open Go.Proofs
def Iw{m:Int}(h1:0<=m)(h2:m<=18446744073709551615):PM .u64 m:=by
 unfold PM IntKind.wrap;simp only[IntKind.signed,IntKind.bits];simp;omega
def kz(p:Nat->Bool):Nat->Nat->Nat->Nat
 |0,i,_=>i
 |f+1,i,j=>if i<j then if p ((i+j)/2)then kz p f i ((i+j)/2)else kz p f ((i+j)/2+1) j else i
def BY(p:Nat->Bool)(n:Nat):Nat:=kz p n 0 n
def nk(p:Nat->Bool):∀(f g i j:Nat),j-i<=f->j-i<=g->kz p f i j=kz p g i j
 |0,0,_,_,_,_=>rfl
 |0,g+1,i,j,h,_=>by rw[kz,kz,aF (by omega)]
 |f+1,0,i,j,_,h=>by rw[kz,kz,aF (by omega)]
 |f+1,g+1,i,j,h1,h2=>by
  rw[kz,kz];split
  .rename_i C';split
   .exact nk p f g i ((i+j)/2) (by omega) (by omega)
   .exact nk p f g ((i+j)/2+1) j (by omega) (by omega)
  .rfl
def Gv{f:FuncId}{caps:List V}(p:Nat->Bool)(n:Nat)(hn:n<=1000000000){U:ag}(hf:∀i:Nat,i<n->aC prog f (vI i::caps) U λr Z'=>r=.bool (p i)/\Z'=U):
 aC prog 173 [vI n,.fn f caps] U λr Z'=>r=vI (BY p n)/\Z'=U:=by
 refine Oy.r (by simp[c173]) ?_;refine ad.mix 8 ?_;apply sR;simp only[go_sem,seval,c173];refine ad.loop (λm st=>∃i j:Nat,i<=j/\j<=n/\m=j-i/\BY p n=kz p (j-i) i j/\st.U=U/\st.s 1=.fn f caps/\st.s 5=vI i/\st.s 6=vI j) n ?_ ?_
 .exact⟨0,n,by omega,by omega,rfl,rfl,rfl,rfl,rfl,rfl⟩
 .rintro m ⟨S,J⟩ ⟨i,j,hij,hjn,rfl,heq,P3,t1,t5,t6⟩;simp only at P3 t1 t5 t6;subst P3;refine ad.mix 8 ?_;by_cases C':i<j
  .have q:((i:Int)<j)=True:=PK;have r1:PM .i64 ((i:Int)+j):=ak;apply sR;simp only[go_sem,seval,t1,t5,t6,q,r1];have hh:((i:Int)+j).fdiv (2^min 1 64)=(((i+j)/2:Nat):Int):=by
    rw[show(2^min 1 64:Int)=2 from rfl,Int.fdiv_eq_ediv_of_nonneg _ (by decide)];omega
   rw[hh];refine⟨Iw (by omega) (by omega),ak,?_⟩;obtain⟨k,hk⟩:∃k:Nat,k=(i+j)/2:=⟨_,rfl⟩
   rw[<-hk];obtain⟨w,hw⟩:∃w:Nat,j-i=w+1:=⟨j-i-1,by omega⟩
   rw[hw,kz,aE C',<-hk]at heq;refine ad.ay rfl rfl rfl (hf k (by omega)) ?_;have r2:PM .i64 ((k:Int)+1):=ak;cases hp:p k
   .rw[hp]at heq;apply sR;simp only[go_sem,seval,t1,t5,t6,r2];refine⟨_,?_,k+1,j,by omega,hjn,rfl,?_,by simp[t1,t6]⟩
    .omega
    .rw[heq];exact nk p _ _ _ _ (by omega) (by omega)
   .rw[hp]at heq;apply sR;simp only[go_sem,seval,t1,t5,t6];refine⟨_,?_,i,k,by omega,by omega,rfl,?_,by simp[t1,t5]⟩
    .omega
    .rw[heq];exact nk p _ _ _ _ (by omega) (by omega)
  .have q:((i:Int)<j)=False:=PG;have Sh:i=j:=by omega
   subst Sh;apply sR;simp only[go_sem,seval,t1,t5,t6,q];refine au.same ?_;rw[heq,Nat.sub_self];rfl
open Go.Proofs
def fo(l:List Qy)(s:Q6)(kept shift body:Int)(n:Nat):Bool:=decide (dK l s kept shift (s.atom+n)+(Rx l (s.atom+n)).h>body)
def lX(l:List Qy)(s:Q6)(kept shift body:Int):Int:=if dS l s then s.atom+BY (fo l s kept shift body) (l.length-s.atom.toNat)else 0
def yg(p:Nat->Bool):∀(f i j:Nat),i<=j->kz p f i j<=j
 |0,i,j,h=>h
 |f+1,i,j,h=>by
  rw[kz];split
  .split
   .exact iq (yg p f _ _ (by omega)) (by omega)
   .exact yg p f _ _ (by omega)
  .exact h
def Co(p:Nat->Bool)(n:Nat):BY p n<=n:=yg p n 0 n (Nat.zero_le n)
def oK{l:List Qy}(hl:lQ l){s:Q6}(hd:s.done<=1152921504606846976){kept shift:Int}(hk:-1152921504606846976<=kept/\kept<=2305843009213693952)(Tp:0<=shift/\shift<=1152921504606846976)(k:Int):
 -4611686018427387904<=dK l s kept shift k/\dK l s kept shift k<=5764607523034234880:=by
 unfold dK;have h1:=rF hl s.atom k;split
 .rename_i h;have:=h.1.2.1;omega
 .omega
def E9(l:List Qy)(hl:lQ l)(s:Q6)(hm:dS l s)(hd:s.done<=1152921504606846976)(kept shift body:Int)(hk:-1152921504606846976<=kept/\kept<=2305843009213693952)(Tp:0<=shift/\shift<=1152921504606846976)
 {U:ag}{i5 i6 i7 i8 i9:Nat}(a5:U i5=some ⟨33,1,[bC l]⟩)(a6:U i6=some ⟨112,3,[br s]⟩)(a7:U i7=some ⟨3,1,[vI kept]⟩)(a8:U i8=some ⟨3,1,[vI shift]⟩)(a9:U i9=some ⟨3,1,[vI body]⟩)
 (n:Nat)(hn:n<l.length-s.atom.toNat):
 aC prog 174 [vI n,.ptr i6 0 0,.ptr i5 0 0,.ptr i7 0 0,.ptr i8 0 0,.ptr i9 0 0] U λr Z'=>r=.bool (fo l s kept shift body n)/\Z'=U:=by
 refine O6.r (by simp[IB]) ?_;have Zg:=oK hl hd hk Tp (s.atom+n);have Ru:=yR l hl s hd kept shift (s.atom+n) hk Tp;unfold fo;have Tu:=hl.len;obtain⟨a,d,fr⟩:=s;obtain⟨h0,h1⟩:=hm.1;rw[br]at a6 Ru;simp only at h0 h1 hn Zg Ru|-;obtain⟨m,rfl⟩:∃m:Nat,a=m:=⟨a.toNat,by omega⟩
 have e1:(m:Int)+(n:Int)=((m+n:Nat):Int):=by omega
 rw[e1]at Zg Ru|-;have hmn:m+n<l.length:=by omega
 have E':=λU=>iD (U:=U) hmn;have hy:=hl.Wd _ (QF hmn);rw[bn hmn];have r1:PM .i64 ((m+n:Nat):Int):=ak;generalize dK l ⟨m,d,fr⟩ kept shift ((m+n:Nat):Int)=P at*;have r2:PM .i64 (P+l[m+n].h):=ak;generalize m+n=q at*;refine ad.mix 9 ?_;by_cases hb:P+l[q].h>body
 .have q1:(P+l[q].h>body)=True:=PK hb;apply sR;simp only[go_sem,seval,IB,a5,a6,a7,a8,a9,e1,r1,aA,aD];refine Go.cN rfl rfl rfl Ru ?_;apply sG;simp only[go_sem,seval,a5,a6,a7,a8,a9,r2,E',dx,q1,aA,aD];exact au.same rfl
 .have q1:(P+l[q].h>body)=False:=PG hb;apply sR;simp only[go_sem,seval,IB,a5,a6,a7,a8,a9,e1,r1,aA,aD];refine Go.cN rfl rfl rfl Ru ?_;apply sG;simp only[go_sem,seval,a5,a6,a7,a8,a9,r2,E',dx,q1,aA,aD];exact au.same rfl
def F5(l:List Qy)(hl:lQ l)(s:Q6)(hd:s.done<=1152921504606846976)(kept shift body:Int)(hk:-1152921504606846976<=kept/\kept<=2305843009213693952)(Tp:0<=shift/\shift<=1152921504606846976):
 aP prog 124 [bC l,br s,vI kept,vI shift,vI body] (vI (lX l s kept shift body)):=λU=>by
 refine Pk.r (by simp[c124]) ?_;have hs:=aa.refl U;have hc:=pR l s;have hlen:=iV l;have Tu:=hl.len;refine ad.mix 12 ?_;have Sv:(br s).cells=[vI s.atom,vI s.done,.bool s.free]:=rfl;have Tv:(br s).stays=true:=rfl;apply sR;simp only[go_sem,seval,c124,Sv,Tv,aA,aD];refine ae λi5 Z5 s5 a5 f5=>?_;have z5:=hs.none f5;replace hs:=hs.trans s5;simp only[go_sem,seval,Sv,Tv,aA,aD];refine ae λi6 Z6 s6 a6 f6=>?_;have n56:=ao a5 f6;replace a5:=s6 _ _ a5;have z6:=hs.none f6;replace hs:=hs.trans s6;simp only[go_sem,seval,Sv,Tv,aA,aD];refine ae λi7 Z7 s7 a7 f7=>?_;have n57:=ao a5 f7;replace a5:=s7 _ _ a5;have UF:=ao a6 f7;replace a6:=s7 _ _ a6;have z7:=hs.none f7;replace hs:=hs.trans s7;simp only[go_sem,seval,Sv,Tv,aA,aD];refine ae λi8 Z8 s8 a8 f8=>?_;have n58:=ao a5 f8;replace a5:=s8 _ _ a5;have n68:=ao a6 f8;replace a6:=s8 _ _ a6;have V8:=ao a7 f8;replace a7:=s8 _ _ a7;have z8:=hs.none f8;replace hs:=hs.trans s8;simp only[go_sem,seval,Sv,Tv,aA,aD];refine ae λi9 Z9 s9 a9 f9=>?_;have n59:=ao a5 f9;replace a5:=s9 _ _ a5;have YR:=ao a6 f9;replace a6:=s9 _ _ a6;have n79:=ao a7 f9;replace a7:=s9 _ _ a7;have Wu:=ao a8 f9;replace a8:=s9 _ _ a8;have z9:=hs.none f9;replace hs:=hs.trans s9;have b6:=a6;rw[br]at b6;simp only[go_sem,seval,a5,b6,aA,aD];refine ad.ay rfl rfl rfl (hc _) ?_;unfold lX;by_cases hm:dS l s
 .obtain⟨h0,h1⟩:=hm.1;obtain⟨m,hmm⟩:∃m:Nat,s.atom=m:=⟨s.atom.toNat,by omega⟩
  have hn:((l.length:Int)-s.atom)=((l.length-s.atom.toNat:Nat):Int):=by omega
  have r1:PM .i64 ((l.length-s.atom.toNat:Nat):Int):=ak;rw[SP hm,aE hm];apply sR;simp only[go_sem,seval,a5,b6,hlen,hn,r1,aA,aD];refine ad.ay rfl rfl rfl (Gv (fo l s kept shift body) (l.length-s.atom.toNat) (by omega) (λi hi=>E9 l hl s hm hd kept shift body hk Tp a5 a6 a7 a8 a9 i hi)) ?_;have hse:=Co (fo l s kept shift body) (l.length-s.atom.toNat);have r2:PM .i64 (s.atom+(BY (fo l s kept shift body) (l.length-s.atom.toNat):Nat)):=ak;apply sR;simp only[go_sem,seval,b6,r2];exact au.pure hs rfl
 .rw[Sz hm,aF hm];apply sR;simp only[go_sem,seval];exact au.pure hs rfl
open Go.Proofs
structure Qk where
 (node atom fr x y w h:Int)
deriving DecidableEq
def aZ(f:Qk):V:=.agg [vI f.node,vI f.atom,vI f.fr,vI f.x,vI f.y,vI f.w,vI f.h]
def gb(l:List Qy)(k:Int):Qk:=⟨(Rx l k).node,k,0,(Rx l k).x,0,(Rx l k).w,(Rx l k).h⟩
def Qk.bQ(f:Qk)(d:Int):Qk:={ f with fr:=d,h:=f.h-d }
def Qk.cut(f:Qk)(a:Int):Qk:={ f with h:=min f.h a }
def jZ(l:List Qy)(f:Qk):Q6:=if f.fr+f.h<(Rx l f.atom).h then⟨f.atom,f.fr+f.h,false⟩else⟨f.atom+1,0,false⟩
def Gt(l:List Qy)(k:Nat)(hk:k<l.length):aP prog 221 [bC l,vI k] (aZ (gb l k)):=λU=>by
 refine NJ.r (by simp[LP]) ?_;have hs:=aa.refl U;have E':=λU=>iD (U:=U) hk;rw[gb,bn hk];refine ad.mix 6 ?_;apply sR;simp only[go_sem,seval,LP];refine ae λi4 Z4 s4 a4 f4=>?_;have z4:=hs.none f4;replace hs:=hs.trans s4;simp only[go_sem,seval,E',dx,aA,aD];refine ae λi5 Z5 s5 a5 f5=>?_;have R0:=ao a4 f5;replace a4:=s5 _ _ a4;have z5:=hs.none f5;replace hs:=hs.trans s5;simp only[go_sem,seval,a5,a4,ab R0,aA,aD];exact au.pure ((hs.az z5).az z4) rfl
def AW(f:Qk)(d:Int)(hr:PM .i64 (f.h-d)){U:ag}{i:Nat}(h:U i=some ⟨338,7,[aZ f]⟩):
 aC prog 222 [.ptr i 0 0,vI d] U λ_ Z'=>Z'=u' U i ⟨338,7,[aZ (f.bQ d)]⟩:=by
 refine OJ.r (by simp[c222]) ?_;rw[aZ]at h;refine ad.mix 4 ?_;generalize hX:(u' U i ⟨338,7,[aZ (f.bQ d)]⟩)=X;apply sR;simp only[go_sem,seval,c222,h,hr];exact⟨_,_,aa.refl _,Wk.refl (aa.refl _) _,hX⟩
def Ia(f:Qk)(a:Int){U:ag}{i:Nat}(h:U i=some ⟨338,7,[aZ f]⟩):
 aC prog 223 [.ptr i 0 0,vI a] U λ_ Z'=>Z'=u' U i ⟨338,7,[aZ (f.cut a)]⟩:=by
 refine NW.r (by simp[K5]) ?_;rw[aZ]at h;refine ad.mix 4 ?_;generalize hX:(u' U i ⟨338,7,[aZ (f.cut a)]⟩)=X;apply sR;simp only[go_sem,seval,K5,h,eW];exact⟨_,_,aa.refl _,Wk.refl (aa.refl _) _,hX⟩
def Bb(l:List Qy)(f:Qk)(k:Nat)(hf:f.atom=k)(hk:k<l.length)(hl:l.length<=1000000000)(hr:PM .i64 (f.fr+f.h)){U:ag}{i:Nat}(h:U i=some ⟨338,7,[aZ f]⟩):
 aC prog 224 [.ptr i 0 0,bC l] U λr Z'=>r=br (jZ l f)/\Z'=U:=by
 refine N6.r (by simp[JS]) ?_;have hs:=aa.refl U;have E':=λU=>iD (U:=U) hk;obtain⟨nd,at',fr,x,y,w,hh⟩:=f;simp only at hf hr;subst hf;rw[aZ]at h;unfold jZ;simp only;rw[bn hk];have r1:PM .i64 ((k:Int)+1):=ak;refine ad.mix 6 ?_;apply sR;simp only[go_sem,seval,JS];refine ae λi4 Z4 s4 a4 f4=>?_;have z4:=hs.none f4;replace hs:=hs.trans s4;have b:=s4 _ _ h;have n4:i≠i4:=ao h f4;by_cases hc:fr+hh<l[k].h
 .have q:(fr+hh<l[k].h)=True:=PK hc;rw[aE hc];simp only[go_sem,seval,a4,b,hr,r1,q,E',dx];exact au.pure (hs.az z4) rfl
 .have q:(fr+hh<l[k].h)=False:=PG hc;rw[aF hc];simp only[go_sem,seval,a4,b,hr,r1,q,E',dx];exact au.pure (hs.az z4) rfl
open Go.Proofs
def kE{s:Nat->V}{U:ag}{a1 a2:Bool}{n1 n2 d e:Nat}{Post:V->ag->Prop}:
 UK [.cell a1 n1 (.t d),.cell a2 n2 (.t e)] ⟨s,U⟩ Post=dP (bT U a1 n1 (s d)) λv=>dP (bT U a2 n2 (s e)) λw=>au (.PI [v,w]) U Post:=by
 unfold UK au tu;simp only[gQ,iW,VX.ev];cases bT U a1 n1 (s d)<;>cases bT U a2 n2 (s e)<;>simp[dP]
def fE(l:List Qy)(s:Q6)(Qe:Int):Qk:=((gb l s.atom).bQ s.done).cut Qe
def qj(l:List Qy)(s:Q6)(Qe:Int):Prop:=dS l s/\1<=Qe
instance (l:List Qy) (s:Q6) (Qe:Int):Decidable (qj l s Qe):=by unfold qj;infer_instance
def jD(l:List Qy)(s:Q6)(Qe:Int):Qk:=if qj l s Qe then fE l s Qe else⟨0,0,0,0,0,0,0⟩
def eX(l:List Qy)(s:Q6)(Qe:Int):Q6:=if qj l s Qe then jZ l (fE l s Qe)else⟨0,0,false⟩
def LX(l:List Qy)(hl:lQ l)(s:Q6)(hd:s.done<=1152921504606846976)(Qe:Int):aP prog 176 [bC l,br s,vI Qe] (.PI [aZ (jD l s Qe),br (eX l s Qe)]):=λU=>by
 refine Ot.r (by simp[LV]) ?_;have hs:=aa.refl U;have Tu:=hl.len;have Sv:(br s).cells=[vI s.atom,vI s.done,.bool s.free]:=rfl;have Tv:(br s).stays=true:=rfl;refine ad.mix 9 ?_;apply sR;simp only[go_sem,seval,LV,Sv,Tv,aA,aD];refine ae λi4 Z4 s4 a4 f4=>?_;have z4:=hs.none f4;replace hs:=hs.trans s4;simp only[go_sem,seval];refine ae λi6 Z6 s6 a6 f6=>?_;have n46:=ao a4 f6;replace a4:=s6 _ _ a4;have z6:=hs.none f6;replace hs:=hs.trans s6;simp only[go_sem,seval];refine ae λi7 Z7 s7 a7 f7=>?_;have n47:=ao a4 f7;replace a4:=s7 _ _ a4;have UF:=ao a6 f7;replace a6:=s7 _ _ a6;have z7:=hs.none f7;replace hs:=hs.trans s7;have b4:=a4;rw[br]at b4;simp only[go_sem,seval,b4,aA,aD];refine ad.ay rfl rfl rfl (pR l s _) ?_;have bad:¬qj l s Qe->(aZ (jD l s Qe)=.agg [vI 0,vI 0,vI 0,vI 0,vI 0,vI 0,vI 0]/\br (eX l s Qe)=.agg [vI 0,vI 0,.bool false]):=λh=>by
  rw[jD,eX,aF h,aF h];exact⟨rfl,rfl⟩
 have Wq:qj l s Qe->(jD l s Qe=fE l s Qe/\eX l s Qe=jZ l (fE l s Qe)):=λh=>⟨aE h,aE h⟩
 generalize jD l s Qe=X at*;generalize eX l s Qe=Y at*;by_cases hm:dS l s
 .rw[SP hm];by_cases h1:Qe<1
  .have q1:(Qe<1)=True:=PK h1;obtain⟨e1,e2⟩:=bad (λh=>by have:=h.2;omega);rw[e1,e2];apply sR;simp only[go_sem,seval,a6,a7,ab UF,ab UF.symm,q1,kE];exact au.pure ((hs.az z6).az z7) rfl
  have q1:(Qe<1)=False:=PG h1;obtain⟨rfl,rfl⟩:=Wq ⟨hm,by omega⟩;clear Wq bad;obtain⟨h0,h2⟩:=hm.1;obtain⟨k,hk⟩:∃k:Nat,s.atom=k:=⟨s.atom.toNat,by omega⟩
  have RG:k<l.length:=by omega
  apply sR;simp only[go_sem,seval,b4,hk,q1,aA,aD];refine ad.ay rfl rfl rfl (Gt l k RG _) ?_;have TL:∀f,(aZ f).cells=[vI f.node,vI f.atom,vI f.fr,vI f.x,vI f.y,vI f.w,vI f.h]:=λ_=>rfl;apply sR;simp only[go_sem,seval];refine ae λi8 Z8 s8 a8 f8=>?_;have n48:=ao a4 f8;replace a4:=s8 _ _ a4;have n68:=ao a6 f8;replace a6:=s8 _ _ a6;have V8:=ao a7 f8;replace a7:=s8 _ _ a7;have z8:=hs.none f8;replace hs:=hs.trans s8;have Up:=hm.2.1;have hy:=hl.Wd _ (QF RG);have hdh:s.done=0\/s.done<l[k].h:=by have:=hm.2.2;rw[hk,bn RG]at this;exact this
  have hph:(gb l k).h=l[k].h:=by rw[gb,bn RG]
  have Rr:∀f,(aZ f).stays=true:=λ_=>rfl;rw[br]at a4;simp only[go_sem,seval,a8,a4,ab n48,TL,Rr];generalize RA:u' _ i8 _=Y8;replace a8:=(congrFun RA i8).symm.trans af;replace a4:=((congrFun RA i4).symm.trans (ab n48)).trans a4;replace a6:=((congrFun RA i6).symm.trans (ab n68)).trans a6;replace a7:=((congrFun RA i7).symm.trans (ab V8)).trans a7;replace hs:=Eq.subst (motive:=aa _) RA (hs.az z8);clear RA;have h8:Y8 i8=some ⟨338,7,[aZ (gb l k)]⟩:=a8;refine ad.call rfl rfl rfl (AW (gb l k) s.done (ak) h8) ?_;rintro-Z9 rfl;generalize RA:u' _ i8 _=Y8;replace a8:=(congrFun RA i8).symm.trans af;replace a4:=((congrFun RA i4).symm.trans (ab n48)).trans a4;replace a6:=((congrFun RA i6).symm.trans (ab n68)).trans a6;replace a7:=((congrFun RA i7).symm.trans (ab V8)).trans a7;replace hs:=Eq.subst (motive:=aa _) RA (hs.az z8);clear RA;apply sR;simp only[go_sem,seval];refine ad.call rfl rfl rfl (Ia ((gb l k).bQ s.done) Qe a8) ?_;rintro-Z9 rfl;generalize RA:u' _ i8 _=Y8;replace a8:=(congrFun RA i8).symm.trans af;replace a4:=((congrFun RA i4).symm.trans (ab n48)).trans a4;replace a6:=((congrFun RA i6).symm.trans (ab n68)).trans a6;replace a7:=((congrFun RA i7).symm.trans (ab V8)).trans a7;replace hs:=Eq.subst (motive:=aa _) RA (hs.az z8);clear RA;have Ty:((gb l k).bQ s.done).cut Qe=fE l s Qe:=by rw[fE,hk]
  rw[Ty]at a8;have ha:(fE l s Qe).atom=k:=by rw[<-Ty];rfl
  have SC:(fE l s Qe).fr=s.done:=by rw[<-Ty];rfl
  have hhh:(fE l s Qe).h=min (l[k].h-s.done) Qe:=by rw[<-Ty,<-hph];rfl
  have Xr:=λ(Z1:ag) (h1:aa Y8 Z1)=>Bb l (fE l s Qe) k ha RG Tu (ak) (h1 _ _ a8);generalize jZ l (fE l s Qe)=Y at*;generalize fE l s Qe=X at*;have b8:=a8;rw[aZ]at b8;apply sR;simp only[go_sem,seval,b8];refine Go.xu rfl rfl rfl (λZ1 h1=>Xr Z1 h1) ?_;have hyc:(br Y).cells=[vI Y.atom,vI Y.done,.bool Y.free]:=rfl;have hys:(br Y).stays=true:=rfl;apply sG;simp only[go_sem,seval,a6,a7,ab UF,ab UF.symm,hyc,hys,kE];exact au.pure ((hs.az z6).az z7) rfl
 .rw[Sz hm];obtain⟨e1,e2⟩:=bad (λh=>hm h.1);rw[e1,e2];apply sR;simp only[go_sem,seval,a6,a7,ab UF,ab UF.symm,kE];exact au.pure ((hs.az z6).az z7) rfl
open Go.Proofs
def lM(l:List Qy)(k:Int)(y:Int):Qk:={ gb l k with y:=y }
def dC(l:List Qy)(s:Q6)(kept shift k:Int):Qk:=
 if dS l s/\s.atom<=k/\k<l.length then
  (if k=s.atom then{ (lM l k (dK l s kept shift k)).bQ s.done with y:=dK l s kept shift k+s.done }else lM l k (dK l s kept shift k))
 else⟨0,0,0,0,0,0,0⟩
def Eo(l:List Qy)(hl:lQ l)(s:Q6)(hd:s.done<=1152921504606846976)(kept shift k:Int)(hk:-1152921504606846976<=kept/\kept<=2305843009213693952)(Tp:0<=shift/\shift<=1152921504606846976):
 aP prog 178 [bC l,br s,vI kept,vI shift,vI k] (aZ (dC l s kept shift k)):=λU=>by
 refine OK.r (by simp[LN]) ?_;have hs:=aa.refl U;have hlen:=iV l;have Sv:(br s).cells=[vI s.atom,vI s.done,.bool s.free]:=rfl;have Tv:(br s).stays=true:=rfl;have Ru:=yR l hl s hd kept shift k hk Tp;have Zg:=oK hl hd hk Tp k;refine ad.mix 12 ?_;apply sR;simp only[go_sem,seval,LN,Sv,Tv,aA,aD];refine ae λi6 Z6 s6 a6 f6=>?_;have z6:=hs.none f6;replace hs:=hs.trans s6;simp only[go_sem,seval];refine ae λi10 V7 Sj Qq f10=>?_;have Zb:=ao a6 f10;replace a6:=Sj _ _ a6;have UO:=hs.none f10;replace hs:=hs.trans Sj;rw[br]at a6 Ru;simp only[go_sem,seval,a6,aA,aD];refine ad.ay rfl rfl rfl (pR l s _) ?_;have bad:¬(dS l s/\s.atom<=k/\k<l.length)->aZ (dC l s kept shift k)=.agg [vI 0,vI 0,vI 0,vI 0,vI 0,vI 0,vI 0]:=λh=>by
  rw[dC,aF h];rfl
 have Wq:(dS l s/\s.atom<=k/\k<l.length)->dC l s kept shift k=(if k=s.atom then{ (lM l k (dK l s kept shift k)).bQ s.done with y:=dK l s kept shift k+s.done }else lM l k (dK l s kept shift k)):=λh=>aE h;generalize dC l s kept shift k=X at*;by_cases hm:dS l s
 .rw[SP hm];by_cases h1:k<s.atom
  .have q1:(k<s.atom)=True:=PK h1;rw[bad (λh=>by omega)];apply sR;simp only[go_sem,seval,a6,Qq,q1,aA,aD];exact au.pure (hs.az UO) rfl
  have q1:(k<s.atom)=False:=PG h1;by_cases h2:k>=l.length
  .have q2:(k>=l.length)=True:=PK h2;rw[bad (λh=>by omega)];apply sR;simp only[go_sem,seval,a6,Qq,q1,q2,hlen,aA,aD];exact au.pure (hs.az UO) rfl
  have q2:(k>=l.length)=False:=PG h2;obtain rfl:=Wq ⟨hm,by omega,by omega⟩;clear Wq bad;obtain⟨h0,h3⟩:=hm.1;obtain⟨n,rfl⟩:∃n:Nat,k=n:=⟨k.toNat,by omega⟩
  have TA:n<l.length:=by omega
  apply sR;simp only[go_sem,seval,a6,q1,q2,hlen,aA,aD];refine ad.ay rfl rfl rfl (Gt l n TA _) ?_;have TL:∀f,(aZ f).cells=[vI f.node,vI f.atom,vI f.fr,vI f.x,vI f.y,vI f.w,vI f.h]:=λ_=>rfl;have Rr:∀f,(aZ f).stays=true:=λ_=>rfl;generalize dK l s kept shift (n:Int)=P at*;apply sR;simp only[go_sem,seval,TL,Rr];refine ae λi11 Xq TK Qt f11=>?_;have SJ:=ao a6 f11;replace a6:=TK _ _ a6;have Q5:=ao Qq f11;replace Qq:=TK _ _ Qq;have Wv:=hs.none f11;replace hs:=hs.trans TK;simp only[go_sem,seval,Qt,a6,ab (Ne.symm SJ),ab SJ,TL,Rr,aA,aD];generalize QZ:u' _ i11 _=Y11;replace Qt:=(congrFun QZ i11).symm.trans af;replace a6:=((congrFun QZ i6).symm.trans (ab SJ)).trans a6;replace Qq:=((congrFun QZ i10).symm.trans (ab Q5)).trans Qq;replace hs:=Eq.subst (motive:=aa _) QZ (hs.az Wv);clear QZ;refine ad.ay rfl rfl rfl (Ru _) ?_;rw[aZ]at Qt;have Up:=hm.2.1;have hy:=hl.Wd _ (QF TA);have hph:(gb l n).h=l[n].h:=by rw[gb,bn TA]
  by_cases he:(n:Int)=s.atom
  .have q3:((n:Int)=s.atom)=True:=PK he;rw[aE he];have r2:PM .i64 (P+s.done):=ak;apply sR;simp only[go_sem,seval,Qt,a6,q3,aA,aD,ab SJ];generalize QZ:u' _ i11 _=Y11;replace Qt:=(congrFun QZ i11).symm.trans af;replace a6:=((congrFun QZ i6).symm.trans (ab SJ)).trans a6;replace Qq:=((congrFun QZ i10).symm.trans (ab Q5)).trans Qq;replace hs:=Eq.subst (motive:=aa _) QZ (hs.az Wv);clear QZ;have Uo:Y11 i11=some ⟨338,7,[aZ (lM l n P)]⟩:=Qt;refine ad.call rfl rfl rfl (AW (lM l n P) s.done (ak (by show _<=(gb l n).h-s.done;omega) (by show(gb l n).h-s.done<=_;omega)) Uo) ?_;rintro-Z9 rfl;generalize QZ:u' _ i11 _=Y11;replace Qt:=(congrFun QZ i11).symm.trans af;replace a6:=((congrFun QZ i6).symm.trans (ab SJ)).trans a6;replace Qq:=((congrFun QZ i10).symm.trans (ab Q5)).trans Qq;replace hs:=Eq.subst (motive:=aa _) QZ (hs.az Wv);clear QZ;rw[aZ]at Qt;have r3:PM .i64 (((lM l n P).bQ s.done).y+s.done):=r2;apply sR;simp only[go_sem,seval,Qt,a6,Qq,r3,ab SJ,ab Q5];exact au.pure ((hs.az Wv).az UO) rfl
  .have q3:((n:Int)=s.atom)=False:=PG he;rw[aF he];apply sR;simp only[go_sem,seval,Qt,a6,Qq,q3,aA,aD,ab SJ,ab Q5];exact au.pure ((hs.az Wv).az UO) rfl
 .rw[Sz hm];rw[bad (λh=>hm h.1)];apply sR;simp only[go_sem,seval,Qq];exact au.pure (hs.az UO) rfl
open Go.Proofs
def mulR(a n:Int):Int:=
 if bz n≠0/\(bz a>(1099511627776:Int).tdiv (max (bz n) (-bz n))\/bz a<(-1099511627776:Int).tdiv (max (bz n) (-bz n)))then
  (if decide (bz a<0)=decide (bz n<0)then 1099511627776 else -1099511627776)
 else bz a*bz n
def Hp{A B:Int}(h1:A<=(1099511627776:Int).tdiv (max B (-B)))(h2:(-1099511627776:Int).tdiv (max B (-B))<=A)(hB:B≠0):-1099511627776<=A*B/\A*B<=1099511627776:=by
 obtain⟨M,hM⟩:∃M,M=max B (-B):=⟨_,rfl⟩
 rw[<-hM]at h1 h2;have hM1:1<=M:=by omega
 rw[Int.neg_tdiv]at h2;rw[Int.tdiv_eq_ediv_of_nonneg (by omega)]at h1 h2;have h3:(1099511627776:Int)/M*M<=1099511627776:=Int.ediv_mul_le _ (by omega);have h4:=Int.mul_le_mul_of_nonneg_right h1 (by omega:0<=M);have h5:=Int.mul_le_mul_of_nonneg_right h2 (by omega:0<=M);rw[Int.neg_mul]at h5;rcases(by omega:M=B\/M=-B)with e|e
 .rw[e]at h4 h5 h3;omega
 .have hb:B=-M:=by omega
  rw[hb,Int.mul_neg];omega
def Nf(a n:Int):aP prog 30 [vI a,vI n] (vI (mulR a n)):=λU=>by
 refine e30.r (by simp[c30]) ?_;refine ad.mix 5 ?_;apply sR;simp only[go_sem,seval,c30];refine ad.ay rfl rfl rfl (iO a _) ?_;apply sR;simp only[go_sem,seval];refine ad.ay rfl rfl rfl (iO n _) ?_;unfold mulR;have hA:-1099511627776<=bz a/\bz a<=1099511627776:=by unfold bz;omega
 have hB:-1099511627776<=bz n/\bz n<=1099511627776:=by unfold bz;omega
 generalize bz a=A at*;generalize bz n=B at*;have b1:(true==true)=true:=rfl;have b2:(true==false)=false:=rfl;have b3:(false==true)=false:=rfl;have b4:(false==false)=true:=rfl;by_cases h0:B=0
 .subst h0;have q0:((0:Int)≠0)=False:=PG (λh=>h rfl);have r1:PM .i64 (A*0):=ak;apply sR;simp only[go_sem,seval,q0,r1];exact au.same (by rw[aF (by simp)])
 have q0:(B≠0)=True:=PK h0;have hM1:1<=max B (-B)/\max B (-B)<=1099511627776:=by omega
 have qM:(max B (-B)=0)=False:=PG;have rn:PM .i64 (-B):=ak;have t1:0<=(1099511627776:Int).tdiv (max B (-B))/\(1099511627776:Int).tdiv (max B (-B))<=1099511627776:=by
  rw[Int.tdiv_eq_ediv_of_nonneg (by omega)];exact⟨Int.ediv_nonneg (by omega) (by omega),Int.ediv_le_self _ (by omega)⟩
 have t2:(-1099511627776:Int).tdiv (max B (-B))=-((1099511627776:Int).tdiv (max B (-B))):=Int.neg_tdiv ..;have hr:=Hp (A:=A) (B:=B);have rq1:PM .i64 ((1099511627776:Int).tdiv (max B (-B))):=ak;have rq2:PM .i64 ((-1099511627776:Int).tdiv (max B (-B))):=ak;by_cases h1:A>(1099511627776:Int).tdiv (max B (-B))
 .have q1:(A>(1099511627776:Int).tdiv (max B (-B)))=True:=PK h1;rw[aE ⟨h0,.inl h1⟩];by_cases sA:A<0
  .have qA:(A<0)=True:=PK sA;by_cases sB:B<0
   .have qB:(B<0)=True:=PK sB;apply sR;simp only[go_sem,seval,q0,Int.zero_sub,rn,dd,qM,rq1,q1,qA,qB,b1,b2,b3,b4];exact au.same (by first|rfl|simp[sA,sB])
   .have qB:(B<0)=False:=PG sB;apply sR;simp only[go_sem,seval,q0,Int.zero_sub,rn,dd,qM,rq1,q1,qA,qB,b1,b2,b3,b4];exact au.same (by first|rfl|simp[sA,sB])
  .have qA:(A<0)=False:=PG sA;by_cases sB:B<0
   .have qB:(B<0)=True:=PK sB;apply sR;simp only[go_sem,seval,q0,Int.zero_sub,rn,dd,qM,rq1,q1,qA,qB,b1,b2,b3,b4];exact au.same (by first|rfl|simp[sA,sB])
   .have qB:(B<0)=False:=PG sB;apply sR;simp only[go_sem,seval,q0,Int.zero_sub,rn,dd,qM,rq1,q1,qA,qB,b1,b2,b3,b4];exact au.same (by first|rfl|simp[sA,sB])
 have q1:(A>(1099511627776:Int).tdiv (max B (-B)))=False:=PG h1;by_cases h2:A<(-1099511627776:Int).tdiv (max B (-B))
 .have q2:(A<(-1099511627776:Int).tdiv (max B (-B)))=True:=PK h2;rw[aE ⟨h0,.inr h2⟩];by_cases sA:A<0
  .have qA:(A<0)=True:=PK sA;by_cases sB:B<0
   .have qB:(B<0)=True:=PK sB;apply sR;simp only[go_sem,seval,q0,Int.zero_sub,rn,dd,qM,rq1,q1,rq2,q2,qA,qB,b1,b2,b3,b4];exact au.same (by first|rfl|simp[sA,sB])
   .have qB:(B<0)=False:=PG sB;apply sR;simp only[go_sem,seval,q0,Int.zero_sub,rn,dd,qM,rq1,q1,rq2,q2,qA,qB,b1,b2,b3,b4];exact au.same (by first|rfl|simp[sA,sB])
  .have qA:(A<0)=False:=PG sA;by_cases sB:B<0
   .have qB:(B<0)=True:=PK sB;apply sR;simp only[go_sem,seval,q0,Int.zero_sub,rn,dd,qM,rq1,q1,rq2,q2,qA,qB,b1,b2,b3,b4];exact au.same (by first|rfl|simp[sA,sB])
   .have qB:(B<0)=False:=PG sB;apply sR;simp only[go_sem,seval,q0,Int.zero_sub,rn,dd,qM,rq1,q1,rq2,q2,qA,qB,b1,b2,b3,b4];exact au.same (by first|rfl|simp[sA,sB])
 have q2:(A<(-1099511627776:Int).tdiv (max B (-B)))=False:=PG h2;have hr':=hr (by omega) (by omega) h0;have r3:PM .i64 (A*B):=ak;rw[aF (λh=>by rcases h.2 with h|h;exact h1 h;exact h2 h)]
 apply sR;simp only[go_sem,seval,q0,Int.zero_sub,rn,dd,qM,rq1,q1,rq2,q2,r3];exact au.same rfl
open Go.Proofs
def Dn(l:List O')(hl:l.length<=1000000):Iter prog 253 [.rp (aJ l)] (l.map λf=>[aS f]):=by
 refine⟨Mt.c,λP9 τ Jx Z0 hy hJ=>?_⟩;refine(Mt.r (by simp[KF]) ?_).2;have ldF:∀U:ag,bT U false 1 (.rp (aJ l))=some (aJ l):=λU=>rfl;have UE:=gy l;refine ad.mix 5 ?_;apply sR;simp only[go_sem,seval,KF,ldF,UE];refine ad.loop (λm st=>∃(j:Nat) (ZJ:ag),j<=l.length/\m=l.length-j/\τ ((l.take j).map λf=>[aS f]) ZJ/\aa ZJ st.U/\st.s 0=.yl P9/\st.s 5=aJ l/\st.s 6=vI l.length/\st.s 7=vI j) l.length ?_ ?_
 .exact⟨0,Z0,by omega,rfl,by simpa using hJ,aa.refl _,rfl,rfl,rfl,rfl⟩
 .rintro m ⟨S,J⟩ ⟨j,ZJ,hj,rfl,Rt,B',t0,t5,t6,t7⟩;simp only at B' t0 t5 t6 t7;refine ad.mix 5 ?_;by_cases C':j<l.length
  .have q:((j:Int)<l.length)=True:=PK;have r1:PM .i64 ((j:Int)+1):=ak;have E':=λU=>jX (U:=U) C';have e0':l=l.take j++l[j]::l.drop (j+1):=by rw[<-gT C',nG]
   have e:(l.map λf=>[aS f])=((l.take j).map λf=>[aS f])++[aS l[j]]::((l.drop (j+1)).map λf=>[aS f]):=by
    have:=congrArg (List.map λf=>[aS f]) e0'
    rwa [eo,dO]at this
   have Qn:((l.take (j+1)).map λf=>[aS f])=((l.take j).map λf=>[aS f])++[[aS l[j]]]:=by rw[SO C',eo];rfl
   have Su:aS l[j]=.agg [vI l[j].node,vI l[j].side,vI l[j].anchor,vI l[j].x,vI l[j].y,vI l[j].w,vI l[j].h]:=rfl;generalize l[j]=x at*;apply sR;simp only[go_sem,seval,t0,t5,t6,t7,q,E',Su];refine ae λi4 Z4 s4 a4 f4=>?_;simp only[go_sem,seval,a4,t0,t5,t6,t7];generalize Tt:u' Z4 i4 _=Y4;have hs4:aa J Y4:=by rw[<-Tt];exact s4.az f4
   clear Tt;refine ad.lK (Post:=λb' Z2=>∃P5,bf ZJ Y4 P5 Z2/\((b'=true/\τ (((l.take j).map λf=>[aS f])++[[aS x]]) P5)\/(b'=false/\Jx (((l.take j).map λf=>[aS f])++[[aS x]]) P5))) rfl rfl rfl (hy _ [aS x] _ ZJ Y4 e Rt (B'.trans hs4)) ?_;rintro b' Z2 ⟨P5,QM,QE⟩;rcases QE with⟨rfl,QE⟩|⟨rfl,QE⟩
   .apply sR;simp only[go_sem,seval,t0,t5,t6,t7,r1];refine⟨_,?_,j+1,P5,by omega,rfl,by rw[Qn];exact QE,QM.1,by simp[t0,t5,t6]⟩;omega
   .apply sR;simp only[go_sem,seval,t0,t5,t6,t7];exact⟨_,P5,QM.1,Wk.refl QM.1 _,.inr ⟨_,⟨_,by rw[e,gw];rfl⟩,QE⟩⟩
  .have q:((j:Int)<l.length)=False:=PG;rw[kT (by omega)]at Rt;apply sR;simp only[go_sem,seval,t0,t5,t6,t7,q];exact⟨_,ZJ,B',Wk.refl B' _,.inl Rt⟩
def Kt(l:List O'):aP prog 225 [aJ l] (.fn 253 [.rp (aJ l)]):=λU=>by
 refine N3.r (by simp[Lr]) ?_;refine ad.mix 3 ?_;have q1:=aT l;have q2:=aV l;generalize aJ l=x at*;apply sR;simp only[go_sem,seval,Lr,q1,q2];refine ae λSn Z1 s1 a1 f1=>?_;simp only[go_sem,seval,q1,q2];exact⟨_,U,s1,Wk.fn (vs':=[.rp x]) ⟨Wk.ptr s1 a1 f1,trivial⟩,rfl,rfl⟩
def wj(bQ to:Int)(f:O'):Bool:=decide (f.anchor<bQ\/f.anchor>=to)
def K4(bQ to:Int)(f:O'){U:ag}{i4 i5:Nat}(a4:U i4=some ⟨3,1,[vI bQ]⟩)(a5:U i5=some ⟨3,1,[vI to]⟩):
 aC prog 261 [aS f,.ptr i4 0 0,.ptr i5 0 0] U λr Z'=>r=.bool (wj bQ to f)/\Z'=U:=by
 refine OR.r (by simp[K1]) ?_;have hs:=aa.refl U;refine ad.mix 5 ?_;apply sR;simp only[go_sem,seval,K1,aS];refine ae λi3 Z3 s3 a3 f3=>?_;have z3:=hs.none f3;replace hs:=hs.trans s3;have b4:=s3 _ _ a4;have b5:=s3 _ _ a5;by_cases h0:f.anchor<bQ
 .have q0:(f.anchor<bQ)=True:=PK h0;simp only[go_sem,seval,a3,b4,b5,q0];exact au.pure hs (by simp[wj,h0])
 .have q0:(f.anchor<bQ)=False:=PG h0;by_cases h1:f.anchor>=to
  .have q1:(f.anchor>=to)=True:=PK h1;simp only[go_sem,seval,a3,b4,b5,q0,q1];exact au.pure hs (by simp[wj,h1])
  .have q1:(f.anchor>=to)=False:=PG h1;simp only[go_sem,seval,a3,b4,b5,q0,q1];exact au.pure hs (by simp only[wj];rw[Sz (by omega)])
open Go.Proofs
def fS(p:O'->Bool):List O'->Nat->Int
 |[],_=>-1
 |f::r,i=>if p f then i else fS p r (i+1)
def y9{p:O'->Bool}{l:List O'}{i:Nat}(h:i<l.length):fS p (l.drop i) i=if p l[i]then(i:Int)else fS p (l.drop (i+1)) (i+1):=by
 rw[gT h,fS]
def ED{U:ag}{v:V}(l:List O')(hl:l.length<=1000000)(hr:Reads U 7 true v (l.map aS)){f:FuncId}{caps:List V}(p:O'->Bool)
 (hf:∀x∈l,aC prog f (aS x::caps) U λr Z'=>r=.bool (p x)/\Z'=U):
 aC prog 264 [v,.fn f caps] U λr Z'=>r=vI (fS p l 0)/\Z'=U:=by
 refine OI.r (by simp[J0]) ?_;have hlv:dY false v=some (.int .i64 l.length):=by rw[hr.1,cL]
 refine ad.mix 6 ?_;apply sR;simp only[go_sem,seval,J0,hlv];refine ad.loop (λm st=>∃i:Nat,i<=l.length/\m=l.length-i/\fS p l 0=fS p (l.drop i) i/\st.U=U/\st.s 0=v/\st.s 1=.fn f caps/\st.s 7=vI l.length/\st.s 8=vI i) l.length ?_ ?_
 .exact⟨0,by omega,rfl,rfl,rfl,rfl,rfl,rfl,rfl⟩
 .rintro m ⟨s,Z'⟩ ⟨i,hi,rfl,heq,P3,h0,h1,h7,h8⟩;simp only at P3 h0 h1 h7 h8;subst P3;refine ad.mix 6 ?_;by_cases C':i<l.length
  .have q:((i:Int)<l.length)=True:=PK;have hd:=y9 (p:=p) C';obtain⟨a,ha,Tq⟩:=hr.2 i (aS l[i]) (by simp[C']);have hfx:=hf l[i] (QF C');have r1:PM .i64 ((i:Int)+1):=ak;generalize l[i]=x at*;apply sR;simp only[go_sem,seval,h0,h1,h7,h8,q,ha,Tq];refine ad.ay rfl rfl rfl hfx ?_;cases hp:p x
   .rw[hp]at hd;apply sR;simp only[go_sem,seval,h0,h1,h7,h8,r1];refine⟨_,?_,i+1,by omega,rfl,?_,by simp[h0,h1,h7]⟩
    .omega
    .rw[heq,hd];rfl
   .rw[hp]at hd;apply sR;simp only[go_sem,seval,h0,h1,h7,h8];refine au.same ?_;rw[heq,hd];rfl
  .have q:((i:Int)<l.length)=False:=PG;have Sh:i=l.length:=by omega
   apply sR;simp only[go_sem,seval,h0,h1,h7,h8,q];refine au.same ?_;rw[heq,Sh,yQ];rfl
open Go.Proofs
def GM(l:List Qy)(hl:l.length<=1000000000):aP prog 43 [bC l] (bC l):=
 Al func43 (e43.b.trans rfl) e43.c (l.map dx) (by simp;omega)
def za(l:List O')(hl:l.length<=1000000000):aP prog 44 [aJ l] (aJ l):=
 Al func44 (e44.b.trans rfl) e44.c (l.map aS) (by simp;omega)
open Go.Proofs
def kZ(a:O'):List O'->Nat->Int
 |[],_=>-1
 |q::r,i=>if a=q then i else kZ a r (i+1)
def DE{a:O'}{p:List O'}{i:Nat}(h:i<p.length):kZ a (p.drop i) i=if a=p[i]then(i:Int)else kZ a (p.drop (i+1)) (i+1):=by
 rw[gT h,kZ]
def GN(p:List O')(hp:p.length<=1000000000)(a:O'):aP prog 117 [aJ p,aS a] (vI (kZ a p 0)):=λU=>by
 refine Ps.r (by simp[c117]) ?_;have hs:=aa.refl U;have Wz:=gy p;have hac:(aS a).cells=[vI a.node,vI a.side,vI a.anchor,vI a.x,vI a.y,vI a.w,vI a.h]:=rfl;have has:(aS a).stays=true:=rfl;have he:∀b:O',iy false [0,0,0,0,0,0,0] (.agg [vI a.node,vI a.side,vI a.anchor,vI a.x,vI a.y,vI a.w,vI a.h]) (.agg [vI b.node,vI b.side,vI b.anchor,vI b.x,vI b.y,vI b.w,vI b.h])=some (.bool (decide (a=b))):=λb=>by
  have:(a=b)↔(a.node=b.node/\a.side=b.side/\a.anchor=b.anchor/\a.x=b.x/\a.y=b.y/\a.w=b.w/\a.h=b.h):=by
   cases a;cases b;simp
  simp only[iy,di,bY,cO,this];simp
 refine ad.mix 9 ?_;apply sR;simp only[go_sem,seval,c117,hac,has];refine ae λi3 Z3 s3 a3 f3=>?_;have z3:=hs.none f3;replace hs:=hs.trans s3;simp only[go_sem,seval,Wz,hac,has];rw[aS]at a3;refine ad.loop (λm st=>∃(i:Nat),i<=p.length/\m=p.length-i/\kZ a p 0=kZ a (p.drop i) i/\st.U=Z3/\st.s 0=aJ p/\st.s 3=.ptr i3 0 0/\st.s 7=vI p.length/\st.s 8=vI i) p.length ?_ ?_
 .exact⟨0,by omega,rfl,rfl,rfl,rfl,rfl,rfl,rfl⟩
 .rintro m ⟨s,Z'⟩ ⟨i,hi,rfl,heq,P3,h0,h3,h7,h8⟩;simp only at P3 h0 h3 h7 h8;subst P3;refine ad.mix 9 ?_;by_cases C':i<p.length
  .have q:((i:Int)<p.length)=True:=PK;have hd:=DE (a:=a) C';have E':=λU=>jX (U:=U) C';have r1:PM .i64 ((i:Int)+1):=ak;have hee:=he p[i];have Su:aS p[i]=.agg [vI p[i].node,vI p[i].side,vI p[i].anchor,vI p[i].x,vI p[i].y,vI p[i].w,vI p[i].h]:=rfl;by_cases hc:a=p[i]
   .rw[SP hc]at hee;apply sR;simp only[BB,seval,<-decide_not,bp,eT,aH,dF,dG,dB,dE,dH,bO,jm,dZ,bx,fa,cQ,fb,cJ,cy,bI,gI,ct,bH,bM,QW,jg,cP,bJ,di,bY,cO,cF,ji,binBV,bD,cX,V.cells,V.stays,Qw.nothing,h0,h3,h7,h8,q,a3,E',Su,hee];refine au.pure hs ?_;rw[heq,hd,aE hc]
   .rw[Sz hc]at hee;apply sR;simp only[BB,seval,<-decide_not,bp,eT,aH,dF,dG,dB,dE,dH,bO,jm,dZ,bx,fa,cQ,fb,cJ,cy,bI,gI,ct,bH,bM,QW,jg,cP,bJ,di,bY,cO,cF,ji,binBV,bD,cX,V.cells,V.stays,Qw.nothing,h0,h3,h7,h8,q,a3,E',Su,hee,r1];refine⟨_,?_,i+1,by omega,rfl,?_,by simp[h0,h3,h7]⟩
    .omega
    .rw[heq,hd,aF hc]
  .have q:((i:Int)<p.length)=False:=PG;have Sh:i=p.length:=by omega
   apply sR;simp only[go_sem,seval,h0,h3,h7,h8,q];refine au.pure hs ?_;rw[heq,Sh,yQ];rfl
end Go.Vc
