/- Part 8 of the library of this proof. -/
import Derived.Test.YtdaelobhgmdoeaaGreatW7
set_option linter.all false
set_option maxHeartbeats 8000000
set_option maxRecDepth 100000
namespace Go.Vc
open Go.Proofs Go.Proofs.Tryz
def xV(l:List Nd)(of:List Int):List Int:=(List.range (of.length+1)).map (pj l of)
def MN(l:List Nd)(hl:dH l)(hb:So l=true)(of:List Int)(Uc:of.length<=1000000)(SS:∀x∈of,0<=x/\x<l.length)(hm:pX l of=true):
 aV prog 111 [aK l,bn of] (.RB [bn (xV l of),vI 0]):=λU=>by
 refine QI.r (by simp[L4]) ?_;have hs:=aa.refl U;have U5:=fG of;refine ad.mix 11 ?_;apply sR;simp only[go_sem,seval,L4];refine ad.aB rfl rfl rfl (nY l hl hb of Uc hm _) ?_;have q0:((0:Int)≠0)=False:=eq_false (λh=>h rfl);have r0:RM .i64 ((of.length:Int)+1):=ao (by omega) (by omega);apply sR;simp only[go_sem,seval,q0,U5,r0];refine ad.fi (λst=>aa U st.U/\aT U st.U 3 1 (st.s 7) ((xV l of).map vI))
  (λm st=>∃j:Nat,j<=of.length+1/\m=of.length+1-j/\aa U st.U/\aT U st.U 3 1 (st.s 7) (((List.range j).map (pj l of)).map vI)/\st.s 0=aK l/\st.s 1=bn of/\st.s 19=vI ((of.length:Int)+1)/\st.s 20=vI j) (of.length+1) ?_ ?_ ?_
 .exact⟨0,by omega,rfl,hs,aT.start,rfl,rfl,rfl,rfl⟩
 .clear hs;rintro m ⟨S,J⟩ ⟨j,hj,rfl,hs,ho,t0,t1,t19,t20⟩;simp only at hs ho t0 t1 t19 t20;generalize hv7:S 7=v7 at ho;refine ad.mix 11 ?_;by_cases H':j<of.length+1
  .have q:((j:Int)<of.length+1)=True:=eq_true (by omega);have r1:RM .i64 ((j:Int)+1):=ao (by omega) (by omega);have Se:(((List.range (j+1)).map (pj l of)).map vI)=(((List.range j).map (pj l of)).map vI)++[vI (pj l of j)]:=by
    rw[List.range_succ];simp
   have WT:(((List.range j).map (pj l of)).map vI).length=j:=by simp
   apply sR;simp only[go_sem,seval,t0,t1,t19,t20,q];refine ad.aB rfl rfl rfl (NO l hl hb of Uc SS hm j (by omega) _) ?_;generalize ((List.range j).map (pj l of)).map vI=rows at*;apply sR;simp only[go_sem,seval,t0,t1,t19,t20,hv7];refine af λi32 Z32 s32 a32 f32=>?_;obtain⟨RN,Th,SQ,ZA,XK⟩:=ho.Be s32;have Sx:(rows.length+1)*9<=140737488355328:=by omega
   simp only[go_sem,seval,t0,t1,t19,t20,hv7,Th,dT a32,Sx];refine ga λi33 Z33 s33 a33 f33=>?_;have k33:=(SQ U (aa.refl _) Z32 (hs.trans s32)).trans s33;have n33:U i33=none:=(hs.trans s32).none f33;simp only[go_sem,seval,t0,t1,t19,t20,r1];refine⟨_,?_,j+1,by omega,rfl,k33,?_,by simp[t0,t1,t19]⟩
   .omega
   .rw[Se];exact aT.new (by simp) a33 n33
  .have q:((j:Int)<of.length+1)=False:=eq_false (by omega);have Tt:j=of.length+1:=by omega
   subst Tt;apply sR;simp only[go_sem,seval,t0,t1,t19,t20,q];exact⟨hs,hv7▸ho⟩
 .rintro⟨S,J⟩ ⟨hs,ho⟩;simp only at hs ho;generalize hv7:S 7=v7 at ho;refine ad.mix 11 ?_;apply sR;simp only[go_sem,seval,hv7];exact⟨_,U,hs,Wk.RB (vs':=[bn (xV l of),vI 0]) ⟨ho.wk (aa.refl _) hs,Wk.refl hs _,trivial⟩,rfl,rfl⟩
open Go.Proofs Go.Proofs.Tryz
structure Tw where
 (cls forced Sq:Int)
deriving DecidableEq
def dZ(x:Tw):V:=.agg [vI x.cls,vI x.forced,vI x.Sq]
def bC(l:List Tw):V:=.sl 3 (l.map dZ)
def aJ(l:List Tw):(bC l).cells=[bC l]:=rfl
def aI(l:List Tw):(bC l).stays=true:=rfl
def AL(l:List Tw):dy false (bC l)=some (.int .i64 l.length):=by simp[bC,dy]
def sX{U:ai}{l:List Tw}{i:Nat}(h:i<l.length):bQ U 3 (bC l) (.int .i64 i)=some (.rp (dZ l[i])):=by simp[bC,bQ,h,dZ]
def pt(of:List Int)(k:Nat):Int:=if k=0 then 0 else if k=of.length then 3 else if of.getD k 0=of.getD (k-1) 0 then 2 else 1
def G6(of:List Int)(Uc:of.length<=1000000)(k:Nat)(hk:k<=of.length):aV prog 112 [bn of,vI k] (vI (pt of k)):=λU=>by
 refine OD.r (by simp[DC]) ?_;have U5:=fG of;refine ad.mix 6 ?_;unfold pt;rcases Nat.eq_zero_or_pos k with rfl|h0
 .have q1:(((0:Nat):Int)=0)=True:=eq_true rfl;apply sR;simp only[go_sem,seval,DC,q1];exact ay.same rfl
 have q1:((k:Int)=0)=False:=eq_false (by omega);rw[if_neg (by omega)];by_cases T':k=of.length
 .have q2:((k:Int)=of.length)=True:=eq_true (by omega);rw[if_pos T'];apply sR;simp only[go_sem,seval,DC,q1,q2,U5];exact ay.same rfl
 have q2:((k:Int)=of.length)=False:=eq_false (by omega);rw[if_neg T'];have h1:k<of.length:=by omega
 have q5:=ao (m:=((k-1:Nat):Int)) (by omega) (by omega);have q6:((k:Int)-1)=((k-1:Nat):Int):=by omega
 have q7:=λU=>gS (U:=U) h1;have q8:=λU=>gS (U:=U) (l:=of) (i:=k-1) (by omega);have g1:of.getD k 0=of[k]:=by simp[h1]
 have g2:of.getD (k-1) 0=of[k-1]:=by
  have:k-1<of.length:=by omega
  simp[this]
 rw[g1,g2];by_cases h2:of[k]=of[k-1]
 .have q9:(of[k]=of[k-1])=True:=eq_true h2;rw[if_pos h2];apply sR;simp only[go_sem,seval,DC,q1,q2,U5,q5,q6,q7,q8,q9];exact ay.same rfl
 .have q9:(of[k]=of[k-1])=False:=eq_false h2;rw[if_neg h2];apply sR;simp only[go_sem,seval,DC,q1,q2,U5,q5,q6,q7,q8,q9];exact ay.same rfl
open Go.Proofs Go.Proofs.Tryz
def Zg(l:List Nd)(of:List Int)(k:Nat):Tw:=⟨pt of k,je l of k,if je l of k=0 then pj l of k else 0⟩
def rv(l:List Nd)(of:List Int):List Tw:=(List.range (of.length+1)).map (Zg l of)
def IW{U:ai}{f:Nat->Int}{n j:Nat}(h:j<n):bQ U 1 (bn ((List.range n).map f)) (.int .i64 j)=some (.rp (vI (f j))):=by
 rw[gS (by simpa using h)];simp
def KH(l:List Nd)(hl:dH l)(hb:So l=true)(of:List Int)(Uc:of.length<=1000000)(SS:∀x∈of,0<=x/\x<l.length)(hm:pX l of=true):
 aV prog 52 [aK l,bn of] (.RB [bC (rv l of),vI 0]):=λU=>by
 refine e52.r (by simp[c52]) ?_;have hs:=aa.refl U;have U5:=fG of;refine ad.mix 14 ?_;apply sR;simp only[go_sem,seval,c52];refine ad.aB rfl rfl rfl (nY l hl hb of Uc hm _) ?_;have q0:((0:Int)≠0)=False:=eq_false (λh=>h rfl);have r0:RM .i64 ((of.length:Int)+1):=ao (by omega) (by omega);apply sR;simp only[go_sem,seval,q0,U5,r0];refine ad.aB rfl rfl rfl (Je l hl hb of Uc SS hm _) ?_;apply sR;simp only[go_sem,seval];refine ad.aB rfl rfl rfl (MN l hl hb of Uc SS hm _) ?_;apply sR;simp only[go_sem,seval,U5,r0];refine ad.fi (λst=>aa U st.U/\aT U st.U 168 3 (st.s 11) ((rv l of).map dZ))
  (λm st=>∃j:Nat,j<=of.length+1/\m=of.length+1-j/\aa U st.U/\aT U st.U 168 3 (st.s 11) (((List.range j).map (Zg l of)).map dZ)/\st.s 0=aK l/\st.s 1=bn of/\st.s 7=bn (yr l of)/\st.s 9=bn (xV l of)/\st.s 34=vI ((of.length:Int)+1)/\st.s 35=vI j) (of.length+1) ?_ ?_ ?_
 .exact⟨0,by omega,rfl,hs,aT.start,rfl,rfl,rfl,rfl,rfl,rfl⟩
 .clear hs;rintro m ⟨S,J⟩ ⟨j,hj,rfl,hs,ho,t0,t1,t7,t9,t34,t35⟩;simp only at hs ho t0 t1 t7 t9 t34 t35;generalize Xd:S 11=v11 at ho;refine ad.mix 14 ?_;by_cases H':j<of.length+1
  .have q:((j:Int)<of.length+1)=True:=eq_true (by omega);have r1:RM .i64 ((j:Int)+1):=ao (by omega) (by omega);have Se:(((List.range (j+1)).map (Zg l of)).map dZ)=(((List.range j).map (Zg l of)).map dZ)++[dZ (Zg l of j)]:=by
    rw[List.range_succ];simp
   have WT:(((List.range j).map (Zg l of)).map dZ).length=j:=by simp
   have hi7:∀U,bQ U 1 (bn (yr l of)) (.int .i64 j)=some (.rp (vI (je l of j))):=λU=>IW H';have hi9:∀U,bQ U 1 (bn (xV l of)) (.int .i64 j)=some (.rp (vI (pj l of j))):=λU=>IW H';apply sR;simp only[go_sem,seval,t0,t1,t7,t9,Xd,t34,t35,q];refine Go.bO rfl rfl rfl (G6 of Uc j (by omega)) ?_;apply sG;simp only[go_sem,seval,t0,t1,t7,t9,Xd,t34,t35,hi7];refine bw λW9 Y13 s13 TY f13=>?_;by_cases hz:je l of j=0
   .have q2:(je l of j=0)=True:=eq_true hz;have Vg:dZ (Zg l of j)=.agg [vI (pt of j),vI (je l of j),vI (pj l of j)]:=by rw[Zg,if_pos hz];rfl
    simp only[go_sem,seval,TY,t0,t1,t7,t9,Xd,t34,t35,hi7,hi9,q2];generalize hq13:C' _ W9 _=Z13;have YJ:aa J Z13:=by rw[<-hq13];exact s13.aE f13
    clear hq13;refine af λi58 Z58 s58 a58 f58=>?_;obtain⟨RN,Th,SQ,ZA,XK⟩:=ho.Be (YJ.trans s58);generalize ((List.range j).map (Zg l of)).map dZ=rows at*;have Sx:(rows.length+1)*25<=140737488355328:=by omega
    simp only[go_sem,seval,t0,t1,t7,t9,Xd,t34,t35,Th,dT a58,Sx];refine ga λi59 Z59 s59 a59 f59=>?_;have k59:=(SQ U (aa.refl _) Z58 (hs.trans (YJ.trans s58))).trans s59;have n59:U i59=none:=(hs.trans (YJ.trans s58)).none f59;simp only[go_sem,seval,t0,t1,t7,t9,t34,t35,r1];refine⟨_,?_,j+1,by omega,rfl,k59,?_,by simp[t0,t1,t7,t9,t34]⟩
    .omega
    .rw[Se,Vg];exact aT.new (by simp) a59 n59
   .have q2:(je l of j=0)=False:=eq_false hz;have Vg:dZ (Zg l of j)=.agg [vI (pt of j),vI (je l of j),vI 0]:=by rw[Zg,if_neg hz];rfl
    simp only[go_sem,seval,TY,t0,t1,t7,t9,Xd,t34,t35,hi7,hi9,q2];generalize hq13:C' _ W9 _=Z13;have YJ:aa J Z13:=by rw[<-hq13];exact s13.aE f13
    clear hq13;refine af λi58 Z58 s58 a58 f58=>?_;obtain⟨RN,Th,SQ,ZA,XK⟩:=ho.Be (YJ.trans s58);generalize ((List.range j).map (Zg l of)).map dZ=rows at*;have Sx:(rows.length+1)*25<=140737488355328:=by omega
    simp only[go_sem,seval,t0,t1,t7,t9,Xd,t34,t35,Th,dT a58,Sx];refine ga λi59 Z59 s59 a59 f59=>?_;have k59:=(SQ U (aa.refl _) Z58 (hs.trans (YJ.trans s58))).trans s59;have n59:U i59=none:=(hs.trans (YJ.trans s58)).none f59;simp only[go_sem,seval,t0,t1,t7,t9,t34,t35,r1];refine⟨_,?_,j+1,by omega,rfl,k59,?_,by simp[t0,t1,t7,t9,t34]⟩
    .omega
    .rw[Se,Vg];exact aT.new (by simp) a59 n59
  .have q:((j:Int)<of.length+1)=False:=eq_false (by omega);have Tt:j=of.length+1:=by omega
   subst Tt;apply sR;simp only[go_sem,seval,t0,t1,t7,t9,t34,t35,q];exact⟨hs,Xd▸ho⟩
 .rintro⟨S,J⟩ ⟨hs,ho⟩;simp only at hs ho;generalize Xd:S 11=v11 at ho;refine ad.mix 14 ?_;apply sR;simp only[go_sem,seval,Xd];exact⟨_,U,hs,Wk.RB (vs':=[bC (rv l of),vI 0]) ⟨ho.wk (aa.refl _) hs,Wk.refl hs _,trivial⟩,rfl,rfl⟩
open Go.Proofs Go.Proofs.Tryz
def nW(x:Tw)(first last:Bool):Prop:=
 (first=true->x.cls=0)/\(first=false->last=true->x.cls=3)/\(first=false->last=false->x.cls=1\/x.cls=2)/\
 (x.forced=0\/(2<=x.forced/\x.forced<=4/\x.cls≠3/\x.cls≠2))/\(x.Sq=0\/((x.cls=1\/x.cls=2)/\x.forced=0/\0<x.Sq/\x.Sq<8))
instance (x:Tw) (a b:Bool):Decidable (nW x a b):=by unfold nW;infer_instance
def Hi(x:Tw)(first last:Bool):aV prog 283 [dZ x,.bool first,.bool last] (.bool (decide (nW x first last))):=λU=>by
 refine QC.r (by simp[Lp]) ?_;have hs:=aa.refl U;obtain⟨c,f,r⟩:=x;refine ad.mix 9 ?_;apply sR;simp only[go_sem,seval,Lp,dZ];refine af λi3 Z3 s3 a3 f3=>?_;have z3:=hs.none f3;replace hs:=hs.trans s3;unfold nW;simp only;have C:c=0\/c=1\/c=2\/c=3\/((c=0)=False/\(c=1)=False/\(c=2)=False/\(c=3)=False/\(c≠0)=True/\(c≠3)=True):=by
  by_cases h0:c=0
  .exact .inl h0
  by_cases h1:c=1
  .exact .inr (.inl h1)
  by_cases h2:c=2
  .exact .inr (.inr (.inl h2))
  by_cases h3:c=3
  .exact .inr (.inr (.inr (.inl h3)))
  .exact .inr (.inr (.inr (.inr ⟨eq_false h0,eq_false h1,eq_false h2,eq_false h3,eq_true h0,eq_true h3⟩)))
 have F:f=0\/((f=0)=False/\((f<2)=True/\(2<=f/\f<=4)=False\/(f<2)=False/\((f>4)=True/\(2<=f/\f<=4)=False\/(f>4)=False/\(2<=f)=True/\(f<=4)=True))):=by
  by_cases h0:f=0
  .exact .inl h0
  refine .inr ⟨eq_false h0,?_⟩;by_cases h1:f<2
  .exact .inl ⟨eq_true h1,eq_false (by omega)⟩
  refine .inr ⟨eq_false h1,?_⟩;by_cases h2:f>4
  .exact .inl ⟨eq_true h2,eq_false (by omega)⟩
  .exact .inr ⟨eq_false h2,eq_true (by omega),eq_true (by omega)⟩
 have R:r=0\/((r=0)=False/\((r>0)=False/\(0<r)=False\/(r>0)=True/\(0<r)=True/\((r<8)=True\/(r<8)=False))):=by
  by_cases h0:r=0
  .exact .inl h0
  refine .inr ⟨eq_false h0,?_⟩;by_cases h1:r>0
  .refine .inr ⟨eq_true h1,eq_true h1,?_⟩;by_cases h2:r<8
   .exact .inl (eq_true h2)
   .exact .inr (eq_false h2)
  .exact .inl ⟨eq_false h1,eq_false (by omega)⟩
 rcases C with rfl|rfl|rfl|rfl|⟨c0,c1,c2,c3,c4,c5⟩
 .rcases F with rfl|⟨f0,⟨f1,f2⟩|⟨f1,⟨f2,f3⟩|⟨f2,f3,f4⟩⟩⟩
  .cases first
   .cases last
    .simp only[go_sem,seval,a3];exact ay.pure hs (by simp)
    .simp only[go_sem,seval,a3];exact ay.pure hs (by simp)
   .cases last
    .rcases R with rfl|⟨r0,⟨r1,r2⟩|⟨r1,r2,r3|r3⟩⟩
     .simp only[go_sem,seval,a3];exact ay.pure hs (by simp)
     .simp only[go_sem,seval,a3,r0,r1];exact ay.pure hs (by simp[r0,r2])
     .simp only[go_sem,seval,a3,r0,r1,r3];exact ay.pure hs (by simp[r0,r2,r3])
     .simp only[go_sem,seval,a3,r0,r1,r3];exact ay.pure hs (by simp[r0,r2,r3])
    .rcases R with rfl|⟨r0,⟨r1,r2⟩|⟨r1,r2,r3|r3⟩⟩
     .simp only[go_sem,seval,a3];exact ay.pure hs (by simp)
     .simp only[go_sem,seval,a3,r0,r1];exact ay.pure hs (by simp[r0,r2])
     .simp only[go_sem,seval,a3,r0,r1,r3];exact ay.pure hs (by simp[r0,r2,r3])
     .simp only[go_sem,seval,a3,r0,r1,r3];exact ay.pure hs (by simp[r0,r2,r3])
  .cases first
   .cases last
    .simp only[go_sem,seval,a3,f0,f1];exact ay.pure hs (by simp[f0,f2])
    .simp only[go_sem,seval,a3,f0,f1];exact ay.pure hs (by simp[f0,f2])
   .cases last
    .simp only[go_sem,seval,a3,f0,f1];exact ay.pure hs (by simp[f0,f2])
    .simp only[go_sem,seval,a3,f0,f1];exact ay.pure hs (by simp[f0,f2])
  .cases first
   .cases last
    .simp only[go_sem,seval,a3,f0,f1,f2];exact ay.pure hs (by simp[f0,f3])
    .simp only[go_sem,seval,a3,f0,f1,f2];exact ay.pure hs (by simp[f0,f3])
   .cases last
    .simp only[go_sem,seval,a3,f0,f1,f2];exact ay.pure hs (by simp[f0,f3])
    .simp only[go_sem,seval,a3,f0,f1,f2];exact ay.pure hs (by simp[f0,f3])
  .cases first
   .cases last
    .simp only[go_sem,seval,a3,f0,f1,f2];exact ay.pure hs (by simp[f0,f3,f4])
    .simp only[go_sem,seval,a3,f0,f1,f2];exact ay.pure hs (by simp[f0,f3,f4])
   .cases last
    .rcases R with rfl|⟨r0,⟨r1,r2⟩|⟨r1,r2,r3|r3⟩⟩
     .simp only[go_sem,seval,a3,f0,f1,f2];exact ay.pure hs (by simp[f0,f3,f4])
     .simp only[go_sem,seval,a3,f0,f1,f2,r0,r1];exact ay.pure hs (by simp[f0,f3,f4,r0,r2])
     .simp only[go_sem,seval,a3,f0,f1,f2,r0,r1,r3];exact ay.pure hs (by simp[f0,f3,f4,r0,r2,r3])
     .simp only[go_sem,seval,a3,f0,f1,f2,r0,r1,r3];exact ay.pure hs (by simp[f0,f3,f4,r0,r2,r3])
    .rcases R with rfl|⟨r0,⟨r1,r2⟩|⟨r1,r2,r3|r3⟩⟩
     .simp only[go_sem,seval,a3,f0,f1,f2];exact ay.pure hs (by simp[f0,f3,f4])
     .simp only[go_sem,seval,a3,f0,f1,f2,r0,r1];exact ay.pure hs (by simp[f0,f3,f4,r0,r2])
     .simp only[go_sem,seval,a3,f0,f1,f2,r0,r1,r3];exact ay.pure hs (by simp[f0,f3,f4,r0,r2,r3])
     .simp only[go_sem,seval,a3,f0,f1,f2,r0,r1,r3];exact ay.pure hs (by simp[f0,f3,f4,r0,r2,r3])
 .rcases F with rfl|⟨f0,⟨f1,f2⟩|⟨f1,⟨f2,f3⟩|⟨f2,f3,f4⟩⟩⟩
  .cases first
   .cases last
    .rcases R with rfl|⟨r0,⟨r1,r2⟩|⟨r1,r2,r3|r3⟩⟩
     .simp only[go_sem,seval,a3];exact ay.pure hs (by simp)
     .simp only[go_sem,seval,a3,r0,r1];exact ay.pure hs (by simp[r0,r2])
     .simp only[go_sem,seval,a3,r0,r1,r3];exact ay.pure hs (by simp[r0,r2,r3])
     .simp only[go_sem,seval,a3,r0,r1,r3];exact ay.pure hs (by simp[r0,r2,r3])
    .simp only[go_sem,seval,a3];exact ay.pure hs (by simp)
   .cases last
    .simp only[go_sem,seval,a3];exact ay.pure hs (by simp)
    .simp only[go_sem,seval,a3];exact ay.pure hs (by simp)
  .cases first
   .cases last
    .simp only[go_sem,seval,a3,f0,f1];exact ay.pure hs (by simp[f0,f2])
    .simp only[go_sem,seval,a3,f0,f1];exact ay.pure hs (by simp[f0,f2])
   .cases last
    .simp only[go_sem,seval,a3,f0,f1];exact ay.pure hs (by simp[f0,f2])
    .simp only[go_sem,seval,a3,f0,f1];exact ay.pure hs (by simp[f0,f2])
  .cases first
   .cases last
    .simp only[go_sem,seval,a3,f0,f1,f2];exact ay.pure hs (by simp[f0,f3])
    .simp only[go_sem,seval,a3,f0,f1,f2];exact ay.pure hs (by simp[f0,f3])
   .cases last
    .simp only[go_sem,seval,a3,f0,f1,f2];exact ay.pure hs (by simp[f0,f3])
    .simp only[go_sem,seval,a3,f0,f1,f2];exact ay.pure hs (by simp[f0,f3])
  .cases first
   .cases last
    .rcases R with rfl|⟨r0,⟨r1,r2⟩|⟨r1,r2,r3|r3⟩⟩
     .simp only[go_sem,seval,a3,f0,f1,f2];exact ay.pure hs (by simp[f0,f3,f4])
     .simp only[go_sem,seval,a3,f0,f1,f2,r0,r1];exact ay.pure hs (by simp[f0,f3,f4,r0,r2])
     .simp only[go_sem,seval,a3,f0,f1,f2,r0,r1,r3];exact ay.pure hs (by simp[f0,f3,f4,r0,r2,r3])
     .simp only[go_sem,seval,a3,f0,f1,f2,r0,r1,r3];exact ay.pure hs (by simp[f0,f3,f4,r0,r2,r3])
    .simp only[go_sem,seval,a3,f0,f1,f2];exact ay.pure hs (by simp[f0,f3,f4])
   .cases last
    .simp only[go_sem,seval,a3,f0,f1,f2];exact ay.pure hs (by simp[f0,f3,f4])
    .simp only[go_sem,seval,a3,f0,f1,f2];exact ay.pure hs (by simp[f0,f3,f4])
 .rcases F with rfl|⟨f0,⟨f1,f2⟩|⟨f1,⟨f2,f3⟩|⟨f2,f3,f4⟩⟩⟩
  .cases first
   .cases last
    .rcases R with rfl|⟨r0,⟨r1,r2⟩|⟨r1,r2,r3|r3⟩⟩
     .simp only[go_sem,seval,a3];exact ay.pure hs (by simp)
     .simp only[go_sem,seval,a3,r0,r1];exact ay.pure hs (by simp[r0,r2])
     .simp only[go_sem,seval,a3,r0,r1,r3];exact ay.pure hs (by simp[r0,r2,r3])
     .simp only[go_sem,seval,a3,r0,r1,r3];exact ay.pure hs (by simp[r0,r2,r3])
    .simp only[go_sem,seval,a3];exact ay.pure hs (by simp)
   .cases last
    .simp only[go_sem,seval,a3];exact ay.pure hs (by simp)
    .simp only[go_sem,seval,a3];exact ay.pure hs (by simp)
  .cases first
   .cases last
    .simp only[go_sem,seval,a3,f0,f1];exact ay.pure hs (by simp[f0,f2])
    .simp only[go_sem,seval,a3,f0,f1];exact ay.pure hs (by simp[f0,f2])
   .cases last
    .simp only[go_sem,seval,a3,f0,f1];exact ay.pure hs (by simp[f0,f2])
    .simp only[go_sem,seval,a3,f0,f1];exact ay.pure hs (by simp[f0,f2])
  .cases first
   .cases last
    .simp only[go_sem,seval,a3,f0,f1,f2];exact ay.pure hs (by simp[f0,f3])
    .simp only[go_sem,seval,a3,f0,f1,f2];exact ay.pure hs (by simp[f0,f3])
   .cases last
    .simp only[go_sem,seval,a3,f0,f1,f2];exact ay.pure hs (by simp[f0,f3])
    .simp only[go_sem,seval,a3,f0,f1,f2];exact ay.pure hs (by simp[f0,f3])
  .cases first
   .cases last
    .simp only[go_sem,seval,a3,f0,f1,f2];exact ay.pure hs (by simp[f0,f3,f4])
    .simp only[go_sem,seval,a3,f0,f1,f2];exact ay.pure hs (by simp[f0,f3,f4])
   .cases last
    .simp only[go_sem,seval,a3,f0,f1,f2];exact ay.pure hs (by simp[f0,f3,f4])
    .simp only[go_sem,seval,a3,f0,f1,f2];exact ay.pure hs (by simp[f0,f3,f4])
 .rcases F with rfl|⟨f0,⟨f1,f2⟩|⟨f1,⟨f2,f3⟩|⟨f2,f3,f4⟩⟩⟩
  .cases first
   .cases last
    .simp only[go_sem,seval,a3];exact ay.pure hs (by simp)
    .rcases R with rfl|⟨r0,⟨r1,r2⟩|⟨r1,r2,r3|r3⟩⟩
     .simp only[go_sem,seval,a3];exact ay.pure hs (by simp)
     .simp only[go_sem,seval,a3,r0,r1];exact ay.pure hs (by simp[r0,r2])
     .simp only[go_sem,seval,a3,r0,r1,r3];exact ay.pure hs (by simp[r0,r2,r3])
     .simp only[go_sem,seval,a3,r0,r1,r3];exact ay.pure hs (by simp[r0,r2,r3])
   .cases last
    .simp only[go_sem,seval,a3];exact ay.pure hs (by simp)
    .simp only[go_sem,seval,a3];exact ay.pure hs (by simp)
  .cases first
   .cases last
    .simp only[go_sem,seval,a3,f0,f1];exact ay.pure hs (by simp[f0,f2])
    .simp only[go_sem,seval,a3,f0,f1];exact ay.pure hs (by simp[f0,f2])
   .cases last
    .simp only[go_sem,seval,a3,f0,f1];exact ay.pure hs (by simp[f0,f2])
    .simp only[go_sem,seval,a3,f0,f1];exact ay.pure hs (by simp[f0,f2])
  .cases first
   .cases last
    .simp only[go_sem,seval,a3,f0,f1,f2];exact ay.pure hs (by simp[f0,f3])
    .simp only[go_sem,seval,a3,f0,f1,f2];exact ay.pure hs (by simp[f0,f3])
   .cases last
    .simp only[go_sem,seval,a3,f0,f1,f2];exact ay.pure hs (by simp[f0,f3])
    .simp only[go_sem,seval,a3,f0,f1,f2];exact ay.pure hs (by simp[f0,f3])
  .cases first
   .cases last
    .simp only[go_sem,seval,a3,f0,f1,f2];exact ay.pure hs (by simp[f0,f3,f4])
    .simp only[go_sem,seval,a3,f0,f1,f2];exact ay.pure hs (by simp[f0,f3,f4])
   .cases last
    .simp only[go_sem,seval,a3,f0,f1,f2];exact ay.pure hs (by simp[f0,f3,f4])
    .simp only[go_sem,seval,a3,f0,f1,f2];exact ay.pure hs (by simp[f0,f3,f4])
 .rcases F with rfl|⟨f0,⟨f1,f2⟩|⟨f1,⟨f2,f3⟩|⟨f2,f3,f4⟩⟩⟩
  .cases first
   .cases last
    .simp only[go_sem,seval,a3,c0,c1,c2,c3,c4,c5];exact ay.pure hs (by simp[c0,c1,c2,c3,c4,c5])
    .simp only[go_sem,seval,a3,c0,c1,c2,c3,c4,c5];exact ay.pure hs (by simp[c0,c1,c2,c3,c4,c5])
   .cases last
    .simp only[go_sem,seval,a3,c0,c1,c2,c3,c4,c5];exact ay.pure hs (by simp[c0,c1,c2,c3,c4,c5])
    .simp only[go_sem,seval,a3,c0,c1,c2,c3,c4,c5];exact ay.pure hs (by simp[c0,c1,c2,c3,c4,c5])
  .cases first
   .cases last
    .simp only[go_sem,seval,a3,c0,c1,c2,c3,c4,c5,f0,f1];exact ay.pure hs (by simp[c0,c1,c2,c3,c4,c5,f0,f2])
    .simp only[go_sem,seval,a3,c0,c1,c2,c3,c4,c5,f0,f1];exact ay.pure hs (by simp[c0,c1,c2,c3,c4,c5,f0,f2])
   .cases last
    .simp only[go_sem,seval,a3,c0,c1,c2,c3,c4,c5,f0,f1];exact ay.pure hs (by simp[c0,c1,c2,c3,c4,c5,f0,f2])
    .simp only[go_sem,seval,a3,c0,c1,c2,c3,c4,c5,f0,f1];exact ay.pure hs (by simp[c0,c1,c2,c3,c4,c5,f0,f2])
  .cases first
   .cases last
    .simp only[go_sem,seval,a3,c0,c1,c2,c3,c4,c5,f0,f1,f2];exact ay.pure hs (by simp[c0,c1,c2,c3,c4,c5,f0,f3])
    .simp only[go_sem,seval,a3,c0,c1,c2,c3,c4,c5,f0,f1,f2];exact ay.pure hs (by simp[c0,c1,c2,c3,c4,c5,f0,f3])
   .cases last
    .simp only[go_sem,seval,a3,c0,c1,c2,c3,c4,c5,f0,f1,f2];exact ay.pure hs (by simp[c0,c1,c2,c3,c4,c5,f0,f3])
    .simp only[go_sem,seval,a3,c0,c1,c2,c3,c4,c5,f0,f1,f2];exact ay.pure hs (by simp[c0,c1,c2,c3,c4,c5,f0,f3])
  .cases first
   .cases last
    .simp only[go_sem,seval,a3,c0,c1,c2,c3,c4,c5,f0,f1,f2];exact ay.pure hs (by simp[c0,c1,c2,c3,c4,c5,f0,f3,f4])
    .simp only[go_sem,seval,a3,c0,c1,c2,c3,c4,c5,f0,f1,f2];exact ay.pure hs (by simp[c0,c1,c2,c3,c4,c5,f0,f3,f4])
   .cases last
    .simp only[go_sem,seval,a3,c0,c1,c2,c3,c4,c5,f0,f1,f2];exact ay.pure hs (by simp[c0,c1,c2,c3,c4,c5,f0,f3,f4])
    .simp only[go_sem,seval,a3,c0,c1,c2,c3,c4,c5,f0,f1,f2];exact ay.pure hs (by simp[c0,c1,c2,c3,c4,c5,f0,f3,f4])
open Go.Proofs Go.Proofs.Tryz
def Ud(b:List Tw)(i:Nat):Tw:=b.getD i ⟨0,0,0⟩
def gW(b:List Tw)(i:Nat):Bool:=decide (nW (Ud b i) (decide ((i:Int)=0)) (decide ((i:Int)=(b.length:Int)-1)))
def uK(b:List Tw):Bool:=(List.range b.length).all (gW b)&&decide ((b.length:Int)>0)
def D5{b:List Tw}{j:Nat}(h:(List.range j).all (gW b)=true)(hr:gW b j=true):(List.range (j+1)).all (gW b)=true:=by
 rw[List.range_succ,List.all_append,h];simp[hr]
def M8(b:List Tw)(hb:b.length<=1000000):aV prog 235 [bC b] (.bool (uK b)):=λU=>by
 refine P3.r (by simp[L6]) ?_;have Wm:=AL b;refine ad.mix 5 ?_;apply sR;simp only[go_sem,seval,L6,Wm];refine ad.fi (λst=>aa U st.U/\st.s 0=bC b/\(List.range b.length).all (gW b)=true)
  (λm st=>∃j:Nat,j<=b.length/\m=b.length-j/\aa U st.U/\(List.range j).all (gW b)=true/\st.s 0=bC b/\st.s 5=bC b/\st.s 6=vI b.length/\st.s 7=vI j) b.length ?_ ?_ ?_
 .exact⟨0,by omega,rfl,aa.refl _,rfl,rfl,rfl,rfl,rfl⟩
 .rintro m ⟨S,J⟩ ⟨j,hj,rfl,hs,SK,t0,t5,t6,t7⟩;simp only at hs t0 t5 t6 t7;refine ad.mix 5 ?_;by_cases H':j<b.length
  .have q:((j:Int)<b.length)=True:=eq_true (by omega);have r1:RM .i64 ((j:Int)+1):=ao (by omega) (by omega);have r2:RM .i64 ((b.length:Int)-1):=ao (by omega) (by omega);have Rv:=λU=>sX (U:=U) H';have hg:Ud b j=b[j]:=by simp[Ud,H']
   have hra:gW b j=decide (nW b[j] (decide ((j:Int)=0)) (decide ((j:Int)=(b.length:Int)-1))):=by rw[gW,hg]
   apply sR;simp only[go_sem,seval,t0,t5,t6,t7,q,Rv,dZ];refine af λi4 Z4 s4 a4 f4=>?_;simp only[go_sem,seval,a4,t0,t5,t6,t7,Wm,r2];generalize Tv:C' Z4 i4 _=Y4;have Ze:aa J Y4:=by rw[<-Tv];exact s4.aE f4
   clear Tv;refine ad.aB rfl rfl rfl (Hi b[j] (decide ((j:Int)=0)) (decide ((j:Int)=(b.length:Int)-1)) _) ?_;rw[<-hra];cases hv:gW b j
   .apply sR;simp only[go_sem,seval,t0,t5,t6,t7];have hm:uK b=false:=by
     rw[uK];have:(List.range b.length).all (gW b)=false:=by
      rw[List.all_eq_false];exact⟨j,List.mem_range.2 H',by simp[hv]⟩
     rw[this];rfl
    exact ay.pure (hs.trans Ze) (by rw[hm])
   .apply sR;simp only[go_sem,seval,t0,t5,t6,t7,r1];refine⟨_,?_,j+1,by omega,rfl,hs.trans Ze,D5 SK hv,by simp[t0,t5,t6]⟩;omega
  .have q:((j:Int)<b.length)=False:=eq_false (by omega);have Tt:j=b.length:=by omega
   subst Tt;apply sR;simp only[go_sem,seval,t0,t5,t6,t7,q];exact⟨hs,SK⟩
 .rintro⟨S,J⟩ ⟨hs,t0,SK⟩;simp only at hs t0 SK;refine ad.mix 5 ?_;apply sR;simp only[go_sem,seval,t0,Wm];exact ay.pure hs (by rw[uK,SK];rfl)
open Go.Proofs Go.Proofs.Tryz
def iW(b:List Tw)(i:Nat):V:=.agg [vI (Ud b i).cls,vI (Ud b i).forced,vI (Ud b i).Sq,vI i]
def rz(b:List Tw)(bS to:Int):Nat:=(min to ((b.length:Int)-1)+1-max bS 0).toNat
def Wb(b:List Tw)(bS to:Int):List Nat:=List.range' (max bS 0).toNat (rz b bS to)
def Nb(U:ai)(b:List Tw):bT U false 1 (.rp (bC b))=some (bC b):=rfl
def range_split:∀(j s n:Nat),j<n->List.range' s n=List.range' s j++(s+j)::List.range' (s+j+1) (n-j-1)
 |0,s,n+1,_=>by simp[List.range']
 |j+1,s,n+1,h=>by
  have:=range_split j (s+1) n (by omega);rw[List.range',this,List.range'];have e1:s+1+j=s+(j+1):=by omega
  have e2:n-j-1=n+1-(j+1)-1:=by omega
  rw[e1,e2];rfl
def qV(s j:Nat):List.range' s (j+1)=List.range' s j++[s+j]:=by
 rw[range_split j s (j+1) (by omega),show j+1-j-1=0 by omega];rfl
def GP(b:List Tw)(hb:b.length<=1000000)(bS to:Int):Iter prog 320 [.rp (vI bS),.rp (vI to),.rp (bC b)] ((Wb b bS to).map λi=>[iW b i]):=by
 refine⟨Ns.c,λRZ τ Jx Z0 hy hJ=>?_⟩;refine(Ns.r (by simp[L9]) ?_).2;have Wm:=AL b;refine ad.mix 6 ?_;apply sR;simp only[go_sem,seval,L9,dg];obtain⟨s,hsv⟩:∃s:Nat,s=(max bS 0).toNat:=⟨_,rfl⟩
 have Sj:max bS 0=(s:Int):=by omega
 obtain⟨n,hnv⟩:∃n:Nat,n=rz b bS to:=⟨_,rfl⟩
 have hn1:∀j:Nat,(((s+j:Nat):Int)<=min to ((b.length:Int)-1))↔j<n:=λj=>by rw[hnv,rz,Sj];omega
 rw[Wb,<-hsv,<-hnv]at hy|-;rw[Sj];refine ad.loop (λm st=>∃(j:Nat) (ZJ:ai),j<=n/\m=n-j/\τ ((List.range' s j).map λi=>[iW b i]) ZJ/\aa ZJ st.U/\st.s 0=.yl RZ/\st.s 1=.rp (vI bS)/\st.s 2=.rp (vI to)/\st.s 3=.rp (bC b)/\st.s 5=vI (s+j:Nat)) n ?_ ?_
 .exact⟨0,Z0,by omega,rfl,by simpa using hJ,aa.refl _,rfl,rfl,rfl,rfl,rfl⟩
 .rintro m ⟨S,J⟩ ⟨j,ZJ,hj,rfl,Tq,G',t0,t1,t2,t3,t5⟩;simp only at G' t0 t1 t2 t3 t5;refine ad.mix 6 ?_;have r2:RM .i64 ((b.length:Int)-1):=ao (by omega) (by omega);by_cases H':j<n
  .have hle:=(hn1 j).2 H';have SD:s+j<b.length:=by omega
   have q:(((s+j:Nat):Int)<=min to ((b.length:Int)-1))=True:=eq_true hle;have r1:RM .i64 (((s+j:Nat):Int)+1):=ao (by omega) (by omega);have Rv:=λU=>sX (U:=U) SD;have hg:Ud b (s+j)=b[s+j]:=by simp[Ud,SD]
   have hfd:iW b (s+j)=.agg [vI b[s+j].cls,vI b[s+j].forced,vI b[s+j].Sq,vI (s+j:Nat)]:=by rw[iW,hg]
   have e:((List.range' s n).map λi=>[iW b i])=((List.range' s j).map λi=>[iW b i])++[iW b (s+j)]::((List.range' (s+j+1) (n-j-1)).map λi=>[iW b i]):=by
    rw[range_split j s n H'];simp
   have SB:((List.range' s (j+1)).map λi=>[iW b i])=((List.range' s j).map λi=>[iW b i])++[[iW b (s+j)]]:=by rw[qV];simp
   have q5:s+(j+1)=s+j+1:=by omega
   generalize s+j=sj at*;apply sR;simp only[go_sem,seval,t0,t1,t2,t3,t5,Nb,Wm,r2,e8,q,Rv,dZ];rw[<-hfd];refine ad.lN (Post:=λb' Z2=>∃RX,bh ZJ J RX Z2/\((b'=true/\τ (((List.range' s j).map λi=>[iW b i])++[[iW b sj]]) RX)\/(b'=false/\Jx (((List.range' s j).map λi=>[iW b i])++[[iW b sj]]) RX))) rfl rfl rfl (hy _ [iW b sj] _ ZJ J e Tq G') ?_;rintro b' Z2 ⟨RX,SI,Sr⟩;rcases Sr with⟨rfl,Sr⟩|⟨rfl,Sr⟩
   .apply sR;simp only[go_sem,seval,t0,t1,t2,t3,t5,r1];refine⟨_,?_,j+1,RX,by omega,rfl,by rw[SB];exact Sr,SI.1,by simp[t0,t1,t2,t3,q5]⟩;omega
   .apply sR;simp only[go_sem,seval,t0,t1,t2,t3,t5];exact⟨_,RX,SI.1,Wk.refl SI.1 _,.inr ⟨_,⟨_,by rw[e,List.append_assoc];rfl⟩,Sr⟩⟩
  .have q:(((s+j:Nat):Int)<=min to ((b.length:Int)-1))=False:=eq_false (λh=>H' ((hn1 j).1 h));have Tt:j=n:=by omega
   subst Tt;generalize s+j=sj at*;apply sR;simp only[go_sem,seval,t0,t1,t2,t3,t5,Nb,Wm,r2,e8,q];exact⟨_,ZJ,G',Wk.refl G' _,.inl Tq⟩
open Go.Proofs Go.Proofs.Tryz
structure Fd where
 (b:Tw)(i:Int)
def fZ(x:Fd):V:=.agg [vI x.b.cls,vI x.b.forced,vI x.b.Sq,vI x.i]
def gm(ah:Fd->Fd->Bool->Bool)(p:Fd×Bool)(x:Fd):Fd×Bool:=if ah x p.1 p.2 then(x,true)else p
def fC(ah:Fd->Fd->Bool->Bool)(xs:List Fd)(d:Fd):Fd×Bool:=xs.foldl (gm ah) (d,false)
def tq(ah:Fd->Fd->Bool->Bool)(xs:List Fd)(x:Fd)(d:Fd):fC ah (xs++[x]) d=gm ah (fC ah xs d) x:=by simp[fC,List.foldl_append]
def Av{g f:FuncId}{caps:List V}{xs:List Fd}(WM:Iter prog g caps (xs.map λx=>[fZ x]))(d:Fd)(ah:Fd->Fd->Bool->Bool)
 (hf:∀x y s,aV prog f [fZ x,fZ y,.bool s] (.bool (ah x y s))):
 aV prog 284 [.fn g caps,fZ d,.fn f []] (fZ (fC ah xs d).1):=λU=>by
 refine Pc.r (by simp[M0]) ?_;have hs:=aa.refl U;have Vv:(V.fn f []).cells=[.fn f []]:=rfl;have TH:(V.fn f []).stays=true:=rfl;refine ad.mix 10 ?_;apply sR;simp only[go_sem,seval,M0,fZ,Vv,TH];refine af λi4 Z4 s4 a4 f4=>?_;have z4:=hs.none f4;replace hs:=hs.trans s4;simp only[go_sem,seval,Vv,TH];refine af λi5 Z5 s5 a5 f5=>?_;have TL:=aq a4 f5;replace a4:=s5 _ _ a4;have z5:=hs.none f5;replace hs:=hs.trans s5;simp only[go_sem,seval,Vv,TH];refine af λi6 Z6 s6 a6 f6=>?_;have Zu:=aq a4 f6;replace a4:=s6 _ _ a4;have n56:=aq a5 f6;replace a5:=s6 _ _ a5;have z6:=hs.none f6;replace hs:=hs.trans s6;simp only[go_sem,seval,a4,Vv,TH];have hs6:=aa.refl Z6;refine af λi7 Z7 s7 a7 f7=>?_;simp only[go_sem,seval,a7,Vv,TH];refine af λi8 Z8 s8 a8 f8=>?_;have XE:i7≠i8:=aq a7 f8;have b7:=s8 _ _ a7;simp only[go_sem,seval,b7,a8,ab XE,ab XE.symm,Vv,TH];generalize hS:mix 10 _ _=S;have S5:S 5=.ptr i5 0 0:=by rw[<-hS];rfl
 have S6:S 6=.ptr i6 0 0:=by rw[<-hS];rfl
 have S7:S 7=.ptr i7 0 0:=by rw[<-hS];rfl
 have S8:S 8=.ptr i8 0 0:=by rw[<-hS];rfl
 have S11:S 11=.fn g caps:=by rw[<-hS];rfl
 clear hS;refine ad.cX (g:=.t 11) (caps:=caps) S11 WM (λy hy=>?_) [] (λpre ZJ=>ZJ i7=some ⟨358,4,[fZ (fC ah (xs.take pre.length) d).1]⟩/\ZJ i8=some ⟨4,1,[.bool (fC ah (xs.take pre.length) d).2]⟩/\aa Z6 ZJ)
  (λ_ _ _=>False) ?_ ?_ ?_ ?_ ?_
 .obtain⟨t,_,rfl⟩:=List.mem_map.1 hy;rfl
 .refine⟨(ab XE).trans ag,ag,?_⟩;have h7:=(s7.trans s8).aE (id:=i7) (o:=⟨358,4,[.agg [vI d.b.cls,vI d.b.forced,vI d.b.Sq,vI d.i]]⟩) f7;exact h7.aE (s7.none f8)
 .rintro pre y post ZJ ZB Ub ⟨J7,J8,Js⟩ G';obtain⟨t,ZD,rfl⟩:=oD (f:=fZ) Ub;have SB:fC ah (xs.take (pre.length+1)) d=gm ah (fC ah (xs.take pre.length) d) t:=by rw[List.take_add_one,ZD];exact tq _ _ _ _
  have hlen:(pre++[[fZ t]]).length=pre.length+1:=by simp
  rw[hlen,SB];generalize fC ah (xs.take pre.length) d=p at*;obtain⟨p1,p2⟩:=p;simp only at J7 J8;have c7:=G' _ _ J7;have c8:=G' _ _ J8;have c5:=G' _ _ (Js _ _ a5);generalize TD:mj S [12] [fZ t]=S0;have T5:S0 5=.ptr i5 0 0:=by rw[<-TD];exact S5
  have T7:S0 7=.ptr i7 0 0:=by rw[<-TD];exact S7
  have T8:S0 8=.ptr i8 0 0:=by rw[<-TD];exact S8
  have T12:S0 12=fZ t:=by rw[<-TD];rfl
  clear TD;rw[fZ]at c7 T12;refine ad.mix 10 ?_;apply sR;simp only[go_sem,seval,T5,T7,T8,T12];rw[aO];intro i9 f9;have m7:i7≠i9:=aq c7 f9;have m8:i8≠i9:=aq c8 f9;have m5:i5≠i9:=aq c5 f9;simp only[go_sem,seval,T5,T7,T8,T12];have Vn:=(bh.refl G').pN (o:=⟨358,4,[.agg [vI t.b.cls,vI t.b.forced,vI t.b.Sq,vI t.i]]⟩) f9;have d7:=(ab (o:=⟨358,4,[.agg [vI t.b.cls,vI t.b.forced,vI t.b.Sq,vI t.i]]⟩) m7).trans c7;have d8:=(ab (o:=⟨358,4,[.agg [vI t.b.cls,vI t.b.forced,vI t.b.Sq,vI t.i]]⟩) m8).trans c8;have d5:=(ab (o:=⟨358,4,[.agg [vI t.b.cls,vI t.b.forced,vI t.b.Sq,vI t.i]]⟩) m5).trans c5;have d9:C' ZB i9 ⟨358,4,[.agg [vI t.b.cls,vI t.b.forced,vI t.b.Sq,vI t.i]]⟩ i9=_:=ag;generalize C' ZB i9 ⟨358,4,[.agg [vI t.b.cls,vI t.b.forced,vI t.b.Sq,vI t.i]]⟩=Y9 at*;apply sR;simp only[go_sem,seval,T5,T7,T8,d5,d7,d8,d9];refine ad.aB rfl rfl rfl (hf t p1 p2 _) ?_;cases hv:ah t p1 p2
  .apply sR;simp only[go_sem,seval,T5,T7,T8];refine⟨_,Vn,?_,?_,Js⟩
   .rw[gm,hv];exact J7
   .rw[gm,hv];exact J8
  .apply sR;simp only[go_sem,seval,T5,T7,T8,d5,d7,d8,d9,ab XE,ab XE.symm];refine⟨_,(Vn.set (id:=i7) J7).set (id:=i8) (by rw[ab XE.symm];exact J8),?_,?_,?_⟩
   .rw[gm,hv];exact(ab XE).trans ag
   .rw[gm,hv];exact ag
   .exact(Js.aE f7).aE (s7.none f8)
 .rintro Z' ⟨J7,J8,Js⟩;rw[List.length_map,List.take_length]at J7 J8;rw[fZ]at J7;have e6:=Js _ _ a6;refine ad.mix 10 ?_;apply sR;simp only[go_sem,seval,S6,S7,J7,e6];exact ay.pure ((hs.trans Js).aE z6) rfl
 .intro id h;cases h
 .rintro pre Z' _ ⟨⟩
open Go.Proofs Go.Proofs.Tryz
def uU(b:List Tw)(bS to:Int):aV prog 285 [bC b,vI bS,vI to] (.fn 320 [.rp (vI bS),.rp (vI to),.rp (bC b)]):=λU=>by
 refine Q5.r (by simp[Kv]) ?_;refine ad.mix 7 ?_;have q1:=aJ b;have q2:=aI b;generalize bC b=x at*;apply sR;simp only[go_sem,seval,Kv,q1,q2];refine af λU4 Z1 s1 a1 f1=>?_;simp only[go_sem,seval,q1,q2];refine af λWC Z2 s2 a2 f2=>?_;simp only[go_sem,seval,q1,q2];refine af λid3 Z3 s3 a3 f3=>?_;simp only[go_sem,seval,q1,q2];have hs:=(s1.trans s2).trans s3;exact⟨_,U,hs,Wk.fn (vs':=[.rp (vI bS),.rp (vI to),.rp x]) ⟨Wk.ptr hs (s3 _ _ a2) (s1.none f2),Wk.ptr hs a3 ((s1.trans s2).none f3),Wk.ptr hs (s3 _ _ (s2 _ _ a1)) f1,trivial⟩,rfl,rfl⟩
def kH(b:List Tw)(i:Nat):Fd:=⟨Ud b i,i⟩
def yu:Fd:=⟨⟨0,0,0⟩,-1⟩
def gT(x _y:Fd)(s:Bool):Bool:=!s&&decide (x.b.forced≠0)
def jc(x y:Fd)(s:Bool):Bool:=!s||decide (x.b.Sq<=y.b.Sq)
def EG(x y:Fd)(s:Bool):aV prog 286 [fZ x,fZ y,.bool s] (.bool (gT x y s)):=λU=>by
 refine OL.r (by simp[MT]) ?_;have hs:=aa.refl U;obtain⟨⟨c,f,r⟩,i⟩:=x;obtain⟨⟨c',f',r'⟩,i'⟩:=y;refine ad.mix 7 ?_;apply sR;simp only[go_sem,seval,MT,fZ];refine af λi3 Z3 s3 a3 f3=>?_;have z3:=hs.none f3;replace hs:=hs.trans s3;simp only[go_sem,seval];refine af λi4 Z4 s4 a4 f4=>?_;have YU:=aq a3 f4;replace a3:=s4 _ _ a3;have z4:=hs.none f4;replace hs:=hs.trans s4;cases s
 .by_cases h:f≠0
  .have q:(f≠0)=True:=eq_true h;simp only[go_sem,seval,a3,a4,q];exact ay.pure hs (by simp[gT,h])
  .have q:(f≠0)=False:=eq_false h;simp only[go_sem,seval,a3,a4,q];exact ay.pure hs (by simp[gT,h])
 .simp only[go_sem,seval,a3,a4];exact ay.pure hs (by simp[gT])
def H0(x y:Fd)(s:Bool):aV prog 287 [fZ x,fZ y,.bool s] (.bool (jc x y s)):=λU=>by
 refine PV.r (by simp[MS]) ?_;have hs:=aa.refl U;obtain⟨⟨c,f,r⟩,i⟩:=x;obtain⟨⟨c',f',r'⟩,i'⟩:=y;refine ad.mix 7 ?_;apply sR;simp only[go_sem,seval,MS,fZ];refine af λi3 Z3 s3 a3 f3=>?_;have z3:=hs.none f3;replace hs:=hs.trans s3;simp only[go_sem,seval];refine af λi4 Z4 s4 a4 f4=>?_;have YU:=aq a3 f4;replace a3:=s4 _ _ a3;have z4:=hs.none f4;replace hs:=hs.trans s4;cases s
 .simp only[go_sem,seval,a3,a4];exact ay.pure hs (by simp[jc])
 .by_cases h:r<=r'
  .have q:(r<=r')=True:=eq_true h;simp only[go_sem,seval,a3,a4,q];exact ay.pure hs (by simp[jc,h])
  .have q:(r<=r')=False:=eq_false h;simp only[go_sem,seval,a3,a4,q];exact ay.pure hs (by simp[jc,h])
def kA(b:List Tw)(bS to:Int):Int:=(fC gT ((Wb b bS to).map (kH b)) yu).1.i
def CJ(b:List Tw)(bS to:Int):Int:=(fC jc ((Wb b bS to).map (kH b)) yu).1.i
def vP(b:List Tw)(hb:b.length<=1000000)(bS to:Int):Iter prog 320 [.rp (vI bS),.rp (vI to),.rp (bC b)] (((Wb b bS to).map (kH b)).map λx=>[fZ x]):=by
 have h:=GP b hb bS to;rw[List.map_map];exact h
def GZ(b:List Tw)(hb:b.length<=1000000)(bS to:Int):aV prog 236 [bC b,vI bS,vI to] (vI (kA b bS to)):=λU=>by
 refine Qe.r (by simp[Mm]) ?_;have hs:=aa.refl U;refine ad.mix 8 ?_;apply sR;simp only[go_sem,seval,Mm];refine ad.aB rfl rfl rfl (uU b bS to _) ?_;apply sR;simp only[go_sem,seval];refine ad.aB rfl rfl rfl (Av (vP b hb bS to) yu gT EG _) ?_;have SJ:∀x,(fZ x).cells=[vI x.b.cls,vI x.b.forced,vI x.b.Sq,vI x.i]:=λ_=>rfl;apply sR;simp only[go_sem,seval,fZ];refine af λi7 Z7 s7 a7 f7=>?_;have z7:=hs.none f7;replace hs:=hs.trans s7;simp only[go_sem,seval,a7];exact ay.pure (hs.aE z7) rfl
def Ll(b:List Tw)(hb:b.length<=1000000)(bS to:Int):aV prog 237 [bC b,vI bS,vI to] (vI (CJ b bS to)):=λU=>by
 refine QF.r (by simp[Kg]) ?_;have hs:=aa.refl U;refine ad.mix 8 ?_;apply sR;simp only[go_sem,seval,Kg];refine ad.aB rfl rfl rfl (uU b bS to _) ?_;apply sR;simp only[go_sem,seval];refine ad.aB rfl rfl rfl (Av (vP b hb bS to) yu jc H0 _) ?_;apply sR;simp only[go_sem,seval,fZ];refine af λi7 Z7 s7 a7 f7=>?_;have z7:=hs.none f7;replace hs:=hs.trans s7;simp only[go_sem,seval,a7];exact ay.pure (hs.aE z7) rfl
open Go.Proofs Go.Proofs.Tryz
structure Kp where
 (RG:List Int)
 (high body:Int)
def jb(l:List Nd)(x:Kp)(a:Int):Kp:=if(Tk l a).head<1\/x.body-(Tk l a).head<1 then x else⟨x.RG++[a],x.high+(Tk l a).head,x.body-(Tk l a).head⟩
structure KpJ(Z0:ai)(i7:Nat)(x:Kp)(U:ai):Prop where
 row:∃v,U i7=some ⟨246,3,[.agg [v,vI x.high,vI x.body]]⟩/\aT (bg Z0 i7) U 3 1 v (x.RG.map vI)
 sub:aa Z0 U
 no:Z0 i7=none
def HH(l:List Nd)(hb:So l=true)(x:Kp)(hlen:x.RG.length<=1000000)(h0:0<=x.high)(h1:x.high<=4398046511104)(h2:0<=x.body)(h3:x.body<=4398046511104)(a:Nat)(ha:a<l.length)
 {Z0 ZJ ZB:ai}{i7:Nat}(hJ:KpJ Z0 i7 x ZJ)(G':aa ZJ ZB):
 aD prog 160 [.ptr i7 0 0,aK l,vI a] ZB λ_ Z'=>∃RX,bh ZJ ZB RX Z'/\KpJ Z0 i7 (jb l x a) RX:=by
 refine Qy.r (by simp[EL]) ?_;have R7:=(gr hb ha).st.head;have Tm:=λU=>cJ (U:=U) (l:=l) (a:=a) ha;obtain⟨⟨v,J7,Jo⟩,Js,Jn⟩:=hJ;obtain⟨hds,high,body⟩:=x;simp only at hlen h0 h1 h2 h3 J7 Jo;have Ve:v.cells=[v]:=by rcases Jo with⟨rfl,_⟩|⟨_,rfl,_⟩<;>rfl
 have c7:=G' _ _ J7;unfold jb;rw[jj ha];simp only;have same:(l[a].st.head<1\/body-l[a].st.head<1)->ay (.RB []) ZB λ_ Z'=>∃RX,bh ZJ ZB RX Z'/\KpJ Z0 i7 (if l[a].st.head<1\/body-l[a].st.head<1 then⟨hds,high,body⟩else⟨hds++[(a:Int)],high+l[a].st.head,body-l[a].st.head⟩) RX:=λh=>by
  rw[if_pos h];exact⟨_,ZB,aa.refl _,Wk.refl (aa.refl _) _,ZJ,bh.refl G',⟨v,J7,Jo⟩,Js,Jn⟩
 refine ad.mix 7 ?_;have r1:RM .i64 (body-l[a].st.head):=ao (by omega) (by omega);have r2:RM .i64 (high+l[a].st.head):=ao (by omega) (by omega);by_cases hn:l[a].st.head<1
 .have q1:(l[a].st.head<1)=True:=eq_true hn;have fin:=same (.inl hn);generalize hX:(if l[a].st.head<1\/body-l[a].st.head<1 then(⟨hds,high,body⟩:Kp)else⟨hds++[(a:Int)],high+l[a].st.head,body-l[a].st.head⟩)=X at*;apply sR;simp only[go_sem,seval,EL,Tm,Nd.cells,q1,c7,Ve];exact fin
 have q1:(l[a].st.head<1)=False:=eq_false hn;by_cases hn2:body-l[a].st.head<1
 .have q2:(body-l[a].st.head<1)=True:=eq_true hn2;have fin:=same (.inr hn2);generalize hX:(if l[a].st.head<1\/body-l[a].st.head<1 then(⟨hds,high,body⟩:Kp)else⟨hds++[(a:Int)],high+l[a].st.head,body-l[a].st.head⟩)=X at*;apply sR;simp only[go_sem,seval,EL,Tm,Nd.cells,q1,r1,q2,c7,Ve];exact fin
 have q2:(body-l[a].st.head<1)=False:=eq_false hn2;rw[if_neg (by omega)];clear same;apply sR;simp only[go_sem,seval,EL,Tm,Nd.cells,q1,r1,q2,c7,Ve];rw[aO];intro Vf f28;have W3:(hds.map vI).length<=1000000:=by simpa using hlen
 have Se:((hds++[(a:Int)]).map vI)=hds.map vI++[vI a]:=by simp
 generalize hds.map vI=rows at*;have Vn:=(bh.refl G').pN (o:=⟨3,1,[vI (a:Int)]⟩) f28;have y2:C' ZB Vf ⟨3,1,[vI (a:Int)]⟩ i7=_:=(ab (aq c7 f28)).trans c7;have a28:C' ZB Vf ⟨3,1,[vI (a:Int)]⟩ Vf=some ⟨3,1,[vI (a:Int)]⟩:=ag;generalize C' ZB Vf ⟨3,1,[vI (a:Int)]⟩=Z8 at*;obtain⟨RN,Th,VD⟩:=Jo.DQ Vn.1;have Sx:(rows.length+1)*9<=140737488355328:=by omega
 have k2:bg Z0 i7 i7≠none:=λh=>(aM.1 h).1 rfl;have U0:∀(i:Nat) (Zx:ai),bg Z0 i7 i≠none->Vc.bK Zx RN i=Zx i:=λi Zx hk=>by
  cases RN with
  |none=>rfl
  |some a=>exact dK (λe=>hk (by rw[e];exact(VD a rfl).1))
 simp only[go_sem,seval,Th,dT a28,Sx];rw[aO];intro TE f29;have f29:Z8 TE=none:=f29;have Za:i7≠TE:=aq y2 f29;have f29':Vc.bK Z8 RN TE=none:=by
  cases RN with
  |none=>exact f29
  |some a=>simp only[Vc.bK,del];split<;>first|rfl|exact f29
 have y2':C' (Vc.bK Z8 RN) TE ⟨3,1,rows++[vI (a:Int)]⟩ i7=some ⟨246,3,[.agg [v,vI high,vI body]]⟩:=by rw[ab Za,U0 _ _ k2];exact y2
 have hB9:=((Vn.Eb (e:=RN) λi h=>(VD i h).2).new (o:=⟨3,1,rows++[vI (a:Int)]⟩) f29').set (id:=i7) (o:=⟨246,3,[.agg [v,vI high,vI body]]⟩) (o':=⟨246,3,[.agg [.own TE 0 (rows.length+1),vI (high+l[a].st.head),vI (body-l[a].st.head)]]⟩) (by rw[ab Za,U0 _ _ k2];exact J7);simp only[go_sem,seval,Ve,y2',r1,r2];refine⟨_,_,aa.refl _,Wk.refl (aa.refl _) _,_,hB9,⟨.own TE 0 (rows.length+1),ag,?_⟩,?_,Jn⟩
 .rw[Se];refine aT.new (by simp) (by rw[ab Za.symm,ag]) ?_;rw[aM];refine⟨Za.symm,?_⟩;cases h:Z0 TE with
  |none=>rfl
  |some o=>rw[Vn.1 _ _ (Js _ _ h)]at f29;cases f29
 .refine aa.aE (λi o h=>?_) Jn;have h1:=Js _ _ h;rw[ab (aq (Vn.1 _ _ h1) f29),U0 _ _ (λhk=>by rw[(aM.1 hk).2]at h;cases h)];exact h1
open Go.Proofs Go.Proofs.Tryz
def bwd(L:List Int):List (List V):=(List.range' 0 L.length).map λq=>[vI ((L.length-1-q:Nat):Int),vI (L.getD (L.length-1-q) 0)]
def Gk(L:List Int)(hL:L.length<=1000000):Iter prog 213 [.rp (bn L)] (bwd L):=by
 refine⟨Nk.c,λRZ τ Jx Z0 hy hJ=>?_⟩;refine(Nk.r (by simp[Kt]) ?_).2;have hlL:=fG L;have ldI:∀(U:ai) (X:List Int),bT U false 1 (.rp (bn X))=some (bn X):=λU X=>rfl;have r2:RM .i64 ((L.length:Int)-1):=ao (by omega) (by omega);refine ad.mix 4 ?_;apply sR;simp only[go_sem,seval,Kt,ldI,hlL,r2];generalize hT:bwd L=T at hy|-
 let F:Nat->List V:=λq=>[vI ((L.length-1-q:Nat):Int),vI (L.getD (L.length-1-q) 0)]
 have hTF:T=(List.range' 0 L.length).map F:=hT.symm;refine ad.loop (λm st=>∃(j:Nat) (ZJ:ai),j<=L.length/\m=L.length-j/\τ ((List.range' 0 j).map F) ZJ/\aa ZJ st.U/\st.s 0=.yl RZ/\st.s 1=.rp (bn L)/\st.s 3=vI ((L.length:Int)-1-j)) L.length ?_ ?_
 .exact⟨0,Z0,by omega,rfl,by simpa using hJ,aa.refl _,rfl,rfl,by simp[aX,mix]⟩
 .rintro m ⟨S,J⟩ ⟨j,ZJ,hj,rfl,Tq,G',t0,t1,t3⟩;simp only at G' t0 t1 t3;refine ad.mix 4 ?_;by_cases H':j<L.length
  .obtain⟨i,hi⟩:∃i:Nat,i=L.length-1-j:=⟨_,rfl⟩
   have Uw:i<L.length:=by omega
   have t3':S 3=vI (i:Int):=by rw[t3];congr 1;omega
   have q:((i:Int)>=0)=True:=eq_true (by omega);have r1:RM .i64 ((i:Int)-1):=ao (by omega) (by omega);have Rv:=λU=>gS (U:=U) Uw;have hF:F j=[vI (i:Int),vI L[i]]:=by
    show[vI ((L.length-1-j:Nat):Int),vI (L.getD (L.length-1-j) 0)]=_;rw[<-hi];simp[Uw]
   have e:T=((List.range' 0 j).map F)++[vI (i:Int),vI L[i]]::((List.range' (0+j+1) (L.length-j-1)).map F):=by
    rw[hTF,range_split j 0 L.length H',List.map_append,List.map_cons,Nat.zero_add,hF]
   have SB:((List.range' 0 (j+1)).map F)=((List.range' 0 j).map F)++[[vI (i:Int),vI L[i]]]:=by rw[qV,List.map_append,Nat.zero_add,List.map_cons,hF];rfl
   have q5:(i:Int)-1=(L.length:Int)-1-((j+1:Nat):Int):=by omega
   apply sR;simp only[go_sem,seval,t0,t1,t3',ldI,q,Rv];refine ad.lN (Post:=λb' Z2=>∃RX,bh ZJ J RX Z2/\((b'=true/\τ (((List.range' 0 j).map F)++[[vI (i:Int),vI L[i]]]) RX)\/(b'=false/\Jx (((List.range' 0 j).map F)++[[vI (i:Int),vI L[i]]]) RX))) rfl rfl rfl (hy _ [vI (i:Int),vI L[i]] _ ZJ J e Tq G') ?_;rintro b' Z2 ⟨RX,SI,Sr⟩;rcases Sr with⟨rfl,Sr⟩|⟨rfl,Sr⟩
   .apply sR;simp only[go_sem,seval,t0,t1,t3',r1];refine⟨_,?_,j+1,RX,by omega,rfl,by rw[SB];exact Sr,SI.1,by simp[t0,t1,q5]⟩;omega
   .apply sR;simp only[go_sem,seval,t0,t1,t3'];exact⟨_,RX,SI.1,Wk.refl SI.1 _,.inr ⟨_,⟨_,by rw[e,List.append_assoc];rfl⟩,Sr⟩⟩
  .have Tt:j=L.length:=by omega
   subst Tt;have q:((L.length:Int)-1-(L.length:Int)>=0)=False:=eq_false (by omega);apply sR;simp only[go_sem,seval,t0,t1,t3,q];exact⟨_,ZJ,G',Wk.refl G' _,.inl (hTF▸Tq)⟩
def Oo(L:List Int):aV prog 158 [bn L] (.fn 213 [.rp (bn L)]):=λU=>by
 refine Qc.r (by simp[JR]) ?_;refine ad.mix 3 ?_;apply sR;simp only[go_sem,seval,JR,aj,av];refine af λU4 Z1 s1 a1 f1=>?_;simp only[go_sem,seval,aj,av];exact⟨_,U,s1,Wk.fn (vs':=[.rp (bn L)]) ⟨Wk.ptr s1 a1 f1,trivial⟩,rfl,rfl⟩
open Go.Proofs Go.Proofs.Tryz
def jF(x:Kp):V:=.agg [bn x.RG,vI x.high,vI x.body]
def gv(l:List Nd)(L:List Int)(h:Int):Nat->Kp
 |0=>⟨[],0,h⟩
 |m+1=>jb l (gv l L h m) (L.getD (L.length-1-m) 0)
def DJ{l:List Nd}{x:Kp}{a:Int}{m:Nat}{h:Int}(h0:0<=(Tk l a).head)(hx:x.RG.length<=m/\0<=x.high/\0<=x.body/\x.high+x.body=h):(jb l x a).RG.length<=m+1/\0<=(jb l x a).high/\0<=(jb l x a).body/\(jb l x a).high+(jb l x a).body=h:=by
 obtain⟨h1,h2,h3,h4⟩:=hx;unfold jb;split
 .exact⟨by omega,h2,h3,h4⟩
 .simp only[List.length_append,List.length_cons,List.length_nil];omega
def nX{l:List Nd}(hb:So l=true){L:List Int}(hL:∀x∈L,∃n:Nat,x=n/\n<l.length){h:Int}(hh:0<=h):∀m,m<=L.length->(gv l L h m).RG.length<=m/\0<=(gv l L h m).high/\0<=(gv l L h m).body/\(gv l L h m).high+(gv l L h m).body=h
 |0,_=>by simp[gv];omega
 |m+1,hm=>by
  have ih:=nX hb hL hh m (by omega);rw[gv];refine DJ ?_ ih;have H':L.length-1-m<L.length:=by omega
  have hg:L.getD (L.length-1-m) 0=L[L.length-1-m]:=by simp[H']
  rw[hg];obtain⟨n,hn,Vb⟩:=hL _ (List.getElem_mem H');rw[hn,jj Vb];exact(gr hb Vb).st.head.1
def xe(l:List Nd)(a:Nat)(h:Int):Kp:=gv l (Vu l a) h (Vu l a).length
def GA(l:List Nd)(hl:dH l)(hb:So l=true)(hn:l.length<=100000)(a:Nat)(ha:a<l.length)(h:Int)(h0:0<=h)(h1:h<=2199023255552):
 aV prog 105 [aK l,vI a,vI h] (jF (xe l a h)):=λU=>by
 refine Q7.r (by simp[JT]) ?_;have hs:=aa.refl U;refine ad.mix 10 ?_;apply sR;simp only[go_sem,seval,JT,ae,ax];refine af λi3 Z3 s3 a3 f3=>?_;have z3:=hs.none f3;replace hs:=hs.trans s3;simp only[go_sem,seval];refine af λi6 Z6 s6 a6 f6=>?_;have n36:=aq a3 f6;replace a3:=s6 _ _ a3;have z6:=hs.none f6;replace hs:=hs.trans s6;simp only[go_sem,seval,a3,ae];refine af λi7 Z7 s7 a7 f7=>?_;have ZU:i3≠i7:=aq a3 f7;have V7:i6≠i7:=aq a6 f7;have b3:=s7 _ _ a3;simp only[go_sem,seval,a7,b3,ab ZU,ae,ax];have h7:KpJ Z6 i7 ⟨[],0,h⟩ (C' Z7 i7 ⟨246,3,[.agg [.aC,vI 0,vI h]]⟩):=⟨⟨.aC,ag,aT.start⟩,s7.aE f7,f7⟩
 have e3:C' Z7 i7 ⟨246,3,[.agg [.aC,vI 0,vI h]]⟩ i3=_:=(ab ZU).trans b3;generalize C' Z7 i7 ⟨246,3,[.agg [.aC,vI 0,vI h]]⟩=Y7 at*;refine ad.aB rfl rfl rfl (zx l hl hb hn a ha _) ?_;have WN:∀x∈Vu l a,∃n:Nat,x=n/\n<l.length:=λx hx=>by
  obtain⟨n,h1,h2⟩:=og ha x hx;exact⟨n,h1,by omega⟩
 have hlL:(Vu l a).length<=l.length+1:=iR _ _ _;unfold xe;generalize Vu l a=L at*;apply sR;simp only[go_sem,seval];refine ad.aB rfl rfl rfl (Oo L _) ?_;apply sR;simp only[go_sem,seval];generalize hS:mix 10 _ _=S;have S3:S 3=.ptr i3 0 0:=by rw[<-hS];rfl
 have S6:S 6=.ptr i6 0 0:=by rw[<-hS];rfl
 have S7:S 7=.ptr i7 0 0:=by rw[<-hS];rfl
 have S16:S 16=.fn 213 [.rp (bn L)]:=by rw[<-hS];rfl
 clear hS;refine ad.cX (g:=.t 16) (caps:=[.rp (bn L)]) S16 (Gk L (by omega)) (λy hy=>?_) [] (λpre ZJ=>KpJ Z6 i7 (gv l L h pre.length) ZJ)
  (λ_ _ _=>False) ?_ ?_ ?_ ?_ ?_
 .obtain⟨t,_,rfl⟩:=List.mem_map.1 hy;rfl
 .exact h7
 .rintro pre y post ZJ ZB Ub hJ G';have VK:pre.length<L.length:=by
   have:=congrArg List.length Ub;simp[bwd]at this;omega
  obtain⟨i,hi⟩:∃i:Nat,i=L.length-1-pre.length:=⟨_,rfl⟩
  have Uw:i<L.length:=by omega
  have hy:y=[vI (i:Int),vI (L.getD i 0)]:=by
   have h1:(bwd L)[pre.length]?=some y:=by rw[Ub];simp
   simp[bwd,VK]at h1;rw[<-h1,hi];simp
  have hlen:(pre++[y]).length=pre.length+1:=by simp
  have hinv:=nX hb WN h0 pre.length (by omega);have RV:gv l L h (pre.length+1)=jb l (gv l L h pre.length) (L.getD i 0):=by rw[gv,hi]
  have hg:L.getD i 0=L[i]:=by simp[Uw]
  obtain⟨n,R6,Vb⟩:=WN _ (List.getElem_mem Uw);rw[hlen,RV,hg,R6];rw[hg,R6]at hy;subst hy;generalize gv l L h pre.length=x at*;have c3:=G' _ _ (hJ.sub _ _ a3);generalize TD:mj S [17,18] [vI (i:Int),vI (n:Int)]=S0;have T3:S0 3=.ptr i3 0 0:=by rw[<-TD];exact S3
  have T7:S0 7=.ptr i7 0 0:=by rw[<-TD];exact S7
  have T18:S0 18=vI (n:Int):=by rw[<-TD];rfl
  clear TD;refine ad.mix 10 ?_;apply sR;simp only[go_sem,seval,T3,T7,T18];apply sR;simp only[go_sem,seval,T3,T7,T18,c3,ae];have hc:=HH l hb x (by omega) (by omega) (by omega) (by omega) (by omega) n Vb hJ G';rw[<-T7]at hc;refine ad.call rfl rfl rfl hc ?_;rintro-Z2 ⟨RX,hB,T0⟩;apply sR;simp only[go_sem,seval];exact⟨_,hB,T0⟩
 .rintro Z' hJ;have SD:(bwd L).length=L.length:=by simp[bwd]
  rw[SD]at hJ;obtain⟨⟨v,J7,Jo⟩,Js,Jn⟩:=hJ;have Ve:v.cells=[v]:=by rcases Jo with⟨rfl,_⟩|⟨_,rfl,_⟩<;>rfl
  have e6:=Js _ _ a6;refine ad.mix 10 ?_;apply sR;simp only[go_sem,seval,S6,S7,J7,e6,Ve];have RV:=(hs.trans Js).aE (o:=⟨180,3,[.agg [v,vI (gv l L h L.length).high,vI (gv l L h L.length).body]]⟩) z6;have Jo':aT (bg Z6 i7) (C' Z' i6 ⟨180,3,[.agg [v,vI (gv l L h L.length).high,vI (gv l L h L.length).body]]⟩) 3 1 v ((gv l L h L.length).RG.map vI):=by
   rcases Jo with h|⟨id,g1,g2,g3⟩
   .exact .inl h
   .refine .inr ⟨id,g1,?_,g3⟩;rw[ab (λe=>by rw[e,aM]at g3;rw[a6]at g3;cases g3.2)];exact g2
  have hK:aa U (bg Z6 i7):=λi o hh=>by
   rw[bg,if_neg (λe=>by rw[e,hs.none f7]at hh;cases hh)];exact hs _ _ hh
  exact⟨_,U,RV,Wk.agg (vs':=[bn (gv l L h L.length).RG,vI (gv l L h L.length).high,vI (gv l L h L.length).body]) ⟨Jo'.wk hK RV,Wk.refl RV _,Wk.refl RV _,trivial⟩,rfl,rfl⟩
 .intro id h;cases h
 .rintro pre Z' _ ⟨⟩
open Go.Proofs Go.Proofs.Tryz
def iV(l:List Nd)(h:Int):Bool:=decide (1<=h/\h<=1099511627776)&&So l
def Ge(l:List Nd)(hl:dH l)(h:Int):aV prog 104 [aK l,vI h] (.bool (iV l h)):=λU=>by
 refine OB.r (by simp[J0]) ?_;refine ad.mix 5 ?_;apply sR;simp only[go_sem,seval,J0];refine ad.aB rfl rfl rfl (pU h _) ?_;unfold iV;cases hd:decide (1<=h/\h<=1099511627776)
 .apply sR;simp only[go_sem,seval];exact ay.same (by simp)
 .apply sR;simp only[go_sem,seval];refine ad.aB rfl rfl rfl (BN l hl _) ?_;apply sR;simp only[go_sem,seval];exact ay.same (by simp)
def rq(l:List Nd)(a h:Int):Kp:=if iV l h=true/\0<=a/\a<l.length then xe l a.toNat h else⟨[],0,0⟩
def I8(l:List Nd)(hl:dH l)(a h:Int):aV prog 174 [aK l,vI a,vI h] (jF (rq l a h)):=λU=>by
 refine OQ.r (by simp[Mc]) ?_;have hs:=aa.refl U;have Vd:=fj l;have hn:l.length<=100000:=by have:=hl.1;omega
 refine ad.mix 7 ?_;apply sR;simp only[go_sem,seval,Mc];refine af λi6 Z6 s6 a6 f6=>?_;have z6:=hs.none f6;replace hs:=hs.trans s6;simp only[go_sem,seval];refine ad.aB rfl rfl rfl (Ge l hl h _) ?_;have bad:¬(iV l h=true/\0<=a/\a<l.length)->ay (.agg [.aC,vI 0,vI 0]) Z6 λr Z'=>r=jF (rq l a h)/\Z'=U:=λhb=>by
  rw[rq,if_neg hb];exact⟨_,U,hs,Wk.agg (vs':=[bn [],vI 0,vI 0]) ⟨Wk.aC 1,Wk.refl hs _,Wk.refl hs _,trivial⟩,rfl,rfl⟩
 have a6':C' Z6 i6 ⟨180,3,[.agg [.aC,vI 0,vI 0]]⟩=Z6:=by
  funext i;by_cases hi:i=i6
  .rw[hi,ag];exact a6.symm
  .rw[ab hi]
 cases hm:iV l h
 .have fin:=bad (by simp[hm]);apply sR;simp only[go_sem,seval,a6];rw[a6'];exact fin
 by_cases h0:a<0
 .have q0:(a<0)=True:=eq_true h0;have fin:=bad (by omega);apply sR;simp only[go_sem,seval,a6,q0];rw[a6'];exact fin
 have q0:(a<0)=False:=eq_false h0;by_cases h1:a>=l.length
 .have q1:(a>=l.length)=True:=eq_true h1;have fin:=bad (by omega);apply sR;simp only[go_sem,seval,a6,q0,q1,Vd];rw[a6'];exact fin
 have q1:(a>=l.length)=False:=eq_false h1;clear bad a6';obtain⟨n,rfl⟩:∃n:Nat,a=n:=⟨a.toNat,by omega⟩
 have hb:So l=true:=by unfold iV at hm;simp at hm;exact hm.2
 have hh:1<=h/\h<=1099511627776:=by unfold iV at hm;simp at hm;exact hm.1
 have hr:rq l n h=xe l n h:=by rw[rq,if_pos ⟨hm,by omega,by omega⟩,Int.toNat_natCast]
 rw[hr];apply sR;simp only[go_sem,seval,a6,q0,q1,Vd];refine ad.aB rfl rfl rfl (GA l hl hb hn n (by omega) h (by omega) (by omega) _) ?_;apply sR;simp only[go_sem,seval,a6,jF,aj,av];exact ay.pure (hs.aE z6) rfl
def iB(l:List Nd)(h:Int):Nat->Int
 |0=>h
 |j+1=>if(R4 l j).kind=2\/(R4 l j).kind=3 then min (iB l h j) (xe l j h).body else iB l h j
def gX(l:List Nd)(h:Int):Int:=if iV l h=true then iB l h l.length else 0
def FV(l:List Nd)(hl:dH l)(h:Int):aV prog 48 [aK l,vI h] (vI (gX l h)):=λU=>by
 refine e48.r (by simp[c48]) ?_;have hs:=aa.refl U;have Vd:=fj l;have hn:l.length<=100000:=by have:=hl.1;omega
 refine ad.mix 8 ?_;apply sR;simp only[go_sem,seval,c48];refine ad.aB rfl rfl rfl (Ge l hl h _) ?_;unfold gX;cases hm:iV l h
 .apply sR;simp only[go_sem,seval];exact ay.same rfl
 have hb:So l=true:=by unfold iV at hm;simp at hm;exact hm.2
 have hh:1<=h/\h<=1099511627776:=by unfold iV at hm;simp at hm;exact hm.1
 rw[if_pos rfl];apply sR;simp only[go_sem,seval,Vd];refine ad.loop (λm st=>∃j:Nat,j<=l.length/\m=l.length-j/\aa U st.U/\st.s 0=aK l/\st.s 1=vI h/\st.s 5=vI (iB l h j)/\st.s 13=aK l/\st.s 14=vI l.length/\st.s 15=vI j) l.length ?_ ?_
 .exact⟨0,by omega,rfl,hs,rfl,rfl,rfl,rfl,rfl,rfl⟩
 .clear hs;rintro m ⟨S,J⟩ ⟨j,hj,rfl,hs,t0,t1,t5,t13,t14,t15⟩;simp only at hs t0 t1 t5 t13 t14 t15;refine ad.mix 8 ?_;by_cases H':j<l.length
  .have q:((j:Int)<l.length)=True:=eq_true (by omega);have r1:RM .i64 ((j:Int)+1):=ao (by omega) (by omega);have Tm:=λU=>cJ (U:=U) (l:=l) (a:=j) H';have RV:iB l h (j+1)=if l[j].kind=2\/l[j].kind=3 then min (iB l h j) (xe l j h).body else iB l h j:=by rw[iB,iU H']
   apply sR;simp only[go_sem,seval,t0,t1,t5,t13,t14,t15,q,Tm,Nd.cells];refine af λi7 Z7 s7 a7 f7=>?_;by_cases hk:l[j].kind=2
   .have q1:(l[j].kind=2)=True:=eq_true hk;simp only[go_sem,seval,a7,q1,t0,t1,t5,t13,t14,t15,aj,av];refine ad.aB rfl rfl rfl (GA l hl hb hn j H' h (by omega) (by omega) _) ?_;apply sR;simp only[go_sem,seval,t0,t1,t5,t13,t14,t15,jF,r1,e8,aj,av];refine⟨_,?_,j+1,by omega,rfl,hs.trans (s7.aE f7),by simp[t0,t1,t13,t14,RV,hk]⟩;omega
   .have q1:(l[j].kind=2)=False:=eq_false hk;by_cases WL:l[j].kind=3
    .have q2:(l[j].kind=3)=True:=eq_true WL;have hk:=WL;simp only[go_sem,seval,a7,q1,q2,t0,t1,t5,t13,t14,t15,aj,av];refine ad.aB rfl rfl rfl (GA l hl hb hn j H' h (by omega) (by omega) _) ?_;apply sR;simp only[go_sem,seval,t0,t1,t5,t13,t14,t15,jF,r1,e8,aj,av];refine⟨_,?_,j+1,by omega,rfl,hs.trans (s7.aE f7),by simp[t0,t1,t13,t14,RV,hk]⟩;omega
    .have q2:(l[j].kind=3)=False:=eq_false WL;simp only[go_sem,seval,a7,q1,q2,t0,t1,t5,t13,t14,t15,r1,aj,av];refine⟨_,?_,j+1,by omega,rfl,hs.trans (s7.aE f7),by simp[t0,t1,t13,t14,RV,hk,WL]⟩;omega
  .have q:((j:Int)<l.length)=False:=eq_false (by omega);have Tt:j=l.length:=by omega
   apply sR;simp only[go_sem,seval,t0,t1,t5,t13,t14,t15,q];exact ay.pure hs (by rw[Tt])
open Go.Proofs Go.Proofs.Tryz
def ak(l:List Sk):(bl l).cells=[bl l]:=rfl
def al(l:List Sk):(bl l).stays=true:=rfl
def gC(l:List Sk):dy false (bl l)=some (.int .i64 l.length):=by simp[bl,dy]
def iD{U:ai}{l:List Sk}{i:Nat}(h:i<l.length):bQ U 8 (bl l) (.int .i64 i)=some (.rp (cF l[i])):=by simp[bl,bQ,h,cF]
structure lD(l:List Sk):Prop where
 len:l.length<=1000000000
 XJ:∀a∈l,-1152921504606846976<=a.y/\a.y<=1152921504606846976/\0<=a.h/\a.h<=1152921504606846976
def wO(l:List Sk)(k:Int):aV prog 281 [bl l,vI k] (.bool (decide (0<=k/\k<l.length))):=λU=>by
 refine PN.r (by simp[GN]) ?_;have hl:=gC l;refine ad.mix 5 ?_;by_cases h0:k>=0
 .have q0:(k>=0)=True:=eq_true h0;by_cases h1:k<l.length
  .have q1:(k<l.length)=True:=eq_true h1;apply sR;simp only[go_sem,seval,GN,q0,q1,hl];exact ay.same (by simp[h0,h1])
  .have q1:(k<l.length)=False:=eq_false h1;apply sR;simp only[go_sem,seval,GN,q0,q1,hl];exact ay.same (by simp[h1])
 .have q0:(k>=0)=False:=eq_false h0;apply sR;simp only[go_sem,seval,GN,q0,hl];exact ay.same (by simp<;>omega)
def Dk(a:Sk)(h:-1152921504606846976<=a.y/\a.y<=1152921504606846976/\0<=a.h/\a.h<=1152921504606846976):aV prog 319 [cF a] (vI (a.y+a.h)):=λU=>by
 refine QU.r (by simp[MP]) ?_;have hs:=aa.refl U;have r1:RM .i64 (a.y+a.h):=ao (by omega) (by omega);refine ad.mix 3 ?_;apply sR;simp only[go_sem,seval,MP,cF];refine af λi1 Z1 s1 a1 f1=>?_;have z1:=hs.none f1;replace hs:=hs.trans s1;simp only[go_sem,seval,a1,r1];exact ay.pure hs rfl
def SM(l:List Sk)(k:Int):Sk:=l.getD k.toNat ⟨0,0,0,0,0,0,0,0⟩
def fE(l:List Sk)(k:Int):Int:=if 0<=k/\k<l.length then(SM l k).y+(SM l k).h else 0
def la(l:List Sk)(k:Int):Int:=if 0<=k/\k<l.length then(SM l k).y-fE l (k-1)else 0
def gk(l:List Sk)(i k:Int):Int:=if(0<=i/\i<l.length)/\(0<=k/\k<l.length)then(SM l k).y-(SM l i).y else 0
def bz{l:List Sk}{k:Nat}(h:k<l.length):SM l k=l[k]:=by simp[SM,h]
def ri{l:List Sk}(hl:lD l)(k:Int):-1152921504606846976<=fE l k/\fE l k<=2305843009213693952:=by
 unfold fE;split
 .rename_i h;obtain⟨n,rfl⟩:∃n:Nat,k=n:=⟨k.toNat,by omega⟩
  have hn:n<l.length:=by omega
  rw[bz hn];have:=hl.XJ _ (List.getElem_mem hn);omega
 .omega
def C2(l:List Sk)(hl:lD l)(k:Int):aV prog 282 [bl l,vI k] (vI (fE l k)):=λU=>by
 refine QB.r (by simp[KY]) ?_;refine ad.mix 5 ?_;apply sR;simp only[go_sem,seval,KY];refine ad.aB rfl rfl rfl (wO l k _) ?_;unfold fE;by_cases h:0<=k/\k<l.length
 .obtain⟨n,rfl⟩:∃n:Nat,k=n:=⟨k.toNat,by omega⟩
  have hn:n<l.length:=by omega
  have hd:decide (0<=(n:Int)/\(n:Int)<l.length)=true:=by simp;omega
  have Rv:=λU=>iD (U:=U) hn;rw[hd,if_pos h,bz hn];apply sR;simp only[go_sem,seval,Rv,cF];refine ad.aB rfl rfl rfl (Dk l[n] (hl.XJ _ (List.getElem_mem hn)) _) ?_;apply sR;simp only[go_sem,seval];exact ay.same rfl
 .have hd:decide (0<=k/\k<l.length)=false:=by simpa using h
  rw[hd,if_neg h];apply sR;simp only[go_sem,seval];exact ay.same rfl
def Kb(l:List Sk)(hl:lD l)(k:Int):aV prog 234 [bl l,vI k] (vI (la l k)):=λU=>by
 refine PQ.r (by simp[Lk]) ?_;refine ad.mix 5 ?_;apply sR;simp only[go_sem,seval,Lk];refine ad.aB rfl rfl rfl (wO l k _) ?_;unfold la;by_cases h:0<=k/\k<l.length
 .obtain⟨n,rfl⟩:∃n:Nat,k=n:=⟨k.toNat,by omega⟩
  have hn:n<l.length:=by omega
  have hd:decide (0<=(n:Int)/\(n:Int)<l.length)=true:=by simp;omega
  have Rv:=λU=>iD (U:=U) hn;have Ye:=hl.len;have hy:=hl.XJ _ (List.getElem_mem hn);have hbr:=ri hl ((n:Int)-1);have r1:RM .i64 ((n:Int)-1):=ao (by omega) (by omega);have r2:RM .i64 (l[n].y-fE l ((n:Int)-1)):=ao (by omega) (by omega);rw[hd,if_pos h,bz hn];apply sR;simp only[go_sem,seval,Rv,cF,r1];refine Go.bO rfl rfl rfl (C2 l hl ((n:Int)-1)) ?_;apply sG;simp only[go_sem,seval,r2];exact ay.same rfl
 .have hd:decide (0<=k/\k<l.length)=false:=by simpa using h
  rw[hd,if_neg h];apply sR;simp only[go_sem,seval];exact ay.same rfl
def Dd(l:List Sk)(hl:lD l)(i k:Int):aV prog 288 [bl l,vI i,vI k] (vI (gk l i k)):=λU=>by
 refine Py.r (by simp[KD]) ?_;refine ad.mix 8 ?_;apply sR;simp only[go_sem,seval,KD];refine ad.aB rfl rfl rfl (wO l i _) ?_;unfold gk;by_cases h:0<=i/\i<l.length
 .have hd:decide (0<=i/\i<l.length)=true:=by simp;omega
  rw[hd];apply sR;simp only[go_sem,seval];refine ad.aB rfl rfl rfl (wO l k _) ?_;by_cases h2:0<=k/\k<l.length
  .obtain⟨m,rfl⟩:∃m:Nat,i=m:=⟨i.toNat,by omega⟩
   obtain⟨n,rfl⟩:∃n:Nat,k=n:=⟨k.toNat,by omega⟩
   have hm:m<l.length:=by omega
   have hn:n<l.length:=by omega
   have XK:decide (0<=(n:Int)/\(n:Int)<l.length)=true:=by simp;omega
   have Rv:=λU=>iD (U:=U) hn;have hidx2:=λU=>iD (U:=U) hm;have hy:=hl.XJ _ (List.getElem_mem hn);have hy2:=hl.XJ _ (List.getElem_mem hm);have r1:RM .i64 (l[n].y-l[m].y):=ao (by omega) (by omega);rw[XK,if_pos ⟨h,h2⟩,bz hn,bz hm];apply sR;simp only[go_sem,seval,Rv,hidx2,cF,r1];exact ay.same rfl
  .have XK:decide (0<=k/\k<l.length)=false:=by simpa using h2
   rw[XK,if_neg (λh=>h2 h.2)];apply sR;simp only[go_sem,seval];exact ay.same rfl
 .have hd:decide (0<=i/\i<l.length)=false:=by simpa using h
  rw[hd,if_neg (λh'=>h h'.1)];apply sR;simp only[go_sem,seval];exact ay.same rfl
open Go.Proofs Go.Proofs.Tryz
def eO(b:List Tw)(i fit:Int):Prop:=uK b=true/\0<=i/\i<(b.length:Int)-1/\i<fit
instance (b:List Tw) (i fit:Int):Decidable (eO b i fit):=by unfold eO;infer_instance
def nE(b:List Tw)(i fit:Int):Int:=if kA b (i+1) fit<0 then CJ b (i+1) fit else kA b (i+1) fit
def ML(b:List Tw)(hb:b.length<=1000000)(i fit:Int):aV prog 178 [bC b,vI i,vI fit] (.RB [vI (if eO b i fit then nE b i fit else 0),.bool (decide (eO b i fit))]):=λU=>by
 refine Px.r (by simp[Ka]) ?_;have Wm:=AL b;have r0:RM .i64 ((b.length:Int)-1):=ao (by omega) (by omega);refine ad.mix 8 ?_;apply sR;simp only[go_sem,seval,Ka];refine ad.aB rfl rfl rfl (M8 b hb _) ?_;have bad:¬eO b i fit->ay (.RB [vI 0,.bool false]) U λr Z'=>r=.RB [vI (if eO b i fit then nE b i fit else 0),.bool (decide (eO b i fit))]/\Z'=U:=λh=>ay.same (by rw[if_neg h,decide_eq_false h]);generalize hX:(V.RB [vI (if eO b i fit then nE b i fit else 0),.bool (decide (eO b i fit))])=X at*;cases hm:uK b
 .have fin:=bad (λh=>by rw[h.1]at hm;cases hm);apply sR;simp only[go_sem,seval];exact fin
 by_cases h0:i<0
 .have q0:(i<0)=True:=eq_true h0;have fin:=bad (λh=>by have:=h.2.1;omega);apply sR;simp only[go_sem,seval,q0];exact fin
 have q0:(i<0)=False:=eq_false h0;by_cases h1:i>=(b.length:Int)-1
 .have q1:(i>=(b.length:Int)-1)=True:=eq_true h1;have fin:=bad (λh=>by have:=h.2.2.1;omega);apply sR;simp only[go_sem,seval,q0,Wm,r0,q1];exact fin
 have q1:(i>=(b.length:Int)-1)=False:=eq_false h1;by_cases h2:fit<=i
 .have q2:(fit<=i)=True:=eq_true h2;have fin:=bad (λh=>by have:=h.2.2.2;omega);apply sR;simp only[go_sem,seval,q0,Wm,r0,q1,q2];exact fin
 have q2:(fit<=i)=False:=eq_false h2;clear bad;have RC:eO b i fit:=⟨hm,by omega,by omega,by omega⟩
 have r1:RM .i64 (i+1):=ao (by omega) (by omega);rw[if_pos RC,decide_eq_true RC]at hX;subst hX;apply sR;simp only[go_sem,seval,q0,Wm,r0,q1,q2,r1];refine ad.aB rfl rfl rfl (GZ b hb (i+1) fit _) ?_;unfold nE;by_cases h3:kA b (i+1) fit<0
 .have q3:(kA b (i+1) fit<0)=True:=eq_true h3;rw[if_pos h3];apply sR;simp only[go_sem,seval,q3,r1];refine ad.aB rfl rfl rfl (Ll b hb (i+1) fit _) ?_;apply sR;simp only[go_sem,seval];exact ay.same rfl
 .have q3:(kA b (i+1) fit<0)=False:=eq_false h3;rw[if_neg h3];apply sR;simp only[go_sem,seval,q3];exact ay.same rfl
open Go.Proofs Go.Proofs.Tryz
structure Sn where
 (atom done:Int)
 free:Bool
def bj(s:Sn):V:=.agg [vI s.atom,vI s.done,.bool s.free]
def sP(s:Sn)(l:List Sk):V:=.agg [vI s.atom,vI s.done,.bool s.free,bl l]
def bZ(l:List Sk)(s:Sn):Prop:=(0<=s.atom/\s.atom<l.length)/\0<=s.done/\(s.done=0\/s.done<(SM l s.atom).h)
instance (l:List Sk) (s:Sn):Decidable (bZ l s):=by unfold bZ;infer_instance
def Br(l:List Sk)(s:Sn):aV prog 175 [sP s l] (.bool (decide (bZ l s))):=λU=>by
 refine PF.r (by simp[KG]) ?_;have hs:=aa.refl U;have hl:=gC l;obtain⟨a,d,fr⟩:=s;refine ad.mix 3 ?_;apply sR;simp only[go_sem,seval,KG,sP,ak,al];refine af λi1 Z1 s1 a1 f1=>?_;have z1:=hs.none f1;replace hs:=hs.trans s1;by_cases h0:a>=0
 .have q0:(a>=0)=True:=eq_true h0;by_cases h1:a<l.length
  .have q1:(a<l.length)=True:=eq_true h1;obtain⟨n,rfl⟩:∃n:Nat,a=n:=⟨a.toNat,by omega⟩
   have hn:n<l.length:=by omega
   have Rv:=λU=>iD (U:=U) hn;have hg:=bz hn;by_cases h2:d>=0
   .have q2:(d>=0)=True:=eq_true h2;by_cases h3:d=0
    .have q3:(d=0)=True:=eq_true h3;simp only[go_sem,seval,a1,q0,q1,q2,q3,hl,ak,al];have hh:bZ l ⟨n,d,fr⟩:=⟨⟨h0,h1⟩,h2,.inl h3⟩
     exact ay.pure hs (by rw[decide_eq_true hh])
    .have q3:(d=0)=False:=eq_false h3;by_cases h4:d<l[n].h
     .have q4:(d<l[n].h)=True:=eq_true h4;simp only[go_sem,seval,a1,q0,q1,q2,q3,q4,hl,Rv,cF,ak,al];have hh:bZ l ⟨n,d,fr⟩:=⟨⟨h0,h1⟩,h2,.inr (by rw[hg];exact h4)⟩
      exact ay.pure hs (by rw[decide_eq_true hh])
     .have q4:(d<l[n].h)=False:=eq_false h4;simp only[go_sem,seval,a1,q0,q1,q2,q3,q4,hl,Rv,cF,ak,al];exact ay.pure hs (by rw[decide_eq_false (λh:bZ l ⟨n,d,fr⟩=>by rcases h.2.2 with h|h;exact h3 h;rw[hg]at h;exact h4 h)])
   .have q2:(d>=0)=False:=eq_false h2;simp only[go_sem,seval,a1,q0,q1,q2,hl,ak,al];exact ay.pure hs (by rw[decide_eq_false (λh:bZ l ⟨n,d,fr⟩=>h2 h.2.1)])
  .have q1:(a<l.length)=False:=eq_false h1;simp only[go_sem,seval,a1,q0,q1,hl,ak,al];exact ay.pure hs (by rw[decide_eq_false (λh:bZ l ⟨a,d,fr⟩=>h1 h.1.2)])
 .have q0:(a>=0)=False:=eq_false h0;simp only[go_sem,seval,a1,q0,hl,ak,al];exact ay.pure hs (by rw[decide_eq_false (λh:bZ l ⟨a,d,fr⟩=>h0 h.1.1)])
def pZ(l:List Sk)(s:Sn):aV prog 173 [bl l,bj s] (.bool (decide (bZ l s))):=λU=>by
 refine Ql.r (by simp[MQ]) ?_;have hs:=aa.refl U;have hc:=Br l s;obtain⟨a,d,fr⟩:=s;rw[sP]at hc;refine ad.mix 5 ?_;apply sR;simp only[go_sem,seval,MQ,bj,ak,al];refine af λi3 Z3 s3 a3 f3=>?_;have z3:=hs.none f3;replace hs:=hs.trans s3;simp only[go_sem,seval,a3,ak,al];refine ad.aB rfl rfl rfl (hc _) ?_;apply sR;simp only[go_sem,seval];exact ay.pure hs rfl
def BX(l:List Sk)(hl:lD l)(s:Sn)(h:bZ l s)(hd:s.done<=1152921504606846976):aV prog 176 [sP s l] (vI ((SM l s.atom).h-s.done)):=λU=>by
 refine PB.r (by simp[MO]) ?_;have hs:=aa.refl U;obtain⟨a,d,fr⟩:=s;obtain⟨⟨h0,h1⟩,h2,h3⟩:=h;simp only at h0 h1 h2 h3 hd|-;obtain⟨n,rfl⟩:∃n:Nat,a=n:=⟨a.toNat,by omega⟩
 have hn:n<l.length:=by omega
 have Rv:=λU=>iD (U:=U) hn;have hy:=hl.XJ _ (List.getElem_mem hn);rw[bz hn];have r1:RM .i64 (l[n].h-d):=ao (by omega) (by omega);refine ad.mix 3 ?_;apply sR;simp only[go_sem,seval,MO,sP,ak,al];refine af λi1 Z1 s1 a1 f1=>?_;have z1:=hs.none f1;replace hs:=hs.trans s1;simp only[go_sem,seval,a1,Rv,r1,cF,ak,al];exact ay.pure hs rfl
def ie(l:List Sk)(s:Sn)(R5:Int):Int:=if bZ l s/\s.free=true/\s.done=0/\la l s.atom+((SM l s.atom).h-s.done)<=R5 then la l s.atom else 0
def Ey{l:List Sk}(hl:lD l)(k:Int):-3458764513820540928<=la l k/\la l k<=2305843009213693952:=by
 unfold la;have hb:=ri hl (k-1);split
 .rename_i h;obtain⟨n,rfl⟩:∃n:Nat,k=n:=⟨k.toNat,by omega⟩
  have hn:n<l.length:=by omega
  rw[bz hn];have:=hl.XJ _ (List.getElem_mem hn);omega
 .omega
def CH(l:List Sk)(hl:lD l)(s:Sn)(R5:Int):aV prog 177 [bl l,bj s,vI R5] (vI (ie l s R5)):=λU=>by
 refine OT.r (by simp[LK]) ?_;have hs:=aa.refl U;have hc:=Br l s;have Xm:=λh hd=>BX l hl s h hd;have XY:=Ey hl s.atom;obtain⟨a,d,fr⟩:=s;rw[sP]at hc Xm;simp only at XY Xm;refine ad.mix 9 ?_;apply sR;simp only[go_sem,seval,LK,bj,ak,al];refine af λi4 Z4 s4 a4 f4=>?_;have z4:=hs.none f4;replace hs:=hs.trans s4;simp only[go_sem,seval,a4,ak,al];refine af λi7 Z7 s7 a7 f7=>?_;have n47:=aq a4 f7;replace a4:=s7 _ _ a4;have z7:=hs.none f7;replace hs:=hs.trans s7;simp only[go_sem,seval,a7,a4,ak,al];refine ad.aB rfl rfl rfl (hc _) ?_;have bad:¬(bZ l ⟨a,d,fr⟩/\fr=true/\d=0/\la l a+((SM l a).h-d)<=R5)->ie l ⟨a,d,fr⟩ R5=0:=λh=>if_neg h;by_cases hm:bZ l ⟨a,d,fr⟩
 .rw[decide_eq_true hm];cases fr
  .apply sR;simp only[go_sem,seval,a7,ak,al];exact ay.pure (hs.aE z7) (by rw[bad (λh=>by cases h.2.1)])
  have VP:=hm.2.1;simp only at VP;by_cases hd:d>0
  .have q:(d>0)=True:=eq_true hd;apply sR;simp only[go_sem,seval,a7,q,ak,al];exact ay.pure (hs.aE z7) (by rw[bad (λh=>by have:=h.2.2.1;omega)])
  .have q:(d>0)=False:=eq_false hd;obtain rfl:d=0:=by omega
   apply sR;simp only[go_sem,seval,a7,q,ak,al];refine ad.aB rfl rfl rfl (Kb l hl a _) ?_;have hlf':=Xm hm (by omega);have hy:0<=(SM l a).h/\(SM l a).h<=1152921504606846976:=by
    obtain⟨h0,h1⟩:=hm.1;simp only at h0 h1;obtain⟨n,rfl⟩:∃n:Nat,a=n:=⟨a.toNat,by omega⟩
    have hn:n<l.length:=by omega
    rw[bz hn];exact(hl.XJ _ (List.getElem_mem hn)).2.2
   have r1:RM .i64 (la l a+((SM l a).h-0)):=ao (by omega) (by omega);apply sR;simp only[go_sem,seval,a7,ag,ak,al];refine ad.aB rfl rfl rfl (hlf' _) ?_;by_cases h4:la l a+((SM l a).h-0)<=R5
   .have q4:(la l a+((SM l a).h-0)<=R5)=True:=eq_true h4;have hk:ie l ⟨a,0,true⟩ R5=la l a:=if_pos ⟨hm,rfl,rfl,h4⟩;rw[hk];apply sR;simp only[go_sem,seval,r1,q4];exact ay.pure (hs.aE z7) rfl
   .have q4:(la l a+((SM l a).h-0)<=R5)=False:=eq_false h4;rw[bad (λh=>h4 h.2.2.2)];apply sR;simp only[go_sem,seval,r1,q4];exact ay.pure (hs.aE z7) rfl
 .rw[decide_eq_false hm];apply sR;simp only[go_sem,seval,a7,ak,al];exact ay.pure (hs.aE z7) (by rw[bad (λh=>hm h.1)])
open Go.Proofs Go.Proofs.Tryz
def gQ(l:List Sk)(s:Sn):Int:=if bZ l s then(SM l s.atom).h-s.done else 0
def H8(l:List Sk)(hl:lD l)(s:Sn)(hd:s.done<=1152921504606846976):aV prog 119 [bl l,bj s] (vI (gQ l s)):=λU=>by
 refine Pd.r (by simp[Ms]) ?_;have hs:=aa.refl U;have hc:=Br l s;have Xm:=λh=>BX l hl s h hd;unfold gQ;obtain⟨a,d,fr⟩:=s;rw[sP]at hc Xm;refine ad.mix 6 ?_;apply sR;simp only[go_sem,seval,Ms,bj,ak,al];refine af λi3 Z3 s3 a3 f3=>?_;have z3:=hs.none f3;replace hs:=hs.trans s3;simp only[go_sem,seval,a3,ak,al];refine af λi5 Z5 s5 a5 f5=>?_;have Yw:=aq a3 f5;replace a3:=s5 _ _ a3;have z5:=hs.none f5;replace hs:=hs.trans s5;simp only[go_sem,seval,a5,a3,ak,al];refine ad.aB rfl rfl rfl (hc _) ?_;by_cases hm:bZ l ⟨a,d,fr⟩
 .rw[decide_eq_true hm,if_pos hm];apply sR;simp only[go_sem,seval,a5,ak,al];refine ad.aB rfl rfl rfl (Xm hm _) ?_;apply sR;simp only[go_sem,seval];exact ay.pure (hs.aE z5) rfl
 .rw[decide_eq_false hm,if_neg hm];apply sR;simp only[go_sem,seval];exact ay.pure (hs.aE z5) rfl
def dr(l:List Sk)(s:Sn)(kept shift k:Int):Int:=if bZ l s/\s.atom<=k/\k<l.length then gk l s.atom k-s.done+kept+shift else 0
def qn{l:List Sk}(hl:lD l)(i k:Int):-2305843009213693952<=gk l i k/\gk l i k<=2305843009213693952:=by
 unfold gk;split
 .rename_i h;obtain⟨n,rfl⟩:∃n:Nat,k=n:=⟨k.toNat,by omega⟩
  obtain⟨m,rfl⟩:∃m:Nat,i=m:=⟨i.toNat,by omega⟩
  have hn:n<l.length:=by omega
  have hm:m<l.length:=by omega
  rw[bz hn,bz hm];have h1:=hl.XJ _ (List.getElem_mem hn);have h2:=hl.XJ _ (List.getElem_mem hm);omega
 .omega
def yE(l:List Sk)(hl:lD l)(s:Sn)(hd:s.done<=1152921504606846976)(kept shift k:Int)(hk:-1152921504606846976<=kept/\kept<=2305843009213693952)(U7:0<=shift/\shift<=1152921504606846976):
 aV prog 240 [bl l,bj s,vI kept,vI shift,vI k] (vI (dr l s kept shift k)):=λU=>by
 refine Rc.r (by simp[JK]) ?_;have hs:=aa.refl U;have hc:=pZ l s;have hor:=qn hl s.atom k;have hlen:=gC l;have bad:¬(bZ l s/\s.atom<=k/\k<l.length)->dr l s kept shift k=0:=λh=>if_neg h;have XZ:(bZ l s/\s.atom<=k/\k<l.length)->dr l s kept shift k=gk l s.atom k-s.done+kept+shift:=λh=>if_pos h;generalize dr l s kept shift k=P at*;obtain⟨a,d,fr⟩:=s;rw[bj]at hc;simp only at hor hd XZ bad;refine ad.mix 11 ?_;apply sR;simp only[go_sem,seval,JK,bj,ak,al];refine af λi6 Z6 s6 a6 f6=>?_;have z6:=hs.none f6;replace hs:=hs.trans s6;simp only[go_sem,seval,a6,ak,al];refine ad.aB rfl rfl rfl (hc _) ?_;by_cases hm:bZ l ⟨a,d,fr⟩
 .rw[decide_eq_true hm];by_cases h1:k<a
  .have q1:(k<a)=True:=eq_true h1;apply sR;simp only[go_sem,seval,a6,q1,ak,al];exact ay.pure hs (by rw[bad (λh=>by omega)])
  have q1:(k<a)=False:=eq_false h1;by_cases h2:k>=l.length
  .have q2:(k>=l.length)=True:=eq_true h2;apply sR;simp only[go_sem,seval,a6,q1,q2,hlen,ak,al];exact ay.pure hs (by rw[bad (λh=>by omega)])
  have q2:(k>=l.length)=False:=eq_false h2;rw[XZ ⟨hm,by omega,by omega⟩];have VP:=hm.2.1;simp only at VP;have r1:RM .i64 (gk l a k-d):=ao (by omega) (by omega);have r2:RM .i64 (gk l a k-d+kept):=ao (by omega) (by omega);have r3:RM .i64 (gk l a k-d+kept+shift):=ao (by omega) (by omega);apply sR;simp only[go_sem,seval,a6,q1,q2,hlen,ak,al];refine Go.bO rfl rfl rfl (Dd l hl a k) ?_;apply sG;simp only[go_sem,seval,a6,r1,r2,r3];exact ay.pure hs rfl
 .rw[decide_eq_false hm];apply sR;simp only[go_sem,seval,a6,ak,al];exact ay.pure hs (by rw[bad (λh=>hm h.1)])
open Go.Proofs Go.Proofs.Tryz
def HJ{m:Int}(h1:0<=m)(h2:m<=18446744073709551615):RM .u64 m:=by
 unfold RM IntKind.wrap;simp only[IntKind.signed,IntKind.bits];simp;omega
def ky(p:Nat->Bool):Nat->Nat->Nat->Nat
 |0,i,_=>i
 |f+1,i,j=>if i<j then if p ((i+j)/2)then ky p f i ((i+j)/2)else ky p f ((i+j)/2+1) j else i
def BH(p:Nat->Bool)(n:Nat):Nat:=ky p n 0 n
def mQ(p:Nat->Bool):∀(f g i j:Nat),j-i<=f->j-i<=g->ky p f i j=ky p g i j
 |0,0,_,_,_,_=>rfl
 |0,g+1,i,j,h,_=>by rw[ky,ky,if_neg (by omega)]
 |f+1,0,i,j,_,h=>by rw[ky,ky,if_neg (by omega)]
 |f+1,g+1,i,j,h1,h2=>by
  rw[ky,ky];split
  .rename_i H';split
   .exact mQ p f g i ((i+j)/2) (by omega) (by omega)
   .exact mQ p f g ((i+j)/2+1) j (by omega) (by omega)
  .rfl
def FB{f:FuncId}{caps:List V}(p:Nat->Bool)(n:Nat)(hn:n<=1000000000){U:ai}(hf:∀i:Nat,i<n->aD prog f (vI i::caps) U λr Z'=>r=.bool (p i)/\Z'=U):
 aD prog 238 [vI n,.fn f caps] U λr Z'=>r=vI (BH p n)/\Z'=U:=by
 refine Rb.r (by simp[MA]) ?_;refine ad.mix 8 ?_;apply sR;simp only[go_sem,seval,MA];refine ad.loop (λm st=>∃i j:Nat,i<=j/\j<=n/\m=j-i/\BH p n=ky p (j-i) i j/\st.U=U/\st.s 1=.fn f caps/\st.s 5=vI i/\st.s 6=vI j) n ?_ ?_
 .exact⟨0,n,by omega,by omega,rfl,rfl,rfl,rfl,rfl,rfl⟩
 .rintro m ⟨S,J⟩ ⟨i,j,hij,hjn,rfl,heq,R3,t1,t5,t6⟩;simp only at R3 t1 t5 t6;subst R3;refine ad.mix 8 ?_;by_cases H':i<j
  .have q:((i:Int)<j)=True:=eq_true (by omega);have r1:RM .i64 ((i:Int)+j):=ao (by omega) (by omega);apply sR;simp only[go_sem,seval,t1,t5,t6,q,r1];have hh:((i:Int)+j).fdiv (2^min 1 64)=(((i+j)/2:Nat):Int):=by
    rw[show(2^min 1 64:Int)=2 from rfl,Int.fdiv_eq_ediv_of_nonneg _ (by decide)];omega
   rw[hh];refine⟨HJ (by omega) (by omega),ao (by omega) (by omega),?_⟩;obtain⟨k,hk⟩:∃k:Nat,k=(i+j)/2:=⟨_,rfl⟩
   rw[<-hk];obtain⟨w,hw⟩:∃w:Nat,j-i=w+1:=⟨j-i-1,by omega⟩
   rw[hw,ky,if_pos H',<-hk]at heq;refine ad.aB rfl rfl rfl (hf k (by omega)) ?_;have r2:RM .i64 ((k:Int)+1):=ao (by omega) (by omega);cases hp:p k
   .rw[hp]at heq;apply sR;simp only[go_sem,seval,t1,t5,t6,r2];refine⟨_,?_,k+1,j,by omega,hjn,rfl,?_,by simp[t1,t6]⟩
    .omega
    .rw[heq];exact mQ p _ _ _ _ (by omega) (by omega)
   .rw[hp]at heq;apply sR;simp only[go_sem,seval,t1,t5,t6];refine⟨_,?_,i,k,by omega,by omega,rfl,?_,by simp[t1,t5]⟩
    .omega
    .rw[heq];exact mQ p _ _ _ _ (by omega) (by omega)
  .have q:((i:Int)<j)=False:=eq_false (by omega);have Um:i=j:=by omega
   subst Um;apply sR;simp only[go_sem,seval,t1,t5,t6,q];refine ay.same ?_;rw[heq,Nat.sub_self];rfl
open Go.Proofs Go.Proofs.Tryz
def fF(l:List Sk)(s:Sn)(kept shift body:Int)(n:Nat):Bool:=decide (dr l s kept shift (s.atom+n)+(SM l (s.atom+n)).h>body)
def iS(l:List Sk)(s:Sn)(kept shift body:Int):Int:=if bZ l s then s.atom+BH (fF l s kept shift body) (l.length-s.atom.toNat)else 0
def xr(p:Nat->Bool):∀(f i j:Nat),i<=j->ky p f i j<=j
 |0,i,j,h=>h
 |f+1,i,j,h=>by
  rw[ky];split
  .split
   .exact Nat.le_trans (xr p f _ _ (by omega)) (by omega)
   .exact xr p f _ _ (by omega)
  .exact h
def Cp(p:Nat->Bool)(n:Nat):BH p n<=n:=xr p n 0 n (Nat.zero_le n)
def nJ{l:List Sk}(hl:lD l){s:Sn}(hd:s.done<=1152921504606846976){kept shift:Int}(hk:-1152921504606846976<=kept/\kept<=2305843009213693952)(U7:0<=shift/\shift<=1152921504606846976)(k:Int):
 -4611686018427387904<=dr l s kept shift k/\dr l s kept shift k<=5764607523034234880:=by
 unfold dr;have h1:=qn hl s.atom k;split
 .rename_i h;have:=h.1.2.1;omega
 .omega
def Gq(l:List Sk)(hl:lD l)(s:Sn)(hm:bZ l s)(hd:s.done<=1152921504606846976)(kept shift body:Int)(hk:-1152921504606846976<=kept/\kept<=2305843009213693952)(U7:0<=shift/\shift<=1152921504606846976)
 {U:ai}{i5 i6 i7 i8 i9:Nat}(a5:U i5=some ⟨77,1,[bl l]⟩)(a6:U i6=some ⟨42,3,[bj s]⟩)(a7:U i7=some ⟨3,1,[vI kept]⟩)(a8:U i8=some ⟨3,1,[vI shift]⟩)(a9:U i9=some ⟨3,1,[vI body]⟩)
 (n:Nat)(hn:n<l.length-s.atom.toNat):
 aD prog 239 [vI n,.ptr i6 0 0,.ptr i5 0 0,.ptr i7 0 0,.ptr i8 0 0,.ptr i9 0 0] U λr Z'=>r=.bool (fF l s kept shift body n)/\Z'=U:=by
 refine OC.r (by simp[ID]) ?_;have ZC:=nJ hl hd hk U7 (s.atom+n);have Uu:=yE l hl s hd kept shift (s.atom+n) hk U7;unfold fF;have Ye:=hl.len;obtain⟨a,d,fr⟩:=s;obtain⟨h0,h1⟩:=hm.1;rw[bj]at a6 Uu;simp only at h0 h1 hn ZC Uu|-;obtain⟨m,rfl⟩:∃m:Nat,a=m:=⟨a.toNat,by omega⟩
 have e1:(m:Int)+(n:Int)=((m+n:Nat):Int):=by omega
 rw[e1]at ZC Uu|-;have hmn:m+n<l.length:=by omega
 have Rv:=λU=>iD (U:=U) hmn;have hy:=hl.XJ _ (List.getElem_mem hmn);rw[bz hmn];have r1:RM .i64 ((m+n:Nat):Int):=ao (by omega) (by omega);generalize dr l ⟨m,d,fr⟩ kept shift ((m+n:Nat):Int)=P at*;have r2:RM .i64 (P+l[m+n].h):=ao (by omega) (by omega);generalize m+n=q at*;refine ad.mix 9 ?_;by_cases hb:P+l[q].h>body
 .have q1:(P+l[q].h>body)=True:=eq_true hb;apply sR;simp only[go_sem,seval,ID,a5,a6,a7,a8,a9,e1,r1,ak,al];refine Go.bO rfl rfl rfl Uu ?_;apply sG;simp only[go_sem,seval,a5,a6,a7,a8,a9,r2,Rv,cF,q1,ak,al];exact ay.same rfl
 .have q1:(P+l[q].h>body)=False:=eq_false hb;apply sR;simp only[go_sem,seval,ID,a5,a6,a7,a8,a9,e1,r1,ak,al];refine Go.bO rfl rfl rfl Uu ?_;apply sG;simp only[go_sem,seval,a5,a6,a7,a8,a9,r2,Rv,cF,q1,ak,al];exact ay.same rfl
def zP(l:List Sk)(hl:lD l)(s:Sn)(hd:s.done<=1152921504606846976)(kept shift body:Int)(hk:-1152921504606846976<=kept/\kept<=2305843009213693952)(U7:0<=shift/\shift<=1152921504606846976):
 aV prog 179 [bl l,bj s,vI kept,vI shift,vI body] (vI (iS l s kept shift body)):=λU=>by
 refine Pm.r (by simp[ME]) ?_;have hs:=aa.refl U;have hc:=pZ l s;have hlen:=gC l;have Ye:=hl.len;refine ad.mix 12 ?_;have Uj:(bj s).cells=[vI s.atom,vI s.done,.bool s.free]:=rfl;have U2:(bj s).stays=true:=rfl;apply sR;simp only[go_sem,seval,ME,Uj,U2,ak,al];refine af λi5 Z5 s5 a5 f5=>?_;have z5:=hs.none f5;replace hs:=hs.trans s5;simp only[go_sem,seval,Uj,U2,ak,al];refine af λi6 Z6 s6 a6 f6=>?_;have n56:=aq a5 f6;replace a5:=s6 _ _ a5;have z6:=hs.none f6;replace hs:=hs.trans s6;simp only[go_sem,seval,Uj,U2,ak,al];refine af λi7 Z7 s7 a7 f7=>?_;have n57:=aq a5 f7;replace a5:=s7 _ _ a5;have V7:=aq a6 f7;replace a6:=s7 _ _ a6;have z7:=hs.none f7;replace hs:=hs.trans s7;simp only[go_sem,seval,Uj,U2,ak,al];refine af λi8 Z8 s8 a8 f8=>?_;have n58:=aq a5 f8;replace a5:=s8 _ _ a5;have n68:=aq a6 f8;replace a6:=s8 _ _ a6;have XE:=aq a7 f8;replace a7:=s8 _ _ a7;have z8:=hs.none f8;replace hs:=hs.trans s8;simp only[go_sem,seval,Uj,U2,ak,al];refine af λi9 Z9 s9 a9 f9=>?_;have n59:=aq a5 f9;replace a5:=s9 _ _ a5;have n69:=aq a6 f9;replace a6:=s9 _ _ a6;have n79:=aq a7 f9;replace a7:=s9 _ _ a7;have Yb:=aq a8 f9;replace a8:=s9 _ _ a8;have z9:=hs.none f9;replace hs:=hs.trans s9;have b6:=a6;rw[bj]at b6;simp only[go_sem,seval,a5,b6,ak,al];refine ad.aB rfl rfl rfl (hc _) ?_;unfold iS;by_cases hm:bZ l s
 .obtain⟨h0,h1⟩:=hm.1;obtain⟨m,hmm⟩:∃m:Nat,s.atom=m:=⟨s.atom.toNat,by omega⟩
  have hn:((l.length:Int)-s.atom)=((l.length-s.atom.toNat:Nat):Int):=by omega
  have r1:RM .i64 ((l.length-s.atom.toNat:Nat):Int):=ao (by omega) (by omega);rw[decide_eq_true hm,if_pos hm];apply sR;simp only[go_sem,seval,a5,b6,hlen,hn,r1,ak,al];refine ad.aB rfl rfl rfl (FB (fF l s kept shift body) (l.length-s.atom.toNat) (by omega) (λi hi=>Gq l hl s hm hd kept shift body hk U7 a5 a6 a7 a8 a9 i hi)) ?_;have hse:=Cp (fF l s kept shift body) (l.length-s.atom.toNat);have r2:RM .i64 (s.atom+(BH (fF l s kept shift body) (l.length-s.atom.toNat):Nat)):=ao (by omega) (by omega);apply sR;simp only[go_sem,seval,b6,r2];exact ay.pure hs rfl
 .rw[decide_eq_false hm,if_neg hm];apply sR;simp only[go_sem,seval];exact ay.pure hs rfl
open Go.Proofs Go.Proofs.Tryz
structure Tp where
 (node atom fr x y w h:Int)
deriving DecidableEq
def bo(f:Tp):V:=.agg [vI f.node,vI f.atom,vI f.fr,vI f.x,vI f.y,vI f.w,vI f.h]
def fp(l:List Sk)(k:Int):Tp:=⟨(SM l k).node,k,0,(SM l k).x,0,(SM l k).w,(SM l k).h⟩
def Tp.bS(f:Tp)(d:Int):Tp:={ f with fr:=d,h:=f.h-d }
def Tp.cut(f:Tp)(a:Int):Tp:={ f with h:=min f.h a }
def jh(l:List Sk)(f:Tp):Sn:=if f.fr+f.h<(SM l f.atom).h then⟨f.atom,f.fr+f.h,false⟩else⟨f.atom+1,0,false⟩
def EY(l:List Sk)(k:Nat)(hk:k<l.length):aV prog 289 [bl l,vI k] (bo (fp l k)):=λU=>by
 refine Qt.r (by simp[LS]) ?_;have hs:=aa.refl U;have Rv:=λU=>iD (U:=U) hk;rw[fp,bz hk];refine ad.mix 6 ?_;apply sR;simp only[go_sem,seval,LS];refine af λi4 Z4 s4 a4 f4=>?_;have z4:=hs.none f4;replace hs:=hs.trans s4;simp only[go_sem,seval,Rv,cF,ak,al];refine af λi5 Z5 s5 a5 f5=>?_;have TL:=aq a4 f5;replace a4:=s5 _ _ a4;have z5:=hs.none f5;replace hs:=hs.trans s5;simp only[go_sem,seval,a5,a4,ab TL,ak,al];exact ay.pure ((hs.aE z5).aE z4) rfl
def zm(f:Tp)(d:Int)(hr:RM .i64 (f.h-d)){U:ai}{i:Nat}(h:U i=some ⟨367,7,[bo f]⟩):
 aD prog 290 [.ptr i 0 0,vI d] U λ_ Z'=>Z'=C' U i ⟨367,7,[bo (f.bS d)]⟩:=by
 refine QH.r (by simp[LV]) ?_;rw[bo]at h;refine ad.mix 4 ?_;generalize hX:(C' U i ⟨367,7,[bo (f.bS d)]⟩)=X;apply sR;simp only[go_sem,seval,LV,h,hr];exact⟨_,_,aa.refl _,Wk.refl (aa.refl _) _,hX⟩
def Hf(f:Tp)(a:Int){U:ai}{i:Nat}(h:U i=some ⟨367,7,[bo f]⟩):
 aD prog 291 [.ptr i 0 0,vI a] U λ_ Z'=>Z'=C' U i ⟨367,7,[bo (f.cut a)]⟩:=by
 refine P8.r (by simp[Jg]) ?_;rw[bo]at h;refine ad.mix 4 ?_;generalize hX:(C' U i ⟨367,7,[bo (f.cut a)]⟩)=X;apply sR;simp only[go_sem,seval,Jg,h,e8];exact⟨_,_,aa.refl _,Wk.refl (aa.refl _) _,hX⟩
def Bl(l:List Sk)(f:Tp)(k:Nat)(hf:f.atom=k)(hk:k<l.length)(hl:l.length<=1000000000)(hr:RM .i64 (f.fr+f.h)){U:ai}{i:Nat}(h:U i=some ⟨367,7,[bo f]⟩):
 aD prog 292 [.ptr i 0 0,bl l] U λr Z'=>r=bj (jh l f)/\Z'=U:=by
 refine Q4.r (by simp[Jq]) ?_;have hs:=aa.refl U;have Rv:=λU=>iD (U:=U) hk;obtain⟨nd,RY,fr,x,y,w,hh⟩:=f;simp only at hf hr;subst hf;rw[bo]at h;unfold jh;simp only;rw[bz hk];have r1:RM .i64 ((k:Int)+1):=ao (by omega) (by omega);refine ad.mix 6 ?_;apply sR;simp only[go_sem,seval,Jq];refine af λi4 Z4 s4 a4 f4=>?_;have z4:=hs.none f4;replace hs:=hs.trans s4;have b:=s4 _ _ h;have n4:i≠i4:=aq h f4;by_cases hc:fr+hh<l[k].h
 .have q:(fr+hh<l[k].h)=True:=eq_true hc;rw[if_pos hc];simp only[go_sem,seval,a4,b,hr,r1,q,Rv,cF];exact ay.pure (hs.aE z4) rfl
 .have q:(fr+hh<l[k].h)=False:=eq_false hc;rw[if_neg hc];simp only[go_sem,seval,a4,b,hr,r1,q,Rv,cF];exact ay.pure (hs.aE z4) rfl
open Go.Proofs Go.Proofs.Tryz
def kB{s:Nat->V}{U:ai}{a1 a2:Bool}{n1 n2 d e:Nat}{Post:V->ai->Prop}:
 VL [.cell a1 n1 (.t d),.cell a2 n2 (.t e)] ⟨s,U⟩ Post=dS (bT U a1 n1 (s d)) λv=>dS (bT U a2 n2 (s e)) λw=>ay (.RB [v,w]) U Post:=by
 unfold VL ay mW;simp only[eV,gJ,VX.ev];cases bT U a1 n1 (s d)<;>cases bT U a2 n2 (s e)<;>simp[dS]
def dR(l:List Sk)(s:Sn)(R5:Int):Tp:=((fp l s.atom).bS s.done).cut R5
def ku(l:List Sk)(s:Sn)(R5:Int):Prop:=bZ l s/\1<=R5
instance (l:List Sk) (s:Sn) (R5:Int):Decidable (ku l s R5):=by unfold ku;infer_instance
def ij(l:List Sk)(s:Sn)(R5:Int):Tp:=if ku l s R5 then dR l s R5 else⟨0,0,0,0,0,0,0⟩
def ew(l:List Sk)(s:Sn)(R5:Int):Sn:=if ku l s R5 then jh l (dR l s R5)else⟨0,0,false⟩
def MH(l:List Sk)(hl:lD l)(s:Sn)(hd:s.done<=1152921504606846976)(R5:Int):aV prog 241 [bl l,bj s,vI R5] (.RB [bo (ij l s R5),bj (ew l s R5)]):=λU=>by
 refine PA.r (by simp[MR]) ?_;have hs:=aa.refl U;have Ye:=hl.len;have Uj:(bj s).cells=[vI s.atom,vI s.done,.bool s.free]:=rfl;have U2:(bj s).stays=true:=rfl;refine ad.mix 9 ?_;apply sR;simp only[go_sem,seval,MR,Uj,U2,ak,al];refine af λi4 Z4 s4 a4 f4=>?_;have z4:=hs.none f4;replace hs:=hs.trans s4;simp only[go_sem,seval];refine af λi6 Z6 s6 a6 f6=>?_;have Zu:=aq a4 f6;replace a4:=s6 _ _ a4;have z6:=hs.none f6;replace hs:=hs.trans s6;simp only[go_sem,seval];refine af λi7 Z7 s7 a7 f7=>?_;have n47:=aq a4 f7;replace a4:=s7 _ _ a4;have V7:=aq a6 f7;replace a6:=s7 _ _ a6;have z7:=hs.none f7;replace hs:=hs.trans s7;have b4:=a4;rw[bj]at b4;simp only[go_sem,seval,b4,ak,al];refine ad.aB rfl rfl rfl (pZ l s _) ?_;have bad:¬ku l s R5->(bo (ij l s R5)=.agg [vI 0,vI 0,vI 0,vI 0,vI 0,vI 0,vI 0]/\bj (ew l s R5)=.agg [vI 0,vI 0,.bool false]):=λh=>by
  rw[ij,ew,if_neg h,if_neg h];exact⟨rfl,rfl⟩
 have XZ:ku l s R5->(ij l s R5=dR l s R5/\ew l s R5=jh l (dR l s R5)):=λh=>⟨if_pos h,if_pos h⟩
 generalize ij l s R5=X at*;generalize ew l s R5=Y at*;by_cases hm:bZ l s
 .rw[decide_eq_true hm];by_cases h1:R5<1
  .have q1:(R5<1)=True:=eq_true h1;obtain⟨e1,e2⟩:=bad (λh=>by have:=h.2;omega);rw[e1,e2];apply sR;simp only[go_sem,seval,a6,a7,ab V7,ab V7.symm,q1,kB];exact ay.pure ((hs.aE z6).aE z7) rfl
  have q1:(R5<1)=False:=eq_false h1;obtain⟨rfl,rfl⟩:=XZ ⟨hm,by omega⟩;clear XZ bad;obtain⟨h0,h2⟩:=hm.1;obtain⟨k,hk⟩:∃k:Nat,s.atom=k:=⟨s.atom.toNat,by omega⟩
  have TR:k<l.length:=by omega
  apply sR;simp only[go_sem,seval,b4,hk,q1,ak,al];refine ad.aB rfl rfl rfl (EY l k TR _) ?_;have Vv:∀f,(bo f).cells=[vI f.node,vI f.atom,vI f.fr,vI f.x,vI f.y,vI f.w,vI f.h]:=λ_=>rfl;apply sR;simp only[go_sem,seval];refine af λi8 Z8 s8 a8 f8=>?_;have n48:=aq a4 f8;replace a4:=s8 _ _ a4;have n68:=aq a6 f8;replace a6:=s8 _ _ a6;have XE:=aq a7 f8;replace a7:=s8 _ _ a7;have z8:=hs.none f8;replace hs:=hs.trans s8;have VP:=hm.2.1;have hy:=hl.XJ _ (List.getElem_mem TR);have hdh:s.done=0\/s.done<l[k].h:=by have:=hm.2.2;rw[hk,bz TR]at this;exact this
  have Zh:(fp l k).h=l[k].h:=by rw[fp,bz TR]
  have TH:∀f,(bo f).stays=true:=λ_=>rfl;rw[bj]at a4;simp only[go_sem,seval,a8,a4,ab n48,Vv,TH];generalize SY:C' _ i8 _=Y8;replace a8:=(congrFun SY i8).symm.trans ag;replace a4:=((congrFun SY i4).symm.trans (ab n48)).trans a4;replace a6:=((congrFun SY i6).symm.trans (ab n68)).trans a6;replace a7:=((congrFun SY i7).symm.trans (ab XE)).trans a7;replace hs:=Eq.subst (motive:=aa _) SY (hs.aE z8);clear SY;have h8:Y8 i8=some ⟨367,7,[bo (fp l k)]⟩:=a8;refine ad.call rfl rfl rfl (zm (fp l k) s.done (ao (by omega) (by omega)) h8) ?_;rintro-Z9 rfl;generalize SY:C' _ i8 _=Y8;replace a8:=(congrFun SY i8).symm.trans ag;replace a4:=((congrFun SY i4).symm.trans (ab n48)).trans a4;replace a6:=((congrFun SY i6).symm.trans (ab n68)).trans a6;replace a7:=((congrFun SY i7).symm.trans (ab XE)).trans a7;replace hs:=Eq.subst (motive:=aa _) SY (hs.aE z8);clear SY;apply sR;simp only[go_sem,seval];refine ad.call rfl rfl rfl (Hf ((fp l k).bS s.done) R5 a8) ?_;rintro-Z9 rfl;generalize SY:C' _ i8 _=Y8;replace a8:=(congrFun SY i8).symm.trans ag;replace a4:=((congrFun SY i4).symm.trans (ab n48)).trans a4;replace a6:=((congrFun SY i6).symm.trans (ab n68)).trans a6;replace a7:=((congrFun SY i7).symm.trans (ab XE)).trans a7;replace hs:=Eq.subst (motive:=aa _) SY (hs.aE z8);clear SY;have W2:((fp l k).bS s.done).cut R5=dR l s R5:=by rw[dR,hk]
  rw[W2]at a8;have ha:(dR l s R5).atom=k:=by rw[<-W2];rfl
  have UM:(dR l s R5).fr=s.done:=by rw[<-W2];rfl
  have hhh:(dR l s R5).h=min (l[k].h-s.done) R5:=by rw[<-W2,<-Zh];rfl
  have ZW:=λ(Z1:ai) (h1:aa Y8 Z1)=>Bl l (dR l s R5) k ha TR Ye (ao (by omega) (by omega)) (h1 _ _ a8);generalize jh l (dR l s R5)=Y at*;generalize dR l s R5=X at*;have b8:=a8;rw[bo]at b8;apply sR;simp only[go_sem,seval,b8];refine Go.xp rfl rfl rfl (λZ1 h1=>ZW Z1 h1) ?_;have hyc:(bj Y).cells=[vI Y.atom,vI Y.done,.bool Y.free]:=rfl;have hys:(bj Y).stays=true:=rfl;apply sG;simp only[go_sem,seval,a6,a7,ab V7,ab V7.symm,hyc,hys,kB];exact ay.pure ((hs.aE z6).aE z7) rfl
 .rw[decide_eq_false hm];obtain⟨e1,e2⟩:=bad (λh=>hm h.1);rw[e1,e2];apply sR;simp only[go_sem,seval,a6,a7,ab V7,ab V7.symm,kB];exact ay.pure ((hs.aE z6).aE z7) rfl
open Go.Proofs Go.Proofs.Tryz
def jA(l:List Sk)(k:Int)(y:Int):Tp:={ fp l k with y:=y }
def cT(l:List Sk)(s:Sn)(kept shift k:Int):Tp:=
 if bZ l s/\s.atom<=k/\k<l.length then
  (if k=s.atom then{ (jA l k (dr l s kept shift k)).bS s.done with y:=dr l s kept shift k+s.done }else jA l k (dr l s kept shift k))
 else⟨0,0,0,0,0,0,0⟩
def Dh(l:List Sk)(hl:lD l)(s:Sn)(hd:s.done<=1152921504606846976)(kept shift k:Int)(hk:-1152921504606846976<=kept/\kept<=2305843009213693952)(U7:0<=shift/\shift<=1152921504606846976):
 aV prog 243 [bl l,bj s,vI kept,vI shift,vI k] (bo (cT l s kept shift k)):=λU=>by
 refine OG.r (by simp[LL]) ?_;have hs:=aa.refl U;have hlen:=gC l;have Uj:(bj s).cells=[vI s.atom,vI s.done,.bool s.free]:=rfl;have U2:(bj s).stays=true:=rfl;have Uu:=yE l hl s hd kept shift k hk U7;have ZC:=nJ hl hd hk U7 k;refine ad.mix 12 ?_;apply sR;simp only[go_sem,seval,LL,Uj,U2,ak,al];refine af λi6 Z6 s6 a6 f6=>?_;have z6:=hs.none f6;replace hs:=hs.trans s6;simp only[go_sem,seval];refine af λSb WO TV Sg f10=>?_;have n610:=aq a6 f10;replace a6:=TV _ _ a6;have Vr:=hs.none f10;replace hs:=hs.trans TV;rw[bj]at a6 Uu;simp only[go_sem,seval,a6,ak,al];refine ad.aB rfl rfl rfl (pZ l s _) ?_;have bad:¬(bZ l s/\s.atom<=k/\k<l.length)->bo (cT l s kept shift k)=.agg [vI 0,vI 0,vI 0,vI 0,vI 0,vI 0,vI 0]:=λh=>by
  rw[cT,if_neg h];rfl
 have XZ:(bZ l s/\s.atom<=k/\k<l.length)->cT l s kept shift k=(if k=s.atom then{ (jA l k (dr l s kept shift k)).bS s.done with y:=dr l s kept shift k+s.done }else jA l k (dr l s kept shift k)):=λh=>if_pos h;generalize cT l s kept shift k=X at*;by_cases hm:bZ l s
 .rw[decide_eq_true hm];by_cases h1:k<s.atom
  .have q1:(k<s.atom)=True:=eq_true h1;rw[bad (λh=>by omega)];apply sR;simp only[go_sem,seval,a6,Sg,q1,ak,al];exact ay.pure (hs.aE Vr) rfl
  have q1:(k<s.atom)=False:=eq_false h1;by_cases h2:k>=l.length
  .have q2:(k>=l.length)=True:=eq_true h2;rw[bad (λh=>by omega)];apply sR;simp only[go_sem,seval,a6,Sg,q1,q2,hlen,ak,al];exact ay.pure (hs.aE Vr) rfl
  have q2:(k>=l.length)=False:=eq_false h2;obtain rfl:=XZ ⟨hm,by omega,by omega⟩;clear XZ bad;obtain⟨h0,h3⟩:=hm.1;obtain⟨n,rfl⟩:∃n:Nat,k=n:=⟨k.toNat,by omega⟩
  have Vb:n<l.length:=by omega
  apply sR;simp only[go_sem,seval,a6,q1,q2,hlen,ak,al];refine ad.aB rfl rfl rfl (EY l n Vb _) ?_;have Vv:∀f,(bo f).cells=[vI f.node,vI f.atom,vI f.fr,vI f.x,vI f.y,vI f.w,vI f.h]:=λ_=>rfl;have TH:∀f,(bo f).stays=true:=λ_=>rfl;generalize dr l s kept shift (n:Int)=P at*;apply sR;simp only[go_sem,seval,Vv,TH];refine af λTz ZS VO Vs f11=>?_;have UI:=aq a6 f11;replace a6:=VO _ _ a6;have SR:=aq Sg f11;replace Sg:=VO _ _ Sg;have z11:=hs.none f11;replace hs:=hs.trans VO;simp only[go_sem,seval,Vs,a6,ab (Ne.symm UI),ab UI,Vv,TH,ak,al];generalize Tj:C' _ Tz _=Y11;replace Vs:=(congrFun Tj Tz).symm.trans ag;replace a6:=((congrFun Tj i6).symm.trans (ab UI)).trans a6;replace Sg:=((congrFun Tj Sb).symm.trans (ab SR)).trans Sg;replace hs:=Eq.subst (motive:=aa _) Tj (hs.aE z11);clear Tj;refine ad.aB rfl rfl rfl (Uu _) ?_;rw[bo]at Vs;have VP:=hm.2.1;have hy:=hl.XJ _ (List.getElem_mem Vb);have Zh:(fp l n).h=l[n].h:=by rw[fp,bz Vb]
  by_cases he:(n:Int)=s.atom
  .have q3:((n:Int)=s.atom)=True:=eq_true he;rw[if_pos he];have r2:RM .i64 (P+s.done):=ao (by omega) (by omega);apply sR;simp only[go_sem,seval,Vs,a6,q3,ak,al,ab UI];generalize Tj:C' _ Tz _=Y11;replace Vs:=(congrFun Tj Tz).symm.trans ag;replace a6:=((congrFun Tj i6).symm.trans (ab UI)).trans a6;replace Sg:=((congrFun Tj Sb).symm.trans (ab SR)).trans Sg;replace hs:=Eq.subst (motive:=aa _) Tj (hs.aE z11);clear Tj;have VQ:Y11 Tz=some ⟨367,7,[bo (jA l n P)]⟩:=Vs;refine ad.call rfl rfl rfl (zm (jA l n P) s.done (ao (by show _<=(fp l n).h-s.done;omega) (by show(fp l n).h-s.done<=_;omega)) VQ) ?_;rintro-Z9 rfl;generalize Tj:C' _ Tz _=Y11;replace Vs:=(congrFun Tj Tz).symm.trans ag;replace a6:=((congrFun Tj i6).symm.trans (ab UI)).trans a6;replace Sg:=((congrFun Tj Sb).symm.trans (ab SR)).trans Sg;replace hs:=Eq.subst (motive:=aa _) Tj (hs.aE z11);clear Tj;rw[bo]at Vs;have r3:RM .i64 (((jA l n P).bS s.done).y+s.done):=r2;apply sR;simp only[go_sem,seval,Vs,a6,Sg,r3,ab UI,ab SR];exact ay.pure ((hs.aE z11).aE Vr) rfl
  .have q3:((n:Int)=s.atom)=False:=eq_false he;rw[if_neg he];apply sR;simp only[go_sem,seval,Vs,a6,Sg,q3,ak,al,ab UI,ab SR];exact ay.pure ((hs.aE z11).aE Vr) rfl
 .rw[decide_eq_false hm];rw[bad (λh=>hm h.1)];apply sR;simp only[go_sem,seval,Sg];exact ay.pure (hs.aE Vr) rfl
open Go.Proofs Go.Proofs.Tryz
def mulR(a n:Int):Int:=
 if dL n≠0/\(dL a>(1099511627776:Int).tdiv (max (dL n) (-dL n))\/dL a<(-1099511627776:Int).tdiv (max (dL n) (-dL n)))then
  (if decide (dL a<0)=decide (dL n<0)then 1099511627776 else -1099511627776)
 else dL a*dL n
def IG{A B:Int}(h1:A<=(1099511627776:Int).tdiv (max B (-B)))(h2:(-1099511627776:Int).tdiv (max B (-B))<=A)(hB:B≠0):-1099511627776<=A*B/\A*B<=1099511627776:=by
 obtain⟨M,hM⟩:∃M,M=max B (-B):=⟨_,rfl⟩
 rw[<-hM]at h1 h2;have hM1:1<=M:=by omega
 rw[Int.neg_tdiv]at h2;rw[Int.tdiv_eq_ediv_of_nonneg (by omega)]at h1 h2;have h3:(1099511627776:Int)/M*M<=1099511627776:=Int.ediv_mul_le _ (by omega);have h4:=Int.mul_le_mul_of_nonneg_right h1 (by omega:0<=M);have h5:=Int.mul_le_mul_of_nonneg_right h2 (by omega:0<=M);rw[Int.neg_mul]at h5;rcases(by omega:M=B\/M=-B)with e|e
 .rw[e]at h4 h5 h3;omega
 .have hb:B=-M:=by omega
  rw[hb,Int.mul_neg];omega
def Ot(a n:Int):aV prog 47 [vI a,vI n] (vI (mulR a n)):=λU=>by
 refine e47.r (by simp[c47]) ?_;refine ad.mix 5 ?_;apply sR;simp only[go_sem,seval,c47];refine ad.aB rfl rfl rfl (yF a _) ?_;apply sR;simp only[go_sem,seval];refine ad.aB rfl rfl rfl (yF n _) ?_;unfold mulR;have hA:-1099511627776<=dL a/\dL a<=1099511627776:=by unfold dL;omega
 have hB:-1099511627776<=dL n/\dL n<=1099511627776:=by unfold dL;omega
 generalize dL a=A at*;generalize dL n=B at*;have b1:(true==true)=true:=rfl;have b2:(true==false)=false:=rfl;have b3:(false==true)=false:=rfl;have b4:(false==false)=true:=rfl;by_cases h0:B=0
 .subst h0;have q0:((0:Int)≠0)=False:=eq_false (λh=>h rfl);have r1:RM .i64 (A*0):=ao (by omega) (by omega);apply sR;simp only[go_sem,seval,q0,r1];exact ay.same (by rw[if_neg (by simp)])
 have q0:(B≠0)=True:=eq_true h0;have hM1:1<=max B (-B)/\max B (-B)<=1099511627776:=by omega
 have qM:(max B (-B)=0)=False:=eq_false (by omega);have rn:RM .i64 (-B):=ao (by omega) (by omega);have t1:0<=(1099511627776:Int).tdiv (max B (-B))/\(1099511627776:Int).tdiv (max B (-B))<=1099511627776:=by
  rw[Int.tdiv_eq_ediv_of_nonneg (by omega)];exact⟨Int.ediv_nonneg (by omega) (by omega),Int.ediv_le_self _ (by omega)⟩
 have t2:(-1099511627776:Int).tdiv (max B (-B))=-((1099511627776:Int).tdiv (max B (-B))):=Int.neg_tdiv ..;have hr:=IG (A:=A) (B:=B);have rq1:RM .i64 ((1099511627776:Int).tdiv (max B (-B))):=ao (by omega) (by omega);have rq2:RM .i64 ((-1099511627776:Int).tdiv (max B (-B))):=ao (by omega) (by omega);by_cases h1:A>(1099511627776:Int).tdiv (max B (-B))
 .have q1:(A>(1099511627776:Int).tdiv (max B (-B)))=True:=eq_true h1;rw[if_pos ⟨h0,.inl h1⟩];by_cases sA:A<0
  .have qA:(A<0)=True:=eq_true sA;by_cases sB:B<0
   .have qB:(B<0)=True:=eq_true sB;apply sR;simp only[go_sem,seval,q0,Int.zero_sub,rn,dg,qM,rq1,q1,qA,qB,b1,b2,b3,b4];exact ay.same (by first|rfl|simp[sA,sB])
   .have qB:(B<0)=False:=eq_false sB;apply sR;simp only[go_sem,seval,q0,Int.zero_sub,rn,dg,qM,rq1,q1,qA,qB,b1,b2,b3,b4];exact ay.same (by first|rfl|simp[sA,sB])
  .have qA:(A<0)=False:=eq_false sA;by_cases sB:B<0
   .have qB:(B<0)=True:=eq_true sB;apply sR;simp only[go_sem,seval,q0,Int.zero_sub,rn,dg,qM,rq1,q1,qA,qB,b1,b2,b3,b4];exact ay.same (by first|rfl|simp[sA,sB])
   .have qB:(B<0)=False:=eq_false sB;apply sR;simp only[go_sem,seval,q0,Int.zero_sub,rn,dg,qM,rq1,q1,qA,qB,b1,b2,b3,b4];exact ay.same (by first|rfl|simp[sA,sB])
 have q1:(A>(1099511627776:Int).tdiv (max B (-B)))=False:=eq_false h1;by_cases h2:A<(-1099511627776:Int).tdiv (max B (-B))
 .have q2:(A<(-1099511627776:Int).tdiv (max B (-B)))=True:=eq_true h2;rw[if_pos ⟨h0,.inr h2⟩];by_cases sA:A<0
  .have qA:(A<0)=True:=eq_true sA;by_cases sB:B<0
   .have qB:(B<0)=True:=eq_true sB;apply sR;simp only[go_sem,seval,q0,Int.zero_sub,rn,dg,qM,rq1,q1,rq2,q2,qA,qB,b1,b2,b3,b4];exact ay.same (by first|rfl|simp[sA,sB])
   .have qB:(B<0)=False:=eq_false sB;apply sR;simp only[go_sem,seval,q0,Int.zero_sub,rn,dg,qM,rq1,q1,rq2,q2,qA,qB,b1,b2,b3,b4];exact ay.same (by first|rfl|simp[sA,sB])
  .have qA:(A<0)=False:=eq_false sA;by_cases sB:B<0
   .have qB:(B<0)=True:=eq_true sB;apply sR;simp only[go_sem,seval,q0,Int.zero_sub,rn,dg,qM,rq1,q1,rq2,q2,qA,qB,b1,b2,b3,b4];exact ay.same (by first|rfl|simp[sA,sB])
   .have qB:(B<0)=False:=eq_false sB;apply sR;simp only[go_sem,seval,q0,Int.zero_sub,rn,dg,qM,rq1,q1,rq2,q2,qA,qB,b1,b2,b3,b4];exact ay.same (by first|rfl|simp[sA,sB])
 have q2:(A<(-1099511627776:Int).tdiv (max B (-B)))=False:=eq_false h2;have hr':=hr (by omega) (by omega) h0;have r3:RM .i64 (A*B):=ao (by omega) (by omega);rw[if_neg (λh=>by rcases h.2 with h|h;exact h1 h;exact h2 h)]
 apply sR;simp only[go_sem,seval,q0,Int.zero_sub,rn,dg,qM,rq1,q1,rq2,q2,r3];exact ay.same rfl
open Go.Proofs Go.Proofs.Tryz
def DU(l:List P')(hl:l.length<=1000000):Iter prog 321 [.rp (aH l)] (l.map λf=>[aQ f]):=by
 refine⟨NT.c,λRZ τ Jx Z0 hy hJ=>?_⟩;refine(NT.r (by simp[Mi]) ?_).2;have ldF:∀U:ai,bT U false 1 (.rp (aH l))=some (aH l):=λU=>rfl;have Vd:=gi l;refine ad.mix 5 ?_;apply sR;simp only[go_sem,seval,Mi,ldF,Vd];refine ad.loop (λm st=>∃(j:Nat) (ZJ:ai),j<=l.length/\m=l.length-j/\τ ((l.take j).map λf=>[aQ f]) ZJ/\aa ZJ st.U/\st.s 0=.yl RZ/\st.s 5=aH l/\st.s 6=vI l.length/\st.s 7=vI j) l.length ?_ ?_
 .exact⟨0,Z0,by omega,rfl,by simpa using hJ,aa.refl _,rfl,rfl,rfl,rfl⟩
 .rintro m ⟨S,J⟩ ⟨j,ZJ,hj,rfl,Tq,G',t0,t5,t6,t7⟩;simp only at G' t0 t5 t6 t7;refine ad.mix 5 ?_;by_cases H':j<l.length
  .have q:((j:Int)<l.length)=True:=eq_true (by omega);have r1:RM .i64 ((j:Int)+1):=ao (by omega) (by omega);have Rv:=λU=>jX (U:=U) H';have e0':l=l.take j++l[j]::l.drop (j+1):=by rw[<-List.drop_eq_getElem_cons H',List.take_append_drop]
   have e:(l.map λf=>[aQ f])=((l.take j).map λf=>[aQ f])++[aQ l[j]]::((l.drop (j+1)).map λf=>[aQ f]):=by
    have:=congrArg (List.map λf=>[aQ f]) e0'
    rwa [List.map_append,List.map_cons]at this
   have SB:((l.take (j+1)).map λf=>[aQ f])=((l.take j).map λf=>[aQ f])++[[aQ l[j]]]:=by rw[List.take_succ_eq_append_getElem H',List.map_append];rfl
   have U6:aQ l[j]=.agg [vI l[j].node,vI l[j].side,vI l[j].anchor,vI l[j].x,vI l[j].y,vI l[j].w,vI l[j].h]:=rfl;generalize l[j]=x at*;apply sR;simp only[go_sem,seval,t0,t5,t6,t7,q,Rv,U6];refine af λi4 Z4 s4 a4 f4=>?_;simp only[go_sem,seval,a4,t0,t5,t6,t7];generalize Tv:C' Z4 i4 _=Y4;have hs4:aa J Y4:=by rw[<-Tv];exact s4.aE f4
   clear Tv;refine ad.lN (Post:=λb' Z2=>∃RX,bh ZJ Y4 RX Z2/\((b'=true/\τ (((l.take j).map λf=>[aQ f])++[[aQ x]]) RX)\/(b'=false/\Jx (((l.take j).map λf=>[aQ f])++[[aQ x]]) RX))) rfl rfl rfl (hy _ [aQ x] _ ZJ Y4 e Tq (G'.trans hs4)) ?_;rintro b' Z2 ⟨RX,SI,Sr⟩;rcases Sr with⟨rfl,Sr⟩|⟨rfl,Sr⟩
   .apply sR;simp only[go_sem,seval,t0,t5,t6,t7,r1];refine⟨_,?_,j+1,RX,by omega,rfl,by rw[SB];exact Sr,SI.1,by simp[t0,t5,t6]⟩;omega
   .apply sR;simp only[go_sem,seval,t0,t5,t6,t7];exact⟨_,RX,SI.1,Wk.refl SI.1 _,.inr ⟨_,⟨_,by rw[e,List.append_assoc];rfl⟩,Sr⟩⟩
  .have q:((j:Int)<l.length)=False:=eq_false (by omega);rw[List.take_of_length_le (by omega)]at Tq;apply sR;simp only[go_sem,seval,t0,t5,t6,t7,q];exact⟨_,ZJ,G',Wk.refl G' _,.inl Tq⟩
def JA(l:List P'):aV prog 293 [aH l] (.fn 321 [.rp (aH l)]):=λU=>by
 refine Pk.r (by simp[JU]) ?_;refine ad.mix 3 ?_;have q1:=au l;have q2:=ar l;generalize aH l=x at*;apply sR;simp only[go_sem,seval,JU,q1,q2];refine af λU4 Z1 s1 a1 f1=>?_;simp only[go_sem,seval,q1,q2];exact⟨_,U,s1,Wk.fn (vs':=[.rp x]) ⟨Wk.ptr s1 a1 f1,trivial⟩,rfl,rfl⟩
def sJ(bS to:Int)(f:P'):Bool:=decide (f.anchor<bS\/f.anchor>=to)
def JF(bS to:Int)(f:P'){U:ai}{i4 i5:Nat}(a4:U i4=some ⟨3,1,[vI bS]⟩)(a5:U i5=some ⟨3,1,[vI to]⟩):
 aD prog 334 [aQ f,.ptr i4 0 0,.ptr i5 0 0] U λr Z'=>r=.bool (sJ bS to f)/\Z'=U:=by
 refine QZ.r (by simp[Kr]) ?_;have hs:=aa.refl U;refine ad.mix 5 ?_;apply sR;simp only[go_sem,seval,Kr,aQ];refine af λi3 Z3 s3 a3 f3=>?_;have z3:=hs.none f3;replace hs:=hs.trans s3;have b4:=s3 _ _ a4;have b5:=s3 _ _ a5;by_cases h0:f.anchor<bS
 .have q0:(f.anchor<bS)=True:=eq_true h0;simp only[go_sem,seval,a3,b4,b5,q0];exact ay.pure hs (by simp[sJ,h0])
 .have q0:(f.anchor<bS)=False:=eq_false h0;by_cases h1:f.anchor>=to
  .have q1:(f.anchor>=to)=True:=eq_true h1;simp only[go_sem,seval,a3,b4,b5,q0,q1];exact ay.pure hs (by simp[sJ,h1])
  .have q1:(f.anchor>=to)=False:=eq_false h1;simp only[go_sem,seval,a3,b4,b5,q0,q1];exact ay.pure hs (by simp only[sJ];rw[decide_eq_false (by omega)])
open Go.Proofs Go.Proofs.Tryz
def fO(p:P'->Bool):List P'->Nat->Int
 |[],_=>-1
 |f::r,i=>if p f then i else fO p r (i+1)
def zA{p:P'->Bool}{l:List P'}{i:Nat}(h:i<l.length):fO p (l.drop i) i=if p l[i]then(i:Int)else fO p (l.drop (i+1)) (i+1):=by
 rw[List.drop_eq_getElem_cons h,fO]
def F5{U:ai}{v:V}(l:List P')(hl:l.length<=1000000)(hr:Reads U 7 true v (l.map aQ)){f:FuncId}{caps:List V}(p:P'->Bool)
 (hf:∀x∈l,aD prog f (aQ x::caps) U λr Z'=>r=.bool (p x)/\Z'=U):
 aD prog 244 [v,.fn f caps] U λr Z'=>r=vI (fO p l 0)/\Z'=U:=by
 refine QJ.r (by simp[KL]) ?_;have hlv:dy false v=some (.int .i64 l.length):=by rw[hr.1,List.length_map]
 refine ad.mix 6 ?_;apply sR;simp only[go_sem,seval,KL,hlv];refine ad.loop (λm st=>∃i:Nat,i<=l.length/\m=l.length-i/\fO p l 0=fO p (l.drop i) i/\st.U=U/\st.s 0=v/\st.s 1=.fn f caps/\st.s 7=vI l.length/\st.s 8=vI i) l.length ?_ ?_
 .exact⟨0,by omega,rfl,rfl,rfl,rfl,rfl,rfl,rfl⟩
 .rintro m ⟨s,Z'⟩ ⟨i,hi,rfl,heq,R3,h0,h1,h7,h8⟩;simp only at R3 h0 h1 h7 h8;subst R3;refine ad.mix 6 ?_;by_cases H':i<l.length
  .have q:((i:Int)<l.length)=True:=eq_true (by omega);have hd:=zA (p:=p) H';obtain⟨a,ha,UH⟩:=hr.2 i (aQ l[i]) (by simp[H']);have hfx:=hf l[i] (List.getElem_mem H');have r1:RM .i64 ((i:Int)+1):=ao (by omega) (by omega);generalize l[i]=x at*;apply sR;simp only[go_sem,seval,h0,h1,h7,h8,q,ha,UH];refine ad.aB rfl rfl rfl hfx ?_;cases hp:p x
   .rw[hp]at hd;apply sR;simp only[go_sem,seval,h0,h1,h7,h8,r1];refine⟨_,?_,i+1,by omega,rfl,?_,by simp[h0,h1,h7]⟩
    .omega
    .rw[heq,hd];rfl
   .rw[hp]at hd;apply sR;simp only[go_sem,seval,h0,h1,h7,h8];refine ay.same ?_;rw[heq,hd];rfl
  .have q:((i:Int)<l.length)=False:=eq_false (by omega);have Um:i=l.length:=by omega
   apply sR;simp only[go_sem,seval,h0,h1,h7,h8,q];refine ay.same ?_;rw[heq,Um,List.drop_length];rfl
open Go.Proofs Go.Proofs.Tryz
def EC(l:List Sk)(hl:l.length<=1000000000):aV prog 61 [bl l] (bl l):=
 Ac func61 (e61.b.trans rfl) e61.c (l.map cF) (by simp;omega)
def y9(l:List P')(hl:l.length<=1000000000):aV prog 62 [aH l] (aH l):=
 Ac func62 (e62.b.trans rfl) e62.c (l.map aQ) (by simp;omega)
open Go.Proofs Go.Proofs.Tryz
def kD(a:P'):List P'->Nat->Int
 |[],_=>-1
 |q::r,i=>if a=q then i else kD a r (i+1)
def DD{a:P'}{p:List P'}{i:Nat}(h:i<p.length):kD a (p.drop i) i=if a=p[i]then(i:Int)else kD a (p.drop (i+1)) (i+1):=by
 rw[List.drop_eq_getElem_cons h,kD]
def F2(p:List P')(hp:p.length<=1000000000)(a:P'):aV prog 172 [aH p,aQ a] (vI (kD a p 0)):=λU=>by
 refine OI.r (by simp[My]) ?_;have hs:=aa.refl U;have Yf:=gi p;have hac:(aQ a).cells=[vI a.node,vI a.side,vI a.anchor,vI a.x,vI a.y,vI a.w,vI a.h]:=rfl;have has:(aQ a).stays=true:=rfl;have he:∀b:P',iO false [0,0,0,0,0,0,0] (.agg [vI a.node,vI a.side,vI a.anchor,vI a.x,vI a.y,vI a.w,vI a.h]) (.agg [vI b.node,vI b.side,vI b.anchor,vI b.x,vI b.y,vI b.w,vI b.h])=some (.bool (decide (a=b))):=λb=>by
  have:(a=b)↔(a.node=b.node/\a.side=b.side/\a.anchor=b.anchor/\a.x=b.x/\a.y=b.y/\a.w=b.w/\a.h=b.h):=by
   cases a;cases b;simp
  simp only[iO,dI,cd,dc,this];simp
 refine ad.mix 9 ?_;apply sR;simp only[go_sem,seval,My,hac,has];refine af λi3 Z3 s3 a3 f3=>?_;have z3:=hs.none f3;replace hs:=hs.trans s3;simp only[go_sem,seval,Yf,hac,has];rw[aQ]at a3;refine ad.loop (λm st=>∃(i:Nat),i<=p.length/\m=p.length-i/\kD a p 0=kD a (p.drop i) i/\st.U=Z3/\st.s 0=aH p/\st.s 3=.ptr i3 0 0/\st.s 7=vI p.length/\st.s 8=vI i) p.length ?_ ?_
 .exact⟨0,by omega,rfl,rfl,rfl,rfl,rfl,rfl,rfl⟩
 .rintro m ⟨s,Z'⟩ ⟨i,hi,rfl,heq,R3,h0,h3,h7,h8⟩;simp only at R3 h0 h3 h7 h8;subst R3;refine ad.mix 9 ?_;by_cases H':i<p.length
  .have q:((i:Int)<p.length)=True:=eq_true (by omega);have hd:=DD (a:=a) H';have Rv:=λU=>jX (U:=U) H';have r1:RM .i64 ((i:Int)+1):=ao (by omega) (by omega);have Yg:=he p[i];have U6:aQ p[i]=.agg [vI p[i].node,vI p[i].side,vI p[i].anchor,vI p[i].x,vI p[i].y,vI p[i].w,vI p[i].h]:=rfl;by_cases hc:a=p[i]
   .rw[decide_eq_true hc]at Yg;apply sR;simp only[BB,seval,<-decide_not,bx,fg,aL,cU,eJ,eo,eN,dY,cz,jQ,gx,bI,fH,dP,fq,cL,cP,bF,iP,dh,cQ,cp,SG,jT,dd,cc,dI,cd,dc,cZ,kG,binBV,bW,dp,V.cells,V.stays,TJ.nothing,h0,h3,h7,h8,q,a3,Rv,U6,Yg];refine ay.pure hs ?_;rw[heq,hd,if_pos hc]
   .rw[decide_eq_false hc]at Yg;apply sR;simp only[BB,seval,<-decide_not,bx,fg,aL,cU,eJ,eo,eN,dY,cz,jQ,gx,bI,fH,dP,fq,cL,cP,bF,iP,dh,cQ,cp,SG,jT,dd,cc,dI,cd,dc,cZ,kG,binBV,bW,dp,V.cells,V.stays,TJ.nothing,h0,h3,h7,h8,q,a3,Rv,U6,Yg,r1];refine⟨_,?_,i+1,by omega,rfl,?_,by simp[h0,h3,h7]⟩
    .omega
    .rw[heq,hd,if_neg hc]
  .have q:((i:Int)<p.length)=False:=eq_false (by omega);have Um:i=p.length:=by omega
   apply sR;simp only[go_sem,seval,h0,h3,h7,h8,q];refine ay.pure hs ?_;rw[heq,Um,List.drop_length];rfl
open Go
def TK.same{U:ai}{N:Nat->Prop}:∀(vs:List V),gl vs=true->TK U N vs vs
 |[],_=>.nil
 |v::vs,h=>by
  simp only[gl,Ba]at h;exact .cons _ _ _ _ (.same v h.1) (TK.same vs h.2)
def TK.app{U:ai}{N:Nat->Prop}:∀{a b c d:List V},TK U N a b->TK U N c d->TK U N (a++c) (b++d)
 |_,_,_,_,.nil,h=>h
 |_,_,_,_,.cons v u vs us h h',h2=>.cons v u _ _ h (TK.app h' h2)
def TK.one{U:ai}{N:Nat->Prop}{v u:V}(h:Fz U N v u):TK U N [v] [u]:=.cons _ _ _ _ h .nil
def aT.fz{K U:ai}{N:Nat->Prop}{e sz:Nat}{v:V}{rows:List V}(h:aT K U e sz v rows)(hN:∀id,K id=none->N id)(hr:gl rows=true):Fz U N v (.sl sz rows):=by
 rcases h with⟨rfl,rfl⟩|⟨id,rfl,ho,hk⟩
 .exact .nil sz
 .exact .own id 0 rows.length ⟨e,sz,rows⟩ rows ho (hN id hk) (by simp) (by rw[List.drop_zero,List.take_length];exact TK.same rows hr)
def aT.ab{K U:ai}{e sz:Nat}{v:V}{rows:List V}(h:aT K U e sz v rows){id:Nat}{o:Ob}(hK:K id≠none):aT K (C' U id o) e sz v rows:=by
 rcases h with h|⟨q,h1,h2,h3⟩
 .exact .inl h
 .have:q≠id:=λe=>hK (by rw[<-e];exact h3);exact .inr ⟨q,h1,by rw[Vc.ab this];exact h2,h3⟩
def D8(l:List Int):gl (l.map vI)=true:=by
 induction l with
 |nil=>rfl
 |cons x l ih=>rw[List.map_cons,gl,ih];rfl
abbrev M9(x:Nd):List V:=[vI x.kind,vI x.size,vI x.st.top,vI x.st.RT,vI x.st.RI,vI x.st.Rx,vI x.st.Sv,vI x.st.R8,vI x.st.Sh,vI x.st.head,vI x.st.before,vI x.st.after,vI x.st.inside,vI x.st.clear,vI x.line,vI x.space]
def ndW(x:Nd)(v:V):V:=.agg [vI x.kind,vI x.size,vI x.st.top,vI x.st.RT,vI x.st.RI,vI x.st.Rx,vI x.st.Sv,vI x.st.R8,vI x.st.Sh,vI x.st.head,vI x.st.before,vI x.st.after,vI x.st.inside,vI x.st.clear,vI x.line,vI x.space,v,vI x.side,vI x.w,vI x.h]
def NV{U:ai}{N:Nat->Prop}{x:Nd}{v:V}(h:Fz U N v (bn x.words)):Fz U N (ndW x v) (iz x):=by
 refine .agg _ _ ?_;exact(TK.same (M9 x) rfl).app ((TK.one h).app (TK.same [vI x.side,vI x.w,vI x.h] rfl))
def fY(K U:ai):List Nd->List V->Prop
 |[],[]=>True
 |x::l,r::rows=>(∃w,r=ndW x w/\aT K U 3 1 w (x.words.map vI))/\fY K U l rows
 |_,_=>False
def aT.kept{K U Z':ai}{id e:Nat}{w:V}{rows rows0:List V}(h:aT K U 3 1 w rows)(ho:U id=some ⟨e,20,rows0⟩)(hs:∀i,i≠id->∀o,U i=some o->Z' i=some o):aT K Z' 3 1 w rows:=by
 rcases h with h|⟨i,h1,h2,h3⟩
 .exact .inl h
 .have R6:i≠id:=λe=>by subst e;rw[ho]at h2;simp at h2
  exact .inr ⟨i,h1,hs i R6 _ h2,h3⟩
def fY.kept{K U Z':ai}{id e:Nat}{rows0:List V}(ho:U id=some ⟨e,20,rows0⟩)(hs:∀i,i≠id->∀o,U i=some o->Z' i=some o):∀{l:List Nd} {rows:List V},fY K U l rows->fY K Z' l rows
 |[],[],_=>trivial
 |_::_,_::_,⟨⟨w,h1,h2⟩,h⟩=>⟨⟨w,h1,h2.kept ho hs⟩,fY.kept ho hs h⟩
 |[],_::_,h=>h.elim
 |_::_,[],h=>h.elim
def fY.mono{K U Z':ai}(hs:aa U Z'):∀{l:List Nd} {rows:List V},fY K U l rows->fY K Z' l rows
 |[],[],_=>trivial
 |_::_,_::_,⟨⟨w,h1,h2⟩,h⟩=>⟨⟨w,h1,h2.mono hs⟩,fY.mono hs h⟩
 |[],_::_,h=>h.elim
 |_::_,[],h=>h.elim
def aT.N8{K K' U:ai}{e sz:Nat}{v:V}{rows:List V}(h:aT K U e sz v rows)(hk:aa K' K):aT K' U e sz v rows:=by
 rcases h with h|⟨i,h1,h2,h3⟩
 .exact .inl h
 .exact .inr ⟨i,h1,h2,hk.none h3⟩
def fY.app{K U:ai}:∀{l l2:List Nd} {rows rows2:List V},fY K U l rows->fY K U l2 rows2->fY K U (l++l2) (rows++rows2)
 |[],_,[],_,_,h2=>h2
 |_::_,_,_::_,_,⟨h1,h⟩,h2=>⟨h1,fY.app h h2⟩
 |[],_,_::_,_,h,_=>h.elim
 |_::_,_,[],_,h,_=>h.elim
def fY.fz{K U:ai}{N:Nat->Prop}(hN:∀id,K id=none->N id):∀{l:List Nd} {rows:List V},fY K U l rows->TK U N rows (l.map iz)
 |[],[],_=>.nil
 |_::_,_::_,⟨⟨w,h1,h2⟩,h⟩=>by
  rw[h1];exact .cons _ _ _ _ (NV (h2.fz hN (D8 _))) (fY.fz hN h)
 |[],_::_,h=>h.elim
 |_::_,[],h=>h.elim
def ym(K U:ai)(v:V)(l:List Nd):Prop:=∃rows,aT K U 59 20 v rows/\fY K U l rows
def ym.fz{K U:ai}{N:Nat->Prop}{v:V}{l:List Nd}(h:ym K U v l)(hN:∀id,K id=none->N id):Fz U N v (aK l):=by
 obtain⟨rows,ho,hr⟩:=h;have hf:=hr.fz hN;rcases ho with⟨rfl,rfl⟩|⟨id,rfl,ho,hk⟩
 .cases l with
  |nil=>exact .nil 20
  |cons x l=>exact hr.elim
 .exact .own id 0 rows.length ⟨_,20,rows⟩ _ ho (hN id hk) (by simp) (by rw[List.drop_zero,List.take_length];exact hf)
open Go.Proofs Go.Proofs.Tryz
def Ic(l:List Nd)(hl:l.length<=10000)(U:ai):aD prog 49 [aK l] U λr Z'=>aa U Z'/\aT U Z' 59 20 r (l.map iz):=by
 refine e49.r (by simp[c49]) ?_;refine ad.mix 3 ?_
 (refine ad.bN TJ.nothing 8 ?_;simp only[go_sem,seval,nI,c49])
 refine ad.C9 rfl rfl rfl λb hb=>?_;cases b
 .apply sR;simp only[go_sem,seval];refine af λU4 Z1 s1 a1 f1=>?_;obtain⟨RN,hd,SQ⟩:=(aT.new (K:=U) (e:=59) (sz:=20) (n:=0) (rows:=[]) rfl a1 f1).dst (aa.refl _);have Yq:∀U,bR U 20 (aK l)=some (l.map iz):=λU=>by simp[aK,bR]
  have Sx:l.length*177<=140737488355328:=by omega
  simp only[go_sem,seval,hd,Yq,List.length_map,Sx];refine ga λWC Z2 s2 a2 f2=>?_;have Uh:=(SQ U (aa.refl _) Z1 s1).trans s2;simp only[go_sem,seval];refine⟨_,_,aa.refl _,Wk.refl (aa.refl _) _,Uh,aT.new (by simp) a2 (s1.none f2)⟩
 .apply sR;simp only[go_sem,seval];refine⟨_,_,aa.refl _,Wk.refl (aa.refl _) _,aa.refl _,?_⟩;have:l.map iz=[]:=hb rfl;rw[this];exact aT.start
def El(l:List Int)(hl:l.length<=1000000000)(U:ai):aD prog 50 [bn l] U λr Z'=>aa U Z'/\aT U Z' 3 1 r (l.map vI):=by
 refine e50.r (by simp[c50]) ?_;refine ad.mix 3 ?_
 (refine ad.bN TJ.nothing 8 ?_;simp only[go_sem,seval,nI,c50])
 refine ad.C9 rfl rfl rfl λb hb=>?_;cases b
 .apply sR;simp only[go_sem,seval];refine af λU4 Z1 s1 a1 f1=>?_;obtain⟨RN,hd,SQ⟩:=(aT.new (K:=U) (e:=3) (sz:=1) (n:=0) (rows:=[]) rfl a1 f1).dst (aa.refl _);have Sx:l.length*9<=140737488355328:=by omega
  simp only[go_sem,seval,hd,wR,List.length_map,Sx];refine ga λWC Z2 s2 a2 f2=>?_;have Uh:=(SQ U (aa.refl _) Z1 s1).trans s2;simp only[go_sem,seval];exact⟨_,_,aa.refl _,Wk.refl (aa.refl _) _,Uh,aT.new (by simp) a2 (s1.none f2)⟩
 .apply sR;simp only[go_sem,seval];have:l.map vI=[]:=hb rfl;refine⟨_,_,aa.refl _,Wk.refl (aa.refl _) _,aa.refl _,?_⟩;rw[this];exact aT.start
open Go.Proofs Go.Proofs.Tryz
def HX(K U:ai)(e sz:Nat)(v:V)(rows:List V):Prop:=(v=.aC/\rows=[])\/∃id all,v=.own id 0 rows.length/\U id=some ⟨e,sz,all⟩/\all.take rows.length=rows/\K id=none
def aT.OW{K U:ai}{e sz:Nat}{v:V}{rows:List V}(h:aT K U e sz v rows):HX K U e sz v rows:=by
 rcases h with h|⟨id,h1,h2,h3⟩
 .exact .inl h
 .exact .inr ⟨id,rows,h1,h2,List.take_length,h3⟩
def HX.wk{K U:ai}{e sz:Nat}{v:V}{rows:List V}(h:HX K U e sz v rows){K':ai}(hK:aa K' K)(hs:aa K' U):Wk U K' v (.sl sz rows):=by
 rcases h with⟨rfl,rfl⟩|⟨id,all,rfl,ho,ht,hk⟩
 .exact Wk.aC sz
 .have hl:rows.length<=all.length:=by
   have:=congrArg List.length ht;simp at this;omega
  have:=Wk.own hs ho (hK.none hk) (off:=0) (len:=rows.length) (by simpa using hl);rw[List.drop_zero,ht]at this;exact this
open Go.Proofs Go.Proofs.Tryz
def qE{p:P'->Bool}:∀(l:List P') (i:Nat),fO p l i<0->l.filter (λf=>!p f)=l
 |[],_,_=>rfl
 |x::l,i,h=>by
  rw[fO]at h;split at h
  .omega
  .rename_i hp;have hp':p x=false:=by simpa using hp
   simp only[List.filter_cons,hp',Bool.not_false,if_true,qE l _ h]
def qi{p:P'->Bool}:∀(l:List P') (i:Nat),¬fO p l i<0->∃w:Nat,fO p l i=((i+w:Nat):Int)/\w<l.length/\(l.take w).filter (λf=>!p f)=l.take w/\∀x,l[w]?=some x->p x=true
 |[],i,h=>by simp[fO]at h
 |x::l,i,h=>by
  rw[fO]at h|-;split
  .rename_i hp;exact⟨0,by simp,by simp,by simp,λy hy=>by simp at hy;subst hy;exact hp⟩
  .rename_i hp;rw[if_neg hp]at h;have hp':p x=false:=by simpa using hp
   obtain⟨w,h1,h2,h3,h4⟩:=qi l (i+1) h;refine⟨w+1,by rw[h1];congr 1;omega,by simp;omega,?_,by simpa using h4⟩;simp only[List.take_succ_cons,List.filter_cons,hp',Bool.not_false,if_true,h3]
def tg{p:P'->Bool}:∀(l:List P') (i:Nat),fO p l i<0->fO p l i=-1
 |[],_,_=>rfl
 |x::l,i,h=>by
  rw[fO]at h|-;split
  .rename_i hp;rw[if_pos hp]at h;omega
  .rename_i hp;rw[if_neg hp]at h;exact tg l _ h
abbrev lx(p:P'->Bool)(l:List P'):List P':=l.filter λf=>!p f
def vT{K U:ai}{v:V}(l:List P')(hl:l.length<=1000000)(hK:aa K U)(ho:aT K U 150 7 v (l.map aQ)){f:FuncId}{caps:List V}(p:P'->Bool)
 (hf:∀x∈l,∀J,aa K J->aD prog f (aQ x::caps) J λr Z'=>r=.bool (p x)/\Z'=J):
 aD prog 188 [v,.fn f caps] U λr Z'=>HX K Z' 150 7 r ((lx p l).map aQ)/\aa K Z':=by
 have hr:Reads U 7 true v (l.map aQ):=by
  rcases ho with⟨rfl,h0⟩|⟨id,rfl,h2,h3⟩
  .rw[h0];exact⟨rfl,λi v h=>by simp at h⟩
  .refine⟨by simp[dy],λi r hi=>⟨_,j7 h2 (by have:=List.getElem?_eq_some_iff.1 hi;exact this.1),?_⟩⟩;have hx:∃x,r=aQ x:=by
    have:=List.mem_of_getElem? hi;simp only[List.mem_map]at this;obtain⟨n,_,rfl⟩:=this;exact⟨n,rfl⟩
   obtain⟨x,rfl⟩:=hx;simp only[bT,h2,hi,if_true];rw[if_pos ⟨trivial,rfl⟩];rfl
 refine OH.r (by simp[KQ]) ?_;refine ad.mix 8 ?_;apply sR;simp only[go_sem,seval,KQ];refine ad.aB rfl rfl rfl (F5 l hl hr p (λx hx=>hf x hx U hK)) ?_;generalize hw:fO p l 0=w;by_cases hn:w<0
 .have hw1:w=-1:=by rw[<-hw];exact tg _ _ (by rw[hw];exact hn)
  have hk:lx p l=l:=qE l 0 (by rw[hw];exact hn);have q:(w=-1)=True:=eq_true hw1;apply sR;simp only[go_sem,seval,q];rw[hk];exact⟨_,U,aa.refl _,Wk.refl (aa.refl _) _,ho.OW,hK⟩
 .obtain⟨u0,g0,g1,g2,g3⟩:=qi l 0 (by rw[hw];exact hn);rw[hw,Nat.zero_add]at g0;subst g0;have q:((u0:Int)=-1)=False:=eq_false (by omega);have r1:RM .i64 ((u0:Int)+1):=ao (by omega) (by omega);obtain⟨i1,rfl,h2,h3⟩:∃id,v=.own id 0 (l.map aQ).length/\U id=some ⟨150,7,l.map aQ⟩/\K id=none:=by
   rcases ho with⟨_,h0⟩|h
   .have:l=[]:=by simpa using h0
    subst this;simp at g1
   .exact h
  rw[List.length_map]at*;apply sR;simp only[go_sem,seval,q,r1];refine ad.loop (λm st=>∃(u j:Nat) (cur:List P'),u<j/\j<=l.length/\m=l.length-j/\cur.length=l.length/\cur.take u=lx p (l.take j)/\(∀q,j<=q->cur[q]?=l[q]?)/\aa K st.U/\st.U i1=some ⟨150,7,cur.map aQ⟩/\
   st.s 0=.own i1 0 l.length/\st.s 1=.fn f caps/\st.s 5=vI u/\∃z:Int,st.s 6=vI z/\z=j) (l.length-(u0+1)) ?_ ?_
  .refine⟨u0,u0+1,l,by omega,by omega,rfl,rfl,?_,λ_ _=>rfl,hK,h2,rfl,rfl,rfl,_,rfl,by omega⟩;have hp:=g3 l[u0] (by simp[g1]);rw[List.take_succ_eq_append_getElem g1];have g2':lx p (l.take u0)=l.take u0:=g2;simp only[lx,List.filter_append]at g2'|-;rw[g2'];simp[hp]
  .rintro m ⟨s,J⟩ ⟨u,j,cur,huj,hjk,rfl,SJ,hct,Zm,hs,a1,h0,h1,h5,z,h6,rfl⟩;simp only at hs a1 h0 h1 h5 h6;refine ad.mix 8 ?_;have WT:(cur.map aQ).length=l.length:=by rw[List.length_map,SJ]
   by_cases H':j<l.length
   .have q1:((j:Int)<l.length)=True:=eq_true (by omega);have hjc:j<cur.length:=by omega
    have huc:u<cur.length:=by omega
    have hfj:l[j]?=some cur[j]:=by rw[<-Zm j (Nat.le_refl _)];simp[hjc]
    have Yx:cur[j]∈l:=List.mem_of_getElem? hfj;have htj:l.take (j+1)=l.take j++[cur[j]]:=by
     rw[List.take_succ_eq_append_getElem H'];congr 2;rw[List.getElem?_eq_getElem H']at hfj;simpa using hfj
    have iX:∀(J:ai) (rows:List V) (k n:Nat),J i1=some ⟨150,7,rows⟩->rows.length=l.length->n=l.length->k<l.length->bQ J 7 (.own i1 0 n) (.int .i64 k)=some (.ptr i1 k 0):=λJ rows k n h e hn hk=>by subst hn;rw[<-e];exact j7 h (by omega)
    have e1:=iX _ _ j _ a1 WT rfl H';have v1:(cur.map aQ)[j]?=some (aQ cur[j]):=by simp[hjc]
    have vu:(cur.map aQ)[u]?=some (aQ cur[u]):=by simp[huc]
    have XC:(cur.set u cur[j]).map aQ=(cur.map aQ).set u (aQ cur[j]):=List.map_set;have Vv:=hf cur[j] Yx;have hfc7:∀f:P',(aQ f).cells=[vI f.node,vI f.side,vI f.anchor,vI f.x,vI f.y,vI f.w,vI f.h]:=λ_=>rfl;have hsu:(cur.set u cur[j]).take (u+1)=cur.take u++[cur[j]]:=by
     rw[List.take_succ_eq_append_getElem (by simpa using huc),List.take_set,List.set_eq_of_length_le (by simp;omega)];simp
    have r2:RM .i64 ((u:Int)+1):=ao (by omega) (by omega);have r3:RM .i64 ((j:Int)+1):=ao (by omega) (by omega);generalize cur[j]=x at*;generalize cur[u]=y at*;apply sR;simp only[go_sem,seval,h0,h1,h5,h6,q1,a1,e1,v1,hfc7];refine af λi7 Z7 s7 a7 f7=>?_;have n17:=aq a1 f7;replace a1:=s7 _ _ a1;have z7:=hs.none f7;replace hs:=hs.trans s7;simp only[go_sem,seval,a7,h0,h1,h5,h6];generalize Tu:C' _ i7 _=Y7;replace a7:=(congrFun Tu i7).symm.trans ag;replace a1:=((congrFun Tu i1).symm.trans (ab n17)).trans a1;replace hs:=Eq.subst (motive:=aa _) Tu (hs.aE z7);clear Tu;refine ad.aB rfl rfl rfl (Vv _ hs) ?_;have e2:=iX _ _ u _ a1 WT rfl (by omega);cases hp:p x
    .apply sR;simp only[go_sem,seval,h0,h1,h5,h6,a7,a1,e2,vu,hfc7,r2,r3];refine⟨_,?_,u+1,j+1,cur.set u x,by omega,by omega,rfl,by simpa using SJ,?_,λq hq=>?_,hs.aE h3,?_,by simp,_,rfl,by omega⟩
     .omega
     .rw[hsu,htj,hct];simp[lx,List.filter_append,hp]
     .rw[List.getElem?_set_ne (by omega)];exact Zm q (by omega)
     .rw[XC];rfl
    .apply sR;simp only[go_sem,seval,h0,h1,h5,h6,r3];refine⟨_,?_,u,j+1,cur,by omega,by omega,rfl,SJ,?_,λq hq=>Zm q (by omega),hs,a1,by simp,_,rfl,by omega⟩
     .omega
     .rw[htj,hct];simp[lx,List.filter_append,hp]
   .have q1:((j:Int)<l.length)=False:=eq_false (by omega);have hjk':j=l.length:=by omega
    subst hjk';rw[List.take_length]at hct;have b3:(0:Int)<=u:=by omega
    have b4:(u:Int)<=l.length:=by omega
    apply sR;simp only[go_sem,seval,h0,h1,h5,h6,q1,a1,b3,b4,Int.le_refl,Int.toNat_natCast];refine ad.clear (id:=i1) (off:=u) (len:=l.length-u) (ob:=⟨150,7,cur.map aQ⟩) rfl rfl rfl a1 rfl (by simp;omega) ?_;apply sR;simp only[go_sem,seval,h0,h1,h5,h6,b3,b4,Int.le_refl,Int.toNat_natCast,Nat.sub_zero];have hlu:((lx p l).map aQ).length=u:=by rw[List.length_map,<-hct,List.length_take];omega
    refine⟨_,_,aa.refl _,Wk.refl (aa.refl _) _,.inr ⟨i1,_,by rw[hlu],ag,?_,h3⟩,hs.aE h3⟩;rw[hlu,List.append_assoc,List.take_append_of_le_length (by simp;omega),List.take_take,Nat.min_self,<-List.map_take,hct]
open Go.Proofs Go.Proofs.Tryz
def Ag(l:List P')(fr to:Int):List P':=lx (sJ fr to) l
def pG(l:List P')(fr to:Int):(Ag l fr to).length<=l.length:=List.length_filter_le _ _
def ES(l:List P')(hl:l.length<=1000000)(fr to:Int):aV prog 322 [aH l,vI fr,vI to] (aH (Ag l fr to)):=λU=>by
 refine QS.r (by simp[Kc]) ?_;have hs:=aa.refl U;refine ad.mix 7 ?_;apply sR;simp only[go_sem,seval,Kc];refine af λi4 Z4 s4 a4 f4=>?_;have z4:=hs.none f4;replace hs:=hs.trans s4;simp only[go_sem,seval];refine af λi5 Z5 s5 a5 f5=>?_;have TL:=aq a4 f5;replace a4:=s5 _ _ a4;have z5:=hs.none f5;replace hs:=hs.trans s5;simp only[go_sem,seval];refine ad.call rfl rfl rfl (oe func62 (e62.b.trans rfl) e62.c (l.map aQ) (by simp;omega) _) ?_;rintro r Z9 ⟨h9,ho9⟩;apply sR;simp only[go_sem,seval];refine ad.call rfl rfl rfl (vT l hl h9 ho9 (sJ fr to) (λx _ J ZF=>JF fr to x (ZF _ _ a4) (ZF _ _ a5))) ?_;rintro r2 WO ⟨hp,Wh⟩;apply sR;simp only[go_sem,seval];exact⟨_,U,hs.trans Wh,hp.wk hs (hs.trans Wh),rfl,rfl⟩
def fI(l:List P')(s:Sn)(to:Int):List P':=Ag l (if s.done>0 then s.atom+1 else s.atom) to
def GG(l:List P')(hl:l.length<=1000000)(s:Sn)(ha:RM .i64 (s.atom+1))(to:Int):aV prog 294 [aH l,bj s,vI to] (aH (fI l s to)):=λU=>by
 refine Qn.r (by simp[Lt]) ?_;have hs:=aa.refl U;have Uj:(bj s).cells=[vI s.atom,vI s.done,.bool s.free]:=rfl;have U2:(bj s).stays=true:=rfl;refine ad.mix 7 ?_;apply sR;simp only[go_sem,seval,Lt,Uj,U2];refine af λi4 Z4 s4 a4 f4=>?_;have z4:=hs.none f4;replace hs:=hs.trans s4;rw[bj]at a4;by_cases hd:s.done>0
 .have q:(s.done>0)=True:=eq_true hd;simp only[go_sem,seval,a4,q,ha];refine ad.aB rfl rfl rfl (ES l hl _ _ _) ?_;apply sR;simp only[go_sem,seval];exact ay.pure hs (by rw[fI,if_pos hd])
 .have q:(s.done>0)=False:=eq_false hd;simp only[go_sem,seval,a4,q];refine ad.aB rfl rfl rfl (ES l hl _ _ _) ?_;apply sR;simp only[go_sem,seval];exact ay.pure hs (by rw[fI,if_neg hd])
open Go.Proofs Go.Proofs.Tryz
def dV(v u:V):Prop:=∀a n b m,v=.own a 0 n->u=.own b 0 m->a≠b
def dV.symm{v u:V}(h:dV v u):dV u v:=λa n b m h1 h2 e=>h b m a n h2 h1 e.symm
def dV.aC(u:V):dV .aC u:=λ_ _ _ _ h _=>by cases h
def aT.NG{K ZJ Z1:ai}{e sz:Nat}{v:V}{rows:List V}(h:aT K ZJ e sz v rows)(hs:aa ZJ Z1):
 ∃RN,cg Z1 e sz v=some (rows,RN)/\∀i,RN=some i->K i=none/\(∃o,ZJ i=some o)/\v=.own i 0 rows.length:=by
 rcases h with⟨rfl,rfl⟩|⟨id,rfl,ho,hk⟩
 .exact⟨none,rfl,λ_ h=>by cases h⟩
 .refine⟨some id,?_,λi h=>by cases h;exact⟨hk,⟨_,ho⟩,rfl⟩⟩;simp only[cg,hs _ _ ho];rw[if_pos ⟨trivial,trivial,trivial,Nat.le_refl _⟩,List.take_length]
def aT.Qj{K U:ai}{e sz:Nat}{v:V}{rows:List V}(h:aT K U e sz v rows){RN:Option Nat}(h1:∀i,RN=some i->∀n,v≠.own i 0 n){id:Nat}{o:Ob}(h2:U id=none):aT K (C' (Vc.bK U RN) id o) e sz v rows:=by
 rcases h with h|⟨a,rfl,ho,hk⟩
 .exact .inl h
 .refine .inr ⟨a,rfl,?_,hk⟩;have hai:a≠id:=λe=>by subst e;rw[ho]at h2;cases h2
  rw[Vc.ab hai];cases RN with
  |none=>exact ho
  |some i=>
   have:a≠i:=λe=>h1 i rfl _ (by rw[e]);simp only[Vc.bK];rw[dK this];exact ho
def dV.new{U K:ai}{e sz id n:Nat}{u:V}{rows:List V}(hu:aT K U e sz u rows)(h:U id=none):dV (.own id 0 n) u:=by
 rintro a k b m h1 rfl e;cases h1;subst e;rcases hu with⟨h,_⟩|⟨i,h,h2,_⟩
 .cases h
 .cases h;rw[h]at h2;cases h2
structure SoJ(Z0:ai)(ix:Nat)(p q:List P')(U:ai):Prop where
 row:∃v u,U ix=some ⟨371,2,[.agg [v,u]]⟩/\aT (bg Z0 ix) U 150 7 v (p.map aQ)/\aT (bg Z0 ix) U 150 7 u (q.map aQ)/\dV v u
 sub:aa Z0 U
 no:Z0 ix=none
def Fh{Z0 ZJ ZB Z8:ai}{ix e sz:Nat}{v u:V}{rows WW:List V}(Vn:bh ZJ ZB ZJ Z8)(Js:aa Z0 ZJ)(Jn:Z0 ix=none){ox:Ob}(Jx:ZJ ix=some ox)
 (Jv:aT (bg Z0 ix) ZJ e sz v rows)(Ju:aT (bg Z0 ix) ZJ e sz u WW)(hap:dV v u):
 ∃RN,cg Z8 e sz v=some (rows,RN)/\∀(id:Nat) (Rz:List V) (o':Ob),Z8 id=none->
  ix≠id/\Vc.bK Z8 RN ix=some ox/\aa Z0 (C' (C' (Vc.bK ZJ RN) id ⟨e,sz,Rz⟩) ix o')/\bh ZJ ZB (C' (C' (Vc.bK ZJ RN) id ⟨e,sz,Rz⟩) ix o') (C' (C' (Vc.bK Z8 RN) id ⟨e,sz,Rz⟩) ix o')/\
  aT (bg Z0 ix) (C' (C' (Vc.bK ZJ RN) id ⟨e,sz,Rz⟩) ix o') e sz (.own id 0 Rz.length) Rz/\aT (bg Z0 ix) (C' (C' (Vc.bK ZJ RN) id ⟨e,sz,Rz⟩) ix o') e sz u WW/\dV (.own id 0 Rz.length) u:=by
 obtain⟨RN,Th,VD⟩:=Jv.NG Vn.1;refine⟨RN,Th,λid Rz o' f=>?_⟩;have k2:bg Z0 ix ix≠none:=λh=>(aM.1 h).1 rfl;have U0:∀(i:Nat) (Zx:ai),bg Z0 ix i≠none->Vc.bK Zx RN i=Zx i:=λi Zx hk=>by
  cases RN with
  |none=>rfl
  |some a=>exact dK (λe=>hk (by rw[e];exact(VD a rfl).1))
 have c8:=Vn.1 _ _ Jx;have m:ix≠id:=aq c8 f;have fJ:ZJ id=none:=by
  cases h:ZJ id with
  |none=>rfl
  |some o=>rw[Vn.1 _ _ h]at f;cases f
 have f':Vc.bK Z8 RN id=none:=by
  cases RN with
  |none=>exact f
  |some a=>simp only[Vc.bK,del];split<;>first|rfl|exact f
 have hk:bg Z0 ix id=none:=by
  rw[aM];refine⟨m.symm,?_⟩;cases h:Z0 id with
  |none=>rfl
  |some o=>rw[Js _ _ h]at fJ;cases fJ
 refine⟨m,by rw[U0 _ _ k2];exact c8,?_,((Vn.Eb (e:=RN) λi h=>(VD i h).2.1).new f').set (id:=ix) (o:=ox) (by rw[ab m,U0 _ _ k2];exact Jx),?_,?_,dV.new Ju fJ⟩
 .refine aa.aE (λi o h=>?_) Jn;have h1:=Js _ _ h;rw[ab (λe=>by subst e;rw[h1]at fJ;cases fJ),U0 _ _ (λhk=>by rw[(aM.1 hk).2]at h;cases h)];exact h1
 .exact aT.new rfl (by rw[ab m.symm,ag]) hk
 .exact(Ju.Qj (λi h n e=>hap _ _ _ _ (VD i h).2.2 e rfl) fJ).ab k2
def qu(q:List P')(m:P')(body:Int):Bool:=decide (q≠[]\/m.y+m.h>body)
def HA(p q:List P')(hp:p.length<=1000000)(hq:q.length<=1000000)(f m:P')(body:Int)(hr:RM .i64 (m.y+m.h)){Z0 ZJ ZB:ai}{ix:Nat}(hJ:SoJ Z0 ix p q ZJ)(G':aa ZJ ZB):
 aD prog 295 [.ptr ix 0 0,aQ f,aQ m,vI body] ZB λ_ Z'=>∃RX,bh ZJ ZB RX Z'/\SoJ Z0 ix (if qu q m body then p else p++[m]) (if qu q m body then q++[f]else q) RX:=by
 refine Ri.r (by simp[Jm]) ?_;obtain⟨⟨v,u,Jx,Jv,Ju,hap⟩,Js,Jn⟩:=hJ;obtain⟨vc,vs⟩:=Jv.vc;obtain⟨uc,us⟩:=Ju.vc;have Vv:∀f:P',(aQ f).cells=[vI f.node,vI f.side,vI f.anchor,vI f.x,vI f.y,vI f.w,vI f.h]:=λ_=>rfl;have TH:∀f:P',(aQ f).stays=true:=λ_=>rfl;refine ad.mix 5 ?_;apply sR;simp only[go_sem,seval,Jm,Vv,TH];rw[aO];intro i5 f5;have hB5:=(bh.refl G').pN (o:=⟨150,7,[aQ f]⟩) f5;have a5:C' ZB i5 ⟨150,7,[aQ f]⟩ i5=some ⟨150,7,[aQ f]⟩:=ag;have Uk:∀f:P',V.agg [vI f.node,vI f.side,vI f.anchor,vI f.x,vI f.y,vI f.w,vI f.h]=aQ f:=λ_=>rfl;generalize Ui:C' ZB i5 ⟨150,7,[aQ f]⟩=Z5 at*;simp only[go_sem,seval,Vv,TH];rw[aO];intro i6 f6;have hB6:=hB5.pN (o:=⟨150,7,[aQ m]⟩) f6;have a6:C' Z5 i6 ⟨150,7,[aQ m]⟩ i6=some ⟨150,7,[aQ m]⟩:=ag;replace a5:=(ab (o:=⟨150,7,[aQ m]⟩) (aq a5 f6)).trans a5;generalize VT:C' Z5 i6 ⟨150,7,[aQ m]⟩=Z6 at*;have cx:=hB6.1 _ _ Jx;have hlq:dy false u=some (.int .i64 q.length):=by have:=Ju.len;rwa [List.length_map]at this
 have hrq:((q++[f]).map aQ)=q.map aQ++[aQ f]:=by simp
 have hrp:((p++[m]).map aQ)=p.map aQ++[aQ m]:=by simp
 have hql:(q.map aQ).length<=1000000:=by simpa using hq
 have VK:(p.map aQ).length<=1000000:=by simpa using hp
 have hql0:(q.map aQ).length=q.length:=List.length_map _;rw[aQ]at a5 a6;by_cases hl:qu q m body=true
 .rw[if_pos hl,if_pos hl];by_cases hq0:q=[]
  .have q13:((q.length:Int)>0)=False:=by subst hq0;simp
   have qy:(m.y+m.h>body)=True:=by
    simp only[qu,hq0,decide_eq_true_eq]at hl;exact eq_true (hl.resolve_left (by simp))
   simp only[go_sem,seval,cx,vc,uc,hlq,q13,qy,hr,a5,a6];rw[aP];intro i29 f29;have hB7:=hB6.pN (o:=⟨150,7,[(V.agg [vI f.node,vI f.side,vI f.anchor,vI f.x,vI f.y,vI f.w,vI f.h])]⟩) f29;have a29:C' Z6 i29 ⟨150,7,[(V.agg [vI f.node,vI f.side,vI f.anchor,vI f.x,vI f.y,vI f.w,vI f.h])]⟩ i29=some ⟨150,7,[(V.agg [vI f.node,vI f.side,vI f.anchor,vI f.x,vI f.y,vI f.w,vI f.h])]⟩:=ag;generalize Tu:C' Z6 i29 ⟨150,7,[(V.agg [vI f.node,vI f.side,vI f.anchor,vI f.x,vI f.y,vI f.w,vI f.h])]⟩=Z7 at*;obtain⟨RN,Th,XY⟩:=Fh hB7 Js Jn Jx Ju Jv hap.symm;generalize q.map aQ=rows at*;have Sx:(rows.length+1)*57<=140737488355328:=by omega
   simp only[go_sem,seval,Th,dT a29,Sx];rw[aP];intro ZY f30;obtain⟨m30,hx,g1,g2,g3,g4,g5⟩:=XY ZY (rows++[(V.agg [vI f.node,vI f.side,vI f.anchor,vI f.x,vI f.y,vI f.w,vI f.h])]) ⟨371,2,[.agg [v,.own ZY 0 (rows++[(V.agg [vI f.node,vI f.side,vI f.anchor,vI f.x,vI f.y,vI f.w,vI f.h])]).length]]⟩ f30;have y2:C' (Vc.bK Z7 RN) ZY ⟨150,7,rows++[(V.agg [vI f.node,vI f.side,vI f.anchor,vI f.x,vI f.y,vI f.w,vI f.h])]⟩ ix=_:=(ab m30).trans hx;have Ye:(rows++[(V.agg [vI f.node,vI f.side,vI f.anchor,vI f.x,vI f.y,vI f.w,vI f.h])]).length=rows.length+1:=by simp
   rw[Ye]at g1 g2 g3 g4 g5;simp only[go_sem,seval,y2,vc,uc,vs,us];refine⟨_,_,aa.refl _,Wk.refl (aa.refl _) _,_,g2,⟨v,_,ag,g4,?_,g5.symm⟩,g1,Jn⟩;rw[hrq];exact g3
  .have q13:((q.length:Int)>0)=True:=eq_true (by have:=List.length_pos_iff.2 hq0;omega);simp only[go_sem,seval,cx,vc,uc,hlq,q13,a5,a6];rw[aP];intro i29 f29;have hB7:=hB6.pN (o:=⟨150,7,[(V.agg [vI f.node,vI f.side,vI f.anchor,vI f.x,vI f.y,vI f.w,vI f.h])]⟩) f29;have a29:C' Z6 i29 ⟨150,7,[(V.agg [vI f.node,vI f.side,vI f.anchor,vI f.x,vI f.y,vI f.w,vI f.h])]⟩ i29=some ⟨150,7,[(V.agg [vI f.node,vI f.side,vI f.anchor,vI f.x,vI f.y,vI f.w,vI f.h])]⟩:=ag;generalize Tu:C' Z6 i29 ⟨150,7,[(V.agg [vI f.node,vI f.side,vI f.anchor,vI f.x,vI f.y,vI f.w,vI f.h])]⟩=Z7 at*;obtain⟨RN,Th,XY⟩:=Fh hB7 Js Jn Jx Ju Jv hap.symm;generalize q.map aQ=rows at*;have Sx:(rows.length+1)*57<=140737488355328:=by omega
   simp only[go_sem,seval,Th,dT a29,Sx];rw[aP];intro ZY f30;obtain⟨m30,hx,g1,g2,g3,g4,g5⟩:=XY ZY (rows++[(V.agg [vI f.node,vI f.side,vI f.anchor,vI f.x,vI f.y,vI f.w,vI f.h])]) ⟨371,2,[.agg [v,.own ZY 0 (rows++[(V.agg [vI f.node,vI f.side,vI f.anchor,vI f.x,vI f.y,vI f.w,vI f.h])]).length]]⟩ f30;have y2:C' (Vc.bK Z7 RN) ZY ⟨150,7,rows++[(V.agg [vI f.node,vI f.side,vI f.anchor,vI f.x,vI f.y,vI f.w,vI f.h])]⟩ ix=_:=(ab m30).trans hx;have Ye:(rows++[(V.agg [vI f.node,vI f.side,vI f.anchor,vI f.x,vI f.y,vI f.w,vI f.h])]).length=rows.length+1:=by simp
   rw[Ye]at g1 g2 g3 g4 g5;simp only[go_sem,seval,y2,vc,uc,vs,us];refine⟨_,_,aa.refl _,Wk.refl (aa.refl _) _,_,g2,⟨v,_,ag,g4,?_,g5.symm⟩,g1,Jn⟩;rw[hrq];exact g3
 .rw[if_neg hl,if_neg hl];simp only[qu,decide_eq_true_eq,not_or,Decidable.not_not]at hl;have q13:((q.length:Int)>0)=False:=by rw[hl.1];simp
  have qy:(m.y+m.h>body)=False:=eq_false hl.2;simp only[go_sem,seval,cx,vc,uc,hlq,q13,qy,hr,a5,a6];rw[aP];intro i29 f29;have hB7:=hB6.pN (o:=⟨150,7,[(V.agg [vI m.node,vI m.side,vI m.anchor,vI m.x,vI m.y,vI m.w,vI m.h])]⟩) f29;have a29:C' Z6 i29 ⟨150,7,[(V.agg [vI m.node,vI m.side,vI m.anchor,vI m.x,vI m.y,vI m.w,vI m.h])]⟩ i29=some ⟨150,7,[(V.agg [vI m.node,vI m.side,vI m.anchor,vI m.x,vI m.y,vI m.w,vI m.h])]⟩:=ag;generalize Tu:C' Z6 i29 ⟨150,7,[(V.agg [vI m.node,vI m.side,vI m.anchor,vI m.x,vI m.y,vI m.w,vI m.h])]⟩=Z7 at*;obtain⟨RN,Th,XY⟩:=Fh hB7 Js Jn Jx Jv Ju hap;generalize p.map aQ=rows at*;have Sx:(rows.length+1)*57<=140737488355328:=by omega
  simp only[go_sem,seval,Th,dT a29,Sx];rw[aP];intro ZY f30;obtain⟨m30,hx,g1,g2,g3,g4,g5⟩:=XY ZY (rows++[(V.agg [vI m.node,vI m.side,vI m.anchor,vI m.x,vI m.y,vI m.w,vI m.h])]) ⟨371,2,[.agg [.own ZY 0 (rows++[(V.agg [vI m.node,vI m.side,vI m.anchor,vI m.x,vI m.y,vI m.w,vI m.h])]).length,u]]⟩ f30;have y2:C' (Vc.bK Z7 RN) ZY ⟨150,7,rows++[(V.agg [vI m.node,vI m.side,vI m.anchor,vI m.x,vI m.y,vI m.w,vI m.h])]⟩ ix=_:=(ab m30).trans hx;have Ye:(rows++[(V.agg [vI m.node,vI m.side,vI m.anchor,vI m.x,vI m.y,vI m.w,vI m.h])]).length=rows.length+1:=by simp
  rw[Ye]at g1 g2 g3 g4 g5;simp only[go_sem,seval,y2,vc,uc,vs,us];refine⟨_,_,aa.refl _,Wk.refl (aa.refl _) _,_,g2,⟨_,u,ag,?_,g4,g5⟩,g1,Jn⟩;rw[hrp];exact g3
open Go.Proofs Go.Proofs.Tryz
def bh.from{ZJ U J RX Z':ai}(h:bh ZJ J RX Z')(hs:aa U J):bh ZJ U RX Z':=⟨h.1,λi o h1 h2=>h.2 i o h1 (hs _ _ h2)⟩
def l9(body:Int)(x:List P'×List P')(f m:P'):List P'×List P':=(if qu x.2 m body then x.1 else x.1++[m],if qu x.2 m body then x.2++[f]else x.2)
def fN(top shift:Int)(f:P'):P':={ f with y:=max 0 (f.y-top)+shift }
def jH(top shift body:Int)(L:List P'):List P'×List P':=L.foldl (λx f=>l9 body x f (fN top shift f)) ([],[])
def Bh(top shift body:Int)(L:List P')(f:P'):jH top shift body (L++[f])=l9 body (jH top shift body L) f (fN top shift f):=by
 unfold jH;rw[List.foldl_append];rfl
def qe(top shift body:Int)(L:List P'):(jH top shift body L).1.length+(jH top shift body L).2.length=L.length:=by
 have key:∀(L:List P') (x:List P'×List P'),(L.foldl (λx f=>l9 body x f (fN top shift f)) x).1.length+(L.foldl (λx f=>l9 body x f (fN top shift f)) x).2.length=x.1.length+x.2.length+L.length:=by
  intro L
  induction L with
  |nil=>intro x;rfl
  |cons f L ih=>
   intro x;rw[List.foldl_cons,ih];unfold l9;split<;>simp<;>omega
 have:=key L ([],[]);simpa[jH]using this
def tJ(l:List Sk)(s:Sn)(kept:Int):Int:=(SM l s.atom).y+s.done-kept
def dD(l:List Sk)(fl:List P')(s:Sn)(to kept shift body:Int):List P'×List P':=if bZ l s then jH (tJ l s kept) shift body (fI fl s to)else([],[])
def FH(x:Int):(if x>0 then x else 0)=max 0 x:=by split<;>omega
def Fg(l:List Sk)(hl:lD l)(fl:List P')(U6:fl.length<=1000000)(Ws:∀f∈fl,f.ok)(s:Sn)(hd:s.done<=1152921504606846976)(to kept shift body:Int)(hk:-1152921504606846976<=kept/\kept<=2305843009213693952)(U7:0<=shift/\shift<=1152921504606846976):
 aV prog 242 [bl l,aH fl,bj s,vI to,vI kept,vI shift,vI body] (.RB [aH (dD l fl s to kept shift body).1,aH (dD l fl s to kept shift body).2]):=λU=>by
 refine OV.r (by simp[LX]) ?_;have hs:=aa.refl U;have Ye:=hl.len;have Uj:(bj s).cells=[vI s.atom,vI s.done,.bool s.free]:=rfl;have U2:(bj s).stays=true:=rfl;refine ad.mix 20 ?_;apply sR;simp only[go_sem,seval,LX,Uj,U2];refine af λi9 Z9 s9 a9 f9=>?_;have z9:=hs.none f9;replace hs:=hs.trans s9;simp only[go_sem,seval];refine af λTi Z12 Xg a12 f12=>?_;have n912:=aq a9 f12;replace a9:=Xg _ _ a9;have z12:=hs.none f12;replace hs:=hs.trans Xg;simp only[go_sem,seval];refine af λW9 Y13 s13 TY f13=>?_;have n913:=aq a9 f13;replace a9:=s13 _ _ a9;have n1213:=aq a12 f13;replace a12:=s13 _ _ a12;have z13:=hs.none f13;replace hs:=hs.trans s13;rw[bj]at a9;simp only[go_sem,seval,a9,ak,al];refine ad.aB rfl rfl rfl (pZ l s _) ?_;unfold dD;by_cases hm:bZ l s
 .rw[decide_eq_true hm,if_pos hm];obtain⟨h0,h2⟩:=hm.1;obtain⟨k,Vz⟩:∃k:Nat,s.atom=k:=⟨s.atom.toNat,by omega⟩
  have TR:k<l.length:=by omega
  have Rv:=λU=>iD (U:=U) TR;have hy:=hl.XJ _ (List.getElem_mem TR);have VP:=hm.2.1;have XN:tJ l s kept=l[k].y+s.done-kept:=by rw[tJ,Vz,bz TR]
  have r1:RM .i64 (l[k].y+s.done):=ao (by omega) (by omega);have r2:RM .i64 (l[k].y+s.done-kept):=ao (by omega) (by omega);have htr:-4611686018427387904<=tJ l s kept/\tJ l s kept<=4611686018427387904:=by rw[XN];omega
  have SJ:=pG fl (if s.done>0 then s.atom+1 else s.atom) to;have hcm:∀f∈fI fl s to,f.ok:=λf hf=>Ws f ((List.mem_filter.1 hf).1);have hca:=GG fl U6 s (ao (by omega) (by omega)) to;have hcl':(fI fl s to).length<=1000000:=Nat.le_trans SJ U6;generalize fI fl s to=L at*;rw[Vz]at a9;apply sR;simp only[go_sem,seval,Vz];refine af λi16 Z16 s16 a16 f16=>?_;have n916:=aq a9 f16;replace a9:=s16 _ _ a9;have n1216:=aq a12 f16;replace a12:=s16 _ _ a12;have n1316:=aq TY f16;replace TY:=s16 _ _ TY;have z16:=hs.none f16;replace hs:=hs.trans s16;simp only[go_sem,seval,a16,a9,Rv,cF,r1,r2,ak,al];refine bw λi17 Y17 s17 WQ f17=>?_;have n917:=aq a9 f17;replace a9:=s17 _ _ a9;have n1217:=aq a12 f17;replace a12:=s17 _ _ a12;have YY:=aq TY f17;replace TY:=s17 _ _ TY;have n1617:=aq a16 f17;replace a16:=s17 _ _ a16;have z17:=hs.none f17;replace hs:=hs.trans s17;simp only[go_sem,seval,WQ,a9,ab n917,ab n1217,ab YY,ab n1617];generalize YK:C' _ i17 _=Z17;replace WQ:=(congrFun YK i17).symm.trans ag;replace a9:=((congrFun YK i9).symm.trans (ab n917)).trans a9;replace a12:=((congrFun YK Ti).symm.trans (ab n1217)).trans a12;replace TY:=((congrFun YK W9).symm.trans (ab YY)).trans TY;replace a16:=((congrFun YK i16).symm.trans (ab n1617)).trans a16;replace hs:=Eq.subst (motive:=aa _) YK (hs.aE z17);clear YK;rw[bj,Vz]at hca;refine ad.aB rfl rfl rfl (hca _) ?_;apply sR;simp only[go_sem,seval];refine ad.aB rfl rfl rfl (JA L _) ?_;apply sR;simp only[go_sem,seval];rw[<-XN]at WQ;generalize tJ l s kept=top at*;generalize hS:mix 20 _ _=S;have S12:S 12=.ptr Ti 0 0:=by rw[<-hS];rfl
  have S13:S 13=.ptr W9 0 0:=by rw[<-hS];rfl
  have S16:S 16=.ptr i16 0 0:=by rw[<-hS];rfl
  have S17:S 17=.ptr i17 0 0:=by rw[<-hS];rfl
  have S39:S 39=.fn 321 [.rp (aH L)]:=by rw[<-hS];rfl
  clear hS;obtain⟨Z0,hY0⟩:∃Z0,Z0=del Z17 i16:=⟨_,rfl⟩
  have d0:∀i,i≠i16->Z0 i=Z17 i:=λi hi=>by rw[hY0];exact dK hi
  have XI:Z0 Ti=_:=(d0 _ n1216).trans a12;have b13:Z0 W9=_:=(d0 _ n1316).trans TY;have b17:Z0 i17=_:=(d0 _ n1617.symm).trans WQ;have b16:Z0 i16=none:=by rw[hY0];simp[del]
  have Sj:aa U Z0:=λi o h=>by
   rw[d0 i (λe=>by rw[e,z16]at h;cases h)];exact hs _ _ h
  have h16:SoJ Z0 i16 [] [] Z17:=⟨⟨.aC,.aC,a16,aT.start,aT.start,dV.aC _⟩,hY0▸aa.xB _ _,b16⟩
  refine ad.cX (g:=.t 39) (caps:=[.rp (aH L)]) S39 (DU L hcl') (λy hy=>?_) [] (λpre ZJ=>SoJ Z0 i16 (jH top shift body (L.take pre.length)).1 (jH top shift body (L.take pre.length)).2 ZJ)
   (λ_ _ _=>False) ?_ ?_ ?_ ?_ ?_
  .obtain⟨t,_,rfl⟩:=List.mem_map.1 hy;rfl
  .exact h16
  .rintro pre y post ZJ ZB Ub hJ G';obtain⟨f,hf,rfl⟩:=oD Ub;obtain⟨H',hfe⟩:=List.getElem?_eq_some_iff.1 hf;have hlen:(pre++[[aQ f]]).length=pre.length+1:=by simp
   have SB:L.take (pre.length+1)=L.take pre.length++[f]:=by rw[List.take_succ_eq_append_getElem H',hfe]
   have TR:=qe top shift body (L.take pre.length);have VK:(L.take pre.length).length<=1000000:=by rw[List.length_take];omega
   rw[hlen,SB,Bh];generalize jH top shift body (L.take pre.length)=x at*;have hfo':=hcm f (List.mem_of_getElem? hf);have a12:=G' _ _ (hJ.sub _ _ XI);have TY:=G' _ _ (hJ.sub _ _ b13);have WQ:=G' _ _ (hJ.sub _ _ b17);obtain⟨o1,o2,o3,o4⟩:=hfo';unfold Bq at o1 o2 o3 o4;have q1:RM .i64 (f.y-top):=ao (by omega) (by omega);have q2:RM .i64 (max 0 (f.y-top)+shift):=ao (by omega) (by omega);generalize TD:mj S [40] [aQ f]=S0;have T12:S0 12=.ptr Ti 0 0:=by rw[<-TD];exact S12
   have T13:S0 13=.ptr W9 0 0:=by rw[<-TD];exact S13
   have T16:S0 16=.ptr i16 0 0:=by rw[<-TD];exact S16
   have T17:S0 17=.ptr i17 0 0:=by rw[<-TD];exact S17
   have T40:S0 40=.agg [vI f.node,vI f.side,vI f.anchor,vI f.x,vI f.y,vI f.w,vI f.h]:=by rw[<-TD];rfl
   clear TD;have hs:=aa.refl ZB;refine ad.mix 20 ?_;apply sR;simp only[go_sem,seval];refine af λi18 Z18 s18 a18 f18=>?_;have n1218:=aq a12 f18;replace a12:=s18 _ _ a12;have n1318:=aq TY f18;replace TY:=s18 _ _ TY;have n1718:=aq WQ f18;replace WQ:=s18 _ _ WQ;have z18:=hs.none f18;replace hs:=hs.trans s18;simp only[go_sem,seval,a18,T40];generalize ZK:C' _ i18 _=Y18;replace a18:=(congrFun ZK i18).symm.trans ag;replace a12:=((congrFun ZK Ti).symm.trans (ab n1218)).trans a12;replace TY:=((congrFun ZK W9).symm.trans (ab n1318)).trans TY;replace WQ:=((congrFun ZK i17).symm.trans (ab n1718)).trans WQ;replace hs:=Eq.subst (motive:=aa _) ZK (hs.aE z18);clear ZK;apply sR;simp only[go_sem,seval,a18];refine af λi19 Z19 s19 Xk f19=>?_;have n1819:=aq a18 f19;replace a18:=s19 _ _ a18;have n1219:=aq a12 f19;replace a12:=s19 _ _ a12;have n1319:=aq TY f19;replace TY:=s19 _ _ TY;have n1719:=aq WQ f19;replace WQ:=s19 _ _ WQ;have z19:=hs.none f19;replace hs:=hs.trans s19;simp only[go_sem,seval,Xk,a18,WQ,a12,TY,T12,T13,T16,T17,ab n1819,ab n1719,ab n1219,ab n1319,q1,q2,FH];generalize YL:C' _ i19 _=Y19;replace Xk:=(congrFun YL i19).symm.trans ag;replace a18:=((congrFun YL i18).symm.trans (ab n1819)).trans a18;replace a12:=((congrFun YL Ti).symm.trans (ab n1219)).trans a12;replace TY:=((congrFun YL W9).symm.trans (ab n1319)).trans TY;replace WQ:=((congrFun YL i17).symm.trans (ab n1719)).trans WQ;replace hs:=Eq.subst (motive:=aa _) YL (hs.aE z19);clear YL;have hc:=HA x.1 x.2 (by omega) (by omega) f (fN top shift f) body (ao (by simp only[fN];omega) (by simp only[fN];omega)) hJ (G'.trans hs);rw[<-T16]at hc;refine ad.call rfl rfl rfl hc ?_;rintro-Z2 ⟨RX,hB,T0⟩;apply sR;simp only[go_sem,seval];exact⟨_,hB.from hs,T0⟩
  .rintro Z' hJ;have SD:(L.map λf=>[aQ f]).length=L.length:=by simp
   rw[SD,List.take_length]at hJ;obtain⟨⟨v,u,Jx,Jv,Ju,_⟩,Js,Jn⟩:=hJ;obtain⟨vc,vs⟩:=Jv.vc;obtain⟨uc,us⟩:=Ju.vc;refine ad.mix 20 ?_;apply sR;simp only[go_sem,seval,S16,Jx,vc,uc,vs,us];have RV:=Sj.trans Js;have hK:aa U (bg Z0 i16):=λi o hh=>by
    rw[bg,if_neg (λe=>by rw[e,z16]at hh;cases hh)];exact Sj _ _ hh
   exact⟨_,U,RV,Wk.RB (vs':=[aH (jH top shift body L).1,aH (jH top shift body L).2]) ⟨Jv.wk hK RV,Ju.wk hK RV,trivial⟩,rfl,rfl⟩
  .intro id h;cases h
  .rintro pre Z' _ ⟨⟩
 .rw[decide_eq_false hm,if_neg hm];apply sR;simp only[go_sem,seval];exact⟨_,U,hs,Wk.RB (vs':=[aH [],aH []]) ⟨Wk.aC 7,Wk.aC 7,trivial⟩,rfl,rfl⟩
variable {P:Program} {n:Nat} {st:St} {Q:St->Prop} {k:List It} {I:Mu} {w:World}
def H3{o:Op}{sz:Nat}{xs:List VX}(h:R0 P n o=.more (.cpy sz) xs):∃x y t e args argTypes,o=.call { callee:=.builtin .copy,args:=args,argTypes:=argTypes }/\
 args=#[x,y]/\argTypes[0]?=some t/\P.underlying t=some (.slice e)/\bU P e=true/\P.cellsOf e=sz/\xs=[cx n x,cx n y]:=by
 cases o
 case call c=>
  obtain⟨callee,args,argTypes⟩:=c;cases callee
  case builtin b=>
   cases b
   case copy=>
    simp only[R0,cN]at h;split at h
    .rename_i x y t h1 h2;split at h
     .rename_i e he;split at h
      .rename_i hz;simp only[RO.more.injEq,MOp.cpy.injEq]at h;exact⟨x,y,t,e,args,argTypes,rfl,by apply Array.ext';simpa using h1,h2,he,hz,h.1,h.2.symm⟩
      .cases h
     .cases h
    .cases h
   all_goals (simp only[R0,cN]at h;(repeat' split at h)<;>cases h)
  all_goals (simp only[R0,cN]at h;(repeat' split at h)<;>cases h)
 case unOp op t x=>cases op<;>simp only[R0,cN]at h<;>cases h
 case makeFunc f a b=>cases f<;>simp only[R0,cN]at h<;>(repeat' split at h)<;>cases h
 all_goals (simp only[R0,cN]at h;(repeat' split at h)<;>cases h)
def DW{F:Fr}{a:Act}(hs:dq F I st a w){o:Oper}{x y:Operand}{t e:TypeId}{args:Array Operand}{argTypes:Array TypeId}
 (Wv:o.op=.call { callee:=.builtin .copy,args:=args,argTypes:=argTypes })(harg:args=#[x,y])(W1:argTypes[0]?=some t)
 (ht:P.underlying t=some (.slice e))(hk:bU P e=true){id off len:Nat}(h1:(cx F.n x).ev st.s=.own id off len){ob:Ob}(h2:st.U id=some ob)
 (h3:ob.sz=P.cellsOf e)(h4:off+len<=ob.rows.length){rows:List V}(h5:bR st.U (P.cellsOf e) ((cx F.n y).ev st.s)=some rows)(h6:rows.length=len):
 ∃y w',(execOp a.eval o).run P w=.ok (.value y) w'/\
  dq F I ⟨aX st.s (o.dst.filter (·<F.n)) (.int .i64 len),C' st.U id { ob with rows:=ob.rows.take off++rows++ob.rows.drop (off+len) }⟩ (a.put o.dst y) w':=by
 have SP:=(dO hk).2.2;have R:=cM hs;have hx:=R x;rw[h1]at hx;simp only[E']at hx;obtain⟨news,hY,n1,n2,n3,n4,n5⟩:=nq (P:=P) hs.sat SP h5 (R y);have Sf:∀v w',(Builtin.copy_ argTypes o.type #[a.eval x,a.eval y]).run P w=.ok v w'->(execOp a.eval o).run P w=.ok (.value v) w':=by
  intro v w' Yo;unfold execOp;rw[Wv];simp[resolve,invoke,Go.builtin,harg,Yo]
 have UL:E' I (aG I st.U) w (.int .i64 len) (goInt len):=by simp only[E'];rfl
 have hcopy:∀b c,a.eval x=.slice b len c->(Builtin.copy_ argTypes o.type #[a.eval x,a.eval y]).run P w=((match b with|some q=>storeCells q news 0|none=>pure ()).run P w).andThen λ_ w'=>.ok (goInt len) w':=by
  intro b c hX;have hlen:=hY w;have Vv:=n5 w (λ_ _ _ h=>h);rw[h6]at hlen Vv;rw[hX];have hm:Nat.min len len=len:=Nat.min_self len;cases b
  .simp[Builtin.copy_,W1,run_underlying ht,hlen,hm,cu hk,Vv]
  .simp[Builtin.copy_,W1,run_underlying ht,hlen,hm,cu hk,Vv]
 have hzero:len=0->∃y w',(execOp a.eval o).run P w=.ok (.value y) w'/\
  dq F I ⟨aX st.s (o.dst.filter (·<F.n)) (.int .i64 len),C' st.U id { ob with rows:=ob.rows.take off++rows++ob.rows.drop (off+len) }⟩ (a.put o.dst y) w':=by
  intro h0;subst h0;have hX:∃b c,a.eval x=.slice b 0 c:=by
   split at hx
   .exact hx.elim
   .exact⟨_,_,hx.1⟩
   .obtain⟨o',c,h,_⟩:=hx;exact⟨_,_,h⟩
  obtain⟨b,c,hX⟩:=hX;obtain rfl:rows=[]:=List.eq_nil_of_length_eq_zero h6;obtain rfl:news=[]:=List.eq_nil_of_length_eq_zero (by simpa using n4);have RV:C' st.U id { ob with rows:=ob.rows.take off++[]++ob.rows.drop (off+0) }=st.U:=by
   funext j;simp only[C',List.append_nil,Nat.add_zero,List.take_append_drop];split
   .rename_i e';rw[e',h2]
   .rfl
  rw[RV];refine⟨goInt 0,w,Sf _ w ?_,hs.pure UL⟩;rw[hcopy b c hX];cases b<;>simp[storeCells]
 split at hx
 .exact hx.elim
 .exact hzero hx.2.2
 .rename_i b Va cap M';obtain⟨o',c,hX,c1,c2,c3,ZO⟩:=hx;by_cases h0:len=0
  .exact hzero h0
  have Sw:=hs.sat.obj id ob h2;rw[M']at Sw;obtain⟨cur,e1,e2,e3,e4,e5,e6,e7⟩:=Sw.plain ZO;obtain⟨g1,xs,g2,g3,g4,g5⟩:=e7.cur e1;have hoff:o'=off*Va:=by
   rcases c3 with c3|c3
   .exact c3
   .omega
  subst hoff;have RP:Va=P.cellsOf e:=by omega
  subst RP;have hbound:off*P.cellsOf e+len*P.cellsOf e<=ob.rows.length*P.cellsOf e:=by rw[<-Nat.add_mul];exact Nat.mul_le_mul_right _ h4
  have YR:ob.rows.length*P.cellsOf e<=cap*P.cellsOf e:=Nat.mul_le_mul_right _ e5;rw[h6]at n4;have RV:=run_storeCells_at P b (off*P.cellsOf e) ob.elem news 0 cur w e1 (by rw[n4];omega) n3;simp only[Nat.add_zero]at RV;refine⟨goInt len,w.setRow b (cur.toList.take (off*P.cellsOf e)++news++cur.toList.drop (off*P.cellsOf e+news.length)).toArray,Sf _ _ ?_,?_⟩
  .rw[hcopy _ c hX];simp only[RV,Result.andThen_ok]
  .have Xx:w.grownBy (w.setRow b (cur.toList.take (off*P.cellsOf e)++news++cur.toList.drop (off*P.cellsOf e+news.length)).toArray) (some b):=
    ⟨rfl,rfl,rfl,by simp,λkk _ Vz=>setRow_other w b kk _ (λe=>Vz (by rw[e]))⟩
   have V2:∀q∈ob.rows.take off++rows++ob.rows.drop (off+len),q.cells.length=P.cellsOf e:=by
    intro q hq;simp only[List.mem_append]at hq;rcases hq with(hq|hq)|hq
    .exact g1 q (List.mem_of_mem_take hq)
    .exact n1 q hq
    .exact g1 q (List.mem_of_mem_drop hq)
   have V0:flat (ob.rows.take off++rows++ob.rows.drop (off+len))=
    (flat ob.rows).take (off*P.cellsOf e)++flat rows++(flat ob.rows).drop (off*P.cellsOf e+len*P.cellsOf e):=by
    rw[gO,gO,pd g1];congr 1;rw[vU g1,Nat.add_mul]
   have hch:=hs.sat.change h2 M' (by omega) Xx _ (ob.rows.take off++rows++ob.rows.drop (off+len)) (xs.take (off*P.cellsOf e)++news++xs.drop (off*P.cellsOf e+news.length))
    (setRow_heap w b cur _ ob.elem _ e1) (by simp only[List.size_toArray,List.length_append,List.length_take,List.length_drop,n4];rw[Array.length_toList];omega) (by simp;omega) V2
    (by rw[V0,n4];exact((g2.take _).append n2).append (g2.drop _))
    (by intro u hu
        simp only[List.mem_append]at hu;rcases hu with(hu|hu)|hu
        .exact g3 u (List.mem_of_mem_take hu)
        .exact n3 u hu
        .exact g3 u (List.mem_of_mem_drop hu))
    (by intro j u hu
        have:=kr cur.toList xs _ g5 (off*P.cellsOf e) (by rw[n4,g4];omega) j u hu;simpa using this)
   exact hs.step hch.1 (df.refl _) hch.2 (by simp) (by simp only[E'];rfl)
def ad.cpy{i:aN}{l:List aN}{sz:Nat}{xa xb:VX}(hw:bu st.s i.g=some true)(ho:i.op=.more (.cpy sz) [xa,xb])
 {id off len:Nat}(h1:xa.ev st.s=.own id off len){ob:Ob}(h2:st.U id=some ob)(h3:ob.sz=sz)(h4:off+len<=ob.rows.length){rows:List V}(h5:bR st.U sz (xb.ev st.s)=some rows)(h6:rows.length=len)
 (h:ad P n (.ops l::k) ⟨aX st.s i.dst (.int .i64 len),C' st.U id { ob with rows:=ob.rows.take off++rows++ob.rows.drop (off+len) }⟩ Q):ad P n (.ops (i::l)::k) st Q:=by
 refine ad.ins (by rw[ho];simp) hw λF hn I a w o all hi hs next Q' RL=>?_
 subst hn;obtain⟨RH,hd⟩:=eF hi;rw[ho]at RH;obtain⟨x,y,t,e,args,argTypes,g1,g2,g3,g4,g5,rfl,Ub⟩:=H3 RH;simp only[List.cons.injEq,and_true]at Ub;obtain⟨rfl,rfl⟩:=Ub;obtain⟨y,w',hx,RP⟩:=DW hs g1 g2 g3 g4 g5 h1 h2 h3 h4 h5 h6;unfold Oper.wp;rw[hx];refine RL _ _ _ ⟨I,?_⟩ h;rw[<-hd];exact RP
open Go.Proofs Go.Proofs.Tryz
def dC(body:Int):List P'->Int->List P'×List P'×Int
 |[],sh=>([],[],sh)
 |f::r,sh=>if sh+min f.h body>body then([],f::r,sh)else({ f with y:=sh,h:=min f.h body }::(dC body r (sh+min f.h body)).1,(dC body r (sh+min f.h body)).2)
def pJ{P:List P'}{j:Nat}(h:j<=P.length):∀U,cL U 7 (aH P) (some (.int .i64 j)) none none=some (aH (P.drop j)):=λU=>by
 have h1:(j:Int)<=P.length:=by omega
 simp only[aH,cL,bF,List.length_map];rw[if_pos ⟨by omega,h1,Int.le_refl _,Int.le_refl _,trivial⟩,Int.toNat_natCast,Int.toNat_natCast,<-List.map_drop,List.take_of_length_le (by simp)]
def Ek(P:List P')(hP:P.length<=1000000)(body:Int)(hb0:1<=body)(Ww:body<=1099511627776)(hh:∀f∈P,0<=f.h):
 aV prog 117 [aH P,vI body] (.RB [aH (dC body P 0).1,aH (dC body P 0).2.1,vI (dC body P 0).2.2]):=λU=>by
 refine Q0.r (by simp[Kk]) ?_;have hs:=aa.refl U;have Yf:=gi P;refine ad.mix 13 ?_;apply sR;simp only[go_sem,seval,Kk,Yf];refine ad.fi (λst=>∃p q sh,dC body P 0=(p,q,sh)/\aa U st.U/\aT U st.U 150 7 (st.s 4) (p.map aQ)/\aT U st.U 150 7 (st.s 5) (q.map aQ)/\st.s 6=vI sh)
  (λm st=>∃(j:Nat) (acc:List P') (sh:Int),j<=P.length/\m=P.length-j/\acc.length=j/\dC body P 0=(acc++(dC body (P.drop j) sh).1,(dC body (P.drop j) sh).2)/\0<=sh/\sh<=body/\aa U st.U/\aT U st.U 150 7 (st.s 4) (acc.map aQ)/\st.s 5=.aC/\st.s 6=vI sh/\st.s 0=aH P/\st.s 1=vI body/\st.s 10=aH P/\st.s 11=vI P.length/\st.s 12=vI j) P.length ?_ ?_ ?_
 .exact⟨0,[],0,by omega,rfl,rfl,rfl,by omega,by omega,hs,aT.start,rfl,rfl,rfl,rfl,rfl,rfl,rfl⟩
 .clear hs;rintro m ⟨S,J⟩ ⟨j,acc,sh,hj,rfl,Up,heq,h0,h1,hs,ho,t5,t6,t0,t1,t10,t11,t12⟩;simp only at hs ho t5 t6 t0 t1 t10 t11 t12;generalize hv4:S 4=v4 at ho;refine ad.mix 13 ?_;by_cases H':j<P.length
  .have q:((j:Int)<P.length)=True:=eq_true (by omega);have Rv:=λU=>jX (U:=U) H';have hf0:=hh _ (List.getElem_mem H');have hd:P.drop j=P[j]::P.drop (j+1):=List.drop_eq_getElem_cons H';have U6:aQ P[j]=.agg [vI P[j].node,vI P[j].side,vI P[j].anchor,vI P[j].x,vI P[j].y,vI P[j].w,vI P[j].h]:=rfl;rw[hd,dC]at heq;generalize P[j]=f at*;have hsY:=hs;replace hs:=aa.refl J;have r1:RM .i64 ((j:Int)+1):=ao (by omega) (by omega);have r2:RM .i64 (sh+min f.h body):=ao (by omega) (by omega);apply sR;simp only[go_sem,seval,t0,t1,t5,t6,t10,t11,t12,hv4,q,Rv,U6];refine af λi8 Z8 s8 a8 f8=>?_;have z8:=hs.none f8;replace hs:=hs.trans s8;simp only[go_sem,seval,a8,t0,t1,t5,t6,t10,t11,t12,hv4];generalize SY:C' _ i8 _=Y8;replace a8:=(congrFun SY i8).symm.trans ag;replace hs:=Eq.subst (motive:=aa _) SY (hs.aE z8);clear SY;refine af λi9 Z9 s9 a9 f9=>?_;have Yb:=aq a8 f9;replace a8:=s9 _ _ a8;have z9:=hs.none f9;replace hs:=hs.trans s9;simp only[go_sem,seval,a9,a8,t0,t1,t5,t6,t10,t11,t12,hv4,di,ab Yb,ab Yb];generalize SL:C' _ i9 _=Y9;replace a9:=(congrFun SL i9).symm.trans ag;replace a8:=((congrFun SL i8).symm.trans (ab Yb)).trans a8;replace hs:=Eq.subst (motive:=aa _) SL (hs.aE z9);clear SL;refine ad.rA (by kernel_rfl) [0,1,2,3,4,5,6,7,8] [[],[],[1],[],[1,2,3],[0],[0,5],[0,1,2,3,4,5,6],[0,1,2,3,4,5,6,7]] [0,2,4,6,8,10,12,5,14,16] (by kernel_rfl) (by kernel_rfl) ?_;refine RE.SC (n:=0) [5,14,16] [0,2,4,6,8,10,12] [⟨(.some 18),(.RJ (.t 6)),.none⟩,⟨(.some 19),(.RU .false 6 1 (.t 8)),.none⟩,⟨(.some 20),(.load .false 1 (.t 19)),.none⟩,⟨(.some 21),(.RJ (.t 1)),.none⟩,⟨(.some 22),(.RD .false (.t 20) (.t 21)),.none⟩,⟨(.some 23),(.RU .false 4 1 (.t 9)),.none⟩,⟨.none,(.store 1 (.t 23) (.t 18)),.none⟩] rfl rfl ?_;apply sG;simp only[go_sem,seval,a9,a8,t6,t1,e8];refine RE.SX rfl rfl rfl rfl rfl trivial (by simp only[go_sem,seval,a9,a8,t6,t1,e8,ab Yb,ab Yb]) ?_;refine RE.SC (n:=0) [] [14,16] [⟨(.some 24),(.RU .false 6 1 (.t 9)),.none⟩,⟨.none,(.store 1 (.t 24) (.t 22)),.none⟩] rfl rfl ?_;apply sG;simp only[go_sem,seval,a9,a8,t6,t1,e8,ab Yb,ab Yb];generalize SL:C' _ i9 _=Y9;replace a9:=(congrFun SL i9).symm.trans ag;replace a8:=((congrFun SL i8).symm.trans (ab Yb)).trans a8;replace hs:=Eq.subst (motive:=aa _) SL (hs.aE z9);clear SL;by_cases hgt:sh+min f.h body>body
   .have q1:(sh+min f.h body>body)=True:=eq_true hgt;rw[if_pos hgt]at heq;have r3:RM .i64 ((P.length:Int)-j):=ao (by omega) (by omega);apply sR;simp only[go_sem,seval,a9,a8,t0,t1,t5,t6,t10,t11,t12,hv4,Yf,r2,q1,r3];obtain⟨n,hn⟩:∃n:Nat,n=P.length-j:=⟨_,rfl⟩
    have hnj:(P.length:Int)-j=(n:Int):=by omega
    rw[hnj];have hbm:(0:Int)<=n/\(n:Int).toNat*57<=140737488355328:=by omega
    simp only[go_sem,seval,hbm];refine af λi36 Z36 s36 a36 f36=>?_;have W2:=pJ hj;simp only[BB,seval,<-decide_not,bx,fg,aL,cU,eJ,eo,eN,dY,cz,jQ,gx,bI,fH,dP,fq,cP,bF,iP,dh,cQ,cp,SG,jT,dd,cc,iO,dI,cd,dc,cZ,kG,binBV,bW,dp,V.cells,V.stays,t0,t5,W2,Int.toNat_natCast];have Vb:(P.drop j).length=n:=by rw[List.length_drop,hn]
    refine ad.cpy (id:=i36) (off:=0) (len:=n) (rows:=(P.drop j).map aQ) rfl rfl rfl a36 rfl (by simp) rfl (by rw[List.length_map,Vb]) ?_;have hrw:(List.replicate (n:Int).toNat (V.agg [vI 0,vI 0,vI 0,vI 0,vI 0,vI 0,vI 0])).take 0++(P.drop j).map aQ++(List.replicate (n:Int).toNat (V.agg [vI 0,vI 0,vI 0,vI 0,vI 0,vI 0,vI 0])).drop (0+n)=(P.drop j).map aQ:=by
     generalize (P.drop j).map aQ=X;simp
    rw[hrw];apply sR;simp only[go_sem,seval,t0,t1,t6,t10,t11,t12,hv4];have RV:=(hsY.trans (hs.trans s36)).aE (o:=⟨150,7,(P.drop j).map aQ⟩) ((hsY.trans hs).none f36);refine⟨acc,P.drop j,sh,?_,RV,?_,?_,rfl⟩
    .rw[heq,List.append_nil,hd]
    .exact ho.mono ((hs.trans s36).aE (hs.none f36))
    .exact aT.new (by rw[List.length_map,Vb]) ag ((hsY.trans hs).none f36)
   .have q1:(sh+min f.h body>body)=False:=eq_false hgt;rw[if_neg hgt]at heq;apply sR;simp only[go_sem,seval,a9,a8,t0,t1,t5,t6,t10,t11,t12,hv4,r2,q1];refine af λi44 Z44 s44 a44 f44=>?_;obtain⟨RN,Th,SQ,ZA,XK⟩:=ho.Be (hs.trans s44);have WT:(acc.map aQ).length=j:=by rw[List.length_map,Up]
    have Sx:(j+1)*57<=140737488355328:=by omega
    simp only[go_sem,seval,Th,dT a44,WT,Sx];refine ga λi45 Z45 s45 a45 f45=>?_;have b9:=s45 _ _ ((XK i9 z9 Z44).trans (s44 _ _ a9));have k45:=(SQ U (aa.refl _) Z44 (hsY.trans (hs.trans s44))).trans s45;have TL:U i45=none:=(hsY.trans (hs.trans s44)).none f45;simp only[go_sem,seval,t0,t1,t5,t6,t10,t11,t12,b9,r1,r2];refine⟨_,?_,j+1,acc++[{ f with y:=sh,h:=min f.h body }],sh+min f.h body,by omega,rfl,by simp[Up],?_,by omega,by omega,k45,?_,by simp⟩
    .omega
    .rw[heq,List.append_assoc];rfl
    .rw[List.map_append];exact aT.new (by simp[Up]) a45 TL
  .have q:((j:Int)<P.length)=False:=eq_false (by omega);have Tt:j=P.length:=by omega
   rw[Tt,List.drop_length,dC,List.append_nil]at heq;apply sR;simp only[go_sem,seval,t0,t1,t5,t6,t10,t11,t12,hv4,q];exact⟨acc,[],sh,heq,hs,hv4▸ho,aT.start,rfl⟩
 .rintro⟨S,J⟩ ⟨p,q,sh,heq,hs,ho,hu,t6⟩;simp only at hs ho hu t6;generalize hv4:S 4=v4 at ho;generalize hv5:S 5=v5 at hu;refine ad.mix 13 ?_;apply sR;simp only[go_sem,seval,hv4,hv5,t6];rw[heq];exact⟨_,U,hs,Wk.RB (vs':=[aH p,aH q,vI sh]) ⟨ho.wk (aa.refl _) hs,hu.wk (aa.refl _) hs,Wk.refl hs _,trivial⟩,rfl,rfl⟩
open Go.Proofs Go.Proofs.Tryz
structure Bk where
 nodes:List Nd
 (w h:Int)
 atoms:List Sk
 RA:List P'
 Rw:Int
 L':List Tw
def bt(b:Bk):V:=.agg [aK b.nodes,vI b.w,vI b.h,bl b.atoms,aH b.RA,vI b.Rw,bC b.L']
structure Wx where
 RG:V
 (high body:Int)
 s:Sn
 kind:Int
 (hs fs ls:List Tp)
 shift:Int
def du(b:Bk)(x:Wx)(vh vf vl:V):Ob:=⟨219,13,[.agg [x.RG,vI x.high,vI x.body,.rp (bt b),vI x.s.atom,vI x.s.done,.bool x.s.free,vI 0,vI x.kind,vh,vf,vl,vI x.shift]]⟩
structure TS(b:Bk)(K:ai)(ix:Nat)(x:Wx)(U:ai)(vh vf vl:V):Prop where
 row:U ix=some (du b x vh vf vl)
 oh:aT (bg K ix) U 63 7 vh (x.hs.map bo)
 of:aT (bg K ix) U 63 7 vf (x.fs.map bo)
 ol:aT (bg K ix) U 63 7 vl (x.ls.map bo)
 hf:dV vh vf
 hl:dV vh vl
 fl:dV vf vl
 sub:aa K U
 no:K ix=none
def TS.mono{b:Bk}{K:ai}{ix:Nat}{x:Wx}{U J:ai}{vh vf vl:V}(h:TS b K ix x U vh vf vl)(hs:aa U J):TS b K ix x J vh vf vl:=
 ⟨hs _ _ h.row,h.oh.mono hs,h.of.mono hs,h.ol.mono hs,h.hf,h.hl,h.fl,h.sub.trans hs,h.no⟩
def yp{K Z8:ai}{ix e sz:Nat}{v:V}{rows:List V}(Js:aa K Z8)(Jn:K ix=none){ox:Ob}(Jx:Z8 ix=some ox)(Jv:aT (bg K ix) Z8 e sz v rows):
 ∃RN,cg Z8 e sz v=some (rows,RN)/\∀(Z9:ai) (id:Nat) (Rz:List V),aa (Vc.bK Z8 RN) Z9->Z9 id=some ⟨e,sz,Rz⟩->Z8 id=none->
  Z9 ix=some ox/\∀o',aa K (C' Z9 ix o')/\aT (bg K ix) (C' Z9 ix o') e sz (.own id 0 Rz.length) Rz/\
  ∀u WW,aT (bg K ix) Z8 e sz u WW->dV v u->aT (bg K ix) (C' Z9 ix o') e sz u WW/\dV (.own id 0 Rz.length) u:=by
 obtain⟨RN,Th,VD⟩:=Jv.NG (aa.refl Z8);have k2:bg K ix ix≠none:=λh=>(aM.1 h).1 rfl;have U0:∀(i:Nat),bg K ix i≠none->Vc.bK Z8 RN i=Z8 i:=λi hk=>by
  cases RN with
  |none=>rfl
  |some a=>exact dK (λe=>hk (by rw[e];exact(VD a rfl).1))
 refine⟨RN,Th,λZ9 id Rz hs9 h9 f=>⟨hs9 _ _ ((U0 _ k2).trans Jx),λo'=>⟨?_,?_,λu WW hu hap=>⟨?_,dV.new hu f⟩⟩⟩⟩
 .refine aa.aE (λi o h=>hs9 _ _ ((U0 _ (λhk=>?_)).trans (Js _ _ h))) Jn;rw[(aM.1 hk).2]at h;cases h
 .have m:id≠ix:=λe=>by rw[e,Jx]at f;cases f
  refine aT.new rfl ((ab m).trans h9) (aM.2 ⟨m,?_⟩);exact Js.none f
 .rcases hu with h|⟨a,rfl,h1,h2⟩
  .exact .inl h
  .refine .inr ⟨a,rfl,(ab (aM.1 h2).1).trans (hs9 _ _ ?_),h2⟩;cases hA:RN with
   |none=>exact h1
   |some i=>
    have:a≠i:=λe=>hap _ _ _ _ (VD i hA).2.2 rfl e.symm;simp only[Vc.bK];rw[dK this];exact h1
def tF(high:Int)(f:P'):Tp:=⟨f.node,-1,0,f.x,f.y+high,f.w,f.h⟩
def Wx.put(x:Wx)(l:List P'):Wx:={ x with ls:=x.ls++l.map (tF x.high) }
def mF(b:Bk)(l:List P')(hl:l.length<=1000000)(x:Wx)(hx:x.ls.length<=1000000)(hr:∀f∈l,RM .i64 (f.y+x.high)){K U:ai}{i1:Nat}{vh vf vl:V}(hJ:TS b K i1 x U vh vf vl):
 aD prog 118 [.ptr i1 0 0,aH l] U λ_ Z'=>∃UT,TS b K i1 (x.put l) Z' vh vf UT:=by
 refine P5.r (by simp[KN]) ?_;have Vd:=gi l;obtain⟨ch,sh⟩:=hJ.oh.vc;obtain⟨cf,sf⟩:=hJ.of.vc;refine ad.mix 9 ?_;apply sR;simp only[go_sem,seval,KN,Vd];refine ad.loop (λm st=>∃(j:Nat) (UT:V),j<=l.length/\m=l.length-j/\TS b K i1 (x.put (l.take j)) st.U vh vf UT/\st.s 0=.ptr i1 0 0/\st.s 6=aH l/\st.s 7=vI l.length/\st.s 8=vI j) l.length ?_ ?_
 .exact⟨0,vl,by omega,rfl,by simpa[Wx.put]using hJ,rfl,rfl,rfl,rfl⟩
 .rintro m ⟨S,J⟩ ⟨j,UT,hj,rfl,hJ,t0,t6,t7,t8⟩;simp only at hJ t0 t6 t7 t8;refine ad.mix 9 ?_;by_cases H':j<l.length
  .have q:((j:Int)<l.length)=True:=eq_true (by omega);have Rv:=λU=>jX (U:=U) H';have U6:aQ l[j]=.agg [vI l[j].node,vI l[j].side,vI l[j].anchor,vI l[j].x,vI l[j].y,vI l[j].w,vI l[j].h]:=rfl;have SB:l.take (j+1)=l.take j++[l[j]]:=List.take_succ_eq_append_getElem H';have hput:x.put (l.take (j+1))={ x.put (l.take j)with ls:=(x.put (l.take j)).ls++[tF x.high l[j]] }:=by
    rw[SB];simp only[Wx.put,List.map_append,List.map_cons,List.map_nil,List.append_assoc]
   have r0:=hr _ (List.getElem_mem H');have r1:RM .i64 ((j:Int)+1):=ao (by omega) (by omega);have hyl:((x.put (l.take j)).ls.map bo).length<=2000000:=by simp[Wx.put];omega
   have hyh:(x.put (l.take j)).high=x.high:=rfl;rw[<-hyh]at hput r0;generalize l[j]=f at*;generalize x.put (l.take j)=y at*;have hs:=aa.refl J;have a1:=hJ.row;rw[du]at a1;obtain⟨cl,sl⟩:=hJ.ol.vc;apply sR;simp only[go_sem,seval,t0,t6,t7,t8,q,Rv,U6];refine af λi5 Z5 s5 a5 f5=>?_;have Zf:=aq a1 f5;replace a1:=s5 _ _ a1;have z5:=hs.none f5;replace hs:=hs.trans s5;simp only[go_sem,seval,a5,a1,t0,t6,t7,t8,ab Zf,ab Zf,r0,ch,sh,cf,sf,cl,sl];generalize Ui:C' _ i5 _=Y5;replace a5:=(congrFun Ui i5).symm.trans ag;replace a1:=((congrFun Ui i1).symm.trans (ab Zf)).trans a1;replace hs:=Eq.subst (motive:=aa _) Ui (hs.aE z5);clear Ui;refine bw λi35 Z35 s35 a35 f35=>?_;have Wl:=hJ.mono (hs.trans s35);obtain⟨RN,Th,XY⟩:=yp Wl.sub Wl.no Wl.row Wl.ol;generalize hrw:y.ls.map bo=rows at*;have Sx:(rows.length+1)*57<=140737488355328:=by omega
   simp only[go_sem,seval,Th,dT a35,Sx];refine ju λi36 Z36 s36 a36 f36=>?_;obtain⟨b1,hg⟩:=XY Z36 i36 _ s36 a36 f36;rw[du]at b1;obtain⟨g1,g2,g3⟩:=hg (du b { y with ls:=y.ls++[tF y.high f] } vh vf (.own i36 0 (rows.length+1)));simp only[go_sem,seval,b1,t0,t6,t7,t8,ch,sh,cf,sf,cl,sl,r1];refine⟨_,?_,j+1,.own i36 0 (rows.length+1),by omega,rfl,?_,by simp⟩
   .omega
   .rw[hput];obtain⟨k1,k2⟩:=g3 _ _ Wl.oh Wl.hl.symm;obtain⟨k3,k4⟩:=g3 _ _ Wl.of Wl.fl.symm;rw[List.length_append]at g2 k2 k4;refine⟨ag,k1,k3,?_,hJ.hf,k2.symm,k4.symm,g1,hJ.no⟩;show aT _ _ _ _ _ ((y.ls++[tF y.high f]).map bo);rw[List.map_append,hrw];exact g2
  .have q:((j:Int)<l.length)=False:=eq_false (by omega);have Tt:j=l.length:=by omega
   rw[Tt,List.take_length]at hJ;apply sR;simp only[go_sem,seval,t0,t6,t7,t8,q];exact⟨_,_,aa.refl _,Wk.refl (aa.refl _) _,UT,hJ⟩
open Go.Proofs Go.Proofs.Tryz
structure BkOk(b:Bk):Prop where
 RY:lD b.atoms
 tight:∀a∈b.atoms,-18014398509481984<=a.y/\a.y<=18014398509481984/\0<=a.h/\a.h<=18014398509481984
 len:b.atoms.length<=900000
 Uz:b.RA.length<=1000000
 YF:∀f∈b.RA,f.ok
 brk:b.L'.length=b.atoms.length+1
structure Sy where
 s:Sn
 bM:List P'
def bX(x:Sy):V:=.agg [vI x.s.atom,vI x.s.done,.bool x.s.free,aH x.bM]
def DI{top shift body:Int}:∀{L:List P'} {m:P'},m∈(jH top shift body L).1->∃f∈L,m=fN top shift f:=by
 have key:∀(L L0:List P') (x:List P'×List P'),(∀m∈x.1,∃f∈L0,m=fN top shift f)->∀m∈(L.foldl (λx f=>l9 body x f (fN top shift f)) x).1,∃f∈L0++L,m=fN top shift f:=by
  intro L
  induction L with
  |nil=>intro L0 x h m hm;simpa using h m hm
  |cons f L ih=>
   intro L0 x h m hm;rw[List.foldl_cons]at hm;have:=ih (L0++[f]) _ (λm hm=>?_) m hm
   .simpa using this
   .unfold l9 at hm;simp only at hm;split at hm
    .obtain⟨g,hg,e⟩:=h m hm;exact⟨g,by simp[hg],e⟩
    .rcases List.mem_append.1 hm with hm|hm
     .obtain⟨g,hg,e⟩:=h m hm;exact⟨g,by simp[hg],e⟩
     .simp at hm;exact⟨f,by simp,hm⟩
 intro L m hm;have:=key L [] ([],[]) (by simp) m hm;simpa using this
def vg{b:Bk}(hb:BkOk b){s:Sn}(hd:s.done<=1152921504606846976){to kept shift body:Int}(hk:-1152921504606846976<=kept/\kept<=2305843009213693952)(U7:0<=shift/\shift<=1152921504606846976):
 (dD b.atoms b.RA s to kept shift body).1.length<=1000000/\∀m∈(dD b.atoms b.RA s to kept shift body).1,0<=m.y/\m.y<=6917529027641081856:=by
 unfold dD;split
 .rename_i hm;have h1:=qe (tJ b.atoms s kept) shift body (fI b.RA s to);have h2:(fI b.RA s to).length<=b.RA.length:=pG _ _ _;have h3:=hb.Uz;refine⟨by omega,λm hmm=>?_⟩;obtain⟨f,hf,rfl⟩:=DI hmm;have Ws:=hb.YF f (List.mem_filter.1 hf).1;obtain⟨_,⟨o1,o2⟩,_⟩:=Ws;obtain⟨h0,h4⟩:=hm.1;have XN:-4611686018427387904<=tJ b.atoms s kept:=by
   unfold tJ;have:=hm.2.1;obtain⟨k,Vz⟩:∃k:Nat,s.atom=k:=⟨s.atom.toNat,by omega⟩
   have TR:k<b.atoms.length:=by omega
   have hy:=hb.RY.XJ _ (List.getElem_mem TR);rw[Vz,bz TR];omega
  simp only[fN];omega
 .simp
def cD(high:Int)(f:Tp):Tp:={ f with y:=f.y+high }
def ck(b:Bk)(x:Wx)(kept:Int)(n:Nat):List Tp:=(List.range n).map λi:Nat=>cD x.high (cT b.atoms x.s kept x.shift (x.s.atom+(i:Nat)))
def Wx.add(x:Wx)(l:List Tp):Wx:={ x with fs:=x.fs++l }
def BD{l:List Sk}(hl:lD l){s:Sn}(VP:0<=s.done)(hd:s.done<=1152921504606846976){kept shift:Int}(hk:-1152921504606846976<=kept/\kept<=2305843009213693952)(U7:0<=shift/\shift<=1152921504606846976)(k:Int):
 -4611686018427387904<=(cT l s kept shift k).y/\(cT l s kept shift k).y<=6917529027641081856:=by
 have h:=nJ hl hd hk U7 k;unfold cT;split
 .split
  .simp only;omega
  .simp only[jA];omega
 .simp
def gn(l:List Sk)(U:ai):bT U false 1 (.rp (bl l))=some (bl l):=rfl
def BL(l:List P')(U:ai):bT U false 1 (.rp (aH l))=some (aH l):=rfl
def Fi(l:List Tw)(U:ai):bT U false 1 (.rp (bC l))=some (bC l):=rfl
def Od(l:List Nd)(U:ai):bT U false 1 (.rp (aK l))=some (aK l):=rfl
def TS.ni{b:Bk}{K:ai}{ix:Nat}{x:Wx}{U J:ai}{vh vf vl:V}(h:TS b K ix x U vh vf vl)(hs:aa U J){i:Nat}{o:Ob}(h1:U i=none)(h2:J i=some o):TS b (C' K i o) ix x J vh vf vl:=by
 have key:∀{v rows},aT (bg K ix) U 63 7 v rows->aT (bg (C' K i o) ix) J 63 7 v rows:=λhv=>by
  rcases hv with h|⟨a,e,h3,h4⟩
  .exact .inl h
  .refine .inr ⟨a,e,hs _ _ h3,aM.2 ⟨(aM.1 h4).1,?_⟩⟩;rw[ab (λe=>by subst e;rw[h1]at h3;cases h3)];exact(aM.1 h4).2
 refine⟨hs _ _ h.row,key h.oh,key h.of,key h.ol,h.hf,h.hl,h.fl,λa q ha=>?_,?_⟩
 .by_cases e:a=i
  .subst e;rw[Vc.ag]at ha;cases ha;exact h2
  .rw[Vc.ab e]at ha;exact hs _ _ (h.sub _ _ ha)
 .rw[Vc.ab (λe=>by subst e;rw[h.row]at h1;cases h1)];exact h.no
def TS.narrow{b:Bk}{K:ai}{ix i:Nat}{o:Ob}{x:Wx}{U:ai}{vh vf vl:V}(h:TS b (C' K i o) ix x U vh vf vl)(hK:K i=none):TS b K ix x U vh vf vl:=by
 have hk:∀a,C' K i o a=none->K a=none:=λa ha=>by
  by_cases e:a=i
  .subst e;exact hK
  .rwa [Vc.ab e]at ha
 have key:∀{v rows},aT (bg (C' K i o) ix) U 63 7 v rows->aT (bg K ix) U 63 7 v rows:=λhv=>by
  rcases hv with h|⟨a,e,h3,h4⟩
  .exact .inl h
  .exact .inr ⟨a,e,h3,aM.2 ⟨(aM.1 h4).1,hk _ (aM.1 h4).2⟩⟩
 refine⟨h.row,key h.oh,key h.of,key h.ol,h.hf,h.hl,h.fl,λa q ha=>h.sub _ _ ?_,hk _ h.no⟩;rw[Vc.ab (λe=>by subst e;rw[hK]at ha;cases ha)];exact ha
def TS.drop{b:Bk}{K:ai}{ix i:Nat}{o:Ob}{x:Wx}{U:ai}{vh vf vl:V}(h:TS b (C' K i o) ix x U vh vf vl)(hK:K i=none)(o':Ob):TS b K ix x (C' U i o') vh vf vl:=by
 have hn:ix≠i:=λe=>by have:=h.no;subst e;rw[Vc.ag]at this;cases this
 have key:∀{v rows},aT (bg K ix) U 63 7 v rows->aT (bg (C' K i o) ix) U 63 7 v rows->aT (bg K ix) (C' U i o') 63 7 v rows:=λhv hw=>by
  rcases hv with h|⟨a,rfl,h3,h4⟩
  .exact .inl h
  .refine .inr ⟨a,rfl,?_,h4⟩;rcases hw with⟨h,_⟩|⟨c,h,h5,h6⟩
   .cases h
   .cases h;have:a≠i:=λe=>by subst e;have:=(aM.1 h6).2;rw[Vc.ag]at this;cases this
    rw[Vc.ab this];exact h3
 have g:=h.narrow hK;refine⟨(Vc.ab hn).trans h.row,key g.oh h.oh,key g.of h.of,key g.ol h.ol,h.hf,h.hl,h.fl,g.sub.aE hK,g.no⟩
def EA(b:Bk)(hb:BkOk b)(x:Wx)(hm:bZ b.atoms x.s)(hd:x.s.done<=1152921504606846976)(hx:x.fs.length<=1000000)(hxl:x.ls.length<=1000000)(hh:0<=x.high/\x.high<=1152921504606846976)(kept:Int)(hk:-1152921504606846976<=kept/\kept<=2305843009213693952)
 (U7:0<=x.shift/\x.shift<=1152921504606846976)(cut:Nat)(hc:x.s.atom<=cut)(SJ:cut<=b.atoms.length){K U:ai}{i1:Nat}{vh vf vl:V}(hJ:TS b K i1 x U vh vf vl):
 aD prog 181 [.ptr i1 0 0,vI kept,vI cut] U λr Z'=>∃Vo UT,r=bX ⟨⟨cut,0,decide ((b.L'.getD cut ⟨0,0,0⟩).forced≠0)⟩,(dD b.atoms b.RA x.s cut kept x.shift x.body).2⟩/\
  TS b K i1 ((x.add (ck b x kept (cut-x.s.atom.toNat))).put (dD b.atoms b.RA x.s cut kept x.shift x.body).1) Z' vh Vo UT:=by
 refine OR.r (by simp[KT]) ?_;have hs:=aa.refl U;have Vg:bt b=.agg [aK b.nodes,vI b.w,vI b.h,bl b.atoms,aH b.RA,vI b.Rw,bC b.L']:=rfl;have a1:=hJ.row;rw[du]at a1;obtain⟨ch,sh⟩:=hJ.oh.vc;obtain⟨a,haa⟩:∃a:Nat,x.s.atom=a:=⟨x.s.atom.toNat,by have:=hm.1;omega⟩
 obtain⟨n,hn⟩:∃n,n=cut-x.s.atom.toNat:=⟨_,rfl⟩
 have hnc:a+n=cut:=by omega
 rw[<-hn];have hlen:=hb.len;refine ad.mix 13 ?_;apply sR;simp only[go_sem,seval,KT];refine af λi6 Z6 s6 a6 f6=>?_;have n16:=aq a1 f6;replace a1:=s6 _ _ a1;have z6:=hs.none f6;replace hs:=hs.trans s6;have Wn:=hJ.ni s6 f6 a6;have k6:K i6=none:=hJ.sub.none f6;simp only[go_sem,seval,a1,Vg,haa,gn];refine ad.fi (λst=>∃Vo,TS b (C' K i6 ⟨45,4,[.agg [vI 0,vI 0,.bool false,.aC]]⟩) i1 (x.add (ck b x kept n)) st.U vh Vo vl/\st.s 0=.ptr i1 0 0/\st.s 1=vI kept/\st.s 2=vI cut/\st.s 6=.ptr i6 0 0/\st.s 7=bl b.atoms)
  (λm st=>∃(j:Nat) (Vo:V),j<=n/\m=n-j/\TS b (C' K i6 ⟨45,4,[.agg [vI 0,vI 0,.bool false,.aC]]⟩) i1 (x.add (ck b x kept j)) st.U vh Vo vl/\st.s 0=.ptr i1 0 0/\st.s 1=vI kept/\st.s 2=vI cut/\st.s 6=.ptr i6 0 0/\st.s 7=bl b.atoms/\∃z:Int,st.s 8=vI z/\z=(a:Int)+j) n ?_ ?_ ?_
 .exact⟨0,vf,by omega,rfl,by simpa[Wx.add,ck]using Wn,rfl,rfl,rfl,rfl,rfl,_,rfl,by omega⟩
 .clear hs Wn a1 hJ a6;rintro m ⟨S,J⟩ ⟨j,Vo,hj,rfl,hJ,t0,t1,t2,t6,t7,z,t8,hz⟩;simp only at hJ t0 t1 t2 t6 t7 t8;refine ad.mix 13 ?_;by_cases H':j<n
  .have q:(z<(cut:Int))=True:=eq_true (by omega);have hsw:x.add (ck b x kept (j+1))={ x.add (ck b x kept j)with fs:=(x.add (ck b x kept j)).fs++[cD x.high (cT b.atoms x.s kept x.shift z)] }:=by
    simp only[Wx.add,ck,List.range_succ,List.map_append,List.map_cons,List.map_nil,List.append_assoc];rw[hz,haa]
   have Tg:aV prog 243 [bl b.atoms,bj (x.add (ck b x kept j)).s,vI kept,vI (x.add (ck b x kept j)).shift,vI z] (bo (cT b.atoms x.s kept x.shift z)):=Dh b.atoms hb.RY x.s hd kept x.shift z hk U7;have WN:=BD hb.RY hm.2.1 hd hk U7 z;have hyl:((x.add (ck b x kept j)).fs.map bo).length<=2000000:=by simp[Wx.add,ck];omega
   have hyh:(x.add (ck b x kept j)).high=x.high:=rfl;rw[<-hyh]at hsw;generalize cT b.atoms x.s kept x.shift z=w at*;generalize x.add (ck b x kept j)=y at*;have hs:=aa.refl J;have a1:=hJ.row;rw[du]at a1;rw[bj]at Tg;have r1:RM .i64 (z+1):=ao (by omega) (by omega);have r2:RM .i64 (w.y+y.high):=ao (by omega) (by omega);obtain⟨cf,sf⟩:=hJ.of.vc;obtain⟨cl,sl⟩:=hJ.ol.vc;apply sR;simp only[go_sem,seval,t0,t1,t2,t6,t7,t8,q,di];refine ad.Dl (by kernel_rfl) 8 (.fork [[],[],[1],[2,1],[3,2,1],[],[],[6],[7,6],[8,7,6],[],[0,4,5,9,10,3,2,1,8,7,6],[],[12,11,0,1,2,3,4,5,6,7,8,9,10]] [0,1,2,3,4,5,6,7,8,9,10] [11,12] [(.leaf [[],[],[1],[2,1],[3,2,1],[],[],[6],[7,6],[8,7,6],[],[0,4,5,9,10,3,2,1,8,7,6],[11,0,4,5,9,10,3,2,1,8,7,6],[11,0,4,5,9,10,3,2,1,8,7,6,12]] [11,12,13]),(.leaf [[],[],[1],[2,1],[3,2,1],[],[],[6],[7,6],[8,7,6],[],[12,0,4,5,9,10,3,2,1,8,7,6],[],[12,11,0,1,2,3,4,5,6,7,8,9,10]] [12,11,13])]) (by kernel_rfl) ?_;refine GT.o9 (its:=[0,2,4,6,8,10,12,14,16,18,20]) (by kernel_rfl) ?_;refine RE.SC (n:=0) [] [0,2,4,6,8,10,12,14,16,18,20] [⟨(.some 31),(.RJ (.t 7)),.none⟩,⟨(.some 32),(.RJ (.t 0)),.none⟩,⟨(.some 33),(.nilCheck (.t 32)),.none⟩,⟨(.some 34),(.RU .true 4 3 (.t 33)),.none⟩,⟨(.some 35),(.load .true 3 (.t 34)),.none⟩,⟨(.some 36),(.RJ (.t 1)),.none⟩,⟨(.some 37),(.RJ (.t 0)),.none⟩,⟨(.some 38),(.nilCheck (.t 37)),.none⟩,⟨(.some 39),(.RU .false 12 1 (.t 38)),.none⟩,⟨(.some 40),(.load .false 1 (.t 39)),.none⟩,⟨(.some 41),(.RJ (.t 8)),.none⟩] rfl rfl ?_;apply sG;simp only[go_sem,seval,a1,t0,t1,t7,t8,bo];refine⟨?_,?_⟩
   .refine GT.iK (its:=[22,24,26]) (by kernel_rfl) ?_;refine RE.aB rfl rfl rfl rfl rfl (Tg _) ?_;refine RE.SC (n:=0) [] [24,26] [⟨(.some 9),(.alloc 63 7 (.agg [(.int .i64 0),(.int .i64 0),(.int .i64 0),(.int .i64 0),(.int .i64 0),(.int .i64 0),(.int .i64 0)])),.none⟩,⟨.none,(.store 7 (.t 9) (.t 42)),.none⟩] rfl rfl ?_;apply sG;simp only[go_sem,seval,a1,t0,t1,t7,t8,bo];refine bw λi9 Z9 s9 a9 f9=>?_;have n19:=aq a1 f9;replace a1:=s9 _ _ a1;have z9:=hs.none f9;replace hs:=hs.trans s9;simp only[go_sem,seval,a1,t0,t1,t7,t8,bo,a9];generalize SL:C' _ i9 _=Y9;replace a9:=(congrFun SL i9).symm.trans ag;replace a1:=((congrFun SL i1).symm.trans (ab n19)).trans a1;replace hs:=Eq.subst (motive:=aa _) SL (hs.aE z9);clear SL;apply sR;simp only[go_sem,seval,a9,a1,t0,r2,ab n19,ab n19,cf,sf];generalize SL:C' _ i9 _=Y9;replace a9:=(congrFun SL i9).symm.trans ag;replace a1:=((congrFun SL i1).symm.trans (ab n19)).trans a1;replace hs:=Eq.subst (motive:=aa _) SL (hs.aE z9);clear SL;refine bw λi59 Z59 s59 a59 f59=>?_;have TA:=(hJ.mono hs).mono s59;obtain⟨RN,Th,XY⟩:=yp TA.sub TA.no TA.row TA.of;generalize hrw:y.fs.map bo=rows at*;have Sx:(rows.length+1)*57<=140737488355328:=by omega
    simp only[go_sem,seval,Th,dT a59,Sx];refine ju λi60 Z60 s60 a60 f60=>?_;obtain⟨b1,hg⟩:=XY Z60 i60 _ s60 a60 f60;rw[du]at b1;obtain⟨g1,g2,g3⟩:=hg (du b { y with fs:=y.fs++[cD y.high w] } vh (.own i60 0 (rows.length+1)) vl);simp only[go_sem,seval,b1,t0,t1,t2,t6,t7,t8,ch,sh,cf,sf,cl,sl,r1];refine⟨_,?_,j+1,.own i60 0 (rows.length+1),by omega,rfl,?_,_,rfl,by omega⟩
    .omega
    .rw[hsw];obtain⟨k1,k2⟩:=g3 _ _ TA.oh TA.hf.symm;obtain⟨k3,k4⟩:=g3 _ _ TA.ol TA.fl;rw[List.length_append]at g2 k2 k4;refine⟨?_,k1,?_,k3,k2.symm,hJ.hl,k4,g1,hJ.no⟩
     .exact ag
     .show aT _ _ _ _ _ ((y.fs++[cD y.high w]).map bo);rw[List.map_append,hrw];exact g2
   .refine GT.iK (its:=[24,9,19,22,26]) (by kernel_rfl) ?_;refine RE.SC (n:=0) [9,19,22,26] [24] [⟨(.some 9),(.alloc 63 7 (.agg [(.int .i64 0),(.int .i64 0),(.int .i64 0),(.int .i64 0),(.int .i64 0),(.int .i64 0),(.int .i64 0)])),.none⟩] rfl rfl ?_;apply sG;simp only[go_sem,seval,a1,t0,t1,t7,t8,bo];refine bw λi9 Z9 s9 a9 f9=>?_;have n19:=aq a1 f9;replace a1:=s9 _ _ a1;have z9:=hs.none f9;replace hs:=hs.trans s9;simp only[go_sem,seval,a1,t0,t1,t7,t8,bo,a9];refine RE.SX rfl rfl rfl rfl rfl trivial (by simp only[go_sem,seval,a1,t0,t1,t7,t8,bo,a9]) ?_;refine RE.SX rfl rfl rfl rfl rfl trivial (by simp only[go_sem,seval,a1,t0,t1,t7,t8,bo,a9]) ?_;refine RE.aB rfl rfl rfl rfl rfl (Tg _) ?_;refine RE.SC (n:=0) [] [26] [⟨.none,(.store 7 (.t 9) (.t 42)),.none⟩] rfl rfl ?_;apply sG;simp only[go_sem,seval,a1,t0,t1,t7,t8,bo,a9];generalize SL:C' _ i9 _=Y9;replace a9:=(congrFun SL i9).symm.trans ag;replace a1:=((congrFun SL i1).symm.trans (ab n19)).trans a1;replace hs:=Eq.subst (motive:=aa _) SL (hs.aE z9);clear SL;apply sR;simp only[go_sem,seval,a9,a1,t0,r2,ab n19,ab n19,cf,sf];generalize SL:C' _ i9 _=Y9;replace a9:=(congrFun SL i9).symm.trans ag;replace a1:=((congrFun SL i1).symm.trans (ab n19)).trans a1;replace hs:=Eq.subst (motive:=aa _) SL (hs.aE z9);clear SL;refine bw λi59 Z59 s59 a59 f59=>?_;have TA:=(hJ.mono hs).mono s59;obtain⟨RN,Th,XY⟩:=yp TA.sub TA.no TA.row TA.of;generalize hrw:y.fs.map bo=rows at*;have Sx:(rows.length+1)*57<=140737488355328:=by omega
    simp only[go_sem,seval,Th,dT a59,Sx];refine ju λi60 Z60 s60 a60 f60=>?_;obtain⟨b1,hg⟩:=XY Z60 i60 _ s60 a60 f60;rw[du]at b1;obtain⟨g1,g2,g3⟩:=hg (du b { y with fs:=y.fs++[cD y.high w] } vh (.own i60 0 (rows.length+1)) vl);simp only[go_sem,seval,b1,t0,t1,t2,t6,t7,t8,ch,sh,cf,sf,cl,sl,r1];refine⟨_,?_,j+1,.own i60 0 (rows.length+1),by omega,rfl,?_,_,rfl,by omega⟩
    .omega
    .rw[hsw];obtain⟨k1,k2⟩:=g3 _ _ TA.oh TA.hf.symm;obtain⟨k3,k4⟩:=g3 _ _ TA.ol TA.fl;rw[List.length_append]at g2 k2 k4;refine⟨?_,k1,?_,k3,k2.symm,hJ.hl,k4,g1,hJ.no⟩
     .exact ag
     .show aT _ _ _ _ _ ((y.fs++[cD y.high w]).map bo);rw[List.map_append,hrw];exact g2
  .have q:(z<(cut:Int))=False:=eq_false (by omega);have Tt:j=n:=by omega
   subst Tt;apply sR;simp only[go_sem,seval,t0,t1,t2,t6,t7,t8,q];exact⟨Vo,hJ⟩
 .clear hs Wn a1 hJ a6;rintro⟨S,J⟩ ⟨Vo,hJ,t0,t1,t2,t6,t7⟩;simp only at hJ t0 t1 t2 t6 t7;have Tg:aV prog 242 [bl b.atoms,aH b.RA,bj (x.add (ck b x kept n)).s,vI cut,vI kept,vI (x.add (ck b x kept n)).shift,vI (x.add (ck b x kept n)).body] (.RB [aH (dD b.atoms b.RA x.s cut kept x.shift x.body).1,aH (dD b.atoms b.RA x.s cut kept x.shift x.body).2]):=
   Fg b.atoms hb.RY b.RA hb.Uz hb.YF x.s hd cut kept x.shift x.body hk U7
  have WN:=vg hb hd (to:=cut) (body:=x.body) hk U7;have hyl:(x.add (ck b x kept n)).ls.length<=1000000:=hxl;have hyh:(x.add (ck b x kept n)).high=x.high:=rfl;rw[bj]at Tg;generalize dD b.atoms b.RA x.s cut kept x.shift x.body=R at*;generalize x.add (ck b x kept n)=y at*;have a1:=hJ.row;rw[du]at a1;have hflo:=mF b R.1 WN.1 y hyl (λf hf=>by
   have:=WN.2 f hf;rw[hyh];exact ao (by omega) (by omega)) hJ
  have hcb:cut<b.L'.length:=by have:=hb.brk;omega
  have Rv:=λU=>sX (U:=U) hcb;have Wt:b.L'.getD cut ⟨0,0,0⟩=b.L'[cut]:=by simp[hcb]
  rw[Wt];generalize b.L'[cut]=bk at*;refine ad.mix 13 ?_;apply sR;simp only[go_sem,seval,t0,t1,t2,t6,t7,a1,Vg,gn,BL];refine Go.bO rfl rfl rfl Tg ?_;apply sG;simp only[go_sem,seval,t0];refine ad.call rfl rfl rfl hflo ?_;rintro r Z' ⟨UT,T0⟩;clear a1;have a1:=T0.row;rw[du]at a1;have a6:=T0.sub _ _ ag;have hs:=aa.refl Z';apply sR;simp only[go_sem,seval,t0,t2,t6,a1,Vg,Fi,Rv,dZ];refine af λTi Z12 Xg a12 f12=>?_;have n112:=aq a1 f12;replace a1:=Xg _ _ a1;have n612:=aq a6 f12;replace a6:=Xg _ _ a6;have z12:=hs.none f12;replace hs:=hs.trans Xg;simp only[go_sem,seval,a12,a6,t6,au,ar,ab n112,ab n612];exact⟨_,_,aa.refl _,Wk.refl (aa.refl _) _,Vo,UT,rfl,(T0.mono (hs.aE f12)).drop k6 _⟩
open Go.Proofs Go.Proofs.Tryz
def bJ.rt:bJ->bJ
 |.seq _ b=>b
 |c=>c
def cB{i j:Nat}(h:i≠j):(∀(U:ai) (o:Ob),C' U i o j=U j)/\∀(U:ai) (o:Ob),C' U j o i=U i:=⟨λ_ _=>ab h.symm,λ_ _=>ab h⟩
def IH(l:List Sk)(s:Sn)(R5:Int):(ij l s R5).y=0:=by
 unfold ij;split<;>rfl
def qp(b:Bk)(x:Wx):Wx:=(x.add [cD x.high (ij b.atoms x.s x.body)]).put (dD b.atoms b.RA x.s (x.s.atom+1) 0 0 x.body).1
def tS(b:Bk)(x:Wx):Sy:=⟨ew b.atoms x.s x.body,(dD b.atoms b.RA x.s (x.s.atom+1) 0 0 x.body).2⟩
def Im(b:Bk)(hb:BkOk b)(x:Wx)(hm:bZ b.atoms x.s)(hd:x.s.done<=1152921504606846976)(hx:x.fs.length<=1000000)(hxl:x.ls.length<=1000000)(hh:0<=x.high/\x.high<=1152921504606846976)(u v:Int)
 {K U:ai}{i1:Nat}{vh vf vl:V}(hJ:TS b K i1 x U vh vf vl):
 aD prog 180 [.ptr i1 0 0,vI u,vI v] U λr Z'=>∃Vo UT,r=bX (tS b x)/\TS b K i1 (qp b x) Z' vh Vo UT:=by
 refine Pq.r (by simp[E8]) ?_;have Vg:bt b=.agg [aK b.nodes,vI b.w,vI b.h,bl b.atoms,aH b.RA,vI b.Rw,bC b.L']:=rfl;have a1:=hJ.row;rw[du]at a1;obtain⟨ch,sh⟩:=hJ.oh.vc;have hlen:=hb.len;refine ad.mix 12 ?_;have hs:=aa.refl U;apply sR;simp only[go_sem,seval,E8];refine af λi6 Z6 s6 a6 f6=>?_;have n16:=aq a1 f6;replace a1:=s6 _ _ a1;have z6:=hs.none f6;replace hs:=hs.trans s6;have k6:K i6=none:=hJ.sub.none f6;have Wn:=hJ.ni s6 f6 a6;clear hJ;simp only[go_sem,seval,a1,Vg,gn,di];have SS:=MH b.atoms hb.RY x.s hd x.body;have hw0:=IH b.atoms x.s x.body;unfold qp tS;have Tg:=Fg b.atoms hb.RY b.RA hb.Uz hb.YF x.s hd (x.s.atom+1) 0 0 x.body (by omega) (by omega);have WN:=vg hb hd (to:=x.s.atom+1) (kept:=0) (shift:=0) (body:=x.body) (by omega) (by omega);generalize ij b.atoms x.s x.body=w at*;generalize ew b.atoms x.s x.body=nx at*;generalize dD b.atoms b.RA x.s (x.s.atom+1) 0 0 x.body=R at*;rw[bj]at SS Tg;obtain⟨cf,sf⟩:=Wn.of.vc;obtain⟨cl,sl⟩:=Wn.ol.vc;have nc:(bj nx).cells=[vI nx.atom,vI nx.done,.bool nx.free]:=rfl;have ns:(bj nx).stays=true:=rfl;have fin:∀(S:Nat->V) (J:ai) (i8 i9:Nat),aa Z6 J->((∀(U:ai) (o:Ob),C' U i8 o i9=U i9)/\∀(U:ai) (o:Ob),C' U i9 o i8=U i8)->Z6 i8=none->Z6 i9=none->J i8=some ⟨63,7,[.agg [vI w.node,vI w.atom,vI w.fr,vI w.x,vI w.y,vI w.w,vI w.h]]⟩->J i9=some ⟨42,3,[.agg [vI nx.atom,vI nx.done,.bool nx.free]]⟩->
  S 0=.ptr i1 0 0->S 6=.ptr i6 0 0->S 7=bl b.atoms->S 8=.ptr i8 0 0->S 9=.ptr i9 0 0->
  ad prog 89 [It.code E8.code.rt.rt.rt] ⟨S,J⟩ λst=>VL [.cell true 4 (.t 6)] st λr Z'=>∃Vo UT,r=bX ⟨nx,R.2⟩/\TS b K i1 ((x.add [cD x.high w]).put R.1) Z' vh Vo UT:=by
  intro S J i8 i9 hsZ hn z8 z9 a8 a9 t0 t6 t7 t8 t9;have n69:=aq a6 z9;have k9:=Wn.sub.none z9;have hJ:=Wn.ni hsZ z9 a9;have n18:i1≠i8:=aq a1 z8;have a1:=hJ.row;rw[du]at a1;have r2:RM .i64 (w.y+x.high):=ao (by omega) (by omega);have r3:RM .i64 (x.s.atom+1):=ao (by have:=hm.1;omega) (by have:=hm.1;omega);have hs:=aa.refl J;have z8:=z8;refine ad.mix 12 ?_;apply sR;simp only[go_sem,seval,E8,bJ.rt,t0,t6,t7,t8,t9,a8,a1,r2,ab n18,cf,sf];generalize SY:C' J i8 _=Y8;have Ta:TS b (C' K i6 ⟨45,4,[.agg [vI 0,vI 0,.bool false,.aC]]⟩) i1 x Y8 vh vf vl:=Wn.mono (SY▸hsZ.aE z8);replace a8:=(congrFun SY i8).symm.trans ag;replace a9:=((congrFun SY i9).symm.trans (hn.1 _ _)).trans a9;replace hJ:=Wn.ni (SY▸hsZ.aE z8) z9 a9;clear SY;refine bw λi50 Z50 s50 a50 f50=>?_;have TA:=hJ.mono s50;obtain⟨RN,Th,XY⟩:=yp TA.sub TA.no TA.row TA.of;have U6:(x.fs.map bo).length<=1000000:=by simpa using hx
  generalize hrw:x.fs.map bo=rows at*;have Sx:(rows.length+1)*57<=140737488355328:=by omega
  simp only[go_sem,seval,Th,dT a50,Sx];refine ju λi51 Z51 s51 a51 f51=>?_;obtain⟨b1,hg⟩:=XY Z51 i51 _ s51 a51 f51;rw[du]at b1;obtain⟨g1,g2,g3⟩:=hg (du b (x.add [cD x.high w]) vh (.own i51 0 (rows.length+1)) vl);have hJa:TS b (C' (C' K i6 ⟨45,4,[.agg [vI 0,vI 0,.bool false,.aC]]⟩) i9 ⟨42,3,[.agg [vI nx.atom,vI nx.done,.bool nx.free]]⟩) i1 (x.add [cD x.high w]) (C' Z51 i1 (du b (x.add [cD x.high w]) vh (.own i51 0 (rows.length+1)) vl)) vh (.own i51 0 (rows.length+1)) vl:=by
   obtain⟨k1,k2⟩:=g3 _ _ TA.oh TA.hf.symm;obtain⟨k3,k4⟩:=g3 _ _ TA.ol TA.fl;rw[List.length_append]at g2 k2 k4;refine⟨ag,k1,?_,k3,k2.symm,TA.hl,k4,g1,TA.no⟩;show aT _ _ _ _ _ ((x.fs++[cD x.high w]).map bo);rw[List.map_append,hrw];exact g2
  have hya:(x.add [cD x.high w]).high=x.high:=rfl;have hys:(x.add [cD x.high w]).ls=x.ls:=rfl;have hxl':(x.add [cD x.high w]).ls.length<=1000000:=hxl;generalize hY:x.add [cD x.high w]=y at*;simp only[go_sem,seval,b1,t0,t6,t7,t8,t9,ch,sh,cl,sl,Vg,gn,BL,r3];generalize hq1:C' Z51 i1 _=Y1;have hJb:=hJa;rw[show C' Z51 i1 (du b y vh (.own i51 0 (rows.length+1)) vl)=Y1 by rw[<-hq1,du,<-hY];rfl]at hJb;clear hJa hq1;refine Go.bO rfl rfl rfl Tg ?_;apply sG;simp only[go_sem,seval,t0];refine ad.call rfl rfl rfl (mF b R.1 WN.1 y hxl' (λf hf=>by
   have:=WN.2 f hf;rw[hya];exact ao (by omega) (by omega)) hJb) ?_
  rintro r Z' ⟨UT,T0⟩;have c9:=T0.sub _ _ ag;have c6:=T0.sub i6 _ ((ab n69).trans ag);apply sR;simp only[go_sem,seval,t6,t9,c9,c6,au,ar];exact⟨_,_,aa.refl _,Wk.refl (aa.refl _) _,_,UT,rfl,(T0.narrow k9).drop k6 _⟩
 have a8:True:=trivial;have a9:True:=trivial;have hn:True:=trivial;have Sj:=aa.refl Z6;refine ad.Dl (by kernel_rfl) 8 (.fork [[],[],[1],[2,1],[3,2,1],[],[5],[6,5],[7,6,5],[8,7,6,5],[0,4,9,3,2,1,8,7,6,5],[10,0,4,9,3,2,1,8,7,6,5],[11,10,0,4,9,3,2,1,8,7,6,5],[11,10,0,4,9,3,2,1,8,7,6,5],[],[],[14,12,10,0,1,2,3,4,5,6,7,8,9,11,15],[15,13,16,0,1,2,3,4,5,6,7,8,9,10,11,12,14]] [0,1,2,3,4,5,6,7,8,9] [10,14,15] [(.fork [[],[],[1],[2,1],[3,2,1],[],[5],[6,5],[7,6,5],[8,7,6,5],[0,4,9,3,2,1,8,7,6,5],[10,0,4,9,3,2,1,8,7,6,5],[11,10,0,4,9,3,2,1,8,7,6,5],[11,10,0,4,9,3,2,1,8,7,6,5],[10,0,4,9,3,2,1,8,7,6,5],[10,0,4,9,3,2,1,8,7,6,5],[10,0,4,9,3,2,1,8,7,6,5,14,12,11,15],[10,0,4,9,3,2,1,8,7,6,5,15,13,16,11,12,14]] [10,11,12,13] [14,15] [(.leaf [[],[],[1],[2,1],[3,2,1],[],[5],[6,5],[7,6,5],[8,7,6,5],[0,4,9,3,2,1,8,7,6,5],[10,0,4,9,3,2,1,8,7,6,5],[11,10,0,4,9,3,2,1,8,7,6,5],[11,10,0,4,9,3,2,1,8,7,6,5],[10,0,4,9,3,2,1,8,7,6,5],[14,10,0,4,9,3,2,1,8,7,6,5],[14,10,0,4,9,3,2,1,8,7,6,5,12,11,15],[14,10,0,4,9,3,2,1,8,7,6,5,15,13,16,11,12]] [14,15,16,17]),(.leaf [[],[],[1],[2,1],[3,2,1],[],[5],[6,5],[7,6,5],[8,7,6,5],[0,4,9,3,2,1,8,7,6,5],[10,0,4,9,3,2,1,8,7,6,5],[11,10,0,4,9,3,2,1,8,7,6,5],[11,10,0,4,9,3,2,1,8,7,6,5],[15,10,0,4,9,3,2,1,8,7,6,5],[10,0,4,9,3,2,1,8,7,6,5],[15,10,0,4,9,3,2,1,8,7,6,5,14,12,11],[15,10,0,4,9,3,2,1,8,7,6,5,13,16,11,12,14]] [15,14,16,17])]),(.fork [[],[],[1],[2,1],[3,2,1],[],[5],[6,5],[7,6,5],[8,7,6,5],[14,0,4,9,3,2,1,8,7,6,5],[14,10,0,4,9,3,2,1,8,7,6,5],[14,11,10,0,4,9,3,2,1,8,7,6,5],[14,11,10,0,4,9,3,2,1,8,7,6,5],[],[14],[14,12,10,0,1,2,3,4,5,6,7,8,9,11,15],[14,15,13,16,0,1,2,3,4,5,6,7,8,9,10,11,12]] [14] [10,15] [(.leaf [[],[],[1],[2,1],[3,2,1],[],[5],[6,5],[7,6,5],[8,7,6,5],[14,0,4,9,3,2,1,8,7,6,5],[14,10,0,4,9,3,2,1,8,7,6,5],[14,11,10,0,4,9,3,2,1,8,7,6,5],[14,11,10,0,4,9,3,2,1,8,7,6,5],[],[10,14,0,4,9,3,2,1,8,7,6,5],[10,14,0,4,9,3,2,1,8,7,6,5,12,11,15],[10,14,0,4,9,3,2,1,8,7,6,5,15,13,16,11,12]] [10,11,12,13,15,16,17]),(.leaf [[],[],[1],[2,1],[3,2,1],[],[5],[6,5],[7,6,5],[8,7,6,5],[15,14,0,4,9,3,2,1,8,7,6,5],[15,14,10,0,4,9,3,2,1,8,7,6,5],[15,14,11,10,0,4,9,3,2,1,8,7,6,5],[15,14,11,10,0,4,9,3,2,1,8,7,6,5],[],[14],[15,14,12,10,0,1,2,3,4,5,6,7,8,9,11],[15,14,13,16,0,1,2,3,4,5,6,7,8,9,10,11,12]] [15,10,11,12,13,16,17])]),(.fork [[],[],[1],[2,1],[3,2,1],[],[5],[6,5],[7,6,5],[8,7,6,5],[15,0,4,9,3,2,1,8,7,6,5],[15,10,0,4,9,3,2,1,8,7,6,5],[15,11,10,0,4,9,3,2,1,8,7,6,5],[15,11,10,0,4,9,3,2,1,8,7,6,5],[15],[],[15,14,12,10,0,1,2,3,4,5,6,7,8,9,11],[15,13,16,0,1,2,3,4,5,6,7,8,9,10,11,12,14]] [15] [10,14] [(.leaf [[],[],[1],[2,1],[3,2,1],[],[5],[6,5],[7,6,5],[8,7,6,5],[15,0,4,9,3,2,1,8,7,6,5],[15,10,0,4,9,3,2,1,8,7,6,5],[15,11,10,0,4,9,3,2,1,8,7,6,5],[15,11,10,0,4,9,3,2,1,8,7,6,5],[10,15,0,4,9,3,2,1,8,7,6,5],[],[10,15,0,4,9,3,2,1,8,7,6,5,14,12,11],[10,15,0,4,9,3,2,1,8,7,6,5,13,16,11,12,14]] [10,11,12,13,14,16,17]),(.leaf [[],[],[1],[2,1],[3,2,1],[],[5],[6,5],[7,6,5],[8,7,6,5],[14,15,0,4,9,3,2,1,8,7,6,5],[14,15,10,0,4,9,3,2,1,8,7,6,5],[14,15,11,10,0,4,9,3,2,1,8,7,6,5],[14,15,11,10,0,4,9,3,2,1,8,7,6,5],[15],[],[14,15,12,10,0,1,2,3,4,5,6,7,8,9,11],[14,15,13,16,0,1,2,3,4,5,6,7,8,9,10,11,12]] [14,10,11,12,13,16,17])])]) (by kernel_rfl) ?_;refine GT.Oa (its:=[0,2,4,6,8,10,12,14,16,18]) (by kernel_rfl) ?_;refine RE.SC (n:=0) [] [0,2,4,6,8,10,12,14,16,18] [⟨(.some 21),(.RJ (.t 7)),.none⟩,⟨(.some 22),(.RJ (.t 0)),.none⟩,⟨(.some 23),(.nilCheck (.t 22)),.none⟩,⟨(.some 24),(.RU .true 4 3 (.t 23)),.none⟩,⟨(.some 25),(.load .true 3 (.t 24)),.none⟩,⟨(.some 26),(.RJ (.t 0)),.none⟩,⟨(.some 27),(.nilCheck (.t 26)),.none⟩,⟨(.some 28),(.RU .true 0 3 (.t 27)),.none⟩,⟨(.some 29),(.RU .false 2 1 (.t 28)),.none⟩,⟨(.some 30),(.load .false 1 (.t 29)),.none⟩] rfl rfl ?_;apply sG;simp only[go_sem,seval,a1,bo,nc,ns,a8,a9,hn];refine⟨?_,?_,?_⟩
 .refine GT.o9 (its:=[20,22,24,26]) (by kernel_rfl) ?_;refine RE.aB rfl rfl rfl rfl rfl (SS _) ?_;refine RE.SC (n:=0) [] [22,24,26] [⟨(.some 20),(.RJ (.t 31)),.none⟩,⟨(.some 32),(.ext 0 (.t 20)),.none⟩,⟨(.some 33),(.ext 1 (.t 20)),.none⟩] rfl rfl ?_;apply sG;simp only[go_sem,seval,a1,bo,nc,ns,a8,a9,hn];refine⟨?_,?_⟩
  .refine GT.iK (its:=[28,30,32,34]) (by kernel_rfl) ?_;refine RE.SC (n:=0) [] [28,30,32,34] [⟨(.some 8),(.alloc 63 7 (.agg [(.int .i64 0),(.int .i64 0),(.int .i64 0),(.int .i64 0),(.int .i64 0),(.int .i64 0),(.int .i64 0)])),.none⟩,⟨(.some 9),(.alloc 42 3 (.agg [(.int .i64 0),(.int .i64 0),(.bool .false)])),.none⟩,⟨.none,(.store 7 (.t 8) (.t 32)),.none⟩,⟨.none,(.store 3 (.t 9) (.t 33)),.none⟩] rfl rfl ?_;apply sG;simp only[go_sem,seval,a1,bo,nc,ns,a8,a9,hn];refine bw λi8 Z8 s8 a8 f8=>?_;replace a1:=s8 _ _ a1
   try replace hn:=cB (aq a9 f8).symm
   try replace a9:=s8 _ _ a9
   have z8:=Sj.none f8;replace Sj:=Sj.trans s8;simp only[go_sem,seval,a1,bo,nc,ns,a8,a9,hn];refine bw λi9 Z9 s9 a9 f9=>?_;replace a1:=s9 _ _ a1
   try replace hn:=cB (aq a8 f9)
   try replace a8:=s9 _ _ a8
   have z9:=Sj.none f9;replace Sj:=Sj.trans s9;simp only[go_sem,seval,a1,bo,nc,ns,a8,a9,hn];exact fin _ _ i8 i9 ((Sj.aE z8).aE z9) hn z8 z9 ((hn.2 _ _).trans ag) ag rfl rfl rfl rfl rfl
  .refine GT.iK (its:=[30,28,32,34]) (by kernel_rfl) ?_;refine RE.SC (n:=0) [] [30,28,32,34] [⟨(.some 9),(.alloc 42 3 (.agg [(.int .i64 0),(.int .i64 0),(.bool .false)])),.none⟩,⟨(.some 8),(.alloc 63 7 (.agg [(.int .i64 0),(.int .i64 0),(.int .i64 0),(.int .i64 0),(.int .i64 0),(.int .i64 0),(.int .i64 0)])),.none⟩,⟨.none,(.store 7 (.t 8) (.t 32)),.none⟩,⟨.none,(.store 3 (.t 9) (.t 33)),.none⟩] rfl rfl ?_;apply sG;simp only[go_sem,seval,a1,bo,nc,ns,a8,a9,hn];refine bw λi9 Z9 s9 a9 f9=>?_;replace a1:=s9 _ _ a1
   try replace hn:=cB (aq a8 f9)
   try replace a8:=s9 _ _ a8
   have z9:=Sj.none f9;replace Sj:=Sj.trans s9;simp only[go_sem,seval,a1,bo,nc,ns,a8,a9,hn];refine bw λi8 Z8 s8 a8 f8=>?_;replace a1:=s8 _ _ a1
   try replace hn:=cB (aq a9 f8).symm
   try replace a9:=s8 _ _ a9
   have z8:=Sj.none f8;replace Sj:=Sj.trans s8;simp only[go_sem,seval,a1,bo,nc,ns,a8,a9,hn];exact fin _ _ i8 i9 ((Sj.aE z8).aE z9) hn z8 z9 ((hn.2 _ _).trans ag) ag rfl rfl rfl rfl rfl
 .refine GT.o9 (its:=[28,9,19]) (by kernel_rfl) ?_;refine RE.SC (n:=0) [9,19] [28] [⟨(.some 8),(.alloc 63 7 (.agg [(.int .i64 0),(.int .i64 0),(.int .i64 0),(.int .i64 0),(.int .i64 0),(.int .i64 0),(.int .i64 0)])),.none⟩] rfl rfl ?_;apply sG;simp only[go_sem,seval,a1,bo,nc,ns,a8,a9,hn];refine bw λi8 Z8 s8 a8 f8=>?_;replace a1:=s8 _ _ a1
  try replace hn:=cB (aq a9 f8).symm
  try replace a9:=s8 _ _ a9
  have z8:=Sj.none f8;replace Sj:=Sj.trans s8;simp only[go_sem,seval,a1,bo,nc,ns,a8,a9,hn];refine RE.SX rfl rfl rfl rfl rfl trivial (by simp only[go_sem,seval,a1,bo,nc,ns,a8,a9,hn]) ?_;refine RE.SX rfl rfl rfl rfl rfl trivial (by simp only[go_sem,seval,a1,bo,nc,ns,a8,a9,hn]) ?_;refine⟨?_,?_⟩
  .refine GT.iK (its:=[20,22,24,26,30,32,34]) (by kernel_rfl) ?_;refine RE.aB rfl rfl rfl rfl rfl (SS _) ?_;refine RE.SC (n:=0) [] [22,24,26,30,32,34] [⟨(.some 20),(.RJ (.t 31)),.none⟩,⟨(.some 32),(.ext 0 (.t 20)),.none⟩,⟨(.some 33),(.ext 1 (.t 20)),.none⟩,⟨(.some 9),(.alloc 42 3 (.agg [(.int .i64 0),(.int .i64 0),(.bool .false)])),.none⟩,⟨.none,(.store 7 (.t 8) (.t 32)),.none⟩,⟨.none,(.store 3 (.t 9) (.t 33)),.none⟩] rfl rfl ?_;apply sG;simp only[go_sem,seval,a1,bo,nc,ns,a8,a9,hn];refine bw λi9 Z9 s9 a9 f9=>?_;replace a1:=s9 _ _ a1
   try replace hn:=cB (aq a8 f9)
   try replace a8:=s9 _ _ a8
   have z9:=Sj.none f9;replace Sj:=Sj.trans s9;simp only[go_sem,seval,a1,bo,nc,ns,a8,a9,hn];exact fin _ _ i8 i9 ((Sj.aE z8).aE z9) hn z8 z9 ((hn.2 _ _).trans ag) ag rfl rfl rfl rfl rfl
  .refine GT.iK (its:=[30,9,19,20,22,24,26,32,34]) (by kernel_rfl) ?_;refine RE.SC (n:=0) [9,19,20,22,24,26,32,34] [30] [⟨(.some 9),(.alloc 42 3 (.agg [(.int .i64 0),(.int .i64 0),(.bool .false)])),.none⟩] rfl rfl ?_;apply sG;simp only[go_sem,seval,a1,bo,nc,ns,a8,a9,hn];refine bw λi9 Z9 s9 a9 f9=>?_;replace a1:=s9 _ _ a1
   try replace hn:=cB (aq a8 f9)
   try replace a8:=s9 _ _ a8
   have z9:=Sj.none f9;replace Sj:=Sj.trans s9;simp only[go_sem,seval,a1,bo,nc,ns,a8,a9,hn];refine RE.SX rfl rfl rfl rfl rfl trivial (by simp only[go_sem,seval,a1,bo,nc,ns,a8,a9,hn]) ?_;refine RE.SX rfl rfl rfl rfl rfl trivial (by simp only[go_sem,seval,a1,bo,nc,ns,a8,a9,hn]) ?_;refine RE.aB rfl rfl rfl rfl rfl (SS _) ?_;refine RE.SC (n:=0) [] [22,24,26,32,34] [⟨(.some 20),(.RJ (.t 31)),.none⟩,⟨(.some 32),(.ext 0 (.t 20)),.none⟩,⟨(.some 33),(.ext 1 (.t 20)),.none⟩,⟨.none,(.store 7 (.t 8) (.t 32)),.none⟩,⟨.none,(.store 3 (.t 9) (.t 33)),.none⟩] rfl rfl ?_;apply sG;simp only[go_sem,seval,a1,bo,nc,ns,a8,a9,hn];exact fin _ _ i8 i9 ((Sj.aE z8).aE z9) hn z8 z9 ((hn.2 _ _).trans ag) ag rfl rfl rfl rfl rfl
 .refine GT.o9 (its:=[30,9,19]) (by kernel_rfl) ?_;refine RE.SC (n:=0) [9,19] [30] [⟨(.some 9),(.alloc 42 3 (.agg [(.int .i64 0),(.int .i64 0),(.bool .false)])),.none⟩] rfl rfl ?_;apply sG;simp only[go_sem,seval,a1,bo,nc,ns,a8,a9,hn];refine bw λi9 Z9 s9 a9 f9=>?_;replace a1:=s9 _ _ a1
  try replace hn:=cB (aq a8 f9)
  try replace a8:=s9 _ _ a8
  have z9:=Sj.none f9;replace Sj:=Sj.trans s9;simp only[go_sem,seval,a1,bo,nc,ns,a8,a9,hn];refine RE.SX rfl rfl rfl rfl rfl trivial (by simp only[go_sem,seval,a1,bo,nc,ns,a8,a9,hn]) ?_;refine RE.SX rfl rfl rfl rfl rfl trivial (by simp only[go_sem,seval,a1,bo,nc,ns,a8,a9,hn]) ?_;refine⟨?_,?_⟩
  .refine GT.iK (its:=[20,22,24,26,28,32,34]) (by kernel_rfl) ?_;refine RE.aB rfl rfl rfl rfl rfl (SS _) ?_;refine RE.SC (n:=0) [] [22,24,26,28,32,34] [⟨(.some 20),(.RJ (.t 31)),.none⟩,⟨(.some 32),(.ext 0 (.t 20)),.none⟩,⟨(.some 33),(.ext 1 (.t 20)),.none⟩,⟨(.some 8),(.alloc 63 7 (.agg [(.int .i64 0),(.int .i64 0),(.int .i64 0),(.int .i64 0),(.int .i64 0),(.int .i64 0),(.int .i64 0)])),.none⟩,⟨.none,(.store 7 (.t 8) (.t 32)),.none⟩,⟨.none,(.store 3 (.t 9) (.t 33)),.none⟩] rfl rfl ?_;apply sG;simp only[go_sem,seval,a1,bo,nc,ns,a8,a9,hn];refine bw λi8 Z8 s8 a8 f8=>?_;replace a1:=s8 _ _ a1
   try replace hn:=cB (aq a9 f8).symm
   try replace a9:=s8 _ _ a9
   have z8:=Sj.none f8;replace Sj:=Sj.trans s8;simp only[go_sem,seval,a1,bo,nc,ns,a8,a9,hn];exact fin _ _ i8 i9 ((Sj.aE z8).aE z9) hn z8 z9 ((hn.2 _ _).trans ag) ag rfl rfl rfl rfl rfl
  .refine GT.iK (its:=[28,9,19,20,22,24,26,32,34]) (by kernel_rfl) ?_;refine RE.SC (n:=0) [9,19,20,22,24,26,32,34] [28] [⟨(.some 8),(.alloc 63 7 (.agg [(.int .i64 0),(.int .i64 0),(.int .i64 0),(.int .i64 0),(.int .i64 0),(.int .i64 0),(.int .i64 0)])),.none⟩] rfl rfl ?_;apply sG;simp only[go_sem,seval,a1,bo,nc,ns,a8,a9,hn];refine bw λi8 Z8 s8 a8 f8=>?_;replace a1:=s8 _ _ a1
   try replace hn:=cB (aq a9 f8).symm
   try replace a9:=s8 _ _ a9
   have z8:=Sj.none f8;replace Sj:=Sj.trans s8;simp only[go_sem,seval,a1,bo,nc,ns,a8,a9,hn];refine RE.SX rfl rfl rfl rfl rfl trivial (by simp only[go_sem,seval,a1,bo,nc,ns,a8,a9,hn]) ?_;refine RE.SX rfl rfl rfl rfl rfl trivial (by simp only[go_sem,seval,a1,bo,nc,ns,a8,a9,hn]) ?_;refine RE.aB rfl rfl rfl rfl rfl (SS _) ?_;refine RE.SC (n:=0) [] [22,24,26,32,34] [⟨(.some 20),(.RJ (.t 31)),.none⟩,⟨(.some 32),(.ext 0 (.t 20)),.none⟩,⟨(.some 33),(.ext 1 (.t 20)),.none⟩,⟨.none,(.store 7 (.t 8) (.t 32)),.none⟩,⟨.none,(.store 3 (.t 9) (.t 33)),.none⟩] rfl rfl ?_;apply sG;simp only[go_sem,seval,a1,bo,nc,ns,a8,a9,hn];exact fin _ _ i8 i9 ((Sj.aE z8).aE z9) hn z8 z9 ((hn.2 _ _).trans ag) ag rfl rfl rfl rfl rfl
end Go.Vc
