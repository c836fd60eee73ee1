/- Part 8 of the library of this proof. -/
import Derived.Test.YtdaelobhgmdoeaaGreatW7
set_option linter.all false
set_option maxHeartbeats 8000000
set_option maxRecDepth 100000
namespace Go.Vc
open Go.Proofs Go.Proofs.Tryz
def zz(l:List Nd)(of:List Int):List Int:=(List.range (of.length+1)).map (pn l of)
def Kl(l:List Nd)(hl:dH l)(hb:R3 l=true)(of:List Int)(TK:of.length<=1000000)(Sx:∀x∈of,0<=x/\x<l.length)(hm:pQ l of=true):
 aV prog 111 [aK l,bn of] (.Rf [bn (zz l of),vI 0]):=λU=>by
 refine QX.r (by simp[JI]) ?_;have hs:=aa.refl U;have UK:=fF of;refine ad.mix 11 ?_;apply sR;simp only[go_sem,seval,JI];refine ad.aB rfl rfl rfl (ov l hl hb of TK hm _) ?_;have q0:((0:Int)≠0)=False:=eq_false (λh=>h rfl);have r0:Rq .i64 ((of.length:Int)+1):=aq (by omega) (by omega);apply sR;simp only[go_sem,seval,q0,UK,r0];refine ad.fg (λst=>aa U st.U/\aT U st.U 3 1 (st.s 7) ((zz l of).map vI))
  (λm st=>∃j:Nat,j<=of.length+1/\m=of.length+1-j/\aa U st.U/\aT U st.U 3 1 (st.s 7) (((List.range j).map (pn l of)).map vI)/\st.s 0=aK l/\st.s 1=bn of/\st.s 19=vI ((of.length:Int)+1)/\st.s 20=vI j) (of.length+1) ?_ ?_ ?_
 .exact⟨0,by omega,rfl,hs,aT.start,rfl,rfl,rfl,rfl⟩
 .clear hs;rintro m ⟨S,J⟩ ⟨j,hj,rfl,hs,ho,t0,t1,t19,t20⟩;simp only at hs ho t0 t1 t19 t20;generalize hv7:S 7=v7 at ho;refine ad.mix 11 ?_;by_cases H':j<of.length+1
  .have q:((j:Int)<of.length+1)=True:=eq_true (by omega);have r1:Rq .i64 ((j:Int)+1):=aq (by omega) (by omega);have RS:(((List.range (j+1)).map (pn l of)).map vI)=(((List.range j).map (pn l of)).map vI)++[vI (pn l of j)]:=by
    rw[List.range_succ];simp
   have Wv:(((List.range j).map (pn l of)).map vI).length=j:=by simp
   apply sR;simp only[go_sem,seval,t0,t1,t19,t20,q];refine ad.aB rfl rfl rfl (Ni l hl hb of TK Sx hm j (by omega) _) ?_;generalize ((List.range j).map (pn l of)).map vI=rows at*;apply sR;simp only[go_sem,seval,t0,t1,t19,t20,hv7];refine af λi32 Z32 s32 a32 f32=>?_;obtain⟨Rr,SM,Sv,Zi,Xq⟩:=ho.AD s32;have Sb:(rows.length+1)*9<=140737488355328:=by omega
   simp only[go_sem,seval,t0,t1,t19,t20,hv7,SM,dS a32,Sb];refine fU λi33 Z33 s33 a33 f33=>?_;have k33:=(Sv U (aa.refl _) Z32 (hs.trans s32)).trans s33;have n33:U i33=none:=(hs.trans s32).none f33;simp only[go_sem,seval,t0,t1,t19,t20,r1];refine⟨_,?_,j+1,by omega,rfl,k33,?_,by simp[t0,t1,t19]⟩
   .omega
   .rw[RS];exact aT.new (by simp) a33 n33
  .have q:((j:Int)<of.length+1)=False:=eq_false (by omega);have SX:j=of.length+1:=by omega
   subst SX;apply sR;simp only[go_sem,seval,t0,t1,t19,t20,q];exact⟨hs,hv7▸ho⟩
 .rintro⟨S,J⟩ ⟨hs,ho⟩;simp only at hs ho;generalize hv7:S 7=v7 at ho;refine ad.mix 11 ?_;apply sR;simp only[go_sem,seval,hv7];exact⟨_,U,hs,Wk.Rf (vs':=[bn (zz l of),vI 0]) ⟨ho.wk (aa.refl _) hs,Wk.refl hs _,trivial⟩,rfl,rfl⟩
open Go.Proofs Go.Proofs.Tryz
structure S1 where
 (cls forced R5:Int)
deriving DecidableEq
def dX(x:S1):V:=.agg [vI x.cls,vI x.forced,vI x.R5]
def bC(l:List S1):V:=.sl 3 (l.map dX)
def aI(l:List S1):(bC l).cells=[bC l]:=rfl
def aJ(l:List S1):(bC l).stays=true:=rfl
def A2(l:List S1):dz false (bC l)=some (.int .i64 l.length):=by simp[bC,dz]
def sZ{U:ai}{l:List S1}{i:Nat}(h:i<l.length):bO U 3 (bC l) (.int .i64 i)=some (.rp (dX l[i])):=by simp[bC,bO,h,dX]
def pC(of:List Int)(k:Nat):Int:=if k=0 then 0 else if k=of.length then 3 else if of.getD k 0=of.getD (k-1) 0 then 2 else 1
def GJ(of:List Int)(TK:of.length<=1000000)(k:Nat)(hk:k<=of.length):aV prog 112 [bn of,vI k] (vI (pC of k)):=λU=>by
 refine Pb.r (by simp[DC]) ?_;have UK:=fF of;refine ad.mix 6 ?_;unfold pC;rcases Nat.eq_zero_or_pos k with rfl|h0
 .have q1:(((0:Nat):Int)=0)=True:=eq_true rfl;apply sR;simp only[go_sem,seval,DC,q1];exact ay.same rfl
 have q1:((k:Int)=0)=False:=eq_false (by omega);rw[if_neg (by omega)];by_cases TH:k=of.length
 .have q2:((k:Int)=of.length)=True:=eq_true (by omega);rw[if_pos TH];apply sR;simp only[go_sem,seval,DC,q1,q2,UK];exact ay.same rfl
 have q2:((k:Int)=of.length)=False:=eq_false (by omega);rw[if_neg TH];have h1:k<of.length:=by omega
 have q5:=aq (m:=((k-1:Nat):Int)) (by omega) (by omega);have q6:((k:Int)-1)=((k-1:Nat):Int):=by omega
 have q7:=λU=>gP (U:=U) h1;have q8:=λU=>gP (U:=U) (l:=of) (i:=k-1) (by omega);have g1:of.getD k 0=of[k]:=by simp[h1]
 have g2:of.getD (k-1) 0=of[k-1]:=by
  have:k-1<of.length:=by omega
  simp[this]
 rw[g1,g2];by_cases h2:of[k]=of[k-1]
 .have q9:(of[k]=of[k-1])=True:=eq_true h2;rw[if_pos h2];apply sR;simp only[go_sem,seval,DC,q1,q2,UK,q5,q6,q7,q8,q9];exact ay.same rfl
 .have q9:(of[k]=of[k-1])=False:=eq_false h2;rw[if_neg h2];apply sR;simp only[go_sem,seval,DC,q1,q2,UK,q5,q6,q7,q8,q9];exact ay.same rfl
open Go.Proofs Go.Proofs.Tryz
def YP(l:List Nd)(of:List Int)(k:Nat):S1:=⟨pC of k,jg l of k,if jg l of k=0 then pn l of k else 0⟩
def rv(l:List Nd)(of:List Int):List S1:=(List.range (of.length+1)).map (YP l of)
def IQ{U:ai}{f:Nat->Int}{n j:Nat}(h:j<n):bO U 1 (bn ((List.range n).map f)) (.int .i64 j)=some (.rp (vI (f j))):=by
 rw[gP (by simpa using h)];simp
def Mi(l:List Nd)(hl:dH l)(hb:R3 l=true)(of:List Int)(TK:of.length<=1000000)(Sx:∀x∈of,0<=x/\x<l.length)(hm:pQ l of=true):
 aV prog 52 [aK l,bn of] (.Rf [bC (rv l of),vI 0]):=λU=>by
 refine e52.r (by simp[c52]) ?_;have hs:=aa.refl U;have UK:=fF of;refine ad.mix 14 ?_;apply sR;simp only[go_sem,seval,c52];refine ad.aB rfl rfl rfl (ov l hl hb of TK hm _) ?_;have q0:((0:Int)≠0)=False:=eq_false (λh=>h rfl);have r0:Rq .i64 ((of.length:Int)+1):=aq (by omega) (by omega);apply sR;simp only[go_sem,seval,q0,UK,r0];refine ad.aB rfl rfl rfl (JV l hl hb of TK Sx hm _) ?_;apply sR;simp only[go_sem,seval];refine ad.aB rfl rfl rfl (Kl l hl hb of TK Sx hm _) ?_;apply sR;simp only[go_sem,seval,UK,r0];refine ad.fg (λst=>aa U st.U/\aT U st.U 168 3 (st.s 11) ((rv l of).map dX))
  (λm st=>∃j:Nat,j<=of.length+1/\m=of.length+1-j/\aa U st.U/\aT U st.U 168 3 (st.s 11) (((List.range j).map (YP l of)).map dX)/\st.s 0=aK l/\st.s 1=bn of/\st.s 7=bn (yO l of)/\st.s 9=bn (zz l of)/\st.s 34=vI ((of.length:Int)+1)/\st.s 35=vI j) (of.length+1) ?_ ?_ ?_
 .exact⟨0,by omega,rfl,hs,aT.start,rfl,rfl,rfl,rfl,rfl,rfl⟩
 .clear hs;rintro m ⟨S,J⟩ ⟨j,hj,rfl,hs,ho,t0,t1,t7,t9,t34,t35⟩;simp only at hs ho t0 t1 t7 t9 t34 t35;generalize WR:S 11=v11 at ho;refine ad.mix 14 ?_;by_cases H':j<of.length+1
  .have q:((j:Int)<of.length+1)=True:=eq_true (by omega);have r1:Rq .i64 ((j:Int)+1):=aq (by omega) (by omega);have RS:(((List.range (j+1)).map (YP l of)).map dX)=(((List.range j).map (YP l of)).map dX)++[dX (YP l of j)]:=by
    rw[List.range_succ];simp
   have Wv:(((List.range j).map (YP l of)).map dX).length=j:=by simp
   have hi7:∀U,bO U 1 (bn (yO l of)) (.int .i64 j)=some (.rp (vI (jg l of j))):=λU=>IQ H';have hi9:∀U,bO U 1 (bn (zz l of)) (.int .i64 j)=some (.rp (vI (pn l of j))):=λU=>IQ H';apply sR;simp only[go_sem,seval,t0,t1,t7,t9,WR,t34,t35,q];refine Go.bP rfl rfl rfl (GJ of TK j (by omega)) ?_;apply sG;simp only[go_sem,seval,t0,t1,t7,t9,WR,t34,t35,hi7];refine bx λWM Y13 s13 TB f13=>?_;by_cases hz:jg l of j=0
   .have q2:(jg l of j=0)=True:=eq_true hz;have UW:dX (YP l of j)=.agg [vI (pC of j),vI (jg l of j),vI (pn l of j)]:=by rw[YP,if_pos hz];rfl
    simp only[go_sem,seval,TB,t0,t1,t7,t9,WR,t34,t35,hi7,hi9,q2];generalize hq13:C' _ WM _=Z13;have Yo:aa J Z13:=by rw[<-hq13];exact s13.aE f13
    clear hq13;refine af λi58 Z58 s58 a58 f58=>?_;obtain⟨Rr,SM,Sv,Zi,Xq⟩:=ho.AD (Yo.trans s58);generalize ((List.range j).map (YP l of)).map dX=rows at*;have Sb:(rows.length+1)*25<=140737488355328:=by omega
    simp only[go_sem,seval,t0,t1,t7,t9,WR,t34,t35,SM,dS a58,Sb];refine fU λi59 Z59 s59 a59 f59=>?_;have k59:=(Sv U (aa.refl _) Z58 (hs.trans (Yo.trans s58))).trans s59;have n59:U i59=none:=(hs.trans (Yo.trans s58)).none f59;simp only[go_sem,seval,t0,t1,t7,t9,t34,t35,r1];refine⟨_,?_,j+1,by omega,rfl,k59,?_,by simp[t0,t1,t7,t9,t34]⟩
    .omega
    .rw[RS,UW];exact aT.new (by simp) a59 n59
   .have q2:(jg l of j=0)=False:=eq_false hz;have UW:dX (YP l of j)=.agg [vI (pC of j),vI (jg l of j),vI 0]:=by rw[YP,if_neg hz];rfl
    simp only[go_sem,seval,TB,t0,t1,t7,t9,WR,t34,t35,hi7,hi9,q2];generalize hq13:C' _ WM _=Z13;have Yo:aa J Z13:=by rw[<-hq13];exact s13.aE f13
    clear hq13;refine af λi58 Z58 s58 a58 f58=>?_;obtain⟨Rr,SM,Sv,Zi,Xq⟩:=ho.AD (Yo.trans s58);generalize ((List.range j).map (YP l of)).map dX=rows at*;have Sb:(rows.length+1)*25<=140737488355328:=by omega
    simp only[go_sem,seval,t0,t1,t7,t9,WR,t34,t35,SM,dS a58,Sb];refine fU λi59 Z59 s59 a59 f59=>?_;have k59:=(Sv U (aa.refl _) Z58 (hs.trans (Yo.trans s58))).trans s59;have n59:U i59=none:=(hs.trans (Yo.trans s58)).none f59;simp only[go_sem,seval,t0,t1,t7,t9,t34,t35,r1];refine⟨_,?_,j+1,by omega,rfl,k59,?_,by simp[t0,t1,t7,t9,t34]⟩
    .omega
    .rw[RS,UW];exact aT.new (by simp) a59 n59
  .have q:((j:Int)<of.length+1)=False:=eq_false (by omega);have SX:j=of.length+1:=by omega
   subst SX;apply sR;simp only[go_sem,seval,t0,t1,t7,t9,t34,t35,q];exact⟨hs,WR▸ho⟩
 .rintro⟨S,J⟩ ⟨hs,ho⟩;simp only at hs ho;generalize WR:S 11=v11 at ho;refine ad.mix 14 ?_;apply sR;simp only[go_sem,seval,WR];exact⟨_,U,hs,Wk.Rf (vs':=[bC (rv l of),vI 0]) ⟨ho.wk (aa.refl _) hs,Wk.refl hs _,trivial⟩,rfl,rfl⟩
open Go.Proofs Go.Proofs.Tryz
def nP(x:S1)(first last:Bool):Prop:=
 (first=true->x.cls=0)/\(first=false->last=true->x.cls=3)/\(first=false->last=false->x.cls=1\/x.cls=2)/\
 (x.forced=0\/(2<=x.forced/\x.forced<=4/\x.cls≠3/\x.cls≠2))/\(x.R5=0\/((x.cls=1\/x.cls=2)/\x.forced=0/\0<x.R5/\x.R5<8))
instance (x:S1) (a b:Bool):Decidable (nP x a b):=by unfold nP;infer_instance
def GO(x:S1)(first last:Bool):aV prog 283 [dX x,.bool first,.bool last] (.bool (decide (nP x first last))):=λU=>by
 refine Qq.r (by simp[I5]) ?_;have hs:=aa.refl U;obtain⟨c,f,r⟩:=x;refine ad.mix 9 ?_;apply sR;simp only[go_sem,seval,I5,dX];refine af λi3 Z3 s3 a3 f3=>?_;have z3:=hs.none f3;replace hs:=hs.trans s3;unfold nP;simp only;have C:c=0\/c=1\/c=2\/c=3\/((c=0)=False/\(c=1)=False/\(c=2)=False/\(c=3)=False/\(c≠0)=True/\(c≠3)=True):=by
  by_cases h0:c=0
  .exact .inl h0
  by_cases h1:c=1
  .exact .inr (.inl h1)
  by_cases h2:c=2
  .exact .inr (.inr (.inl h2))
  by_cases h3:c=3
  .exact .inr (.inr (.inr (.inl h3)))
  .exact .inr (.inr (.inr (.inr ⟨eq_false h0,eq_false h1,eq_false h2,eq_false h3,eq_true h0,eq_true h3⟩)))
 have F:f=0\/((f=0)=False/\((f<2)=True/\(2<=f/\f<=4)=False\/(f<2)=False/\((f>4)=True/\(2<=f/\f<=4)=False\/(f>4)=False/\(2<=f)=True/\(f<=4)=True))):=by
  by_cases h0:f=0
  .exact .inl h0
  refine .inr ⟨eq_false h0,?_⟩;by_cases h1:f<2
  .exact .inl ⟨eq_true h1,eq_false (by omega)⟩
  refine .inr ⟨eq_false h1,?_⟩;by_cases h2:f>4
  .exact .inl ⟨eq_true h2,eq_false (by omega)⟩
  .exact .inr ⟨eq_false h2,eq_true (by omega),eq_true (by omega)⟩
 have R:r=0\/((r=0)=False/\((r>0)=False/\(0<r)=False\/(r>0)=True/\(0<r)=True/\((r<8)=True\/(r<8)=False))):=by
  by_cases h0:r=0
  .exact .inl h0
  refine .inr ⟨eq_false h0,?_⟩;by_cases h1:r>0
  .refine .inr ⟨eq_true h1,eq_true h1,?_⟩;by_cases h2:r<8
   .exact .inl (eq_true h2)
   .exact .inr (eq_false h2)
  .exact .inl ⟨eq_false h1,eq_false (by omega)⟩
 rcases C with rfl|rfl|rfl|rfl|⟨c0,c1,c2,c3,c4,c5⟩
 .rcases F with rfl|⟨f0,⟨f1,f2⟩|⟨f1,⟨f2,f3⟩|⟨f2,f3,f4⟩⟩⟩
  .cases first
   .cases last
    .simp only[go_sem,seval,a3];exact ay.pure hs (by simp)
    .simp only[go_sem,seval,a3];exact ay.pure hs (by simp)
   .cases last
    .rcases R with rfl|⟨r0,⟨r1,r2⟩|⟨r1,r2,r3|r3⟩⟩
     .simp only[go_sem,seval,a3];exact ay.pure hs (by simp)
     .simp only[go_sem,seval,a3,r0,r1];exact ay.pure hs (by simp[r0,r2])
     .simp only[go_sem,seval,a3,r0,r1,r3];exact ay.pure hs (by simp[r0,r2,r3])
     .simp only[go_sem,seval,a3,r0,r1,r3];exact ay.pure hs (by simp[r0,r2,r3])
    .rcases R with rfl|⟨r0,⟨r1,r2⟩|⟨r1,r2,r3|r3⟩⟩
     .simp only[go_sem,seval,a3];exact ay.pure hs (by simp)
     .simp only[go_sem,seval,a3,r0,r1];exact ay.pure hs (by simp[r0,r2])
     .simp only[go_sem,seval,a3,r0,r1,r3];exact ay.pure hs (by simp[r0,r2,r3])
     .simp only[go_sem,seval,a3,r0,r1,r3];exact ay.pure hs (by simp[r0,r2,r3])
  .cases first
   .cases last
    .simp only[go_sem,seval,a3,f0,f1];exact ay.pure hs (by simp[f0,f2])
    .simp only[go_sem,seval,a3,f0,f1];exact ay.pure hs (by simp[f0,f2])
   .cases last
    .simp only[go_sem,seval,a3,f0,f1];exact ay.pure hs (by simp[f0,f2])
    .simp only[go_sem,seval,a3,f0,f1];exact ay.pure hs (by simp[f0,f2])
  .cases first
   .cases last
    .simp only[go_sem,seval,a3,f0,f1,f2];exact ay.pure hs (by simp[f0,f3])
    .simp only[go_sem,seval,a3,f0,f1,f2];exact ay.pure hs (by simp[f0,f3])
   .cases last
    .simp only[go_sem,seval,a3,f0,f1,f2];exact ay.pure hs (by simp[f0,f3])
    .simp only[go_sem,seval,a3,f0,f1,f2];exact ay.pure hs (by simp[f0,f3])
  .cases first
   .cases last
    .simp only[go_sem,seval,a3,f0,f1,f2];exact ay.pure hs (by simp[f0,f3,f4])
    .simp only[go_sem,seval,a3,f0,f1,f2];exact ay.pure hs (by simp[f0,f3,f4])
   .cases last
    .rcases R with rfl|⟨r0,⟨r1,r2⟩|⟨r1,r2,r3|r3⟩⟩
     .simp only[go_sem,seval,a3,f0,f1,f2];exact ay.pure hs (by simp[f0,f3,f4])
     .simp only[go_sem,seval,a3,f0,f1,f2,r0,r1];exact ay.pure hs (by simp[f0,f3,f4,r0,r2])
     .simp only[go_sem,seval,a3,f0,f1,f2,r0,r1,r3];exact ay.pure hs (by simp[f0,f3,f4,r0,r2,r3])
     .simp only[go_sem,seval,a3,f0,f1,f2,r0,r1,r3];exact ay.pure hs (by simp[f0,f3,f4,r0,r2,r3])
    .rcases R with rfl|⟨r0,⟨r1,r2⟩|⟨r1,r2,r3|r3⟩⟩
     .simp only[go_sem,seval,a3,f0,f1,f2];exact ay.pure hs (by simp[f0,f3,f4])
     .simp only[go_sem,seval,a3,f0,f1,f2,r0,r1];exact ay.pure hs (by simp[f0,f3,f4,r0,r2])
     .simp only[go_sem,seval,a3,f0,f1,f2,r0,r1,r3];exact ay.pure hs (by simp[f0,f3,f4,r0,r2,r3])
     .simp only[go_sem,seval,a3,f0,f1,f2,r0,r1,r3];exact ay.pure hs (by simp[f0,f3,f4,r0,r2,r3])
 .rcases F with rfl|⟨f0,⟨f1,f2⟩|⟨f1,⟨f2,f3⟩|⟨f2,f3,f4⟩⟩⟩
  .cases first
   .cases last
    .rcases R with rfl|⟨r0,⟨r1,r2⟩|⟨r1,r2,r3|r3⟩⟩
     .simp only[go_sem,seval,a3];exact ay.pure hs (by simp)
     .simp only[go_sem,seval,a3,r0,r1];exact ay.pure hs (by simp[r0,r2])
     .simp only[go_sem,seval,a3,r0,r1,r3];exact ay.pure hs (by simp[r0,r2,r3])
     .simp only[go_sem,seval,a3,r0,r1,r3];exact ay.pure hs (by simp[r0,r2,r3])
    .simp only[go_sem,seval,a3];exact ay.pure hs (by simp)
   .cases last
    .simp only[go_sem,seval,a3];exact ay.pure hs (by simp)
    .simp only[go_sem,seval,a3];exact ay.pure hs (by simp)
  .cases first
   .cases last
    .simp only[go_sem,seval,a3,f0,f1];exact ay.pure hs (by simp[f0,f2])
    .simp only[go_sem,seval,a3,f0,f1];exact ay.pure hs (by simp[f0,f2])
   .cases last
    .simp only[go_sem,seval,a3,f0,f1];exact ay.pure hs (by simp[f0,f2])
    .simp only[go_sem,seval,a3,f0,f1];exact ay.pure hs (by simp[f0,f2])
  .cases first
   .cases last
    .simp only[go_sem,seval,a3,f0,f1,f2];exact ay.pure hs (by simp[f0,f3])
    .simp only[go_sem,seval,a3,f0,f1,f2];exact ay.pure hs (by simp[f0,f3])
   .cases last
    .simp only[go_sem,seval,a3,f0,f1,f2];exact ay.pure hs (by simp[f0,f3])
    .simp only[go_sem,seval,a3,f0,f1,f2];exact ay.pure hs (by simp[f0,f3])
  .cases first
   .cases last
    .rcases R with rfl|⟨r0,⟨r1,r2⟩|⟨r1,r2,r3|r3⟩⟩
     .simp only[go_sem,seval,a3,f0,f1,f2];exact ay.pure hs (by simp[f0,f3,f4])
     .simp only[go_sem,seval,a3,f0,f1,f2,r0,r1];exact ay.pure hs (by simp[f0,f3,f4,r0,r2])
     .simp only[go_sem,seval,a3,f0,f1,f2,r0,r1,r3];exact ay.pure hs (by simp[f0,f3,f4,r0,r2,r3])
     .simp only[go_sem,seval,a3,f0,f1,f2,r0,r1,r3];exact ay.pure hs (by simp[f0,f3,f4,r0,r2,r3])
    .simp only[go_sem,seval,a3,f0,f1,f2];exact ay.pure hs (by simp[f0,f3,f4])
   .cases last
    .simp only[go_sem,seval,a3,f0,f1,f2];exact ay.pure hs (by simp[f0,f3,f4])
    .simp only[go_sem,seval,a3,f0,f1,f2];exact ay.pure hs (by simp[f0,f3,f4])
 .rcases F with rfl|⟨f0,⟨f1,f2⟩|⟨f1,⟨f2,f3⟩|⟨f2,f3,f4⟩⟩⟩
  .cases first
   .cases last
    .rcases R with rfl|⟨r0,⟨r1,r2⟩|⟨r1,r2,r3|r3⟩⟩
     .simp only[go_sem,seval,a3];exact ay.pure hs (by simp)
     .simp only[go_sem,seval,a3,r0,r1];exact ay.pure hs (by simp[r0,r2])
     .simp only[go_sem,seval,a3,r0,r1,r3];exact ay.pure hs (by simp[r0,r2,r3])
     .simp only[go_sem,seval,a3,r0,r1,r3];exact ay.pure hs (by simp[r0,r2,r3])
    .simp only[go_sem,seval,a3];exact ay.pure hs (by simp)
   .cases last
    .simp only[go_sem,seval,a3];exact ay.pure hs (by simp)
    .simp only[go_sem,seval,a3];exact ay.pure hs (by simp)
  .cases first
   .cases last
    .simp only[go_sem,seval,a3,f0,f1];exact ay.pure hs (by simp[f0,f2])
    .simp only[go_sem,seval,a3,f0,f1];exact ay.pure hs (by simp[f0,f2])
   .cases last
    .simp only[go_sem,seval,a3,f0,f1];exact ay.pure hs (by simp[f0,f2])
    .simp only[go_sem,seval,a3,f0,f1];exact ay.pure hs (by simp[f0,f2])
  .cases first
   .cases last
    .simp only[go_sem,seval,a3,f0,f1,f2];exact ay.pure hs (by simp[f0,f3])
    .simp only[go_sem,seval,a3,f0,f1,f2];exact ay.pure hs (by simp[f0,f3])
   .cases last
    .simp only[go_sem,seval,a3,f0,f1,f2];exact ay.pure hs (by simp[f0,f3])
    .simp only[go_sem,seval,a3,f0,f1,f2];exact ay.pure hs (by simp[f0,f3])
  .cases first
   .cases last
    .simp only[go_sem,seval,a3,f0,f1,f2];exact ay.pure hs (by simp[f0,f3,f4])
    .simp only[go_sem,seval,a3,f0,f1,f2];exact ay.pure hs (by simp[f0,f3,f4])
   .cases last
    .simp only[go_sem,seval,a3,f0,f1,f2];exact ay.pure hs (by simp[f0,f3,f4])
    .simp only[go_sem,seval,a3,f0,f1,f2];exact ay.pure hs (by simp[f0,f3,f4])
 .rcases F with rfl|⟨f0,⟨f1,f2⟩|⟨f1,⟨f2,f3⟩|⟨f2,f3,f4⟩⟩⟩
  .cases first
   .cases last
    .simp only[go_sem,seval,a3];exact ay.pure hs (by simp)
    .rcases R with rfl|⟨r0,⟨r1,r2⟩|⟨r1,r2,r3|r3⟩⟩
     .simp only[go_sem,seval,a3];exact ay.pure hs (by simp)
     .simp only[go_sem,seval,a3,r0,r1];exact ay.pure hs (by simp[r0,r2])
     .simp only[go_sem,seval,a3,r0,r1,r3];exact ay.pure hs (by simp[r0,r2,r3])
     .simp only[go_sem,seval,a3,r0,r1,r3];exact ay.pure hs (by simp[r0,r2,r3])
   .cases last
    .simp only[go_sem,seval,a3];exact ay.pure hs (by simp)
    .simp only[go_sem,seval,a3];exact ay.pure hs (by simp)
  .cases first
   .cases last
    .simp only[go_sem,seval,a3,f0,f1];exact ay.pure hs (by simp[f0,f2])
    .simp only[go_sem,seval,a3,f0,f1];exact ay.pure hs (by simp[f0,f2])
   .cases last
    .simp only[go_sem,seval,a3,f0,f1];exact ay.pure hs (by simp[f0,f2])
    .simp only[go_sem,seval,a3,f0,f1];exact ay.pure hs (by simp[f0,f2])
  .cases first
   .cases last
    .simp only[go_sem,seval,a3,f0,f1,f2];exact ay.pure hs (by simp[f0,f3])
    .simp only[go_sem,seval,a3,f0,f1,f2];exact ay.pure hs (by simp[f0,f3])
   .cases last
    .simp only[go_sem,seval,a3,f0,f1,f2];exact ay.pure hs (by simp[f0,f3])
    .simp only[go_sem,seval,a3,f0,f1,f2];exact ay.pure hs (by simp[f0,f3])
  .cases first
   .cases last
    .simp only[go_sem,seval,a3,f0,f1,f2];exact ay.pure hs (by simp[f0,f3,f4])
    .simp only[go_sem,seval,a3,f0,f1,f2];exact ay.pure hs (by simp[f0,f3,f4])
   .cases last
    .simp only[go_sem,seval,a3,f0,f1,f2];exact ay.pure hs (by simp[f0,f3,f4])
    .simp only[go_sem,seval,a3,f0,f1,f2];exact ay.pure hs (by simp[f0,f3,f4])
 .rcases F with rfl|⟨f0,⟨f1,f2⟩|⟨f1,⟨f2,f3⟩|⟨f2,f3,f4⟩⟩⟩
  .cases first
   .cases last
    .simp only[go_sem,seval,a3,c0,c1,c2,c3,c4,c5];exact ay.pure hs (by simp[c0,c1,c2,c3,c4,c5])
    .simp only[go_sem,seval,a3,c0,c1,c2,c3,c4,c5];exact ay.pure hs (by simp[c0,c1,c2,c3,c4,c5])
   .cases last
    .simp only[go_sem,seval,a3,c0,c1,c2,c3,c4,c5];exact ay.pure hs (by simp[c0,c1,c2,c3,c4,c5])
    .simp only[go_sem,seval,a3,c0,c1,c2,c3,c4,c5];exact ay.pure hs (by simp[c0,c1,c2,c3,c4,c5])
  .cases first
   .cases last
    .simp only[go_sem,seval,a3,c0,c1,c2,c3,c4,c5,f0,f1];exact ay.pure hs (by simp[c0,c1,c2,c3,c4,c5,f0,f2])
    .simp only[go_sem,seval,a3,c0,c1,c2,c3,c4,c5,f0,f1];exact ay.pure hs (by simp[c0,c1,c2,c3,c4,c5,f0,f2])
   .cases last
    .simp only[go_sem,seval,a3,c0,c1,c2,c3,c4,c5,f0,f1];exact ay.pure hs (by simp[c0,c1,c2,c3,c4,c5,f0,f2])
    .simp only[go_sem,seval,a3,c0,c1,c2,c3,c4,c5,f0,f1];exact ay.pure hs (by simp[c0,c1,c2,c3,c4,c5,f0,f2])
  .cases first
   .cases last
    .simp only[go_sem,seval,a3,c0,c1,c2,c3,c4,c5,f0,f1,f2];exact ay.pure hs (by simp[c0,c1,c2,c3,c4,c5,f0,f3])
    .simp only[go_sem,seval,a3,c0,c1,c2,c3,c4,c5,f0,f1,f2];exact ay.pure hs (by simp[c0,c1,c2,c3,c4,c5,f0,f3])
   .cases last
    .simp only[go_sem,seval,a3,c0,c1,c2,c3,c4,c5,f0,f1,f2];exact ay.pure hs (by simp[c0,c1,c2,c3,c4,c5,f0,f3])
    .simp only[go_sem,seval,a3,c0,c1,c2,c3,c4,c5,f0,f1,f2];exact ay.pure hs (by simp[c0,c1,c2,c3,c4,c5,f0,f3])
  .cases first
   .cases last
    .simp only[go_sem,seval,a3,c0,c1,c2,c3,c4,c5,f0,f1,f2];exact ay.pure hs (by simp[c0,c1,c2,c3,c4,c5,f0,f3,f4])
    .simp only[go_sem,seval,a3,c0,c1,c2,c3,c4,c5,f0,f1,f2];exact ay.pure hs (by simp[c0,c1,c2,c3,c4,c5,f0,f3,f4])
   .cases last
    .simp only[go_sem,seval,a3,c0,c1,c2,c3,c4,c5,f0,f1,f2];exact ay.pure hs (by simp[c0,c1,c2,c3,c4,c5,f0,f3,f4])
    .simp only[go_sem,seval,a3,c0,c1,c2,c3,c4,c5,f0,f1,f2];exact ay.pure hs (by simp[c0,c1,c2,c3,c4,c5,f0,f3,f4])
open Go.Proofs Go.Proofs.Tryz
def TL(b:List S1)(i:Nat):S1:=b.getD i ⟨0,0,0⟩
def gT(b:List S1)(i:Nat):Bool:=decide (nP (TL b i) (decide ((i:Int)=0)) (decide ((i:Int)=(b.length:Int)-1)))
def uN(b:List S1):Bool:=(List.range b.length).all (gT b)&&decide ((b.length:Int)>0)
def CR{b:List S1}{j:Nat}(h:(List.range j).all (gT b)=true)(hr:gT b j=true):(List.range (j+1)).all (gT b)=true:=by
 rw[List.range_succ,List.all_append,h];simp[hr]
def Kr(b:List S1)(hb:b.length<=1000000):aV prog 235 [bC b] (.bool (uN b)):=λU=>by
 refine QJ.r (by simp[LR]) ?_;have V2:=A2 b;refine ad.mix 5 ?_;apply sR;simp only[go_sem,seval,LR,V2];refine ad.fg (λst=>aa U st.U/\st.s 0=bC b/\(List.range b.length).all (gT b)=true)
  (λm st=>∃j:Nat,j<=b.length/\m=b.length-j/\aa U st.U/\(List.range j).all (gT b)=true/\st.s 0=bC b/\st.s 5=bC b/\st.s 6=vI b.length/\st.s 7=vI j) b.length ?_ ?_ ?_
 .exact⟨0,by omega,rfl,aa.refl _,rfl,rfl,rfl,rfl,rfl⟩
 .rintro m ⟨S,J⟩ ⟨j,hj,rfl,hs,So,t0,t5,t6,t7⟩;simp only at hs t0 t5 t6 t7;refine ad.mix 5 ?_;by_cases H':j<b.length
  .have q:((j:Int)<b.length)=True:=eq_true (by omega);have r1:Rq .i64 ((j:Int)+1):=aq (by omega) (by omega);have r2:Rq .i64 ((b.length:Int)-1):=aq (by omega) (by omega);have Q9:=λU=>sZ (U:=U) H';have hg:TL b j=b[j]:=by simp[TL,H']
   have hra:gT b j=decide (nP b[j] (decide ((j:Int)=0)) (decide ((j:Int)=(b.length:Int)-1))):=by rw[gT,hg]
   apply sR;simp only[go_sem,seval,t0,t5,t6,t7,q,Q9,dX];refine af λi4 Z4 s4 a4 f4=>?_;simp only[go_sem,seval,a4,t0,t5,t6,t7,V2,r2];generalize SZ:C' Z4 i4 _=Y4;have YN:aa J Y4:=by rw[<-SZ];exact s4.aE f4
   clear SZ;refine ad.aB rfl rfl rfl (GO b[j] (decide ((j:Int)=0)) (decide ((j:Int)=(b.length:Int)-1)) _) ?_;rw[<-hra];cases hv:gT b j
   .apply sR;simp only[go_sem,seval,t0,t5,t6,t7];have hm:uN b=false:=by
     rw[uN];have:(List.range b.length).all (gT b)=false:=by
      rw[List.all_eq_false];exact⟨j,List.mem_range.2 H',by simp[hv]⟩
     rw[this];rfl
    exact ay.pure (hs.trans YN) (by rw[hm])
   .apply sR;simp only[go_sem,seval,t0,t5,t6,t7,r1];refine⟨_,?_,j+1,by omega,rfl,hs.trans YN,CR So hv,by simp[t0,t5,t6]⟩;omega
  .have q:((j:Int)<b.length)=False:=eq_false (by omega);have SX:j=b.length:=by omega
   subst SX;apply sR;simp only[go_sem,seval,t0,t5,t6,t7,q];exact⟨hs,So⟩
 .rintro⟨S,J⟩ ⟨hs,t0,So⟩;simp only at hs t0 So;refine ad.mix 5 ?_;apply sR;simp only[go_sem,seval,t0,V2];exact ay.pure hs (by rw[uN,So];rfl)
open Go.Proofs Go.Proofs.Tryz
def iZ(b:List S1)(i:Nat):V:=.agg [vI (TL b i).cls,vI (TL b i).forced,vI (TL b i).R5,vI i]
def rC(b:List S1)(bT to:Int):Nat:=(min to ((b.length:Int)-1)+1-max bT 0).toNat
def VP(b:List S1)(bT to:Int):List Nat:=List.range' (max bT 0).toNat (rC b bT to)
def NT(U:ai)(b:List S1):bS U false 1 (.rp (bC b))=some (bC b):=rfl
def range_split:∀(j s n:Nat),j<n->List.range' s n=List.range' s j++(s+j)::List.range' (s+j+1) (n-j-1)
 |0,s,n+1,_=>by simp[List.range']
 |j+1,s,n+1,h=>by
  have:=range_split j (s+1) n (by omega);rw[List.range',this,List.range'];have e1:s+1+j=s+(j+1):=by omega
  have e2:n-j-1=n+1-(j+1)-1:=by omega
  rw[e1,e2];rfl
def qi(s j:Nat):List.range' s (j+1)=List.range' s j++[s+j]:=by
 rw[range_split j s (j+1) (by omega),show j+1-j-1=0 by omega];rfl
def Fe(b:List S1)(hb:b.length<=1000000)(bT to:Int):Iter prog 320 [.rp (vI bT),.rp (vI to),.rp (bC b)] ((VP b bT to).map λi=>[iZ b i]):=by
 refine⟨MQ.c,λRF τ Jx Z0 hy hJ=>?_⟩;refine(MQ.r (by simp[LK]) ?_).2;have V2:=A2 b;refine ad.mix 6 ?_;apply sR;simp only[go_sem,seval,LK,dg];obtain⟨s,hsv⟩:∃s:Nat,s=(max bT 0).toNat:=⟨_,rfl⟩
 have RX:max bT 0=(s:Int):=by omega
 obtain⟨n,hnv⟩:∃n:Nat,n=rC b bT to:=⟨_,rfl⟩
 have hn1:∀j:Nat,(((s+j:Nat):Int)<=min to ((b.length:Int)-1))↔j<n:=λj=>by rw[hnv,rC,RX];omega
 rw[VP,<-hsv,<-hnv]at hy|-;rw[RX];refine ad.loop (λm st=>∃(j:Nat) (ZJ:ai),j<=n/\m=n-j/\τ ((List.range' s j).map λi=>[iZ b i]) ZJ/\aa ZJ st.U/\st.s 0=.yl RF/\st.s 1=.rp (vI bT)/\st.s 2=.rp (vI to)/\st.s 3=.rp (bC b)/\st.s 5=vI (s+j:Nat)) n ?_ ?_
 .exact⟨0,Z0,by omega,rfl,by simpa using hJ,aa.refl _,rfl,rfl,rfl,rfl,rfl⟩
 .rintro m ⟨S,J⟩ ⟨j,ZJ,hj,rfl,SV,G',t0,t1,t2,t3,t5⟩;simp only at G' t0 t1 t2 t3 t5;refine ad.mix 6 ?_;have r2:Rq .i64 ((b.length:Int)-1):=aq (by omega) (by omega);by_cases H':j<n
  .have hle:=(hn1 j).2 H';have Sh:s+j<b.length:=by omega
   have q:(((s+j:Nat):Int)<=min to ((b.length:Int)-1))=True:=eq_true hle;have r1:Rq .i64 (((s+j:Nat):Int)+1):=aq (by omega) (by omega);have Q9:=λU=>sZ (U:=U) Sh;have hg:TL b (s+j)=b[s+j]:=by simp[TL,Sh]
   have hfd:iZ b (s+j)=.agg [vI b[s+j].cls,vI b[s+j].forced,vI b[s+j].R5,vI (s+j:Nat)]:=by rw[iZ,hg]
   have e:((List.range' s n).map λi=>[iZ b i])=((List.range' s j).map λi=>[iZ b i])++[iZ b (s+j)]::((List.range' (s+j+1) (n-j-1)).map λi=>[iZ b i]):=by
    rw[range_split j s n H'];simp
   have Sf:((List.range' s (j+1)).map λi=>[iZ b i])=((List.range' s j).map λi=>[iZ b i])++[[iZ b (s+j)]]:=by rw[qi];simp
   have q5:s+(j+1)=s+j+1:=by omega
   generalize s+j=sj at*;apply sR;simp only[go_sem,seval,t0,t1,t2,t3,t5,NT,V2,r2,e8,q,Q9,dX];rw[<-hfd];refine ad.lW (Post:=λb' Z2=>∃RC,bh ZJ J RC Z2/\((b'=true/\τ (((List.range' s j).map λi=>[iZ b i])++[[iZ b sj]]) RC)\/(b'=false/\Jx (((List.range' s j).map λi=>[iZ b i])++[[iZ b sj]]) RC))) rfl rfl rfl (hy _ [iZ b sj] _ ZJ J e SV G') ?_;rintro b' Z2 ⟨RC,Sl,R6⟩;rcases R6 with⟨rfl,R6⟩|⟨rfl,R6⟩
   .apply sR;simp only[go_sem,seval,t0,t1,t2,t3,t5,r1];refine⟨_,?_,j+1,RC,by omega,rfl,by rw[Sf];exact R6,Sl.1,by simp[t0,t1,t2,t3,q5]⟩;omega
   .apply sR;simp only[go_sem,seval,t0,t1,t2,t3,t5];exact⟨_,RC,Sl.1,Wk.refl Sl.1 _,.inr ⟨_,⟨_,by rw[e,List.append_assoc];rfl⟩,R6⟩⟩
  .have q:(((s+j:Nat):Int)<=min to ((b.length:Int)-1))=False:=eq_false (λh=>H' ((hn1 j).1 h));have SX:j=n:=by omega
   subst SX;generalize s+j=sj at*;apply sR;simp only[go_sem,seval,t0,t1,t2,t3,t5,NT,V2,r2,e8,q];exact⟨_,ZJ,G',Wk.refl G' _,.inl SV⟩
open Go.Proofs Go.Proofs.Tryz
structure Fd where
 (b:S1)(i:Int)
def fP(x:Fd):V:=.agg [vI x.b.cls,vI x.b.forced,vI x.b.R5,vI x.i]
def gl(ah:Fd->Fd->Bool->Bool)(p:Fd×Bool)(x:Fd):Fd×Bool:=if ah x p.1 p.2 then(x,true)else p
def fC(ah:Fd->Fd->Bool->Bool)(xs:List Fd)(d:Fd):Fd×Bool:=xs.foldl (gl ah) (d,false)
def tr(ah:Fd->Fd->Bool->Bool)(xs:List Fd)(x:Fd)(d:Fd):fC ah (xs++[x]) d=gl ah (fC ah xs d) x:=by simp[fC,List.foldl_append]
def xN{g f:FuncId}{caps:List V}{xs:List Fd}(Wq:Iter prog g caps (xs.map λx=>[fP x]))(d:Fd)(ah:Fd->Fd->Bool->Bool)
 (hf:∀x y s,aV prog f [fP x,fP y,.bool s] (.bool (ah x y s))):
 aV prog 284 [.fn g caps,fP d,.fn f []] (fP (fC ah xs d).1):=λU=>by
 refine OL.r (by simp[MB]) ?_;have hs:=aa.refl U;have Va:(V.fn f []).cells=[.fn f []]:=rfl;have Tk:(V.fn f []).stays=true:=rfl;refine ad.mix 10 ?_;apply sR;simp only[go_sem,seval,MB,fP,Va,Tk];refine af λi4 Z4 s4 a4 f4=>?_;have z4:=hs.none f4;replace hs:=hs.trans s4;simp only[go_sem,seval,Va,Tk];refine af λi5 Z5 s5 a5 f5=>?_;have Tp:=ao a4 f5;replace a4:=s5 _ _ a4;have z5:=hs.none f5;replace hs:=hs.trans s5;simp only[go_sem,seval,Va,Tk];refine af λi6 Z6 s6 a6 f6=>?_;have Zd:=ao a4 f6;replace a4:=s6 _ _ a4;have n56:=ao a5 f6;replace a5:=s6 _ _ a5;have z6:=hs.none f6;replace hs:=hs.trans s6;simp only[go_sem,seval,a4,Va,Tk];have hs6:=aa.refl Z6;refine af λi7 Z7 s7 a7 f7=>?_;simp only[go_sem,seval,a7,Va,Tk];refine af λi8 Z8 s8 a8 f8=>?_;have Xk:i7≠i8:=ao a7 f8;have b7:=s8 _ _ a7;simp only[go_sem,seval,b7,a8,ab Xk,ab Xk.symm,Va,Tk];generalize hS:mix 10 _ _=S;have S5:S 5=.ptr i5 0 0:=by rw[<-hS];rfl
 have S6:S 6=.ptr i6 0 0:=by rw[<-hS];rfl
 have S7:S 7=.ptr i7 0 0:=by rw[<-hS];rfl
 have S8:S 8=.ptr i8 0 0:=by rw[<-hS];rfl
 have S11:S 11=.fn g caps:=by rw[<-hS];rfl
 clear hS;refine ad.cZ (g:=.t 11) (caps:=caps) S11 Wq (λy hy=>?_) [] (λpre ZJ=>ZJ i7=some ⟨358,4,[fP (fC ah (xs.take pre.length) d).1]⟩/\ZJ i8=some ⟨4,1,[.bool (fC ah (xs.take pre.length) d).2]⟩/\aa Z6 ZJ)
  (λ_ _ _=>False) ?_ ?_ ?_ ?_ ?_
 .obtain⟨t,_,rfl⟩:=List.mem_map.1 hy;rfl
 .refine⟨(ab Xk).trans ag,ag,?_⟩;have h7:=(s7.trans s8).aE (id:=i7) (o:=⟨358,4,[.agg [vI d.b.cls,vI d.b.forced,vI d.b.R5,vI d.i]]⟩) f7;exact h7.aE (s7.none f8)
 .rintro pre y post ZJ ZB TJ ⟨J7,J8,Js⟩ G';obtain⟨t,Zk,rfl⟩:=oF (f:=fP) TJ;have Sf:fC ah (xs.take (pre.length+1)) d=gl ah (fC ah (xs.take pre.length) d) t:=by rw[List.take_add_one,Zk];exact tr _ _ _ _
  have hlen:(pre++[[fP t]]).length=pre.length+1:=by simp
  rw[hlen,Sf];generalize fC ah (xs.take pre.length) d=p at*;obtain⟨p1,p2⟩:=p;simp only at J7 J8;have c7:=G' _ _ J7;have c8:=G' _ _ J8;have c5:=G' _ _ (Js _ _ a5);generalize Tg:me S [12] [fP t]=S0;have T5:S0 5=.ptr i5 0 0:=by rw[<-Tg];exact S5
  have T7:S0 7=.ptr i7 0 0:=by rw[<-Tg];exact S7
  have T8:S0 8=.ptr i8 0 0:=by rw[<-Tg];exact S8
  have T12:S0 12=fP t:=by rw[<-Tg];rfl
  clear Tg;rw[fP]at c7 T12;refine ad.mix 10 ?_;apply sR;simp only[go_sem,seval,T5,T7,T8,T12];rw[aO];intro i9 f9;have m7:i7≠i9:=ao c7 f9;have m8:i8≠i9:=ao c8 f9;have m5:i5≠i9:=ao c5 f9;simp only[go_sem,seval,T5,T7,T8,T12];have U3:=(bh.refl G').px (o:=⟨358,4,[.agg [vI t.b.cls,vI t.b.forced,vI t.b.R5,vI t.i]]⟩) f9;have d7:=(ab (o:=⟨358,4,[.agg [vI t.b.cls,vI t.b.forced,vI t.b.R5,vI t.i]]⟩) m7).trans c7;have d8:=(ab (o:=⟨358,4,[.agg [vI t.b.cls,vI t.b.forced,vI t.b.R5,vI t.i]]⟩) m8).trans c8;have d5:=(ab (o:=⟨358,4,[.agg [vI t.b.cls,vI t.b.forced,vI t.b.R5,vI t.i]]⟩) m5).trans c5;have d9:C' ZB i9 ⟨358,4,[.agg [vI t.b.cls,vI t.b.forced,vI t.b.R5,vI t.i]]⟩ i9=_:=ag;generalize C' ZB i9 ⟨358,4,[.agg [vI t.b.cls,vI t.b.forced,vI t.b.R5,vI t.i]]⟩=Y9 at*;apply sR;simp only[go_sem,seval,T5,T7,T8,d5,d7,d8,d9];refine ad.aB rfl rfl rfl (hf t p1 p2 _) ?_;cases hv:ah t p1 p2
  .apply sR;simp only[go_sem,seval,T5,T7,T8];refine⟨_,U3,?_,?_,Js⟩
   .rw[gl,hv];exact J7
   .rw[gl,hv];exact J8
  .apply sR;simp only[go_sem,seval,T5,T7,T8,d5,d7,d8,d9,ab Xk,ab Xk.symm];refine⟨_,(U3.set (id:=i7) J7).set (id:=i8) (by rw[ab Xk.symm];exact J8),?_,?_,?_⟩
   .rw[gl,hv];exact(ab Xk).trans ag
   .rw[gl,hv];exact ag
   .exact(Js.aE f7).aE (s7.none f8)
 .rintro Z' ⟨J7,J8,Js⟩;rw[List.length_map,List.take_length]at J7 J8;rw[fP]at J7;have e6:=Js _ _ a6;refine ad.mix 10 ?_;apply sR;simp only[go_sem,seval,S6,S7,J7,e6];exact ay.pure ((hs.trans Js).aE z6) rfl
 .intro id h;cases h
 .rintro pre Z' _ ⟨⟩
open Go.Proofs Go.Proofs.Tryz
def vG(b:List S1)(bT to:Int):aV prog 285 [bC b,vI bT,vI to] (.fn 320 [.rp (vI bT),.rp (vI to),.rp (bC b)]):=λU=>by
 refine OT.r (by simp[JJ]) ?_;refine ad.mix 7 ?_;have q1:=aI b;have q2:=aJ b;generalize bC b=x at*;apply sR;simp only[go_sem,seval,JJ,q1,q2];refine af λUJ Z1 s1 a1 f1=>?_;simp only[go_sem,seval,q1,q2];refine af λWg Z2 s2 a2 f2=>?_;simp only[go_sem,seval,q1,q2];refine af λid3 Z3 s3 a3 f3=>?_;simp only[go_sem,seval,q1,q2];have hs:=(s1.trans s2).trans s3;exact⟨_,U,hs,Wk.fn (vs':=[.rp (vI bT),.rp (vI to),.rp x]) ⟨Wk.ptr hs (s3 _ _ a2) (s1.none f2),Wk.ptr hs a3 ((s1.trans s2).none f3),Wk.ptr hs (s3 _ _ (s2 _ _ a1)) f1,trivial⟩,rfl,rfl⟩
def kJ(b:List S1)(i:Nat):Fd:=⟨TL b i,i⟩
def zJ:Fd:=⟨⟨0,0,0⟩,-1⟩
def gY(x _y:Fd)(s:Bool):Bool:=!s&&decide (x.b.forced≠0)
def jc(x y:Fd)(s:Bool):Bool:=!s||decide (x.b.R5<=y.b.R5)
def Eo(x y:Fd)(s:Bool):aV prog 286 [fP x,fP y,.bool s] (.bool (gY x y s)):=λU=>by
 refine PF.r (by simp[Mq]) ?_;have hs:=aa.refl U;obtain⟨⟨c,f,r⟩,i⟩:=x;obtain⟨⟨c',f',r'⟩,i'⟩:=y;refine ad.mix 7 ?_;apply sR;simp only[go_sem,seval,Mq,fP];refine af λi3 Z3 s3 a3 f3=>?_;have z3:=hs.none f3;replace hs:=hs.trans s3;simp only[go_sem,seval];refine af λi4 Z4 s4 a4 f4=>?_;have YE:=ao a3 f4;replace a3:=s4 _ _ a3;have z4:=hs.none f4;replace hs:=hs.trans s4;cases s
 .by_cases h:f≠0
  .have q:(f≠0)=True:=eq_true h;simp only[go_sem,seval,a3,a4,q];exact ay.pure hs (by simp[gY,h])
  .have q:(f≠0)=False:=eq_false h;simp only[go_sem,seval,a3,a4,q];exact ay.pure hs (by simp[gY,h])
 .simp only[go_sem,seval,a3,a4];exact ay.pure hs (by simp[gY])
def Hy(x y:Fd)(s:Bool):aV prog 287 [fP x,fP y,.bool s] (.bool (jc x y s)):=λU=>by
 refine QQ.r (by simp[Jf]) ?_;have hs:=aa.refl U;obtain⟨⟨c,f,r⟩,i⟩:=x;obtain⟨⟨c',f',r'⟩,i'⟩:=y;refine ad.mix 7 ?_;apply sR;simp only[go_sem,seval,Jf,fP];refine af λi3 Z3 s3 a3 f3=>?_;have z3:=hs.none f3;replace hs:=hs.trans s3;simp only[go_sem,seval];refine af λi4 Z4 s4 a4 f4=>?_;have YE:=ao a3 f4;replace a3:=s4 _ _ a3;have z4:=hs.none f4;replace hs:=hs.trans s4;cases s
 .simp only[go_sem,seval,a3,a4];exact ay.pure hs (by simp[jc])
 .by_cases h:r<=r'
  .have q:(r<=r')=True:=eq_true h;simp only[go_sem,seval,a3,a4,q];exact ay.pure hs (by simp[jc,h])
  .have q:(r<=r')=False:=eq_false h;simp only[go_sem,seval,a3,a4,q];exact ay.pure hs (by simp[jc,h])
def kx(b:List S1)(bT to:Int):Int:=(fC gY ((VP b bT to).map (kJ b)) zJ).1.i
def BG(b:List S1)(bT to:Int):Int:=(fC jc ((VP b bT to).map (kJ b)) zJ).1.i
def vW(b:List S1)(hb:b.length<=1000000)(bT to:Int):Iter prog 320 [.rp (vI bT),.rp (vI to),.rp (bC b)] (((VP b bT to).map (kJ b)).map λx=>[fP x]):=by
 have h:=Fe b hb bT to;rw[List.map_map];exact h
def HY(b:List S1)(hb:b.length<=1000000)(bT to:Int):aV prog 236 [bC b,vI bT,vI to] (vI (kx b bT to)):=λU=>by
 refine ON.r (by simp[I6]) ?_;have hs:=aa.refl U;refine ad.mix 8 ?_;apply sR;simp only[go_sem,seval,I6];refine ad.aB rfl rfl rfl (vG b bT to _) ?_;apply sR;simp only[go_sem,seval];refine ad.aB rfl rfl rfl (xN (vW b hb bT to) zJ gY Eo _) ?_;have Sn:∀x,(fP x).cells=[vI x.b.cls,vI x.b.forced,vI x.b.R5,vI x.i]:=λ_=>rfl;apply sR;simp only[go_sem,seval,fP];refine af λi7 Z7 s7 a7 f7=>?_;have z7:=hs.none f7;replace hs:=hs.trans s7;simp only[go_sem,seval,a7];exact ay.pure (hs.aE z7) rfl
def Lp(b:List S1)(hb:b.length<=1000000)(bT to:Int):aV prog 237 [bC b,vI bT,vI to] (vI (BG b bT to)):=λU=>by
 refine Oz.r (by simp[K4]) ?_;have hs:=aa.refl U;refine ad.mix 8 ?_;apply sR;simp only[go_sem,seval,K4];refine ad.aB rfl rfl rfl (vG b bT to _) ?_;apply sR;simp only[go_sem,seval];refine ad.aB rfl rfl rfl (xN (vW b hb bT to) zJ jc Hy _) ?_;apply sR;simp only[go_sem,seval,fP];refine af λi7 Z7 s7 a7 f7=>?_;have z7:=hs.none f7;replace hs:=hs.trans s7;simp only[go_sem,seval,a7];exact ay.pure (hs.aE z7) rfl
open Go.Proofs Go.Proofs.Tryz
structure Kp where
 (Rj:List Int)
 (high body:Int)
def iY(l:List Nd)(x:Kp)(a:Int):Kp:=if(SP l a).head<1\/x.body-(SP l a).head<1 then x else⟨x.Rj++[a],x.high+(SP l a).head,x.body-(SP l a).head⟩
structure KpJ(Z0:ai)(i7:Nat)(x:Kp)(U:ai):Prop where
 row:∃v,U i7=some ⟨246,3,[.agg [v,vI x.high,vI x.body]]⟩/\aT (bg Z0 i7) U 3 1 v (x.Rj.map vI)
 sub:aa Z0 U
 no:Z0 i7=none
def G8(l:List Nd)(hb:R3 l=true)(x:Kp)(hlen:x.Rj.length<=1000000)(h0:0<=x.high)(h1:x.high<=4398046511104)(h2:0<=x.body)(h3:x.body<=4398046511104)(a:Nat)(ha:a<l.length)
 {Z0 ZJ ZB:ai}{i7:Nat}(hJ:KpJ Z0 i7 x ZJ)(G':aa ZJ ZB):
 aD prog 160 [.ptr i7 0 0,aK l,vI a] ZB λ_ Z'=>∃RC,bh ZJ ZB RC Z'/\KpJ Z0 i7 (iY l x a) RC:=by
 refine Qd.r (by simp[Gp]) ?_;have RL:=(gr hb ha).st.head;have SR:=λU=>cK (U:=U) (l:=l) (a:=a) ha;obtain⟨⟨v,J7,Jo⟩,Js,Jn⟩:=hJ;obtain⟨hds,high,body⟩:=x;simp only at hlen h0 h1 h2 h3 J7 Jo;have UT:v.cells=[v]:=by rcases Jo with⟨rfl,_⟩|⟨_,rfl,_⟩<;>rfl
 have c7:=G' _ _ J7;unfold iY;rw[jk ha];simp only;have same:(l[a].st.head<1\/body-l[a].st.head<1)->ay (.Rf []) ZB λ_ Z'=>∃RC,bh ZJ ZB RC Z'/\KpJ Z0 i7 (if l[a].st.head<1\/body-l[a].st.head<1 then⟨hds,high,body⟩else⟨hds++[(a:Int)],high+l[a].st.head,body-l[a].st.head⟩) RC:=λh=>by
  rw[if_pos h];exact⟨_,ZB,aa.refl _,Wk.refl (aa.refl _) _,ZJ,bh.refl G',⟨v,J7,Jo⟩,Js,Jn⟩
 refine ad.mix 7 ?_;have r1:Rq .i64 (body-l[a].st.head):=aq (by omega) (by omega);have r2:Rq .i64 (high+l[a].st.head):=aq (by omega) (by omega);by_cases hn:l[a].st.head<1
 .have q1:(l[a].st.head<1)=True:=eq_true hn;have fin:=same (.inl hn);generalize hX:(if l[a].st.head<1\/body-l[a].st.head<1 then(⟨hds,high,body⟩:Kp)else⟨hds++[(a:Int)],high+l[a].st.head,body-l[a].st.head⟩)=X at*;apply sR;simp only[go_sem,seval,Gp,SR,Nd.cells,q1,c7,UT];exact fin
 have q1:(l[a].st.head<1)=False:=eq_false hn;by_cases hn2:body-l[a].st.head<1
 .have q2:(body-l[a].st.head<1)=True:=eq_true hn2;have fin:=same (.inr hn2);generalize hX:(if l[a].st.head<1\/body-l[a].st.head<1 then(⟨hds,high,body⟩:Kp)else⟨hds++[(a:Int)],high+l[a].st.head,body-l[a].st.head⟩)=X at*;apply sR;simp only[go_sem,seval,Gp,SR,Nd.cells,q1,r1,q2,c7,UT];exact fin
 have q2:(body-l[a].st.head<1)=False:=eq_false hn2;rw[if_neg (by omega)];clear same;apply sR;simp only[go_sem,seval,Gp,SR,Nd.cells,q1,r1,q2,c7,UT];rw[aO];intro UU f28;have WG:(hds.map vI).length<=1000000:=by simpa using hlen
 have RS:((hds++[(a:Int)]).map vI)=hds.map vI++[vI a]:=by simp
 generalize hds.map vI=rows at*;have U3:=(bh.refl G').px (o:=⟨3,1,[vI (a:Int)]⟩) f28;have y2:C' ZB UU ⟨3,1,[vI (a:Int)]⟩ i7=_:=(ab (ao c7 f28)).trans c7;have a28:C' ZB UU ⟨3,1,[vI (a:Int)]⟩ UU=some ⟨3,1,[vI (a:Int)]⟩:=ag;generalize C' ZB UU ⟨3,1,[vI (a:Int)]⟩=Z8 at*;obtain⟨Rr,SM,Vj⟩:=Jo.Dg U3.1;have Sb:(rows.length+1)*9<=140737488355328:=by omega
 have k2:bg Z0 i7 i7≠none:=λh=>(aM.1 h).1 rfl;have UF:∀(i:Nat) (Zx:ai),bg Z0 i7 i≠none->Vc.bK Zx Rr i=Zx i:=λi Zx hk=>by
  cases Rr with
  |none=>rfl
  |some a=>exact dO (λe=>hk (by rw[e];exact(Vj a rfl).1))
 simp only[go_sem,seval,SM,dS a28,Sb];rw[aO];intro Th f29;have f29:Z8 Th=none:=f29;have YK:i7≠Th:=ao y2 f29;have f29':Vc.bK Z8 Rr Th=none:=by
  cases Rr with
  |none=>exact f29
  |some a=>simp only[Vc.bK,del];split<;>first|rfl|exact f29
 have y2':C' (Vc.bK Z8 Rr) Th ⟨3,1,rows++[vI (a:Int)]⟩ i7=some ⟨246,3,[.agg [v,vI high,vI body]]⟩:=by rw[ab YK,UF _ _ k2];exact y2
 have hB9:=((U3.CT (e:=Rr) λi h=>(Vj i h).2).new (o:=⟨3,1,rows++[vI (a:Int)]⟩) f29').set (id:=i7) (o:=⟨246,3,[.agg [v,vI high,vI body]]⟩) (o':=⟨246,3,[.agg [.own Th 0 (rows.length+1),vI (high+l[a].st.head),vI (body-l[a].st.head)]]⟩) (by rw[ab YK,UF _ _ k2];exact J7);simp only[go_sem,seval,UT,y2',r1,r2];refine⟨_,_,aa.refl _,Wk.refl (aa.refl _) _,_,hB9,⟨.own Th 0 (rows.length+1),ag,?_⟩,?_,Jn⟩
 .rw[RS];refine aT.new (by simp) (by rw[ab YK.symm,ag]) ?_;rw[aM];refine⟨YK.symm,?_⟩;cases h:Z0 Th with
  |none=>rfl
  |some o=>rw[U3.1 _ _ (Js _ _ h)]at f29;cases f29
 .refine aa.aE (λi o h=>?_) Jn;have h1:=Js _ _ h;rw[ab (ao (U3.1 _ _ h1) f29),UF _ _ (λhk=>by rw[(aM.1 hk).2]at h;cases h)];exact h1
open Go.Proofs Go.Proofs.Tryz
def bwd(L:List Int):List (List V):=(List.range' 0 L.length).map λq=>[vI ((L.length-1-q:Nat):Int),vI (L.getD (L.length-1-q) 0)]
def Eb(L:List Int)(hL:L.length<=1000000):Iter prog 213 [.rp (bn L)] (bwd L):=by
 refine⟨N3.c,λRF τ Jx Z0 hy hJ=>?_⟩;refine(N3.r (by simp[Me]) ?_).2;have hlL:=fF L;have ldI:∀(U:ai) (X:List Int),bS U false 1 (.rp (bn X))=some (bn X):=λU X=>rfl;have r2:Rq .i64 ((L.length:Int)-1):=aq (by omega) (by omega);refine ad.mix 4 ?_;apply sR;simp only[go_sem,seval,Me,ldI,hlL,r2];generalize hT:bwd L=T at hy|-
 let F:Nat->List V:=λq=>[vI ((L.length-1-q:Nat):Int),vI (L.getD (L.length-1-q) 0)]
 have hTF:T=(List.range' 0 L.length).map F:=hT.symm;refine ad.loop (λm st=>∃(j:Nat) (ZJ:ai),j<=L.length/\m=L.length-j/\τ ((List.range' 0 j).map F) ZJ/\aa ZJ st.U/\st.s 0=.yl RF/\st.s 1=.rp (bn L)/\st.s 3=vI ((L.length:Int)-1-j)) L.length ?_ ?_
 .exact⟨0,Z0,by omega,rfl,by simpa using hJ,aa.refl _,rfl,rfl,by simp[aX,mix]⟩
 .rintro m ⟨S,J⟩ ⟨j,ZJ,hj,rfl,SV,G',t0,t1,t3⟩;simp only at G' t0 t1 t3;refine ad.mix 4 ?_;by_cases H':j<L.length
  .obtain⟨i,hi⟩:∃i:Nat,i=L.length-1-j:=⟨_,rfl⟩
   have Uc:i<L.length:=by omega
   have t3':S 3=vI (i:Int):=by rw[t3];congr 1;omega
   have q:((i:Int)>=0)=True:=eq_true (by omega);have r1:Rq .i64 ((i:Int)-1):=aq (by omega) (by omega);have Q9:=λU=>gP (U:=U) Uc;have hF:F j=[vI (i:Int),vI L[i]]:=by
    show[vI ((L.length-1-j:Nat):Int),vI (L.getD (L.length-1-j) 0)]=_;rw[<-hi];simp[Uc]
   have e:T=((List.range' 0 j).map F)++[vI (i:Int),vI L[i]]::((List.range' (0+j+1) (L.length-j-1)).map F):=by
    rw[hTF,range_split j 0 L.length H',List.map_append,List.map_cons,Nat.zero_add,hF]
   have Sf:((List.range' 0 (j+1)).map F)=((List.range' 0 j).map F)++[[vI (i:Int),vI L[i]]]:=by rw[qi,List.map_append,Nat.zero_add,List.map_cons,hF];rfl
   have q5:(i:Int)-1=(L.length:Int)-1-((j+1:Nat):Int):=by omega
   apply sR;simp only[go_sem,seval,t0,t1,t3',ldI,q,Q9];refine ad.lW (Post:=λb' Z2=>∃RC,bh ZJ J RC Z2/\((b'=true/\τ (((List.range' 0 j).map F)++[[vI (i:Int),vI L[i]]]) RC)\/(b'=false/\Jx (((List.range' 0 j).map F)++[[vI (i:Int),vI L[i]]]) RC))) rfl rfl rfl (hy _ [vI (i:Int),vI L[i]] _ ZJ J e SV G') ?_;rintro b' Z2 ⟨RC,Sl,R6⟩;rcases R6 with⟨rfl,R6⟩|⟨rfl,R6⟩
   .apply sR;simp only[go_sem,seval,t0,t1,t3',r1];refine⟨_,?_,j+1,RC,by omega,rfl,by rw[Sf];exact R6,Sl.1,by simp[t0,t1,q5]⟩;omega
   .apply sR;simp only[go_sem,seval,t0,t1,t3'];exact⟨_,RC,Sl.1,Wk.refl Sl.1 _,.inr ⟨_,⟨_,by rw[e,List.append_assoc];rfl⟩,R6⟩⟩
  .have SX:j=L.length:=by omega
   subst SX;have q:((L.length:Int)-1-(L.length:Int)>=0)=False:=eq_false (by omega);apply sR;simp only[go_sem,seval,t0,t1,t3,q];exact⟨_,ZJ,G',Wk.refl G' _,.inl (hTF▸SV)⟩
def M5(L:List Int):aV prog 158 [bn L] (.fn 213 [.rp (bn L)]):=λU=>by
 refine Qy.r (by simp[Mb]) ?_;refine ad.mix 3 ?_;apply sR;simp only[go_sem,seval,Mb,aj,av];refine af λUJ Z1 s1 a1 f1=>?_;simp only[go_sem,seval,aj,av];exact⟨_,U,s1,Wk.fn (vs':=[.rp (bn L)]) ⟨Wk.ptr s1 a1 f1,trivial⟩,rfl,rfl⟩
open Go.Proofs Go.Proofs.Tryz
def jr(x:Kp):V:=.agg [bn x.Rj,vI x.high,vI x.body]
def gy(l:List Nd)(L:List Int)(h:Int):Nat->Kp
 |0=>⟨[],0,h⟩
 |m+1=>iY l (gy l L h m) (L.getD (L.length-1-m) 0)
def C3{l:List Nd}{x:Kp}{a:Int}{m:Nat}{h:Int}(h0:0<=(SP l a).head)(hx:x.Rj.length<=m/\0<=x.high/\0<=x.body/\x.high+x.body=h):(iY l x a).Rj.length<=m+1/\0<=(iY l x a).high/\0<=(iY l x a).body/\(iY l x a).high+(iY l x a).body=h:=by
 obtain⟨h1,h2,h3,h4⟩:=hx;unfold iY;split
 .exact⟨by omega,h2,h3,h4⟩
 .simp only[List.length_append,List.length_cons,List.length_nil];omega
def oP{l:List Nd}(hb:R3 l=true){L:List Int}(hL:∀x∈L,∃n:Nat,x=n/\n<l.length){h:Int}(hh:0<=h):∀m,m<=L.length->(gy l L h m).Rj.length<=m/\0<=(gy l L h m).high/\0<=(gy l L h m).body/\(gy l L h m).high+(gy l L h m).body=h
 |0,_=>by simp[gy];omega
 |m+1,hm=>by
  have ih:=oP hb hL hh m (by omega);rw[gy];refine C3 ?_ ih;have H':L.length-1-m<L.length:=by omega
  have hg:L.getD (L.length-1-m) 0=L[L.length-1-m]:=by simp[H']
  rw[hg];obtain⟨n,hn,UR⟩:=hL _ (List.getElem_mem H');rw[hn,jk UR];exact(gr hb UR).st.head.1
def xy(l:List Nd)(a:Nat)(h:Int):Kp:=gy l (U' l a) h (U' l a).length
def Gv(l:List Nd)(hl:dH l)(hb:R3 l=true)(hn:l.length<=100000)(a:Nat)(ha:a<l.length)(h:Int)(h0:0<=h)(h1:h<=2199023255552):
 aV prog 105 [aK l,vI a,vI h] (jr (xy l a h)):=λU=>by
 refine OR.r (by simp[Jr]) ?_;have hs:=aa.refl U;refine ad.mix 10 ?_;apply sR;simp only[go_sem,seval,Jr,ae,ax];refine af λi3 Z3 s3 a3 f3=>?_;have z3:=hs.none f3;replace hs:=hs.trans s3;simp only[go_sem,seval];refine af λi6 Z6 s6 a6 f6=>?_;have n36:=ao a3 f6;replace a3:=s6 _ _ a3;have z6:=hs.none f6;replace hs:=hs.trans s6;simp only[go_sem,seval,a3,ae];refine af λi7 Z7 s7 a7 f7=>?_;have ZO:i3≠i7:=ao a3 f7;have VK:i6≠i7:=ao a6 f7;have b3:=s7 _ _ a3;simp only[go_sem,seval,a7,b3,ab ZO,ae,ax];have h7:KpJ Z6 i7 ⟨[],0,h⟩ (C' Z7 i7 ⟨246,3,[.agg [.aC,vI 0,vI h]]⟩):=⟨⟨.aC,ag,aT.start⟩,s7.aE f7,f7⟩
 have e3:C' Z7 i7 ⟨246,3,[.agg [.aC,vI 0,vI h]]⟩ i3=_:=(ab ZO).trans b3;generalize C' Z7 i7 ⟨246,3,[.agg [.aC,vI 0,vI h]]⟩=Y7 at*;refine ad.aB rfl rfl rfl (yG l hl hb hn a ha _) ?_;have Wr:∀x∈U' l a,∃n:Nat,x=n/\n<l.length:=λx hx=>by
  obtain⟨n,h1,h2⟩:=oZ ha x hx;exact⟨n,h1,by omega⟩
 have hlL:(U' l a).length<=l.length+1:=iR _ _ _;unfold xy;generalize U' l a=L at*;apply sR;simp only[go_sem,seval];refine ad.aB rfl rfl rfl (M5 L _) ?_;apply sR;simp only[go_sem,seval];generalize hS:mix 10 _ _=S;have S3:S 3=.ptr i3 0 0:=by rw[<-hS];rfl
 have S6:S 6=.ptr i6 0 0:=by rw[<-hS];rfl
 have S7:S 7=.ptr i7 0 0:=by rw[<-hS];rfl
 have S16:S 16=.fn 213 [.rp (bn L)]:=by rw[<-hS];rfl
 clear hS;refine ad.cZ (g:=.t 16) (caps:=[.rp (bn L)]) S16 (Eb L (by omega)) (λy hy=>?_) [] (λpre ZJ=>KpJ Z6 i7 (gy l L h pre.length) ZJ)
  (λ_ _ _=>False) ?_ ?_ ?_ ?_ ?_
 .obtain⟨t,_,rfl⟩:=List.mem_map.1 hy;rfl
 .exact h7
 .rintro pre y post ZJ ZB TJ hJ G';have Vq:pre.length<L.length:=by
   have:=congrArg List.length TJ;simp[bwd]at this;omega
  obtain⟨i,hi⟩:∃i:Nat,i=L.length-1-pre.length:=⟨_,rfl⟩
  have Uc:i<L.length:=by omega
  have hy:y=[vI (i:Int),vI (L.getD i 0)]:=by
   have h1:(bwd L)[pre.length]?=some y:=by rw[TJ];simp
   simp[bwd,Vq]at h1;rw[<-h1,hi];simp
  have hlen:(pre++[y]).length=pre.length+1:=by simp
  have hinv:=oP hb Wr h0 pre.length (by omega);have RA:gy l L h (pre.length+1)=iY l (gy l L h pre.length) (L.getD i 0):=by rw[gy,hi]
  have hg:L.getD i 0=L[i]:=by simp[Uc]
  obtain⟨n,RK,UR⟩:=Wr _ (List.getElem_mem Uc);rw[hlen,RA,hg,RK];rw[hg,RK]at hy;subst hy;generalize gy l L h pre.length=x at*;have c3:=G' _ _ (hJ.sub _ _ a3);generalize Tg:me S [17,18] [vI (i:Int),vI (n:Int)]=S0;have T3:S0 3=.ptr i3 0 0:=by rw[<-Tg];exact S3
  have T7:S0 7=.ptr i7 0 0:=by rw[<-Tg];exact S7
  have T18:S0 18=vI (n:Int):=by rw[<-Tg];rfl
  clear Tg;refine ad.mix 10 ?_;apply sR;simp only[go_sem,seval,T3,T7,T18];apply sR;simp only[go_sem,seval,T3,T7,T18,c3,ae];have hc:=G8 l hb x (by omega) (by omega) (by omega) (by omega) (by omega) n UR hJ G';rw[<-T7]at hc;refine ad.call rfl rfl rfl hc ?_;rintro-Z2 ⟨RC,hB,TE⟩;apply sR;simp only[go_sem,seval];exact⟨_,hB,TE⟩
 .rintro Z' hJ;have Sh:(bwd L).length=L.length:=by simp[bwd]
  rw[Sh]at hJ;obtain⟨⟨v,J7,Jo⟩,Js,Jn⟩:=hJ;have UT:v.cells=[v]:=by rcases Jo with⟨rfl,_⟩|⟨_,rfl,_⟩<;>rfl
  have e6:=Js _ _ a6;refine ad.mix 10 ?_;apply sR;simp only[go_sem,seval,S6,S7,J7,e6,UT];have RA:=(hs.trans Js).aE (o:=⟨180,3,[.agg [v,vI (gy l L h L.length).high,vI (gy l L h L.length).body]]⟩) z6;have Jo':aT (bg Z6 i7) (C' Z' i6 ⟨180,3,[.agg [v,vI (gy l L h L.length).high,vI (gy l L h L.length).body]]⟩) 3 1 v ((gy l L h L.length).Rj.map vI):=by
   rcases Jo with h|⟨id,g1,g2,g3⟩
   .exact .inl h
   .refine .inr ⟨id,g1,?_,g3⟩;rw[ab (λe=>by rw[e,aM]at g3;rw[a6]at g3;cases g3.2)];exact g2
  have hK:aa U (bg Z6 i7):=λi o hh=>by
   rw[bg,if_neg (λe=>by rw[e,hs.none f7]at hh;cases hh)];exact hs _ _ hh
  exact⟨_,U,RA,Wk.agg (vs':=[bn (gy l L h L.length).Rj,vI (gy l L h L.length).high,vI (gy l L h L.length).body]) ⟨Jo'.wk hK RA,Wk.refl RA _,Wk.refl RA _,trivial⟩,rfl,rfl⟩
 .intro id h;cases h
 .rintro pre Z' _ ⟨⟩
open Go.Proofs Go.Proofs.Tryz
def ja(l:List Nd)(h:Int):Bool:=decide (1<=h/\h<=1099511627776)&&R3 l
def Gy(l:List Nd)(hl:dH l)(h:Int):aV prog 104 [aK l,vI h] (.bool (ja l h)):=λU=>by
 refine Qs.r (by simp[Jb]) ?_;refine ad.mix 5 ?_;apply sR;simp only[go_sem,seval,Jb];refine ad.aB rfl rfl rfl (pk h _) ?_;unfold ja;cases hd:decide (1<=h/\h<=1099511627776)
 .apply sR;simp only[go_sem,seval];exact ay.same (by simp)
 .apply sR;simp only[go_sem,seval];refine ad.aB rfl rfl rfl (B8 l hl _) ?_;apply sR;simp only[go_sem,seval];exact ay.same (by simp)
def rE(l:List Nd)(a h:Int):Kp:=if ja l h=true/\0<=a/\a<l.length then xy l a.toNat h else⟨[],0,0⟩
def Im(l:List Nd)(hl:dH l)(a h:Int):aV prog 174 [aK l,vI a,vI h] (jr (rE l a h)):=λU=>by
 refine OQ.r (by simp[L3]) ?_;have hs:=aa.refl U;have US:=fe l;have hn:l.length<=100000:=by have:=hl.1;omega
 refine ad.mix 7 ?_;apply sR;simp only[go_sem,seval,L3];refine af λi6 Z6 s6 a6 f6=>?_;have z6:=hs.none f6;replace hs:=hs.trans s6;simp only[go_sem,seval];refine ad.aB rfl rfl rfl (Gy l hl h _) ?_;have bad:¬(ja l h=true/\0<=a/\a<l.length)->ay (.agg [.aC,vI 0,vI 0]) Z6 λr Z'=>r=jr (rE l a h)/\Z'=U:=λhb=>by
  rw[rE,if_neg hb];exact⟨_,U,hs,Wk.agg (vs':=[bn [],vI 0,vI 0]) ⟨Wk.aC 1,Wk.refl hs _,Wk.refl hs _,trivial⟩,rfl,rfl⟩
 have a6':C' Z6 i6 ⟨180,3,[.agg [.aC,vI 0,vI 0]]⟩=Z6:=by
  funext i;by_cases hi:i=i6
  .rw[hi,ag];exact a6.symm
  .rw[ab hi]
 cases hm:ja l h
 .have fin:=bad (by simp[hm]);apply sR;simp only[go_sem,seval,a6];rw[a6'];exact fin
 by_cases h0:a<0
 .have q0:(a<0)=True:=eq_true h0;have fin:=bad (by omega);apply sR;simp only[go_sem,seval,a6,q0];rw[a6'];exact fin
 have q0:(a<0)=False:=eq_false h0;by_cases h1:a>=l.length
 .have q1:(a>=l.length)=True:=eq_true h1;have fin:=bad (by omega);apply sR;simp only[go_sem,seval,a6,q0,q1,US];rw[a6'];exact fin
 have q1:(a>=l.length)=False:=eq_false h1;clear bad a6';obtain⟨n,rfl⟩:∃n:Nat,a=n:=⟨a.toNat,by omega⟩
 have hb:R3 l=true:=by unfold ja at hm;simp at hm;exact hm.2
 have hh:1<=h/\h<=1099511627776:=by unfold ja at hm;simp at hm;exact hm.1
 have hr:rE l n h=xy l n h:=by rw[rE,if_pos ⟨hm,by omega,by omega⟩,Int.toNat_natCast]
 rw[hr];apply sR;simp only[go_sem,seval,a6,q0,q1,US];refine ad.aB rfl rfl rfl (Gv l hl hb hn n (by omega) h (by omega) (by omega) _) ?_;apply sR;simp only[go_sem,seval,a6,jr,aj,av];exact ay.pure (hs.aE z6) rfl
def iG(l:List Nd)(h:Int):Nat->Int
 |0=>h
 |j+1=>if(RI l j).kind=2\/(RI l j).kind=3 then min (iG l h j) (xy l j h).body else iG l h j
def gZ(l:List Nd)(h:Int):Int:=if ja l h=true then iG l h l.length else 0
def Fa(l:List Nd)(hl:dH l)(h:Int):aV prog 48 [aK l,vI h] (vI (gZ l h)):=λU=>by
 refine e48.r (by simp[c48]) ?_;have hs:=aa.refl U;have US:=fe l;have hn:l.length<=100000:=by have:=hl.1;omega
 refine ad.mix 8 ?_;apply sR;simp only[go_sem,seval,c48];refine ad.aB rfl rfl rfl (Gy l hl h _) ?_;unfold gZ;cases hm:ja l h
 .apply sR;simp only[go_sem,seval];exact ay.same rfl
 have hb:R3 l=true:=by unfold ja at hm;simp at hm;exact hm.2
 have hh:1<=h/\h<=1099511627776:=by unfold ja at hm;simp at hm;exact hm.1
 rw[if_pos rfl];apply sR;simp only[go_sem,seval,US];refine ad.loop (λm st=>∃j:Nat,j<=l.length/\m=l.length-j/\aa U st.U/\st.s 0=aK l/\st.s 1=vI h/\st.s 5=vI (iG l h j)/\st.s 13=aK l/\st.s 14=vI l.length/\st.s 15=vI j) l.length ?_ ?_
 .exact⟨0,by omega,rfl,hs,rfl,rfl,rfl,rfl,rfl,rfl⟩
 .clear hs;rintro m ⟨S,J⟩ ⟨j,hj,rfl,hs,t0,t1,t5,t13,t14,t15⟩;simp only at hs t0 t1 t5 t13 t14 t15;refine ad.mix 8 ?_;by_cases H':j<l.length
  .have q:((j:Int)<l.length)=True:=eq_true (by omega);have r1:Rq .i64 ((j:Int)+1):=aq (by omega) (by omega);have SR:=λU=>cK (U:=U) (l:=l) (a:=j) H';have RA:iG l h (j+1)=if l[j].kind=2\/l[j].kind=3 then min (iG l h j) (xy l j h).body else iG l h j:=by rw[iG,iT H']
   apply sR;simp only[go_sem,seval,t0,t1,t5,t13,t14,t15,q,SR,Nd.cells];refine af λi7 Z7 s7 a7 f7=>?_;by_cases hk:l[j].kind=2
   .have q1:(l[j].kind=2)=True:=eq_true hk;simp only[go_sem,seval,a7,q1,t0,t1,t5,t13,t14,t15,aj,av];refine ad.aB rfl rfl rfl (Gv l hl hb hn j H' h (by omega) (by omega) _) ?_;apply sR;simp only[go_sem,seval,t0,t1,t5,t13,t14,t15,jr,r1,e8,aj,av];refine⟨_,?_,j+1,by omega,rfl,hs.trans (s7.aE f7),by simp[t0,t1,t13,t14,RA,hk]⟩;omega
   .have q1:(l[j].kind=2)=False:=eq_false hk;by_cases Wp:l[j].kind=3
    .have q2:(l[j].kind=3)=True:=eq_true Wp;have hk:=Wp;simp only[go_sem,seval,a7,q1,q2,t0,t1,t5,t13,t14,t15,aj,av];refine ad.aB rfl rfl rfl (Gv l hl hb hn j H' h (by omega) (by omega) _) ?_;apply sR;simp only[go_sem,seval,t0,t1,t5,t13,t14,t15,jr,r1,e8,aj,av];refine⟨_,?_,j+1,by omega,rfl,hs.trans (s7.aE f7),by simp[t0,t1,t13,t14,RA,hk]⟩;omega
    .have q2:(l[j].kind=3)=False:=eq_false Wp;simp only[go_sem,seval,a7,q1,q2,t0,t1,t5,t13,t14,t15,r1,aj,av];refine⟨_,?_,j+1,by omega,rfl,hs.trans (s7.aE f7),by simp[t0,t1,t13,t14,RA,hk,Wp]⟩;omega
  .have q:((j:Int)<l.length)=False:=eq_false (by omega);have SX:j=l.length:=by omega
   apply sR;simp only[go_sem,seval,t0,t1,t5,t13,t14,t15,q];exact ay.pure hs (by rw[SX])
open Go.Proofs Go.Proofs.Tryz
def al(l:List RY):(bl l).cells=[bl l]:=rfl
def ak(l:List RY):(bl l).stays=true:=rfl
def gJ(l:List RY):dz false (bl l)=some (.int .i64 l.length):=by simp[bl,dz]
def iy{U:ai}{l:List RY}{i:Nat}(h:i<l.length):bO U 8 (bl l) (.int .i64 i)=some (.rp (cF l[i])):=by simp[bl,bO,h,cF]
structure lF(l:List RY):Prop where
 len:l.length<=1000000000
 Xp:∀a∈l,-1152921504606846976<=a.y/\a.y<=1152921504606846976/\0<=a.h/\a.h<=1152921504606846976
def xq(l:List RY)(k:Int):aV prog 281 [bl l,vI k] (.bool (decide (0<=k/\k<l.length))):=λU=>by
 refine QN.r (by simp[EP]) ?_;have hl:=gJ l;refine ad.mix 5 ?_;by_cases h0:k>=0
 .have q0:(k>=0)=True:=eq_true h0;by_cases h1:k<l.length
  .have q1:(k<l.length)=True:=eq_true h1;apply sR;simp only[go_sem,seval,EP,q0,q1,hl];exact ay.same (by simp[h0,h1])
  .have q1:(k<l.length)=False:=eq_false h1;apply sR;simp only[go_sem,seval,EP,q0,q1,hl];exact ay.same (by simp[h1])
 .have q0:(k>=0)=False:=eq_false h0;apply sR;simp only[go_sem,seval,EP,q0,hl];exact ay.same (by simp<;>omega)
def Dq(a:RY)(h:-1152921504606846976<=a.y/\a.y<=1152921504606846976/\0<=a.h/\a.h<=1152921504606846976):aV prog 319 [cF a] (vI (a.y+a.h)):=λU=>by
 refine OC.r (by simp[LW]) ?_;have hs:=aa.refl U;have r1:Rq .i64 (a.y+a.h):=aq (by omega) (by omega);refine ad.mix 3 ?_;apply sR;simp only[go_sem,seval,LW,cF];refine af λi1 Z1 s1 a1 f1=>?_;have z1:=hs.none f1;replace hs:=hs.trans s1;simp only[go_sem,seval,a1,r1];exact ay.pure hs rfl
def Sq(l:List RY)(k:Int):RY:=l.getD k.toNat ⟨0,0,0,0,0,0,0,0⟩
def fG(l:List RY)(k:Int):Int:=if 0<=k/\k<l.length then(Sq l k).y+(Sq l k).h else 0
def kZ(l:List RY)(k:Int):Int:=if 0<=k/\k<l.length then(Sq l k).y-fG l (k-1)else 0
def gj(l:List RY)(i k:Int):Int:=if(0<=i/\i<l.length)/\(0<=k/\k<l.length)then(Sq l k).y-(Sq l i).y else 0
def bz{l:List RY}{k:Nat}(h:k<l.length):Sq l k=l[k]:=by simp[Sq,h]
def qt{l:List RY}(hl:lF l)(k:Int):-1152921504606846976<=fG l k/\fG l k<=2305843009213693952:=by
 unfold fG;split
 .rename_i h;obtain⟨n,rfl⟩:∃n:Nat,k=n:=⟨k.toNat,by omega⟩
  have hn:n<l.length:=by omega
  rw[bz hn];have:=hl.Xp _ (List.getElem_mem hn);omega
 .omega
def Dc(l:List RY)(hl:lF l)(k:Int):aV prog 282 [bl l,vI k] (vI (fG l k)):=λU=>by
 refine Ql.r (by simp[Md]) ?_;refine ad.mix 5 ?_;apply sR;simp only[go_sem,seval,Md];refine ad.aB rfl rfl rfl (xq l k _) ?_;unfold fG;by_cases h:0<=k/\k<l.length
 .obtain⟨n,rfl⟩:∃n:Nat,k=n:=⟨k.toNat,by omega⟩
  have hn:n<l.length:=by omega
  have hd:decide (0<=(n:Int)/\(n:Int)<l.length)=true:=by simp;omega
  have Q9:=λU=>iy (U:=U) hn;rw[hd,if_pos h,bz hn];apply sR;simp only[go_sem,seval,Q9,cF];refine ad.aB rfl rfl rfl (Dq l[n] (hl.Xp _ (List.getElem_mem hn)) _) ?_;apply sR;simp only[go_sem,seval];exact ay.same rfl
 .have hd:decide (0<=k/\k<l.length)=false:=by simpa using h
  rw[hd,if_neg h];apply sR;simp only[go_sem,seval];exact ay.same rfl
def JS(l:List RY)(hl:lF l)(k:Int):aV prog 234 [bl l,vI k] (vI (kZ l k)):=λU=>by
 refine PS.r (by simp[L6]) ?_;refine ad.mix 5 ?_;apply sR;simp only[go_sem,seval,L6];refine ad.aB rfl rfl rfl (xq l k _) ?_;unfold kZ;by_cases h:0<=k/\k<l.length
 .obtain⟨n,rfl⟩:∃n:Nat,k=n:=⟨k.toNat,by omega⟩
  have hn:n<l.length:=by omega
  have hd:decide (0<=(n:Int)/\(n:Int)<l.length)=true:=by simp;omega
  have Q9:=λU=>iy (U:=U) hn;have XO:=hl.len;have hy:=hl.Xp _ (List.getElem_mem hn);have hbr:=qt hl ((n:Int)-1);have r1:Rq .i64 ((n:Int)-1):=aq (by omega) (by omega);have r2:Rq .i64 (l[n].y-fG l ((n:Int)-1)):=aq (by omega) (by omega);rw[hd,if_pos h,bz hn];apply sR;simp only[go_sem,seval,Q9,cF,r1];refine Go.bP rfl rfl rfl (Dc l hl ((n:Int)-1)) ?_;apply sG;simp only[go_sem,seval,r2];exact ay.same rfl
 .have hd:decide (0<=k/\k<l.length)=false:=by simpa using h
  rw[hd,if_neg h];apply sR;simp only[go_sem,seval];exact ay.same rfl
def Dd(l:List RY)(hl:lF l)(i k:Int):aV prog 288 [bl l,vI i,vI k] (vI (gj l i k)):=λU=>by
 refine Qj.r (by simp[J6]) ?_;refine ad.mix 8 ?_;apply sR;simp only[go_sem,seval,J6];refine ad.aB rfl rfl rfl (xq l i _) ?_;unfold gj;by_cases h:0<=i/\i<l.length
 .have hd:decide (0<=i/\i<l.length)=true:=by simp;omega
  rw[hd];apply sR;simp only[go_sem,seval];refine ad.aB rfl rfl rfl (xq l k _) ?_;by_cases h2:0<=k/\k<l.length
  .obtain⟨m,rfl⟩:∃m:Nat,i=m:=⟨i.toNat,by omega⟩
   obtain⟨n,rfl⟩:∃n:Nat,k=n:=⟨k.toNat,by omega⟩
   have hm:m<l.length:=by omega
   have hn:n<l.length:=by omega
   have Xq:decide (0<=(n:Int)/\(n:Int)<l.length)=true:=by simp;omega
   have Q9:=λU=>iy (U:=U) hn;have hidx2:=λU=>iy (U:=U) hm;have hy:=hl.Xp _ (List.getElem_mem hn);have hy2:=hl.Xp _ (List.getElem_mem hm);have r1:Rq .i64 (l[n].y-l[m].y):=aq (by omega) (by omega);rw[Xq,if_pos ⟨h,h2⟩,bz hn,bz hm];apply sR;simp only[go_sem,seval,Q9,hidx2,cF,r1];exact ay.same rfl
  .have Xq:decide (0<=k/\k<l.length)=false:=by simpa using h2
   rw[Xq,if_neg (λh=>h2 h.2)];apply sR;simp only[go_sem,seval];exact ay.same rfl
 .have hd:decide (0<=i/\i<l.length)=false:=by simpa using h
  rw[hd,if_neg (λh'=>h h'.1)];apply sR;simp only[go_sem,seval];exact ay.same rfl
open Go.Proofs Go.Proofs.Tryz
def eP(b:List S1)(i fit:Int):Prop:=uN b=true/\0<=i/\i<(b.length:Int)-1/\i<fit
instance (b:List S1) (i fit:Int):Decidable (eP b i fit):=by unfold eP;infer_instance
def nH(b:List S1)(i fit:Int):Int:=if kx b (i+1) fit<0 then BG b (i+1) fit else kx b (i+1) fit
def K9(b:List S1)(hb:b.length<=1000000)(i fit:Int):aV prog 178 [bC b,vI i,vI fit] (.Rf [vI (if eP b i fit then nH b i fit else 0),.bool (decide (eP b i fit))]):=λU=>by
 refine Qu.r (by simp[I4]) ?_;have V2:=A2 b;have r0:Rq .i64 ((b.length:Int)-1):=aq (by omega) (by omega);refine ad.mix 8 ?_;apply sR;simp only[go_sem,seval,I4];refine ad.aB rfl rfl rfl (Kr b hb _) ?_;have bad:¬eP b i fit->ay (.Rf [vI 0,.bool false]) U λr Z'=>r=.Rf [vI (if eP b i fit then nH b i fit else 0),.bool (decide (eP b i fit))]/\Z'=U:=λh=>ay.same (by rw[if_neg h,decide_eq_false h]);generalize hX:(V.Rf [vI (if eP b i fit then nH b i fit else 0),.bool (decide (eP b i fit))])=X at*;cases hm:uN b
 .have fin:=bad (λh=>by rw[h.1]at hm;cases hm);apply sR;simp only[go_sem,seval];exact fin
 by_cases h0:i<0
 .have q0:(i<0)=True:=eq_true h0;have fin:=bad (λh=>by have:=h.2.1;omega);apply sR;simp only[go_sem,seval,q0];exact fin
 have q0:(i<0)=False:=eq_false h0;by_cases h1:i>=(b.length:Int)-1
 .have q1:(i>=(b.length:Int)-1)=True:=eq_true h1;have fin:=bad (λh=>by have:=h.2.2.1;omega);apply sR;simp only[go_sem,seval,q0,V2,r0,q1];exact fin
 have q1:(i>=(b.length:Int)-1)=False:=eq_false h1;by_cases h2:fit<=i
 .have q2:(fit<=i)=True:=eq_true h2;have fin:=bad (λh=>by have:=h.2.2.2;omega);apply sR;simp only[go_sem,seval,q0,V2,r0,q1,q2];exact fin
 have q2:(fit<=i)=False:=eq_false h2;clear bad;have Rg:eP b i fit:=⟨hm,by omega,by omega,by omega⟩
 have r1:Rq .i64 (i+1):=aq (by omega) (by omega);rw[if_pos Rg,decide_eq_true Rg]at hX;subst hX;apply sR;simp only[go_sem,seval,q0,V2,r0,q1,q2,r1];refine ad.aB rfl rfl rfl (HY b hb (i+1) fit _) ?_;unfold nH;by_cases h3:kx b (i+1) fit<0
 .have q3:(kx b (i+1) fit<0)=True:=eq_true h3;rw[if_pos h3];apply sR;simp only[go_sem,seval,q3,r1];refine ad.aB rfl rfl rfl (Lp b hb (i+1) fit _) ?_;apply sR;simp only[go_sem,seval];exact ay.same rfl
 .have q3:(kx b (i+1) fit<0)=False:=eq_false h3;rw[if_neg h3];apply sR;simp only[go_sem,seval,q3];exact ay.same rfl
open Go.Proofs Go.Proofs.Tryz
structure R0 where
 (atom done:Int)
 free:Bool
def bj(s:R0):V:=.agg [vI s.atom,vI s.done,.bool s.free]
def sQ(s:R0)(l:List RY):V:=.agg [vI s.atom,vI s.done,.bool s.free,bl l]
def bZ(l:List RY)(s:R0):Prop:=(0<=s.atom/\s.atom<l.length)/\0<=s.done/\(s.done=0\/s.done<(Sq l s.atom).h)
instance (l:List RY) (s:R0):Decidable (bZ l s):=by unfold bZ;infer_instance
def AQ(l:List RY)(s:R0):aV prog 175 [sQ s l] (.bool (decide (bZ l s))):=λU=>by
 refine OB.r (by simp[K8]) ?_;have hs:=aa.refl U;have hl:=gJ l;obtain⟨a,d,fr⟩:=s;refine ad.mix 3 ?_;apply sR;simp only[go_sem,seval,K8,sQ,al,ak];refine af λi1 Z1 s1 a1 f1=>?_;have z1:=hs.none f1;replace hs:=hs.trans s1;by_cases h0:a>=0
 .have q0:(a>=0)=True:=eq_true h0;by_cases h1:a<l.length
  .have q1:(a<l.length)=True:=eq_true h1;obtain⟨n,rfl⟩:∃n:Nat,a=n:=⟨a.toNat,by omega⟩
   have hn:n<l.length:=by omega
   have Q9:=λU=>iy (U:=U) hn;have hg:=bz hn;by_cases h2:d>=0
   .have q2:(d>=0)=True:=eq_true h2;by_cases h3:d=0
    .have q3:(d=0)=True:=eq_true h3;simp only[go_sem,seval,a1,q0,q1,q2,q3,hl,al,ak];have hh:bZ l ⟨n,d,fr⟩:=⟨⟨h0,h1⟩,h2,.inl h3⟩
     exact ay.pure hs (by rw[decide_eq_true hh])
    .have q3:(d=0)=False:=eq_false h3;by_cases h4:d<l[n].h
     .have q4:(d<l[n].h)=True:=eq_true h4;simp only[go_sem,seval,a1,q0,q1,q2,q3,q4,hl,Q9,cF,al,ak];have hh:bZ l ⟨n,d,fr⟩:=⟨⟨h0,h1⟩,h2,.inr (by rw[hg];exact h4)⟩
      exact ay.pure hs (by rw[decide_eq_true hh])
     .have q4:(d<l[n].h)=False:=eq_false h4;simp only[go_sem,seval,a1,q0,q1,q2,q3,q4,hl,Q9,cF,al,ak];exact ay.pure hs (by rw[decide_eq_false (λh:bZ l ⟨n,d,fr⟩=>by rcases h.2.2 with h|h;exact h3 h;rw[hg]at h;exact h4 h)])
   .have q2:(d>=0)=False:=eq_false h2;simp only[go_sem,seval,a1,q0,q1,q2,hl,al,ak];exact ay.pure hs (by rw[decide_eq_false (λh:bZ l ⟨n,d,fr⟩=>h2 h.2.1)])
  .have q1:(a<l.length)=False:=eq_false h1;simp only[go_sem,seval,a1,q0,q1,hl,al,ak];exact ay.pure hs (by rw[decide_eq_false (λh:bZ l ⟨a,d,fr⟩=>h1 h.1.2)])
 .have q0:(a>=0)=False:=eq_false h0;simp only[go_sem,seval,a1,q0,hl,al,ak];exact ay.pure hs (by rw[decide_eq_false (λh:bZ l ⟨a,d,fr⟩=>h0 h.1.1)])
def pP(l:List RY)(s:R0):aV prog 173 [bl l,bj s] (.bool (decide (bZ l s))):=λU=>by
 refine QS.r (by simp[L4]) ?_;have hs:=aa.refl U;have hc:=AQ l s;obtain⟨a,d,fr⟩:=s;rw[sQ]at hc;refine ad.mix 5 ?_;apply sR;simp only[go_sem,seval,L4,bj,al,ak];refine af λi3 Z3 s3 a3 f3=>?_;have z3:=hs.none f3;replace hs:=hs.trans s3;simp only[go_sem,seval,a3,al,ak];refine ad.aB rfl rfl rfl (hc _) ?_;apply sR;simp only[go_sem,seval];exact ay.pure hs rfl
def B2(l:List RY)(hl:lF l)(s:R0)(h:bZ l s)(hd:s.done<=1152921504606846976):aV prog 176 [sQ s l] (vI ((Sq l s.atom).h-s.done)):=λU=>by
 refine PE.r (by simp[LJ]) ?_;have hs:=aa.refl U;obtain⟨a,d,fr⟩:=s;obtain⟨⟨h0,h1⟩,h2,h3⟩:=h;simp only at h0 h1 h2 h3 hd|-;obtain⟨n,rfl⟩:∃n:Nat,a=n:=⟨a.toNat,by omega⟩
 have hn:n<l.length:=by omega
 have Q9:=λU=>iy (U:=U) hn;have hy:=hl.Xp _ (List.getElem_mem hn);rw[bz hn];have r1:Rq .i64 (l[n].h-d):=aq (by omega) (by omega);refine ad.mix 3 ?_;apply sR;simp only[go_sem,seval,LJ,sQ,al,ak];refine af λi1 Z1 s1 a1 f1=>?_;have z1:=hs.none f1;replace hs:=hs.trans s1;simp only[go_sem,seval,a1,Q9,r1,cF,al,ak];exact ay.pure hs rfl
def im(l:List RY)(s:R0)(RJ:Int):Int:=if bZ l s/\s.free=true/\s.done=0/\kZ l s.atom+((Sq l s.atom).h-s.done)<=RJ then kZ l s.atom else 0
def F0{l:List RY}(hl:lF l)(k:Int):-3458764513820540928<=kZ l k/\kZ l k<=2305843009213693952:=by
 unfold kZ;have hb:=qt hl (k-1);split
 .rename_i h;obtain⟨n,rfl⟩:∃n:Nat,k=n:=⟨k.toNat,by omega⟩
  have hn:n<l.length:=by omega
  rw[bz hn];have:=hl.Xp _ (List.getElem_mem hn);omega
 .omega
def Cl(l:List RY)(hl:lF l)(s:R0)(RJ:Int):aV prog 177 [bl l,bj s,vI RJ] (vI (im l s RJ)):=λU=>by
 refine OE.r (by simp[Jp]) ?_;have hs:=aa.refl U;have hc:=AQ l s;have W2:=λh hd=>B2 l hl s h hd;have XD:=F0 hl s.atom;obtain⟨a,d,fr⟩:=s;rw[sQ]at hc W2;simp only at XD W2;refine ad.mix 9 ?_;apply sR;simp only[go_sem,seval,Jp,bj,al,ak];refine af λi4 Z4 s4 a4 f4=>?_;have z4:=hs.none f4;replace hs:=hs.trans s4;simp only[go_sem,seval,a4,al,ak];refine af λi7 Z7 s7 a7 f7=>?_;have n47:=ao a4 f7;replace a4:=s7 _ _ a4;have z7:=hs.none f7;replace hs:=hs.trans s7;simp only[go_sem,seval,a7,a4,al,ak];refine ad.aB rfl rfl rfl (hc _) ?_;have bad:¬(bZ l ⟨a,d,fr⟩/\fr=true/\d=0/\kZ l a+((Sq l a).h-d)<=RJ)->im l ⟨a,d,fr⟩ RJ=0:=λh=>if_neg h;by_cases hm:bZ l ⟨a,d,fr⟩
 .rw[decide_eq_true hm];cases fr
  .apply sR;simp only[go_sem,seval,a7,al,ak];exact ay.pure (hs.aE z7) (by rw[bad (λh=>by cases h.2.1)])
  have Vv:=hm.2.1;simp only at Vv;by_cases hd:d>0
  .have q:(d>0)=True:=eq_true hd;apply sR;simp only[go_sem,seval,a7,q,al,ak];exact ay.pure (hs.aE z7) (by rw[bad (λh=>by have:=h.2.2.1;omega)])
  .have q:(d>0)=False:=eq_false hd;obtain rfl:d=0:=by omega
   apply sR;simp only[go_sem,seval,a7,q,al,ak];refine ad.aB rfl rfl rfl (JS l hl a _) ?_;have hlf':=W2 hm (by omega);have hy:0<=(Sq l a).h/\(Sq l a).h<=1152921504606846976:=by
    obtain⟨h0,h1⟩:=hm.1;simp only at h0 h1;obtain⟨n,rfl⟩:∃n:Nat,a=n:=⟨a.toNat,by omega⟩
    have hn:n<l.length:=by omega
    rw[bz hn];exact(hl.Xp _ (List.getElem_mem hn)).2.2
   have r1:Rq .i64 (kZ l a+((Sq l a).h-0)):=aq (by omega) (by omega);apply sR;simp only[go_sem,seval,a7,ag,al,ak];refine ad.aB rfl rfl rfl (hlf' _) ?_;by_cases h4:kZ l a+((Sq l a).h-0)<=RJ
   .have q4:(kZ l a+((Sq l a).h-0)<=RJ)=True:=eq_true h4;have hk:im l ⟨a,0,true⟩ RJ=kZ l a:=if_pos ⟨hm,rfl,rfl,h4⟩;rw[hk];apply sR;simp only[go_sem,seval,r1,q4];exact ay.pure (hs.aE z7) rfl
   .have q4:(kZ l a+((Sq l a).h-0)<=RJ)=False:=eq_false h4;rw[bad (λh=>h4 h.2.2.2)];apply sR;simp only[go_sem,seval,r1,q4];exact ay.pure (hs.aE z7) rfl
 .rw[decide_eq_false hm];apply sR;simp only[go_sem,seval,a7,al,ak];exact ay.pure (hs.aE z7) (by rw[bad (λh=>hm h.1)])
open Go.Proofs Go.Proofs.Tryz
def gS(l:List RY)(s:R0):Int:=if bZ l s then(Sq l s.atom).h-s.done else 0
def H9(l:List RY)(hl:lF l)(s:R0)(hd:s.done<=1152921504606846976):aV prog 119 [bl l,bj s] (vI (gS l s)):=λU=>by
 refine Pv.r (by simp[Jl]) ?_;have hs:=aa.refl U;have hc:=AQ l s;have W2:=λh=>B2 l hl s h hd;unfold gS;obtain⟨a,d,fr⟩:=s;rw[sQ]at hc W2;refine ad.mix 6 ?_;apply sR;simp only[go_sem,seval,Jl,bj,al,ak];refine af λi3 Z3 s3 a3 f3=>?_;have z3:=hs.none f3;replace hs:=hs.trans s3;simp only[go_sem,seval,a3,al,ak];refine af λi5 Z5 s5 a5 f5=>?_;have Yc:=ao a3 f5;replace a3:=s5 _ _ a3;have z5:=hs.none f5;replace hs:=hs.trans s5;simp only[go_sem,seval,a5,a3,al,ak];refine ad.aB rfl rfl rfl (hc _) ?_;by_cases hm:bZ l ⟨a,d,fr⟩
 .rw[decide_eq_true hm,if_pos hm];apply sR;simp only[go_sem,seval,a5,al,ak];refine ad.aB rfl rfl rfl (W2 hm _) ?_;apply sR;simp only[go_sem,seval];exact ay.pure (hs.aE z5) rfl
 .rw[decide_eq_false hm,if_neg hm];apply sR;simp only[go_sem,seval];exact ay.pure (hs.aE z5) rfl
def dp(l:List RY)(s:R0)(kept shift k:Int):Int:=if bZ l s/\s.atom<=k/\k<l.length then gj l s.atom k-s.done+kept+shift else 0
def qs{l:List RY}(hl:lF l)(i k:Int):-2305843009213693952<=gj l i k/\gj l i k<=2305843009213693952:=by
 unfold gj;split
 .rename_i h;obtain⟨n,rfl⟩:∃n:Nat,k=n:=⟨k.toNat,by omega⟩
  obtain⟨m,rfl⟩:∃m:Nat,i=m:=⟨i.toNat,by omega⟩
  have hn:n<l.length:=by omega
  have hm:m<l.length:=by omega
  rw[bz hn,bz hm];have h1:=hl.Xp _ (List.getElem_mem hn);have h2:=hl.Xp _ (List.getElem_mem hm);omega
 .omega
def xZ(l:List RY)(hl:lF l)(s:R0)(hd:s.done<=1152921504606846976)(kept shift k:Int)(hk:-1152921504606846976<=kept/\kept<=2305843009213693952)(UM:0<=shift/\shift<=1152921504606846976):
 aV prog 240 [bl l,bj s,vI kept,vI shift,vI k] (vI (dp l s kept shift k)):=λU=>by
 refine Om.r (by simp[MF]) ?_;have hs:=aa.refl U;have hc:=pP l s;have hor:=qs hl s.atom k;have hlen:=gJ l;have bad:¬(bZ l s/\s.atom<=k/\k<l.length)->dp l s kept shift k=0:=λh=>if_neg h;have XE:(bZ l s/\s.atom<=k/\k<l.length)->dp l s kept shift k=gj l s.atom k-s.done+kept+shift:=λh=>if_pos h;generalize dp l s kept shift k=P at*;obtain⟨a,d,fr⟩:=s;rw[bj]at hc;simp only at hor hd XE bad;refine ad.mix 11 ?_;apply sR;simp only[go_sem,seval,MF,bj,al,ak];refine af λi6 Z6 s6 a6 f6=>?_;have z6:=hs.none f6;replace hs:=hs.trans s6;simp only[go_sem,seval,a6,al,ak];refine ad.aB rfl rfl rfl (hc _) ?_;by_cases hm:bZ l ⟨a,d,fr⟩
 .rw[decide_eq_true hm];by_cases h1:k<a
  .have q1:(k<a)=True:=eq_true h1;apply sR;simp only[go_sem,seval,a6,q1,al,ak];exact ay.pure hs (by rw[bad (λh=>by omega)])
  have q1:(k<a)=False:=eq_false h1;by_cases h2:k>=l.length
  .have q2:(k>=l.length)=True:=eq_true h2;apply sR;simp only[go_sem,seval,a6,q1,q2,hlen,al,ak];exact ay.pure hs (by rw[bad (λh=>by omega)])
  have q2:(k>=l.length)=False:=eq_false h2;rw[XE ⟨hm,by omega,by omega⟩];have Vv:=hm.2.1;simp only at Vv;have r1:Rq .i64 (gj l a k-d):=aq (by omega) (by omega);have r2:Rq .i64 (gj l a k-d+kept):=aq (by omega) (by omega);have r3:Rq .i64 (gj l a k-d+kept+shift):=aq (by omega) (by omega);apply sR;simp only[go_sem,seval,a6,q1,q2,hlen,al,ak];refine Go.bP rfl rfl rfl (Dd l hl a k) ?_;apply sG;simp only[go_sem,seval,a6,r1,r2,r3];exact ay.pure hs rfl
 .rw[decide_eq_false hm];apply sR;simp only[go_sem,seval,a6,al,ak];exact ay.pure hs (by rw[bad (λh=>hm h.1)])
open Go.Proofs Go.Proofs.Tryz
def HT{m:Int}(h1:0<=m)(h2:m<=18446744073709551615):Rq .u64 m:=by
 unfold Rq IntKind.wrap;simp only[IntKind.signed,IntKind.bits];simp;omega
def kC(p:Nat->Bool):Nat->Nat->Nat->Nat
 |0,i,_=>i
 |f+1,i,j=>if i<j then if p ((i+j)/2)then kC p f i ((i+j)/2)else kC p f ((i+j)/2+1) j else i
def AL(p:Nat->Bool)(n:Nat):Nat:=kC p n 0 n
def mS(p:Nat->Bool):∀(f g i j:Nat),j-i<=f->j-i<=g->kC p f i j=kC p g i j
 |0,0,_,_,_,_=>rfl
 |0,g+1,i,j,h,_=>by rw[kC,kC,if_neg (by omega)]
 |f+1,0,i,j,_,h=>by rw[kC,kC,if_neg (by omega)]
 |f+1,g+1,i,j,h1,h2=>by
  rw[kC,kC];split
  .rename_i H';split
   .exact mS p f g i ((i+j)/2) (by omega) (by omega)
   .exact mS p f g ((i+j)/2+1) j (by omega) (by omega)
  .rfl
def Fs{f:FuncId}{caps:List V}(p:Nat->Bool)(n:Nat)(hn:n<=1000000000){U:ai}(hf:∀i:Nat,i<n->aD prog f (vI i::caps) U λr Z'=>r=.bool (p i)/\Z'=U):
 aD prog 238 [vI n,.fn f caps] U λr Z'=>r=vI (AL p n)/\Z'=U:=by
 refine O4.r (by simp[KW]) ?_;refine ad.mix 8 ?_;apply sR;simp only[go_sem,seval,KW];refine ad.loop (λm st=>∃i j:Nat,i<=j/\j<=n/\m=j-i/\AL p n=kC p (j-i) i j/\st.U=U/\st.s 1=.fn f caps/\st.s 5=vI i/\st.s 6=vI j) n ?_ ?_
 .exact⟨0,n,by omega,by omega,rfl,rfl,rfl,rfl,rfl,rfl⟩
 .rintro m ⟨S,J⟩ ⟨i,j,hij,hjn,rfl,heq,RH,t1,t5,t6⟩;simp only at RH t1 t5 t6;subst RH;refine ad.mix 8 ?_;by_cases H':i<j
  .have q:((i:Int)<j)=True:=eq_true (by omega);have r1:Rq .i64 ((i:Int)+j):=aq (by omega) (by omega);apply sR;simp only[go_sem,seval,t1,t5,t6,q,r1];have hh:((i:Int)+j).fdiv (2^min 1 64)=(((i+j)/2:Nat):Int):=by
    rw[show(2^min 1 64:Int)=2 from rfl,Int.fdiv_eq_ediv_of_nonneg _ (by decide)];omega
   rw[hh];refine⟨HT (by omega) (by omega),aq (by omega) (by omega),?_⟩;obtain⟨k,hk⟩:∃k:Nat,k=(i+j)/2:=⟨_,rfl⟩
   rw[<-hk];obtain⟨w,hw⟩:∃w:Nat,j-i=w+1:=⟨j-i-1,by omega⟩
   rw[hw,kC,if_pos H',<-hk]at heq;refine ad.aB rfl rfl rfl (hf k (by omega)) ?_;have r2:Rq .i64 ((k:Int)+1):=aq (by omega) (by omega);cases hp:p k
   .rw[hp]at heq;apply sR;simp only[go_sem,seval,t1,t5,t6,r2];refine⟨_,?_,k+1,j,by omega,hjn,rfl,?_,by simp[t1,t6]⟩
    .omega
    .rw[heq];exact mS p _ _ _ _ (by omega) (by omega)
   .rw[hp]at heq;apply sR;simp only[go_sem,seval,t1,t5,t6];refine⟨_,?_,i,k,by omega,by omega,rfl,?_,by simp[t1,t5]⟩
    .omega
    .rw[heq];exact mS p _ _ _ _ (by omega) (by omega)
  .have q:((i:Int)<j)=False:=eq_false (by omega);have TV:i=j:=by omega
   subst TV;apply sR;simp only[go_sem,seval,t1,t5,t6,q];refine ay.same ?_;rw[heq,Nat.sub_self];rfl
open Go.Proofs Go.Proofs.Tryz
def fE(l:List RY)(s:R0)(kept shift body:Int)(n:Nat):Bool:=decide (dp l s kept shift (s.atom+n)+(Sq l (s.atom+n)).h>body)
def iS(l:List RY)(s:R0)(kept shift body:Int):Int:=if bZ l s then s.atom+AL (fE l s kept shift body) (l.length-s.atom.toNat)else 0
def xz(p:Nat->Bool):∀(f i j:Nat),i<=j->kC p f i j<=j
 |0,i,j,h=>h
 |f+1,i,j,h=>by
  rw[kC];split
  .split
   .exact Nat.le_trans (xz p f _ _ (by omega)) (by omega)
   .exact xz p f _ _ (by omega)
  .exact h
def BJ(p:Nat->Bool)(n:Nat):AL p n<=n:=xz p n 0 n (Nat.zero_le n)
def nF{l:List RY}(hl:lF l){s:R0}(hd:s.done<=1152921504606846976){kept shift:Int}(hk:-1152921504606846976<=kept/\kept<=2305843009213693952)(UM:0<=shift/\shift<=1152921504606846976)(k:Int):
 -4611686018427387904<=dp l s kept shift k/\dp l s kept shift k<=5764607523034234880:=by
 unfold dp;have h1:=qs hl s.atom k;split
 .rename_i h;have:=h.1.2.1;omega
 .omega
def Ey(l:List RY)(hl:lF l)(s:R0)(hm:bZ l s)(hd:s.done<=1152921504606846976)(kept shift body:Int)(hk:-1152921504606846976<=kept/\kept<=2305843009213693952)(UM:0<=shift/\shift<=1152921504606846976)
 {U:ai}{i5 i6 i7 i8 i9:Nat}(a5:U i5=some ⟨77,1,[bl l]⟩)(a6:U i6=some ⟨42,3,[bj s]⟩)(a7:U i7=some ⟨3,1,[vI kept]⟩)(a8:U i8=some ⟨3,1,[vI shift]⟩)(a9:U i9=some ⟨3,1,[vI body]⟩)
 (n:Nat)(hn:n<l.length-s.atom.toNat):
 aD prog 239 [vI n,.ptr i6 0 0,.ptr i5 0 0,.ptr i7 0 0,.ptr i8 0 0,.ptr i9 0 0] U λr Z'=>r=.bool (fE l s kept shift body n)/\Z'=U:=by
 refine Oc.r (by simp[GB]) ?_;have Zj:=nF hl hd hk UM (s.atom+n);have Ua:=xZ l hl s hd kept shift (s.atom+n) hk UM;unfold fE;have XO:=hl.len;obtain⟨a,d,fr⟩:=s;obtain⟨h0,h1⟩:=hm.1;rw[bj]at a6 Ua;simp only at h0 h1 hn Zj Ua|-;obtain⟨m,rfl⟩:∃m:Nat,a=m:=⟨a.toNat,by omega⟩
 have e1:(m:Int)+(n:Int)=((m+n:Nat):Int):=by omega
 rw[e1]at Zj Ua|-;have hmn:m+n<l.length:=by omega
 have Q9:=λU=>iy (U:=U) hmn;have hy:=hl.Xp _ (List.getElem_mem hmn);rw[bz hmn];have r1:Rq .i64 ((m+n:Nat):Int):=aq (by omega) (by omega);generalize dp l ⟨m,d,fr⟩ kept shift ((m+n:Nat):Int)=P at*;have r2:Rq .i64 (P+l[m+n].h):=aq (by omega) (by omega);generalize m+n=q at*;refine ad.mix 9 ?_;by_cases hb:P+l[q].h>body
 .have q1:(P+l[q].h>body)=True:=eq_true hb;apply sR;simp only[go_sem,seval,GB,a5,a6,a7,a8,a9,e1,r1,al,ak];refine Go.bP rfl rfl rfl Ua ?_;apply sG;simp only[go_sem,seval,a5,a6,a7,a8,a9,r2,Q9,cF,q1,al,ak];exact ay.same rfl
 .have q1:(P+l[q].h>body)=False:=eq_false hb;apply sR;simp only[go_sem,seval,GB,a5,a6,a7,a8,a9,e1,r1,al,ak];refine Go.bP rfl rfl rfl Ua ?_;apply sG;simp only[go_sem,seval,a5,a6,a7,a8,a9,r2,Q9,cF,q1,al,ak];exact ay.same rfl
def yA(l:List RY)(hl:lF l)(s:R0)(hd:s.done<=1152921504606846976)(kept shift body:Int)(hk:-1152921504606846976<=kept/\kept<=2305843009213693952)(UM:0<=shift/\shift<=1152921504606846976):
 aV prog 179 [bl l,bj s,vI kept,vI shift,vI body] (vI (iS l s kept shift body)):=λU=>by
 refine Q4.r (by simp[Km]) ?_;have hs:=aa.refl U;have hc:=pP l s;have hlen:=gJ l;have XO:=hl.len;refine ad.mix 12 ?_;have TS:(bj s).cells=[vI s.atom,vI s.done,.bool s.free]:=rfl;have UH:(bj s).stays=true:=rfl;apply sR;simp only[go_sem,seval,Km,TS,UH,al,ak];refine af λi5 Z5 s5 a5 f5=>?_;have z5:=hs.none f5;replace hs:=hs.trans s5;simp only[go_sem,seval,TS,UH,al,ak];refine af λi6 Z6 s6 a6 f6=>?_;have n56:=ao a5 f6;replace a5:=s6 _ _ a5;have z6:=hs.none f6;replace hs:=hs.trans s6;simp only[go_sem,seval,TS,UH,al,ak];refine af λi7 Z7 s7 a7 f7=>?_;have n57:=ao a5 f7;replace a5:=s7 _ _ a5;have VK:=ao a6 f7;replace a6:=s7 _ _ a6;have z7:=hs.none f7;replace hs:=hs.trans s7;simp only[go_sem,seval,TS,UH,al,ak];refine af λi8 Z8 s8 a8 f8=>?_;have n58:=ao a5 f8;replace a5:=s8 _ _ a5;have n68:=ao a6 f8;replace a6:=s8 _ _ a6;have Xk:=ao a7 f8;replace a7:=s8 _ _ a7;have z8:=hs.none f8;replace hs:=hs.trans s8;simp only[go_sem,seval,TS,UH,al,ak];refine af λi9 Z9 s9 a9 f9=>?_;have n59:=ao a5 f9;replace a5:=s9 _ _ a5;have n69:=ao a6 f9;replace a6:=s9 _ _ a6;have n79:=ao a7 f9;replace a7:=s9 _ _ a7;have XL:=ao a8 f9;replace a8:=s9 _ _ a8;have z9:=hs.none f9;replace hs:=hs.trans s9;have b6:=a6;rw[bj]at b6;simp only[go_sem,seval,a5,b6,al,ak];refine ad.aB rfl rfl rfl (hc _) ?_;unfold iS;by_cases hm:bZ l s
 .obtain⟨h0,h1⟩:=hm.1;obtain⟨m,hmm⟩:∃m:Nat,s.atom=m:=⟨s.atom.toNat,by omega⟩
  have hn:((l.length:Int)-s.atom)=((l.length-s.atom.toNat:Nat):Int):=by omega
  have r1:Rq .i64 ((l.length-s.atom.toNat:Nat):Int):=aq (by omega) (by omega);rw[decide_eq_true hm,if_pos hm];apply sR;simp only[go_sem,seval,a5,b6,hlen,hn,r1,al,ak];refine ad.aB rfl rfl rfl (Fs (fE l s kept shift body) (l.length-s.atom.toNat) (by omega) (λi hi=>Ey l hl s hm hd kept shift body hk UM a5 a6 a7 a8 a9 i hi)) ?_;have hse:=BJ (fE l s kept shift body) (l.length-s.atom.toNat);have r2:Rq .i64 (s.atom+(AL (fE l s kept shift body) (l.length-s.atom.toNat):Nat)):=aq (by omega) (by omega);apply sR;simp only[go_sem,seval,b6,r2];exact ay.pure hs rfl
 .rw[decide_eq_false hm,if_neg hm];apply sR;simp only[go_sem,seval];exact ay.pure hs rfl
open Go.Proofs Go.Proofs.Tryz
structure SU where
 (node atom fr x y w h:Int)
deriving DecidableEq
def bo(f:SU):V:=.agg [vI f.node,vI f.atom,vI f.fr,vI f.x,vI f.y,vI f.w,vI f.h]
def fo(l:List RY)(k:Int):SU:=⟨(Sq l k).node,k,0,(Sq l k).x,0,(Sq l k).w,(Sq l k).h⟩
def SU.bT(f:SU)(d:Int):SU:={ f with fr:=d,h:=f.h-d }
def SU.cut(f:SU)(a:Int):SU:={ f with h:=min f.h a }
def jh(l:List RY)(f:SU):R0:=if f.fr+f.h<(Sq l f.atom).h then⟨f.atom,f.fr+f.h,false⟩else⟨f.atom+1,0,false⟩
def Ek(l:List RY)(k:Nat)(hk:k<l.length):aV prog 289 [bl l,vI k] (bo (fo l k)):=λU=>by
 refine O2.r (by simp[LC]) ?_;have hs:=aa.refl U;have Q9:=λU=>iy (U:=U) hk;rw[fo,bz hk];refine ad.mix 6 ?_;apply sR;simp only[go_sem,seval,LC];refine af λi4 Z4 s4 a4 f4=>?_;have z4:=hs.none f4;replace hs:=hs.trans s4;simp only[go_sem,seval,Q9,cF,al,ak];refine af λi5 Z5 s5 a5 f5=>?_;have Tp:=ao a4 f5;replace a4:=s5 _ _ a4;have z5:=hs.none f5;replace hs:=hs.trans s5;simp only[go_sem,seval,a5,a4,ab Tp,al,ak];exact ay.pure ((hs.aE z5).aE z4) rfl
def zK(f:SU)(d:Int)(hr:Rq .i64 (f.h-d)){U:ai}{i:Nat}(h:U i=some ⟨367,7,[bo f]⟩):
 aD prog 290 [.ptr i 0 0,vI d] U λ_ Z'=>Z'=C' U i ⟨367,7,[bo (f.bT d)]⟩:=by
 refine On.r (by simp[KH]) ?_;rw[bo]at h;refine ad.mix 4 ?_;generalize hX:(C' U i ⟨367,7,[bo (f.bT d)]⟩)=X;apply sR;simp only[go_sem,seval,KH,h,hr];exact⟨_,_,aa.refl _,Wk.refl (aa.refl _) _,hX⟩
def G2(f:SU)(a:Int){U:ai}{i:Nat}(h:U i=some ⟨367,7,[bo f]⟩):
 aD prog 291 [.ptr i 0 0,vI a] U λ_ Z'=>Z'=C' U i ⟨367,7,[bo (f.cut a)]⟩:=by
 refine Q0.r (by simp[Jj]) ?_;rw[bo]at h;refine ad.mix 4 ?_;generalize hX:(C' U i ⟨367,7,[bo (f.cut a)]⟩)=X;apply sR;simp only[go_sem,seval,Jj,h,e8];exact⟨_,_,aa.refl _,Wk.refl (aa.refl _) _,hX⟩
def Ay(l:List RY)(f:SU)(k:Nat)(hf:f.atom=k)(hk:k<l.length)(hl:l.length<=1000000000)(hr:Rq .i64 (f.fr+f.h)){U:ai}{i:Nat}(h:U i=some ⟨367,7,[bo f]⟩):
 aD prog 292 [.ptr i 0 0,bl l] U λr Z'=>r=bj (jh l f)/\Z'=U:=by
 refine Oo.r (by simp[KV]) ?_;have hs:=aa.refl U;have Q9:=λU=>iy (U:=U) hk;obtain⟨nd,RD,fr,x,y,w,hh⟩:=f;simp only at hf hr;subst hf;rw[bo]at h;unfold jh;simp only;rw[bz hk];have r1:Rq .i64 ((k:Int)+1):=aq (by omega) (by omega);refine ad.mix 6 ?_;apply sR;simp only[go_sem,seval,KV];refine af λi4 Z4 s4 a4 f4=>?_;have z4:=hs.none f4;replace hs:=hs.trans s4;have b:=s4 _ _ h;have n4:i≠i4:=ao h f4;by_cases hc:fr+hh<l[k].h
 .have q:(fr+hh<l[k].h)=True:=eq_true hc;rw[if_pos hc];simp only[go_sem,seval,a4,b,hr,r1,q,Q9,cF];exact ay.pure (hs.aE z4) rfl
 .have q:(fr+hh<l[k].h)=False:=eq_false hc;rw[if_neg hc];simp only[go_sem,seval,a4,b,hr,r1,q,Q9,cF];exact ay.pure (hs.aE z4) rfl
open Go.Proofs Go.Proofs.Tryz
def kA{s:Nat->V}{U:ai}{a1 a2:Bool}{n1 n2 d e:Nat}{Post:V->ai->Prop}:
 Vr [.cell a1 n1 (.t d),.cell a2 n2 (.t e)] ⟨s,U⟩ Post=dU (bS U a1 n1 (s d)) λv=>dU (bS U a2 n2 (s e)) λw=>ay (.Rf [v,w]) U Post:=by
 unfold Vr ay mX;simp only[eV,gH,VX.ev];cases bS U a1 n1 (s d)<;>cases bS U a2 n2 (s e)<;>simp[dU]
def dT(l:List RY)(s:R0)(RJ:Int):SU:=((fo l s.atom).bT s.done).cut RJ
def kz(l:List RY)(s:R0)(RJ:Int):Prop:=bZ l s/\1<=RJ
instance (l:List RY) (s:R0) (RJ:Int):Decidable (kz l s RJ):=by unfold kz;infer_instance
def ic(l:List RY)(s:R0)(RJ:Int):SU:=if kz l s RJ then dT l s RJ else⟨0,0,0,0,0,0,0⟩
def ew(l:List RY)(s:R0)(RJ:Int):R0:=if kz l s RJ then jh l (dT l s RJ)else⟨0,0,false⟩
def Mj(l:List RY)(hl:lF l)(s:R0)(hd:s.done<=1152921504606846976)(RJ:Int):aV prog 241 [bl l,bj s,vI RJ] (.Rf [bo (ic l s RJ),bj (ew l s RJ)]):=λU=>by
 refine Qb.r (by simp[I0]) ?_;have hs:=aa.refl U;have XO:=hl.len;have TS:(bj s).cells=[vI s.atom,vI s.done,.bool s.free]:=rfl;have UH:(bj s).stays=true:=rfl;refine ad.mix 9 ?_;apply sR;simp only[go_sem,seval,I0,TS,UH,al,ak];refine af λi4 Z4 s4 a4 f4=>?_;have z4:=hs.none f4;replace hs:=hs.trans s4;simp only[go_sem,seval];refine af λi6 Z6 s6 a6 f6=>?_;have Zd:=ao a4 f6;replace a4:=s6 _ _ a4;have z6:=hs.none f6;replace hs:=hs.trans s6;simp only[go_sem,seval];refine af λi7 Z7 s7 a7 f7=>?_;have n47:=ao a4 f7;replace a4:=s7 _ _ a4;have VK:=ao a6 f7;replace a6:=s7 _ _ a6;have z7:=hs.none f7;replace hs:=hs.trans s7;have b4:=a4;rw[bj]at b4;simp only[go_sem,seval,b4,al,ak];refine ad.aB rfl rfl rfl (pP l s _) ?_;have bad:¬kz l s RJ->(bo (ic l s RJ)=.agg [vI 0,vI 0,vI 0,vI 0,vI 0,vI 0,vI 0]/\bj (ew l s RJ)=.agg [vI 0,vI 0,.bool false]):=λh=>by
  rw[ic,ew,if_neg h,if_neg h];exact⟨rfl,rfl⟩
 have XE:kz l s RJ->(ic l s RJ=dT l s RJ/\ew l s RJ=jh l (dT l s RJ)):=λh=>⟨if_pos h,if_pos h⟩
 generalize ic l s RJ=X at*;generalize ew l s RJ=Y at*;by_cases hm:bZ l s
 .rw[decide_eq_true hm];by_cases h1:RJ<1
  .have q1:(RJ<1)=True:=eq_true h1;obtain⟨e1,e2⟩:=bad (λh=>by have:=h.2;omega);rw[e1,e2];apply sR;simp only[go_sem,seval,a6,a7,ab VK,ab VK.symm,q1,kA];exact ay.pure ((hs.aE z6).aE z7) rfl
  have q1:(RJ<1)=False:=eq_false h1;obtain⟨rfl,rfl⟩:=XE ⟨hm,by omega⟩;clear XE bad;obtain⟨h0,h2⟩:=hm.1;obtain⟨k,hk⟩:∃k:Nat,s.atom=k:=⟨s.atom.toNat,by omega⟩
  have Tv:k<l.length:=by omega
  apply sR;simp only[go_sem,seval,b4,hk,q1,al,ak];refine ad.aB rfl rfl rfl (Ek l k Tv _) ?_;have Va:∀f,(bo f).cells=[vI f.node,vI f.atom,vI f.fr,vI f.x,vI f.y,vI f.w,vI f.h]:=λ_=>rfl;apply sR;simp only[go_sem,seval];refine af λi8 Z8 s8 a8 f8=>?_;have n48:=ao a4 f8;replace a4:=s8 _ _ a4;have n68:=ao a6 f8;replace a6:=s8 _ _ a6;have Xk:=ao a7 f8;replace a7:=s8 _ _ a7;have z8:=hs.none f8;replace hs:=hs.trans s8;have Vv:=hm.2.1;have hy:=hl.Xp _ (List.getElem_mem Tv);have hdh:s.done=0\/s.done<l[k].h:=by have:=hm.2.2;rw[hk,bz Tv]at this;exact this
  have YQ:(fo l k).h=l[k].h:=by rw[fo,bz Tv]
  have Tk:∀f,(bo f).stays=true:=λ_=>rfl;rw[bj]at a4;simp only[go_sem,seval,a8,a4,ab n48,Va,Tk];generalize SC:C' _ i8 _=Y8;replace a8:=(congrFun SC i8).symm.trans ag;replace a4:=((congrFun SC i4).symm.trans (ab n48)).trans a4;replace a6:=((congrFun SC i6).symm.trans (ab n68)).trans a6;replace a7:=((congrFun SC i7).symm.trans (ab Xk)).trans a7;replace hs:=Eq.subst (motive:=aa _) SC (hs.aE z8);clear SC;have h8:Y8 i8=some ⟨367,7,[bo (fo l k)]⟩:=a8;refine ad.call rfl rfl rfl (zK (fo l k) s.done (aq (by omega) (by omega)) h8) ?_;rintro-Z9 rfl;generalize SC:C' _ i8 _=Y8;replace a8:=(congrFun SC i8).symm.trans ag;replace a4:=((congrFun SC i4).symm.trans (ab n48)).trans a4;replace a6:=((congrFun SC i6).symm.trans (ab n68)).trans a6;replace a7:=((congrFun SC i7).symm.trans (ab Xk)).trans a7;replace hs:=Eq.subst (motive:=aa _) SC (hs.aE z8);clear SC;apply sR;simp only[go_sem,seval];refine ad.call rfl rfl rfl (G2 ((fo l k).bT s.done) RJ a8) ?_;rintro-Z9 rfl;generalize SC:C' _ i8 _=Y8;replace a8:=(congrFun SC i8).symm.trans ag;replace a4:=((congrFun SC i4).symm.trans (ab n48)).trans a4;replace a6:=((congrFun SC i6).symm.trans (ab n68)).trans a6;replace a7:=((congrFun SC i7).symm.trans (ab Xk)).trans a7;replace hs:=Eq.subst (motive:=aa _) SC (hs.aE z8);clear SC;have WE:((fo l k).bT s.done).cut RJ=dT l s RJ:=by rw[dT,hk]
  rw[WE]at a8;have ha:(dT l s RJ).atom=k:=by rw[<-WE];rfl
  have Us:(dT l s RJ).fr=s.done:=by rw[<-WE];rfl
  have hhh:(dT l s RJ).h=min (l[k].h-s.done) RJ:=by rw[<-WE,<-YQ];rfl
  have ZQ:=λ(Z1:ai) (h1:aa Y8 Z1)=>Ay l (dT l s RJ) k ha Tv XO (aq (by omega) (by omega)) (h1 _ _ a8);generalize jh l (dT l s RJ)=Y at*;generalize dT l s RJ=X at*;have b8:=a8;rw[bo]at b8;apply sR;simp only[go_sem,seval,b8];refine Go.xB rfl rfl rfl (λZ1 h1=>ZQ Z1 h1) ?_;have hyc:(bj Y).cells=[vI Y.atom,vI Y.done,.bool Y.free]:=rfl;have hys:(bj Y).stays=true:=rfl;apply sG;simp only[go_sem,seval,a6,a7,ab VK,ab VK.symm,hyc,hys,kA];exact ay.pure ((hs.aE z6).aE z7) rfl
 .rw[decide_eq_false hm];obtain⟨e1,e2⟩:=bad (λh=>hm h.1);rw[e1,e2];apply sR;simp only[go_sem,seval,a6,a7,ab VK,ab VK.symm,kA];exact ay.pure ((hs.aE z6).aE z7) rfl
open Go.Proofs Go.Proofs.Tryz
def jC(l:List RY)(k:Int)(y:Int):SU:={ fo l k with y:=y }
def cQ(l:List RY)(s:R0)(kept shift k:Int):SU:=
 if bZ l s/\s.atom<=k/\k<l.length then
  (if k=s.atom then{ (jC l k (dp l s kept shift k)).bT s.done with y:=dp l s kept shift k+s.done }else jC l k (dp l s kept shift k))
 else⟨0,0,0,0,0,0,0⟩
def Dz(l:List RY)(hl:lF l)(s:R0)(hd:s.done<=1152921504606846976)(kept shift k:Int)(hk:-1152921504606846976<=kept/\kept<=2305843009213693952)(UM:0<=shift/\shift<=1152921504606846976):
 aV prog 243 [bl l,bj s,vI kept,vI shift,vI k] (bo (cQ l s kept shift k)):=λU=>by
 refine Pk.r (by simp[Lh]) ?_;have hs:=aa.refl U;have hlen:=gJ l;have TS:(bj s).cells=[vI s.atom,vI s.done,.bool s.free]:=rfl;have UH:(bj s).stays=true:=rfl;have Ua:=xZ l hl s hd kept shift k hk UM;have Zj:=nF hl hd hk UM k;refine ad.mix 12 ?_;apply sR;simp only[go_sem,seval,Lh,TS,UH,al,ak];refine af λi6 Z6 s6 a6 f6=>?_;have z6:=hs.none f6;replace hs:=hs.trans s6;simp only[go_sem,seval];refine af λRP Ws Tz RU f10=>?_;have n610:=ao a6 f10;replace a6:=Tz _ _ a6;have U7:=hs.none f10;replace hs:=hs.trans Tz;rw[bj]at a6 Ua;simp only[go_sem,seval,a6,al,ak];refine ad.aB rfl rfl rfl (pP l s _) ?_;have bad:¬(bZ l s/\s.atom<=k/\k<l.length)->bo (cQ l s kept shift k)=.agg [vI 0,vI 0,vI 0,vI 0,vI 0,vI 0,vI 0]:=λh=>by
  rw[cQ,if_neg h];rfl
 have XE:(bZ l s/\s.atom<=k/\k<l.length)->cQ l s kept shift k=(if k=s.atom then{ (jC l k (dp l s kept shift k)).bT s.done with y:=dp l s kept shift k+s.done }else jC l k (dp l s kept shift k)):=λh=>if_pos h;generalize cQ l s kept shift k=X at*;by_cases hm:bZ l s
 .rw[decide_eq_true hm];by_cases h1:k<s.atom
  .have q1:(k<s.atom)=True:=eq_true h1;rw[bad (λh=>by omega)];apply sR;simp only[go_sem,seval,a6,RU,q1,al,ak];exact ay.pure (hs.aE U7) rfl
  have q1:(k<s.atom)=False:=eq_false h1;by_cases h2:k>=l.length
  .have q2:(k>=l.length)=True:=eq_true h2;rw[bad (λh=>by omega)];apply sR;simp only[go_sem,seval,a6,RU,q1,q2,hlen,al,ak];exact ay.pure (hs.aE U7) rfl
  have q2:(k>=l.length)=False:=eq_false h2;obtain rfl:=XE ⟨hm,by omega,by omega⟩;clear XE bad;obtain⟨h0,h3⟩:=hm.1;obtain⟨n,rfl⟩:∃n:Nat,k=n:=⟨k.toNat,by omega⟩
  have UR:n<l.length:=by omega
  apply sR;simp only[go_sem,seval,a6,q1,q2,hlen,al,ak];refine ad.aB rfl rfl rfl (Ek l n UR _) ?_;have Va:∀f,(bo f).cells=[vI f.node,vI f.atom,vI f.fr,vI f.x,vI f.y,vI f.w,vI f.h]:=λ_=>rfl;have Tk:∀f,(bo f).stays=true:=λ_=>rfl;generalize dp l s kept shift (n:Int)=P at*;apply sR;simp only[go_sem,seval,Va,Tk];refine af λTc ZM Vu U8 f11=>?_;have Uo:=ao a6 f11;replace a6:=Vu _ _ a6;have Sw:=ao RU f11;replace RU:=Vu _ _ RU;have z11:=hs.none f11;replace hs:=hs.trans Vu;simp only[go_sem,seval,U8,a6,ab (Ne.symm Uo),ab Uo,Va,Tk,al,ak];generalize SO:C' _ Tc _=Y11;replace U8:=(congrFun SO Tc).symm.trans ag;replace a6:=((congrFun SO i6).symm.trans (ab Uo)).trans a6;replace RU:=((congrFun SO RP).symm.trans (ab Sw)).trans RU;replace hs:=Eq.subst (motive:=aa _) SO (hs.aE z11);clear SO;refine ad.aB rfl rfl rfl (Ua _) ?_;rw[bo]at U8;have Vv:=hm.2.1;have hy:=hl.Xp _ (List.getElem_mem UR);have YQ:(fo l n).h=l[n].h:=by rw[fo,bz UR]
  by_cases he:(n:Int)=s.atom
  .have q3:((n:Int)=s.atom)=True:=eq_true he;rw[if_pos he];have r2:Rq .i64 (P+s.done):=aq (by omega) (by omega);apply sR;simp only[go_sem,seval,U8,a6,q3,al,ak,ab Uo];generalize SO:C' _ Tc _=Y11;replace U8:=(congrFun SO Tc).symm.trans ag;replace a6:=((congrFun SO i6).symm.trans (ab Uo)).trans a6;replace RU:=((congrFun SO RP).symm.trans (ab Sw)).trans RU;replace hs:=Eq.subst (motive:=aa _) SO (hs.aE z11);clear SO;have Vw:Y11 Tc=some ⟨367,7,[bo (jC l n P)]⟩:=U8;refine ad.call rfl rfl rfl (zK (jC l n P) s.done (aq (by show _<=(fo l n).h-s.done;omega) (by show(fo l n).h-s.done<=_;omega)) Vw) ?_;rintro-Z9 rfl;generalize SO:C' _ Tc _=Y11;replace U8:=(congrFun SO Tc).symm.trans ag;replace a6:=((congrFun SO i6).symm.trans (ab Uo)).trans a6;replace RU:=((congrFun SO RP).symm.trans (ab Sw)).trans RU;replace hs:=Eq.subst (motive:=aa _) SO (hs.aE z11);clear SO;rw[bo]at U8;have r3:Rq .i64 (((jC l n P).bT s.done).y+s.done):=r2;apply sR;simp only[go_sem,seval,U8,a6,RU,r3,ab Uo,ab Sw];exact ay.pure ((hs.aE z11).aE U7) rfl
  .have q3:((n:Int)=s.atom)=False:=eq_false he;rw[if_neg he];apply sR;simp only[go_sem,seval,U8,a6,RU,q3,al,ak,ab Uo,ab Sw];exact ay.pure ((hs.aE z11).aE U7) rfl
 .rw[decide_eq_false hm];rw[bad (λh=>hm h.1)];apply sR;simp only[go_sem,seval,RU];exact ay.pure (hs.aE U7) rfl
open Go.Proofs Go.Proofs.Tryz
def mulR(a n:Int):Int:=
 if dN n≠0/\(dN a>(1099511627776:Int).tdiv (max (dN n) (-dN n))\/dN a<(-1099511627776:Int).tdiv (max (dN n) (-dN n)))then
  (if decide (dN a<0)=decide (dN n<0)then 1099511627776 else -1099511627776)
 else dN a*dN n
def GN{A B:Int}(h1:A<=(1099511627776:Int).tdiv (max B (-B)))(h2:(-1099511627776:Int).tdiv (max B (-B))<=A)(hB:B≠0):-1099511627776<=A*B/\A*B<=1099511627776:=by
 obtain⟨M,hM⟩:∃M,M=max B (-B):=⟨_,rfl⟩
 rw[<-hM]at h1 h2;have hM1:1<=M:=by omega
 rw[Int.neg_tdiv]at h2;rw[Int.tdiv_eq_ediv_of_nonneg (by omega)]at h1 h2;have h3:(1099511627776:Int)/M*M<=1099511627776:=Int.ediv_mul_le _ (by omega);have h4:=Int.mul_le_mul_of_nonneg_right h1 (by omega:0<=M);have h5:=Int.mul_le_mul_of_nonneg_right h2 (by omega:0<=M);rw[Int.neg_mul]at h5;rcases(by omega:M=B\/M=-B)with e|e
 .rw[e]at h4 h5 h3;omega
 .have hb:B=-M:=by omega
  rw[hb,Int.mul_neg];omega
def N0(a n:Int):aV prog 47 [vI a,vI n] (vI (mulR a n)):=λU=>by
 refine e47.r (by simp[c47]) ?_;refine ad.mix 5 ?_;apply sR;simp only[go_sem,seval,c47];refine ad.aB rfl rfl rfl (za a _) ?_;apply sR;simp only[go_sem,seval];refine ad.aB rfl rfl rfl (za n _) ?_;unfold mulR;have hA:-1099511627776<=dN a/\dN a<=1099511627776:=by unfold dN;omega
 have hB:-1099511627776<=dN n/\dN n<=1099511627776:=by unfold dN;omega
 generalize dN a=A at*;generalize dN n=B at*;have b1:(true==true)=true:=rfl;have b2:(true==false)=false:=rfl;have b3:(false==true)=false:=rfl;have b4:(false==false)=true:=rfl;by_cases h0:B=0
 .subst h0;have q0:((0:Int)≠0)=False:=eq_false (λh=>h rfl);have r1:Rq .i64 (A*0):=aq (by omega) (by omega);apply sR;simp only[go_sem,seval,q0,r1];exact ay.same (by rw[if_neg (by simp)])
 have q0:(B≠0)=True:=eq_true h0;have hM1:1<=max B (-B)/\max B (-B)<=1099511627776:=by omega
 have qM:(max B (-B)=0)=False:=eq_false (by omega);have rn:Rq .i64 (-B):=aq (by omega) (by omega);have t1:0<=(1099511627776:Int).tdiv (max B (-B))/\(1099511627776:Int).tdiv (max B (-B))<=1099511627776:=by
  rw[Int.tdiv_eq_ediv_of_nonneg (by omega)];exact⟨Int.ediv_nonneg (by omega) (by omega),Int.ediv_le_self _ (by omega)⟩
 have t2:(-1099511627776:Int).tdiv (max B (-B))=-((1099511627776:Int).tdiv (max B (-B))):=Int.neg_tdiv ..;have hr:=GN (A:=A) (B:=B);have rq1:Rq .i64 ((1099511627776:Int).tdiv (max B (-B))):=aq (by omega) (by omega);have rq2:Rq .i64 ((-1099511627776:Int).tdiv (max B (-B))):=aq (by omega) (by omega);by_cases h1:A>(1099511627776:Int).tdiv (max B (-B))
 .have q1:(A>(1099511627776:Int).tdiv (max B (-B)))=True:=eq_true h1;rw[if_pos ⟨h0,.inl h1⟩];by_cases sA:A<0
  .have qA:(A<0)=True:=eq_true sA;by_cases sB:B<0
   .have qB:(B<0)=True:=eq_true sB;apply sR;simp only[go_sem,seval,q0,Int.zero_sub,rn,dg,qM,rq1,q1,qA,qB,b1,b2,b3,b4];exact ay.same (by first|rfl|simp[sA,sB])
   .have qB:(B<0)=False:=eq_false sB;apply sR;simp only[go_sem,seval,q0,Int.zero_sub,rn,dg,qM,rq1,q1,qA,qB,b1,b2,b3,b4];exact ay.same (by first|rfl|simp[sA,sB])
  .have qA:(A<0)=False:=eq_false sA;by_cases sB:B<0
   .have qB:(B<0)=True:=eq_true sB;apply sR;simp only[go_sem,seval,q0,Int.zero_sub,rn,dg,qM,rq1,q1,qA,qB,b1,b2,b3,b4];exact ay.same (by first|rfl|simp[sA,sB])
   .have qB:(B<0)=False:=eq_false sB;apply sR;simp only[go_sem,seval,q0,Int.zero_sub,rn,dg,qM,rq1,q1,qA,qB,b1,b2,b3,b4];exact ay.same (by first|rfl|simp[sA,sB])
 have q1:(A>(1099511627776:Int).tdiv (max B (-B)))=False:=eq_false h1;by_cases h2:A<(-1099511627776:Int).tdiv (max B (-B))
 .have q2:(A<(-1099511627776:Int).tdiv (max B (-B)))=True:=eq_true h2;rw[if_pos ⟨h0,.inr h2⟩];by_cases sA:A<0
  .have qA:(A<0)=True:=eq_true sA;by_cases sB:B<0
   .have qB:(B<0)=True:=eq_true sB;apply sR;simp only[go_sem,seval,q0,Int.zero_sub,rn,dg,qM,rq1,q1,rq2,q2,qA,qB,b1,b2,b3,b4];exact ay.same (by first|rfl|simp[sA,sB])
   .have qB:(B<0)=False:=eq_false sB;apply sR;simp only[go_sem,seval,q0,Int.zero_sub,rn,dg,qM,rq1,q1,rq2,q2,qA,qB,b1,b2,b3,b4];exact ay.same (by first|rfl|simp[sA,sB])
  .have qA:(A<0)=False:=eq_false sA;by_cases sB:B<0
   .have qB:(B<0)=True:=eq_true sB;apply sR;simp only[go_sem,seval,q0,Int.zero_sub,rn,dg,qM,rq1,q1,rq2,q2,qA,qB,b1,b2,b3,b4];exact ay.same (by first|rfl|simp[sA,sB])
   .have qB:(B<0)=False:=eq_false sB;apply sR;simp only[go_sem,seval,q0,Int.zero_sub,rn,dg,qM,rq1,q1,rq2,q2,qA,qB,b1,b2,b3,b4];exact ay.same (by first|rfl|simp[sA,sB])
 have q2:(A<(-1099511627776:Int).tdiv (max B (-B)))=False:=eq_false h2;have hr':=hr (by omega) (by omega) h0;have r3:Rq .i64 (A*B):=aq (by omega) (by omega);rw[if_neg (λh=>by rcases h.2 with h|h;exact h1 h;exact h2 h)]
 apply sR;simp only[go_sem,seval,q0,Int.zero_sub,rn,dg,qM,rq1,q1,rq2,q2,r3];exact ay.same rfl
open Go.Proofs Go.Proofs.Tryz
def CX(l:List P')(hl:l.length<=1000000):Iter prog 321 [.rp (aH l)] (l.map λf=>[aQ f]):=by
 refine⟨NP.c,λRF τ Jx Z0 hy hJ=>?_⟩;refine(NP.r (by simp[Lm]) ?_).2;have ldF:∀U:ai,bS U false 1 (.rp (aH l))=some (aH l):=λU=>rfl;have US:=gk l;refine ad.mix 5 ?_;apply sR;simp only[go_sem,seval,Lm,ldF,US];refine ad.loop (λm st=>∃(j:Nat) (ZJ:ai),j<=l.length/\m=l.length-j/\τ ((l.take j).map λf=>[aQ f]) ZJ/\aa ZJ st.U/\st.s 0=.yl RF/\st.s 5=aH l/\st.s 6=vI l.length/\st.s 7=vI j) l.length ?_ ?_
 .exact⟨0,Z0,by omega,rfl,by simpa using hJ,aa.refl _,rfl,rfl,rfl,rfl⟩
 .rintro m ⟨S,J⟩ ⟨j,ZJ,hj,rfl,SV,G',t0,t5,t6,t7⟩;simp only at G' t0 t5 t6 t7;refine ad.mix 5 ?_;by_cases H':j<l.length
  .have q:((j:Int)<l.length)=True:=eq_true (by omega);have r1:Rq .i64 ((j:Int)+1):=aq (by omega) (by omega);have Q9:=λU=>j5 (U:=U) H';have e0':l=l.take j++l[j]::l.drop (j+1):=by rw[<-List.drop_eq_getElem_cons H',List.take_append_drop]
   have e:(l.map λf=>[aQ f])=((l.take j).map λf=>[aQ f])++[aQ l[j]]::((l.drop (j+1)).map λf=>[aQ f]):=by
    have:=congrArg (List.map λf=>[aQ f]) e0'
    rwa [List.map_append,List.map_cons]at this
   have Sf:((l.take (j+1)).map λf=>[aQ f])=((l.take j).map λf=>[aQ f])++[[aQ l[j]]]:=by rw[List.take_succ_eq_append_getElem H',List.map_append];rfl
   have UL:aQ l[j]=.agg [vI l[j].node,vI l[j].side,vI l[j].anchor,vI l[j].x,vI l[j].y,vI l[j].w,vI l[j].h]:=rfl;generalize l[j]=x at*;apply sR;simp only[go_sem,seval,t0,t5,t6,t7,q,Q9,UL];refine af λi4 Z4 s4 a4 f4=>?_;simp only[go_sem,seval,a4,t0,t5,t6,t7];generalize SZ:C' Z4 i4 _=Y4;have hs4:aa J Y4:=by rw[<-SZ];exact s4.aE f4
   clear SZ;refine ad.lW (Post:=λb' Z2=>∃RC,bh ZJ Y4 RC Z2/\((b'=true/\τ (((l.take j).map λf=>[aQ f])++[[aQ x]]) RC)\/(b'=false/\Jx (((l.take j).map λf=>[aQ f])++[[aQ x]]) RC))) rfl rfl rfl (hy _ [aQ x] _ ZJ Y4 e SV (G'.trans hs4)) ?_;rintro b' Z2 ⟨RC,Sl,R6⟩;rcases R6 with⟨rfl,R6⟩|⟨rfl,R6⟩
   .apply sR;simp only[go_sem,seval,t0,t5,t6,t7,r1];refine⟨_,?_,j+1,RC,by omega,rfl,by rw[Sf];exact R6,Sl.1,by simp[t0,t5,t6]⟩;omega
   .apply sR;simp only[go_sem,seval,t0,t5,t6,t7];exact⟨_,RC,Sl.1,Wk.refl Sl.1 _,.inr ⟨_,⟨_,by rw[e,List.append_assoc];rfl⟩,R6⟩⟩
  .have q:((j:Int)<l.length)=False:=eq_false (by omega);rw[List.take_of_length_le (by omega)]at SV;apply sR;simp only[go_sem,seval,t0,t5,t6,t7,q];exact⟨_,ZJ,G',Wk.refl G' _,.inl SV⟩
def J4(l:List P'):aV prog 293 [aH l] (.fn 321 [.rp (aH l)]):=λU=>by
 refine O7.r (by simp[Jh]) ?_;refine ad.mix 3 ?_;have q1:=ar l;have q2:=au l;generalize aH l=x at*;apply sR;simp only[go_sem,seval,Jh,q1,q2];refine af λUJ Z1 s1 a1 f1=>?_;simp only[go_sem,seval,q1,q2];exact⟨_,U,s1,Wk.fn (vs':=[.rp x]) ⟨Wk.ptr s1 a1 f1,trivial⟩,rfl,rfl⟩
def tu(bT to:Int)(f:P'):Bool:=decide (f.anchor<bT\/f.anchor>=to)
def Kz(bT to:Int)(f:P'){U:ai}{i4 i5:Nat}(a4:U i4=some ⟨3,1,[vI bT]⟩)(a5:U i5=some ⟨3,1,[vI to]⟩):
 aD prog 334 [aQ f,.ptr i4 0 0,.ptr i5 0 0] U λr Z'=>r=.bool (tu bT to f)/\Z'=U:=by
 refine Od.r (by simp[Mr]) ?_;have hs:=aa.refl U;refine ad.mix 5 ?_;apply sR;simp only[go_sem,seval,Mr,aQ];refine af λi3 Z3 s3 a3 f3=>?_;have z3:=hs.none f3;replace hs:=hs.trans s3;have b4:=s3 _ _ a4;have b5:=s3 _ _ a5;by_cases h0:f.anchor<bT
 .have q0:(f.anchor<bT)=True:=eq_true h0;simp only[go_sem,seval,a3,b4,b5,q0];exact ay.pure hs (by simp[tu,h0])
 .have q0:(f.anchor<bT)=False:=eq_false h0;by_cases h1:f.anchor>=to
  .have q1:(f.anchor>=to)=True:=eq_true h1;simp only[go_sem,seval,a3,b4,b5,q0,q1];exact ay.pure hs (by simp[tu,h1])
  .have q1:(f.anchor>=to)=False:=eq_false h1;simp only[go_sem,seval,a3,b4,b5,q0,q1];exact ay.pure hs (by simp only[tu];rw[decide_eq_false (by omega)])
open Go.Proofs Go.Proofs.Tryz
def gb(p:P'->Bool):List P'->Nat->Int
 |[],_=>-1
 |f::r,i=>if p f then i else gb p r (i+1)
def y8{p:P'->Bool}{l:List P'}{i:Nat}(h:i<l.length):gb p (l.drop i) i=if p l[i]then(i:Int)else gb p (l.drop (i+1)) (i+1):=by
 rw[List.drop_eq_getElem_cons h,gb]
def D2{U:ai}{v:V}(l:List P')(hl:l.length<=1000000)(hr:Reads U 7 true v (l.map aQ)){f:FuncId}{caps:List V}(p:P'->Bool)
 (hf:∀x∈l,aD prog f (aQ x::caps) U λr Z'=>r=.bool (p x)/\Z'=U):
 aD prog 244 [v,.fn f caps] U λr Z'=>r=vI (gb p l 0)/\Z'=U:=by
 refine Pg.r (by simp[Mc]) ?_;have hlv:dz false v=some (.int .i64 l.length):=by rw[hr.1,List.length_map]
 refine ad.mix 6 ?_;apply sR;simp only[go_sem,seval,Mc,hlv];refine ad.loop (λm st=>∃i:Nat,i<=l.length/\m=l.length-i/\gb p l 0=gb p (l.drop i) i/\st.U=U/\st.s 0=v/\st.s 1=.fn f caps/\st.s 7=vI l.length/\st.s 8=vI i) l.length ?_ ?_
 .exact⟨0,by omega,rfl,rfl,rfl,rfl,rfl,rfl,rfl⟩
 .rintro m ⟨s,Z'⟩ ⟨i,hi,rfl,heq,RH,h0,h1,h7,h8⟩;simp only at RH h0 h1 h7 h8;subst RH;refine ad.mix 6 ?_;by_cases H':i<l.length
  .have q:((i:Int)<l.length)=True:=eq_true (by omega);have hd:=y8 (p:=p) H';obtain⟨a,ha,Un⟩:=hr.2 i (aQ l[i]) (by simp[H']);have hfx:=hf l[i] (List.getElem_mem H');have r1:Rq .i64 ((i:Int)+1):=aq (by omega) (by omega);generalize l[i]=x at*;apply sR;simp only[go_sem,seval,h0,h1,h7,h8,q,ha,Un];refine ad.aB rfl rfl rfl hfx ?_;cases hp:p x
   .rw[hp]at hd;apply sR;simp only[go_sem,seval,h0,h1,h7,h8,r1];refine⟨_,?_,i+1,by omega,rfl,?_,by simp[h0,h1,h7]⟩
    .omega
    .rw[heq,hd];rfl
   .rw[hp]at hd;apply sR;simp only[go_sem,seval,h0,h1,h7,h8];refine ay.same ?_;rw[heq,hd];rfl
  .have q:((i:Int)<l.length)=False:=eq_false (by omega);have TV:i=l.length:=by omega
   apply sR;simp only[go_sem,seval,h0,h1,h7,h8,q];refine ay.same ?_;rw[heq,TV,List.drop_length];rfl
open Go.Proofs Go.Proofs.Tryz
def EL(l:List RY)(hl:l.length<=1000000000):aV prog 61 [bl l] (bl l):=
 ze func61 (e61.b.trans rfl) e61.c (l.map cF) (by simp;omega)
def zc(l:List P')(hl:l.length<=1000000000):aV prog 62 [aH l] (aH l):=
 ze func62 (e62.b.trans rfl) e62.c (l.map aQ) (by simp;omega)
open Go.Proofs Go.Proofs.Tryz
def kI(a:P'):List P'->Nat->Int
 |[],_=>-1
 |q::r,i=>if a=q then i else kI a r (i+1)
def DE{a:P'}{p:List P'}{i:Nat}(h:i<p.length):kI a (p.drop i) i=if a=p[i]then(i:Int)else kI a (p.drop (i+1)) (i+1):=by
 rw[List.drop_eq_getElem_cons h,kI]
def Fw(p:List P')(hp:p.length<=1000000000)(a:P'):aV prog 172 [aH p,aQ a] (vI (kI a p 0)):=λU=>by
 refine Pe.r (by simp[KT]) ?_;have hs:=aa.refl U;have XP:=gk p;have hac:(aQ a).cells=[vI a.node,vI a.side,vI a.anchor,vI a.x,vI a.y,vI a.w,vI a.h]:=rfl;have has:(aQ a).stays=true:=rfl;have he:∀b:P',iQ false [0,0,0,0,0,0,0] (.agg [vI a.node,vI a.side,vI a.anchor,vI a.x,vI a.y,vI a.w,vI a.h]) (.agg [vI b.node,vI b.side,vI b.anchor,vI b.x,vI b.y,vI b.w,vI b.h])=some (.bool (decide (a=b))):=λb=>by
  have:(a=b)↔(a.node=b.node/\a.side=b.side/\a.anchor=b.anchor/\a.x=b.x/\a.y=b.y/\a.w=b.w/\a.h=b.h):=by
   cases a;cases b;simp
  simp only[iQ,dJ,cd,de,this];simp
 refine ad.mix 9 ?_;apply sR;simp only[go_sem,seval,KT,hac,has];refine af λi3 Z3 s3 a3 f3=>?_;have z3:=hs.none f3;replace hs:=hs.trans s3;simp only[go_sem,seval,XP,hac,has];rw[aQ]at a3;refine ad.loop (λm st=>∃(i:Nat),i<=p.length/\m=p.length-i/\kI a p 0=kI a (p.drop i) i/\st.U=Z3/\st.s 0=aH p/\st.s 3=.ptr i3 0 0/\st.s 7=vI p.length/\st.s 8=vI i) p.length ?_ ?_
 .exact⟨0,by omega,rfl,rfl,rfl,rfl,rfl,rfl,rfl⟩
 .rintro m ⟨s,Z'⟩ ⟨i,hi,rfl,heq,RH,h0,h3,h7,h8⟩;simp only at RH h0 h3 h7 h8;subst RH;refine ad.mix 9 ?_;by_cases H':i<p.length
  .have q:((i:Int)<p.length)=True:=eq_true (by omega);have hd:=DE (a:=a) H';have Q9:=λU=>j5 (U:=U) H';have r1:Rq .i64 ((i:Int)+1):=aq (by omega) (by omega);have XQ:=he p[i];have UL:aQ p[i]=.agg [vI p[i].node,vI p[i].side,vI p[i].anchor,vI p[i].x,vI p[i].y,vI p[i].w,vI p[i].h]:=rfl;by_cases hc:a=p[i]
   .rw[decide_eq_true hc]at XQ;apply sR;simp only[BB,seval,<-decide_not,bu,fk,aL,cU,eI,ei,eH,dZ,cy,jU,gz,bI,fH,dL,fm,cM,cP,bF,iP,dh,cS,cm,Sk,jS,df,cc,dJ,cd,de,cY,kE,binBV,bW,dq,V.cells,V.stays,Tm.nothing,h0,h3,h7,h8,q,a3,Q9,UL,XQ];refine ay.pure hs ?_;rw[heq,hd,if_pos hc]
   .rw[decide_eq_false hc]at XQ;apply sR;simp only[BB,seval,<-decide_not,bu,fk,aL,cU,eI,ei,eH,dZ,cy,jU,gz,bI,fH,dL,fm,cM,cP,bF,iP,dh,cS,cm,Sk,jS,df,cc,dJ,cd,de,cY,kE,binBV,bW,dq,V.cells,V.stays,Tm.nothing,h0,h3,h7,h8,q,a3,Q9,UL,XQ,r1];refine⟨_,?_,i+1,by omega,rfl,?_,by simp[h0,h3,h7]⟩
    .omega
    .rw[heq,hd,if_neg hc]
  .have q:((i:Int)<p.length)=False:=eq_false (by omega);have TV:i=p.length:=by omega
   apply sR;simp only[go_sem,seval,h0,h3,h7,h8,q];refine ay.pure hs ?_;rw[heq,TV,List.drop_length];rfl
open Go
def To.same{U:ai}{N:Nat->Prop}:∀(vs:List V),gq vs=true->To U N vs vs
 |[],_=>.nil
 |v::vs,h=>by
  simp only[gq,Ba]at h;exact .cons _ _ _ _ (.same v h.1) (To.same vs h.2)
def To.app{U:ai}{N:Nat->Prop}:∀{a b c d:List V},To U N a b->To U N c d->To U N (a++c) (b++d)
 |_,_,_,_,.nil,h=>h
 |_,_,_,_,.cons v u vs us h h',h2=>.cons v u _ _ h (To.app h' h2)
def To.one{U:ai}{N:Nat->Prop}{v u:V}(h:Fz U N v u):To U N [v] [u]:=.cons _ _ _ _ h .nil
def aT.fz{K U:ai}{N:Nat->Prop}{e sz:Nat}{v:V}{rows:List V}(h:aT K U e sz v rows)(hN:∀id,K id=none->N id)(hr:gq rows=true):Fz U N v (.sl sz rows):=by
 rcases h with⟨rfl,rfl⟩|⟨id,rfl,ho,hk⟩
 .exact .nil sz
 .exact .own id 0 rows.length ⟨e,sz,rows⟩ rows ho (hN id hk) (by simp) (by rw[List.drop_zero,List.take_length];exact To.same rows hr)
def aT.ab{K U:ai}{e sz:Nat}{v:V}{rows:List V}(h:aT K U e sz v rows){id:Nat}{o:Ob}(hK:K id≠none):aT K (C' U id o) e sz v rows:=by
 rcases h with h|⟨q,h1,h2,h3⟩
 .exact .inl h
 .have:q≠id:=λe=>hK (by rw[<-e];exact h3);exact .inr ⟨q,h1,by rw[Vc.ab this];exact h2,h3⟩
def Dp(l:List Int):gq (l.map vI)=true:=by
 induction l with
 |nil=>rfl
 |cons x l ih=>rw[List.map_cons,gq,ih];rfl
abbrev Nq(x:Nd):List V:=[vI x.kind,vI x.size,vI x.st.top,vI x.st.Ry,vI x.st.Rl,vI x.st.Rb,vI x.st.R9,vI x.st.RM,vI x.st.RV,vI x.st.head,vI x.st.before,vI x.st.after,vI x.st.inside,vI x.st.clear,vI x.line,vI x.space]
def ndW(x:Nd)(v:V):V:=.agg [vI x.kind,vI x.size,vI x.st.top,vI x.st.Ry,vI x.st.Rl,vI x.st.Rb,vI x.st.R9,vI x.st.RM,vI x.st.RV,vI x.st.head,vI x.st.before,vI x.st.after,vI x.st.inside,vI x.st.clear,vI x.line,vI x.space,v,vI x.side,vI x.w,vI x.h]
def M1{U:ai}{N:Nat->Prop}{x:Nd}{v:V}(h:Fz U N v (bn x.words)):Fz U N (ndW x v) (iE x):=by
 refine .agg _ _ ?_;exact(To.same (Nq x) rfl).app ((To.one h).app (To.same [vI x.side,vI x.w,vI x.h] rfl))
def fS(K U:ai):List Nd->List V->Prop
 |[],[]=>True
 |x::l,r::rows=>(∃w,r=ndW x w/\aT K U 3 1 w (x.words.map vI))/\fS K U l rows
 |_,_=>False
def aT.kept{K U Z':ai}{id e:Nat}{w:V}{rows rows0:List V}(h:aT K U 3 1 w rows)(ho:U id=some ⟨e,20,rows0⟩)(hs:∀i,i≠id->∀o,U i=some o->Z' i=some o):aT K Z' 3 1 w rows:=by
 rcases h with h|⟨i,h1,h2,h3⟩
 .exact .inl h
 .have RK:i≠id:=λe=>by subst e;rw[ho]at h2;simp at h2
  exact .inr ⟨i,h1,hs i RK _ h2,h3⟩
def fS.kept{K U Z':ai}{id e:Nat}{rows0:List V}(ho:U id=some ⟨e,20,rows0⟩)(hs:∀i,i≠id->∀o,U i=some o->Z' i=some o):∀{l:List Nd} {rows:List V},fS K U l rows->fS K Z' l rows
 |[],[],_=>trivial
 |_::_,_::_,⟨⟨w,h1,h2⟩,h⟩=>⟨⟨w,h1,h2.kept ho hs⟩,fS.kept ho hs h⟩
 |[],_::_,h=>h.elim
 |_::_,[],h=>h.elim
def fS.mono{K U Z':ai}(hs:aa U Z'):∀{l:List Nd} {rows:List V},fS K U l rows->fS K Z' l rows
 |[],[],_=>trivial
 |_::_,_::_,⟨⟨w,h1,h2⟩,h⟩=>⟨⟨w,h1,h2.mono hs⟩,fS.mono hs h⟩
 |[],_::_,h=>h.elim
 |_::_,[],h=>h.elim
def aT.NY{K K' U:ai}{e sz:Nat}{v:V}{rows:List V}(h:aT K U e sz v rows)(hk:aa K' K):aT K' U e sz v rows:=by
 rcases h with h|⟨i,h1,h2,h3⟩
 .exact .inl h
 .exact .inr ⟨i,h1,h2,hk.none h3⟩
def fS.app{K U:ai}:∀{l l2:List Nd} {rows rows2:List V},fS K U l rows->fS K U l2 rows2->fS K U (l++l2) (rows++rows2)
 |[],_,[],_,_,h2=>h2
 |_::_,_,_::_,_,⟨h1,h⟩,h2=>⟨h1,fS.app h h2⟩
 |[],_,_::_,_,h,_=>h.elim
 |_::_,_,[],_,h,_=>h.elim
def fS.fz{K U:ai}{N:Nat->Prop}(hN:∀id,K id=none->N id):∀{l:List Nd} {rows:List V},fS K U l rows->To U N rows (l.map iE)
 |[],[],_=>.nil
 |_::_,_::_,⟨⟨w,h1,h2⟩,h⟩=>by
  rw[h1];exact .cons _ _ _ _ (M1 (h2.fz hN (Dp _))) (fS.fz hN h)
 |[],_::_,h=>h.elim
 |_::_,[],h=>h.elim
def yD(K U:ai)(v:V)(l:List Nd):Prop:=∃rows,aT K U 59 20 v rows/\fS K U l rows
def yD.fz{K U:ai}{N:Nat->Prop}{v:V}{l:List Nd}(h:yD K U v l)(hN:∀id,K id=none->N id):Fz U N v (aK l):=by
 obtain⟨rows,ho,hr⟩:=h;have hf:=hr.fz hN;rcases ho with⟨rfl,rfl⟩|⟨id,rfl,ho,hk⟩
 .cases l with
  |nil=>exact .nil 20
  |cons x l=>exact hr.elim
 .exact .own id 0 rows.length ⟨_,20,rows⟩ _ ho (hN id hk) (by simp) (by rw[List.drop_zero,List.take_length];exact hf)
open Go.Proofs Go.Proofs.Tryz
def G7(l:List Nd)(hl:l.length<=10000)(U:ai):aD prog 49 [aK l] U λr Z'=>aa U Z'/\aT U Z' 59 20 r (l.map iE):=by
 refine e49.r (by simp[c49]) ?_;refine ad.mix 3 ?_
 (refine ad.bM Tm.nothing 8 ?_;simp only[go_sem,seval,nL,c49])
 refine ad.DB rfl rfl rfl λb hb=>?_;cases b
 .apply sR;simp only[go_sem,seval];refine af λUJ Z1 s1 a1 f1=>?_;obtain⟨Rr,hd,Sv⟩:=(aT.new (K:=U) (e:=59) (sz:=20) (n:=0) (rows:=[]) rfl a1 f1).dst (aa.refl _);have X6:∀U,bR U 20 (aK l)=some (l.map iE):=λU=>by simp[aK,bR]
  have Sb:l.length*177<=140737488355328:=by omega
  simp only[go_sem,seval,hd,X6,List.length_map,Sb];refine fU λWg Z2 s2 a2 f2=>?_;have TQ:=(Sv U (aa.refl _) Z1 s1).trans s2;simp only[go_sem,seval];refine⟨_,_,aa.refl _,Wk.refl (aa.refl _) _,TQ,aT.new (by simp) a2 (s1.none f2)⟩
 .apply sR;simp only[go_sem,seval];refine⟨_,_,aa.refl _,Wk.refl (aa.refl _) _,aa.refl _,?_⟩;have:l.map iE=[]:=hb rfl;rw[this];exact aT.start
def Gj(l:List Int)(hl:l.length<=1000000000)(U:ai):aD prog 50 [bn l] U λr Z'=>aa U Z'/\aT U Z' 3 1 r (l.map vI):=by
 refine e50.r (by simp[c50]) ?_;refine ad.mix 3 ?_
 (refine ad.bM Tm.nothing 8 ?_;simp only[go_sem,seval,nL,c50])
 refine ad.DB rfl rfl rfl λb hb=>?_;cases b
 .apply sR;simp only[go_sem,seval];refine af λUJ Z1 s1 a1 f1=>?_;obtain⟨Rr,hd,Sv⟩:=(aT.new (K:=U) (e:=3) (sz:=1) (n:=0) (rows:=[]) rfl a1 f1).dst (aa.refl _);have Sb:l.length*9<=140737488355328:=by omega
  simp only[go_sem,seval,hd,wD,List.length_map,Sb];refine fU λWg Z2 s2 a2 f2=>?_;have TQ:=(Sv U (aa.refl _) Z1 s1).trans s2;simp only[go_sem,seval];exact⟨_,_,aa.refl _,Wk.refl (aa.refl _) _,TQ,aT.new (by simp) a2 (s1.none f2)⟩
 .apply sR;simp only[go_sem,seval];have:l.map vI=[]:=hb rfl;refine⟨_,_,aa.refl _,Wk.refl (aa.refl _) _,aa.refl _,?_⟩;rw[this];exact aT.start
open Go.Proofs Go.Proofs.Tryz
def Hz(K U:ai)(e sz:Nat)(v:V)(rows:List V):Prop:=(v=.aC/\rows=[])\/∃id all,v=.own id 0 rows.length/\U id=some ⟨e,sz,all⟩/\all.take rows.length=rows/\K id=none
def aT.OA{K U:ai}{e sz:Nat}{v:V}{rows:List V}(h:aT K U e sz v rows):Hz K U e sz v rows:=by
 rcases h with h|⟨id,h1,h2,h3⟩
 .exact .inl h
 .exact .inr ⟨id,rows,h1,h2,List.take_length,h3⟩
def Hz.wk{K U:ai}{e sz:Nat}{v:V}{rows:List V}(h:Hz K U e sz v rows){K':ai}(hK:aa K' K)(hs:aa K' U):Wk U K' v (.sl sz rows):=by
 rcases h with⟨rfl,rfl⟩|⟨id,all,rfl,ho,ht,hk⟩
 .exact Wk.aC sz
 .have hl:rows.length<=all.length:=by
   have:=congrArg List.length ht;simp at this;omega
  have:=Wk.own hs ho (hK.none hk) (off:=0) (len:=rows.length) (by simpa using hl);rw[List.drop_zero,ht]at this;exact this
open Go.Proofs Go.Proofs.Tryz
def qY{p:P'->Bool}:∀(l:List P') (i:Nat),gb p l i<0->l.filter (λf=>!p f)=l
 |[],_,_=>rfl
 |x::l,i,h=>by
  rw[gb]at h;split at h
  .omega
  .rename_i hp;have hp':p x=false:=by simpa using hp
   simp only[List.filter_cons,hp',Bool.not_false,if_true,qY l _ h]
def qh{p:P'->Bool}:∀(l:List P') (i:Nat),¬gb p l i<0->∃w:Nat,gb p l i=((i+w:Nat):Int)/\w<l.length/\(l.take w).filter (λf=>!p f)=l.take w/\∀x,l[w]?=some x->p x=true
 |[],i,h=>by simp[gb]at h
 |x::l,i,h=>by
  rw[gb]at h|-;split
  .rename_i hp;exact⟨0,by simp,by simp,by simp,λy hy=>by simp at hy;subst hy;exact hp⟩
  .rename_i hp;rw[if_neg hp]at h;have hp':p x=false:=by simpa using hp
   obtain⟨w,h1,h2,h3,h4⟩:=qh l (i+1) h;refine⟨w+1,by rw[h1];congr 1;omega,by simp;omega,?_,by simpa using h4⟩;simp only[List.take_succ_cons,List.filter_cons,hp',Bool.not_false,if_true,h3]
def sP{p:P'->Bool}:∀(l:List P') (i:Nat),gb p l i<0->gb p l i=-1
 |[],_,_=>rfl
 |x::l,i,h=>by
  rw[gb]at h|-;split
  .rename_i hp;rw[if_pos hp]at h;omega
  .rename_i hp;rw[if_neg hp]at h;exact sP l _ h
abbrev lz(p:P'->Bool)(l:List P'):List P':=l.filter λf=>!p f
def v8{K U:ai}{v:V}(l:List P')(hl:l.length<=1000000)(hK:aa K U)(ho:aT K U 150 7 v (l.map aQ)){f:FuncId}{caps:List V}(p:P'->Bool)
 (hf:∀x∈l,∀J,aa K J->aD prog f (aQ x::caps) J λr Z'=>r=.bool (p x)/\Z'=J):
 aD prog 188 [v,.fn f caps] U λr Z'=>Hz K Z' 150 7 r ((lz p l).map aQ)/\aa K Z':=by
 have hr:Reads U 7 true v (l.map aQ):=by
  rcases ho with⟨rfl,h0⟩|⟨id,rfl,h2,h3⟩
  .rw[h0];exact⟨rfl,λi v h=>by simp at h⟩
  .refine⟨by simp[dz],λi r hi=>⟨_,j7 h2 (by have:=List.getElem?_eq_some_iff.1 hi;exact this.1),?_⟩⟩;have hx:∃x,r=aQ x:=by
    have:=List.mem_of_getElem? hi;simp only[List.mem_map]at this;obtain⟨n,_,rfl⟩:=this;exact⟨n,rfl⟩
   obtain⟨x,rfl⟩:=hx;simp only[bS,h2,hi,if_true];rw[if_pos ⟨trivial,rfl⟩];rfl
 refine Q5.r (by simp[Lz]) ?_;refine ad.mix 8 ?_;apply sR;simp only[go_sem,seval,Lz];refine ad.aB rfl rfl rfl (D2 l hl hr p (λx hx=>hf x hx U hK)) ?_;generalize hw:gb p l 0=w;by_cases hn:w<0
 .have hw1:w=-1:=by rw[<-hw];exact sP _ _ (by rw[hw];exact hn)
  have hk:lz p l=l:=qY l 0 (by rw[hw];exact hn);have q:(w=-1)=True:=eq_true hw1;apply sR;simp only[go_sem,seval,q];rw[hk];exact⟨_,U,aa.refl _,Wk.refl (aa.refl _) _,ho.OA,hK⟩
 .obtain⟨u0,g0,g1,g2,g3⟩:=qh l 0 (by rw[hw];exact hn);rw[hw,Nat.zero_add]at g0;subst g0;have q:((u0:Int)=-1)=False:=eq_false (by omega);have r1:Rq .i64 ((u0:Int)+1):=aq (by omega) (by omega);obtain⟨i1,rfl,h2,h3⟩:∃id,v=.own id 0 (l.map aQ).length/\U id=some ⟨150,7,l.map aQ⟩/\K id=none:=by
   rcases ho with⟨_,h0⟩|h
   .have:l=[]:=by simpa using h0
    subst this;simp at g1
   .exact h
  rw[List.length_map]at*;apply sR;simp only[go_sem,seval,q,r1];refine ad.loop (λm st=>∃(u j:Nat) (cur:List P'),u<j/\j<=l.length/\m=l.length-j/\cur.length=l.length/\cur.take u=lz p (l.take j)/\(∀q,j<=q->cur[q]?=l[q]?)/\aa K st.U/\st.U i1=some ⟨150,7,cur.map aQ⟩/\
   st.s 0=.own i1 0 l.length/\st.s 1=.fn f caps/\st.s 5=vI u/\∃z:Int,st.s 6=vI z/\z=j) (l.length-(u0+1)) ?_ ?_
  .refine⟨u0,u0+1,l,by omega,by omega,rfl,rfl,?_,λ_ _=>rfl,hK,h2,rfl,rfl,rfl,_,rfl,by omega⟩;have hp:=g3 l[u0] (by simp[g1]);rw[List.take_succ_eq_append_getElem g1];have g2':lz p (l.take u0)=l.take u0:=g2;simp only[lz,List.filter_append]at g2'|-;rw[g2'];simp[hp]
  .rintro m ⟨s,J⟩ ⟨u,j,cur,huj,hjk,rfl,Sn,hct,YV,hs,a1,h0,h1,h5,z,h6,rfl⟩;simp only at hs a1 h0 h1 h5 h6;refine ad.mix 8 ?_;have Wv:(cur.map aQ).length=l.length:=by rw[List.length_map,Sn]
   by_cases H':j<l.length
   .have q1:((j:Int)<l.length)=True:=eq_true (by omega);have hjc:j<cur.length:=by omega
    have huc:u<cur.length:=by omega
    have hfj:l[j]?=some cur[j]:=by rw[<-YV j (Nat.le_refl _)];simp[hjc]
    have Yd:cur[j]∈l:=List.mem_of_getElem? hfj;have htj:l.take (j+1)=l.take j++[cur[j]]:=by
     rw[List.take_succ_eq_append_getElem H'];congr 2;rw[List.getElem?_eq_getElem H']at hfj;simpa using hfj
    have iX:∀(J:ai) (rows:List V) (k n:Nat),J i1=some ⟨150,7,rows⟩->rows.length=l.length->n=l.length->k<l.length->bO J 7 (.own i1 0 n) (.int .i64 k)=some (.ptr i1 k 0):=λJ rows k n h e hn hk=>by subst hn;rw[<-e];exact j7 h (by omega)
    have e1:=iX _ _ j _ a1 Wv rfl H';have v1:(cur.map aQ)[j]?=some (aQ cur[j]):=by simp[hjc]
    have vu:(cur.map aQ)[u]?=some (aQ cur[u]):=by simp[huc]
    have Xi:(cur.set u cur[j]).map aQ=(cur.map aQ).set u (aQ cur[j]):=List.map_set;have Va:=hf cur[j] Yd;have hfc7:∀f:P',(aQ f).cells=[vI f.node,vI f.side,vI f.anchor,vI f.x,vI f.y,vI f.w,vI f.h]:=λ_=>rfl;have hsu:(cur.set u cur[j]).take (u+1)=cur.take u++[cur[j]]:=by
     rw[List.take_succ_eq_append_getElem (by simpa using huc),List.take_set,List.set_eq_of_length_le (by simp;omega)];simp
    have r2:Rq .i64 ((u:Int)+1):=aq (by omega) (by omega);have r3:Rq .i64 ((j:Int)+1):=aq (by omega) (by omega);generalize cur[j]=x at*;generalize cur[u]=y at*;apply sR;simp only[go_sem,seval,h0,h1,h5,h6,q1,a1,e1,v1,hfc7];refine af λi7 Z7 s7 a7 f7=>?_;have n17:=ao a1 f7;replace a1:=s7 _ _ a1;have z7:=hs.none f7;replace hs:=hs.trans s7;simp only[go_sem,seval,a7,h0,h1,h5,h6];generalize SY:C' _ i7 _=Y7;replace a7:=(congrFun SY i7).symm.trans ag;replace a1:=((congrFun SY i1).symm.trans (ab n17)).trans a1;replace hs:=Eq.subst (motive:=aa _) SY (hs.aE z7);clear SY;refine ad.aB rfl rfl rfl (Va _ hs) ?_;have e2:=iX _ _ u _ a1 Wv rfl (by omega);cases hp:p x
    .apply sR;simp only[go_sem,seval,h0,h1,h5,h6,a7,a1,e2,vu,hfc7,r2,r3];refine⟨_,?_,u+1,j+1,cur.set u x,by omega,by omega,rfl,by simpa using Sn,?_,λq hq=>?_,hs.aE h3,?_,by simp,_,rfl,by omega⟩
     .omega
     .rw[hsu,htj,hct];simp[lz,List.filter_append,hp]
     .rw[List.getElem?_set_ne (by omega)];exact YV q (by omega)
     .rw[Xi];rfl
    .apply sR;simp only[go_sem,seval,h0,h1,h5,h6,r3];refine⟨_,?_,u,j+1,cur,by omega,by omega,rfl,Sn,?_,λq hq=>YV q (by omega),hs,a1,by simp,_,rfl,by omega⟩
     .omega
     .rw[htj,hct];simp[lz,List.filter_append,hp]
   .have q1:((j:Int)<l.length)=False:=eq_false (by omega);have hjk':j=l.length:=by omega
    subst hjk';rw[List.take_length]at hct;have b3:(0:Int)<=u:=by omega
    have b4:(u:Int)<=l.length:=by omega
    apply sR;simp only[go_sem,seval,h0,h1,h5,h6,q1,a1,b3,b4,Int.le_refl,Int.toNat_natCast];refine ad.clear (id:=i1) (off:=u) (len:=l.length-u) (ob:=⟨150,7,cur.map aQ⟩) rfl rfl rfl a1 rfl (by simp;omega) ?_;apply sR;simp only[go_sem,seval,h0,h1,h5,h6,b3,b4,Int.le_refl,Int.toNat_natCast,Nat.sub_zero];have hlu:((lz p l).map aQ).length=u:=by rw[List.length_map,<-hct,List.length_take];omega
    refine⟨_,_,aa.refl _,Wk.refl (aa.refl _) _,.inr ⟨i1,_,by rw[hlu],ag,?_,h3⟩,hs.aE h3⟩;rw[hlu,List.append_assoc,List.take_append_of_le_length (by simp;omega),List.take_take,Nat.min_self,<-List.map_take,hct]
open Go.Proofs Go.Proofs.Tryz
def xX(l:List P')(fr to:Int):List P':=lz (tu fr to) l
def pj(l:List P')(fr to:Int):(xX l fr to).length<=l.length:=List.length_filter_le _ _
def FZ(l:List P')(hl:l.length<=1000000)(fr to:Int):aV prog 322 [aH l,vI fr,vI to] (aH (xX l fr to)):=λU=>by
 refine Q3.r (by simp[MM]) ?_;have hs:=aa.refl U;refine ad.mix 7 ?_;apply sR;simp only[go_sem,seval,MM];refine af λi4 Z4 s4 a4 f4=>?_;have z4:=hs.none f4;replace hs:=hs.trans s4;simp only[go_sem,seval];refine af λi5 Z5 s5 a5 f5=>?_;have Tp:=ao a4 f5;replace a4:=s5 _ _ a4;have z5:=hs.none f5;replace hs:=hs.trans s5;simp only[go_sem,seval];refine ad.call rfl rfl rfl (oD func62 (e62.b.trans rfl) e62.c (l.map aQ) (by simp;omega) _) ?_;rintro r Z9 ⟨h9,ho9⟩;apply sR;simp only[go_sem,seval];refine ad.call rfl rfl rfl (v8 l hl h9 ho9 (tu fr to) (λx _ J Zm=>Kz fr to x (Zm _ _ a4) (Zm _ _ a5))) ?_;rintro r2 Ws ⟨hp,VY⟩;apply sR;simp only[go_sem,seval];exact⟨_,U,hs.trans VY,hp.wk hs (hs.trans VY),rfl,rfl⟩
def fD(l:List P')(s:R0)(to:Int):List P':=xX l (if s.done>0 then s.atom+1 else s.atom) to
def FE(l:List P')(hl:l.length<=1000000)(s:R0)(ha:Rq .i64 (s.atom+1))(to:Int):aV prog 294 [aH l,bj s,vI to] (aH (fD l s to)):=λU=>by
 refine PO.r (by simp[Mx]) ?_;have hs:=aa.refl U;have TS:(bj s).cells=[vI s.atom,vI s.done,.bool s.free]:=rfl;have UH:(bj s).stays=true:=rfl;refine ad.mix 7 ?_;apply sR;simp only[go_sem,seval,Mx,TS,UH];refine af λi4 Z4 s4 a4 f4=>?_;have z4:=hs.none f4;replace hs:=hs.trans s4;rw[bj]at a4;by_cases hd:s.done>0
 .have q:(s.done>0)=True:=eq_true hd;simp only[go_sem,seval,a4,q,ha];refine ad.aB rfl rfl rfl (FZ l hl _ _ _) ?_;apply sR;simp only[go_sem,seval];exact ay.pure hs (by rw[fD,if_pos hd])
 .have q:(s.done>0)=False:=eq_false hd;simp only[go_sem,seval,a4,q];refine ad.aB rfl rfl rfl (FZ l hl _ _ _) ?_;apply sR;simp only[go_sem,seval];exact ay.pure hs (by rw[fD,if_neg hd])
open Go.Proofs Go.Proofs.Tryz
def dW(v u:V):Prop:=∀a n b m,v=.own a 0 n->u=.own b 0 m->a≠b
def dW.symm{v u:V}(h:dW v u):dW u v:=λa n b m h1 h2 e=>h b m a n h2 h1 e.symm
def dW.aC(u:V):dW .aC u:=λ_ _ _ _ h _=>by cases h
def aT.MN{K ZJ Z1:ai}{e sz:Nat}{v:V}{rows:List V}(h:aT K ZJ e sz v rows)(hs:aa ZJ Z1):
 ∃Rr,cg Z1 e sz v=some (rows,Rr)/\∀i,Rr=some i->K i=none/\(∃o,ZJ i=some o)/\v=.own i 0 rows.length:=by
 rcases h with⟨rfl,rfl⟩|⟨id,rfl,ho,hk⟩
 .exact⟨none,rfl,λ_ h=>by cases h⟩
 .refine⟨some id,?_,λi h=>by cases h;exact⟨hk,⟨_,ho⟩,rfl⟩⟩;simp only[cg,hs _ _ ho];rw[if_pos ⟨trivial,trivial,trivial,Nat.le_refl _⟩,List.take_length]
def aT.PC{K U:ai}{e sz:Nat}{v:V}{rows:List V}(h:aT K U e sz v rows){Rr:Option Nat}(h1:∀i,Rr=some i->∀n,v≠.own i 0 n){id:Nat}{o:Ob}(h2:U id=none):aT K (C' (Vc.bK U Rr) id o) e sz v rows:=by
 rcases h with h|⟨a,rfl,ho,hk⟩
 .exact .inl h
 .refine .inr ⟨a,rfl,?_,hk⟩;have hai:a≠id:=λe=>by subst e;rw[ho]at h2;cases h2
  rw[Vc.ab hai];cases Rr with
  |none=>exact ho
  |some i=>
   have:a≠i:=λe=>h1 i rfl _ (by rw[e]);simp only[Vc.bK];rw[dO this];exact ho
def dW.new{U K:ai}{e sz id n:Nat}{u:V}{rows:List V}(hu:aT K U e sz u rows)(h:U id=none):dW (.own id 0 n) u:=by
 rintro a k b m h1 rfl e;cases h1;subst e;rcases hu with⟨h,_⟩|⟨i,h,h2,_⟩
 .cases h
 .cases h;rw[h]at h2;cases h2
structure SoJ(Z0:ai)(ix:Nat)(p q:List P')(U:ai):Prop where
 row:∃v u,U ix=some ⟨371,2,[.agg [v,u]]⟩/\aT (bg Z0 ix) U 150 7 v (p.map aQ)/\aT (bg Z0 ix) U 150 7 u (q.map aQ)/\dW v u
 sub:aa Z0 U
 no:Z0 ix=none
def EU{Z0 ZJ ZB Z8:ai}{ix e sz:Nat}{v u:V}{rows Wz:List V}(U3:bh ZJ ZB ZJ Z8)(Js:aa Z0 ZJ)(Jn:Z0 ix=none){ox:Ob}(Jx:ZJ ix=some ox)
 (Jv:aT (bg Z0 ix) ZJ e sz v rows)(Ju:aT (bg Z0 ix) ZJ e sz u Wz)(hap:dW v u):
 ∃Rr,cg Z8 e sz v=some (rows,Rr)/\∀(id:Nat) (Rd:List V) (o':Ob),Z8 id=none->
  ix≠id/\Vc.bK Z8 Rr ix=some ox/\aa Z0 (C' (C' (Vc.bK ZJ Rr) id ⟨e,sz,Rd⟩) ix o')/\bh ZJ ZB (C' (C' (Vc.bK ZJ Rr) id ⟨e,sz,Rd⟩) ix o') (C' (C' (Vc.bK Z8 Rr) id ⟨e,sz,Rd⟩) ix o')/\
  aT (bg Z0 ix) (C' (C' (Vc.bK ZJ Rr) id ⟨e,sz,Rd⟩) ix o') e sz (.own id 0 Rd.length) Rd/\aT (bg Z0 ix) (C' (C' (Vc.bK ZJ Rr) id ⟨e,sz,Rd⟩) ix o') e sz u Wz/\dW (.own id 0 Rd.length) u:=by
 obtain⟨Rr,SM,Vj⟩:=Jv.MN U3.1;refine⟨Rr,SM,λid Rd o' f=>?_⟩;have k2:bg Z0 ix ix≠none:=λh=>(aM.1 h).1 rfl;have UF:∀(i:Nat) (Zx:ai),bg Z0 ix i≠none->Vc.bK Zx Rr i=Zx i:=λi Zx hk=>by
  cases Rr with
  |none=>rfl
  |some a=>exact dO (λe=>hk (by rw[e];exact(Vj a rfl).1))
 have c8:=U3.1 _ _ Jx;have m:ix≠id:=ao c8 f;have fJ:ZJ id=none:=by
  cases h:ZJ id with
  |none=>rfl
  |some o=>rw[U3.1 _ _ h]at f;cases f
 have f':Vc.bK Z8 Rr id=none:=by
  cases Rr with
  |none=>exact f
  |some a=>simp only[Vc.bK,del];split<;>first|rfl|exact f
 have hk:bg Z0 ix id=none:=by
  rw[aM];refine⟨m.symm,?_⟩;cases h:Z0 id with
  |none=>rfl
  |some o=>rw[Js _ _ h]at fJ;cases fJ
 refine⟨m,by rw[UF _ _ k2];exact c8,?_,((U3.CT (e:=Rr) λi h=>(Vj i h).2.1).new f').set (id:=ix) (o:=ox) (by rw[ab m,UF _ _ k2];exact Jx),?_,?_,dW.new Ju fJ⟩
 .refine aa.aE (λi o h=>?_) Jn;have h1:=Js _ _ h;rw[ab (λe=>by subst e;rw[h1]at fJ;cases fJ),UF _ _ (λhk=>by rw[(aM.1 hk).2]at h;cases h)];exact h1
 .exact aT.new rfl (by rw[ab m.symm,ag]) hk
 .exact(Ju.PC (λi h n e=>hap _ _ _ _ (Vj i h).2.2 e rfl) fJ).ab k2
def qS(q:List P')(m:P')(body:Int):Bool:=decide (q≠[]\/m.y+m.h>body)
def Hx(p q:List P')(hp:p.length<=1000000)(hq:q.length<=1000000)(f m:P')(body:Int)(hr:Rq .i64 (m.y+m.h)){Z0 ZJ ZB:ai}{ix:Nat}(hJ:SoJ Z0 ix p q ZJ)(G':aa ZJ ZB):
 aD prog 295 [.ptr ix 0 0,aQ f,aQ m,vI body] ZB λ_ Z'=>∃RC,bh ZJ ZB RC Z'/\SoJ Z0 ix (if qS q m body then p else p++[m]) (if qS q m body then q++[f]else q) RC:=by
 refine OS.r (by simp[Jy]) ?_;obtain⟨⟨v,u,Jx,Jv,Ju,hap⟩,Js,Jn⟩:=hJ;obtain⟨vc,vs⟩:=Jv.vc;obtain⟨uc,us⟩:=Ju.vc;have Va:∀f:P',(aQ f).cells=[vI f.node,vI f.side,vI f.anchor,vI f.x,vI f.y,vI f.w,vI f.h]:=λ_=>rfl;have Tk:∀f:P',(aQ f).stays=true:=λ_=>rfl;refine ad.mix 5 ?_;apply sR;simp only[go_sem,seval,Jy,Va,Tk];rw[aO];intro i5 f5;have hB5:=(bh.refl G').px (o:=⟨150,7,[aQ f]⟩) f5;have a5:C' ZB i5 ⟨150,7,[aQ f]⟩ i5=some ⟨150,7,[aQ f]⟩:=ag;have TT:∀f:P',V.agg [vI f.node,vI f.side,vI f.anchor,vI f.x,vI f.y,vI f.w,vI f.h]=aQ f:=λ_=>rfl;generalize TR:C' ZB i5 ⟨150,7,[aQ f]⟩=Z5 at*;simp only[go_sem,seval,Va,Tk];rw[aO];intro i6 f6;have hB6:=hB5.px (o:=⟨150,7,[aQ m]⟩) f6;have a6:C' Z5 i6 ⟨150,7,[aQ m]⟩ i6=some ⟨150,7,[aQ m]⟩:=ag;replace a5:=(ab (o:=⟨150,7,[aQ m]⟩) (ao a5 f6)).trans a5;generalize Vy:C' Z5 i6 ⟨150,7,[aQ m]⟩=Z6 at*;have cx:=hB6.1 _ _ Jx;have hlq:dz false u=some (.int .i64 q.length):=by have:=Ju.len;rwa [List.length_map]at this
 have hrq:((q++[f]).map aQ)=q.map aQ++[aQ f]:=by simp
 have hrp:((p++[m]).map aQ)=p.map aQ++[aQ m]:=by simp
 have hql:(q.map aQ).length<=1000000:=by simpa using hq
 have Vq:(p.map aQ).length<=1000000:=by simpa using hp
 have hql0:(q.map aQ).length=q.length:=List.length_map _;rw[aQ]at a5 a6;by_cases hl:qS q m body=true
 .rw[if_pos hl,if_pos hl];by_cases hq0:q=[]
  .have q13:((q.length:Int)>0)=False:=by subst hq0;simp
   have qy:(m.y+m.h>body)=True:=by
    simp only[qS,hq0,decide_eq_true_eq]at hl;exact eq_true (hl.resolve_left (by simp))
   simp only[go_sem,seval,cx,vc,uc,hlq,q13,qy,hr,a5,a6];rw[aP];intro i29 f29;have hB7:=hB6.px (o:=⟨150,7,[(V.agg [vI f.node,vI f.side,vI f.anchor,vI f.x,vI f.y,vI f.w,vI f.h])]⟩) f29;have a29:C' Z6 i29 ⟨150,7,[(V.agg [vI f.node,vI f.side,vI f.anchor,vI f.x,vI f.y,vI f.w,vI f.h])]⟩ i29=some ⟨150,7,[(V.agg [vI f.node,vI f.side,vI f.anchor,vI f.x,vI f.y,vI f.w,vI f.h])]⟩:=ag;generalize SY:C' Z6 i29 ⟨150,7,[(V.agg [vI f.node,vI f.side,vI f.anchor,vI f.x,vI f.y,vI f.w,vI f.h])]⟩=Z7 at*;obtain⟨Rr,SM,XD⟩:=EU hB7 Js Jn Jx Ju Jv hap.symm;generalize q.map aQ=rows at*;have Sb:(rows.length+1)*57<=140737488355328:=by omega
   simp only[go_sem,seval,SM,dS a29,Sb];rw[aP];intro ZS f30;obtain⟨m30,hx,g1,g2,g3,g4,g5⟩:=XD ZS (rows++[(V.agg [vI f.node,vI f.side,vI f.anchor,vI f.x,vI f.y,vI f.w,vI f.h])]) ⟨371,2,[.agg [v,.own ZS 0 (rows++[(V.agg [vI f.node,vI f.side,vI f.anchor,vI f.x,vI f.y,vI f.w,vI f.h])]).length]]⟩ f30;have y2:C' (Vc.bK Z7 Rr) ZS ⟨150,7,rows++[(V.agg [vI f.node,vI f.side,vI f.anchor,vI f.x,vI f.y,vI f.w,vI f.h])]⟩ ix=_:=(ab m30).trans hx;have XO:(rows++[(V.agg [vI f.node,vI f.side,vI f.anchor,vI f.x,vI f.y,vI f.w,vI f.h])]).length=rows.length+1:=by simp
   rw[XO]at g1 g2 g3 g4 g5;simp only[go_sem,seval,y2,vc,uc,vs,us];refine⟨_,_,aa.refl _,Wk.refl (aa.refl _) _,_,g2,⟨v,_,ag,g4,?_,g5.symm⟩,g1,Jn⟩;rw[hrq];exact g3
  .have q13:((q.length:Int)>0)=True:=eq_true (by have:=List.length_pos_iff.2 hq0;omega);simp only[go_sem,seval,cx,vc,uc,hlq,q13,a5,a6];rw[aP];intro i29 f29;have hB7:=hB6.px (o:=⟨150,7,[(V.agg [vI f.node,vI f.side,vI f.anchor,vI f.x,vI f.y,vI f.w,vI f.h])]⟩) f29;have a29:C' Z6 i29 ⟨150,7,[(V.agg [vI f.node,vI f.side,vI f.anchor,vI f.x,vI f.y,vI f.w,vI f.h])]⟩ i29=some ⟨150,7,[(V.agg [vI f.node,vI f.side,vI f.anchor,vI f.x,vI f.y,vI f.w,vI f.h])]⟩:=ag;generalize SY:C' Z6 i29 ⟨150,7,[(V.agg [vI f.node,vI f.side,vI f.anchor,vI f.x,vI f.y,vI f.w,vI f.h])]⟩=Z7 at*;obtain⟨Rr,SM,XD⟩:=EU hB7 Js Jn Jx Ju Jv hap.symm;generalize q.map aQ=rows at*;have Sb:(rows.length+1)*57<=140737488355328:=by omega
   simp only[go_sem,seval,SM,dS a29,Sb];rw[aP];intro ZS f30;obtain⟨m30,hx,g1,g2,g3,g4,g5⟩:=XD ZS (rows++[(V.agg [vI f.node,vI f.side,vI f.anchor,vI f.x,vI f.y,vI f.w,vI f.h])]) ⟨371,2,[.agg [v,.own ZS 0 (rows++[(V.agg [vI f.node,vI f.side,vI f.anchor,vI f.x,vI f.y,vI f.w,vI f.h])]).length]]⟩ f30;have y2:C' (Vc.bK Z7 Rr) ZS ⟨150,7,rows++[(V.agg [vI f.node,vI f.side,vI f.anchor,vI f.x,vI f.y,vI f.w,vI f.h])]⟩ ix=_:=(ab m30).trans hx;have XO:(rows++[(V.agg [vI f.node,vI f.side,vI f.anchor,vI f.x,vI f.y,vI f.w,vI f.h])]).length=rows.length+1:=by simp
   rw[XO]at g1 g2 g3 g4 g5;simp only[go_sem,seval,y2,vc,uc,vs,us];refine⟨_,_,aa.refl _,Wk.refl (aa.refl _) _,_,g2,⟨v,_,ag,g4,?_,g5.symm⟩,g1,Jn⟩;rw[hrq];exact g3
 .rw[if_neg hl,if_neg hl];simp only[qS,decide_eq_true_eq,not_or,Decidable.not_not]at hl;have q13:((q.length:Int)>0)=False:=by rw[hl.1];simp
  have qy:(m.y+m.h>body)=False:=eq_false hl.2;simp only[go_sem,seval,cx,vc,uc,hlq,q13,qy,hr,a5,a6];rw[aP];intro i29 f29;have hB7:=hB6.px (o:=⟨150,7,[(V.agg [vI m.node,vI m.side,vI m.anchor,vI m.x,vI m.y,vI m.w,vI m.h])]⟩) f29;have a29:C' Z6 i29 ⟨150,7,[(V.agg [vI m.node,vI m.side,vI m.anchor,vI m.x,vI m.y,vI m.w,vI m.h])]⟩ i29=some ⟨150,7,[(V.agg [vI m.node,vI m.side,vI m.anchor,vI m.x,vI m.y,vI m.w,vI m.h])]⟩:=ag;generalize SY:C' Z6 i29 ⟨150,7,[(V.agg [vI m.node,vI m.side,vI m.anchor,vI m.x,vI m.y,vI m.w,vI m.h])]⟩=Z7 at*;obtain⟨Rr,SM,XD⟩:=EU hB7 Js Jn Jx Jv Ju hap;generalize p.map aQ=rows at*;have Sb:(rows.length+1)*57<=140737488355328:=by omega
  simp only[go_sem,seval,SM,dS a29,Sb];rw[aP];intro ZS f30;obtain⟨m30,hx,g1,g2,g3,g4,g5⟩:=XD ZS (rows++[(V.agg [vI m.node,vI m.side,vI m.anchor,vI m.x,vI m.y,vI m.w,vI m.h])]) ⟨371,2,[.agg [.own ZS 0 (rows++[(V.agg [vI m.node,vI m.side,vI m.anchor,vI m.x,vI m.y,vI m.w,vI m.h])]).length,u]]⟩ f30;have y2:C' (Vc.bK Z7 Rr) ZS ⟨150,7,rows++[(V.agg [vI m.node,vI m.side,vI m.anchor,vI m.x,vI m.y,vI m.w,vI m.h])]⟩ ix=_:=(ab m30).trans hx;have XO:(rows++[(V.agg [vI m.node,vI m.side,vI m.anchor,vI m.x,vI m.y,vI m.w,vI m.h])]).length=rows.length+1:=by simp
  rw[XO]at g1 g2 g3 g4 g5;simp only[go_sem,seval,y2,vc,uc,vs,us];refine⟨_,_,aa.refl _,Wk.refl (aa.refl _) _,_,g2,⟨_,u,ag,?_,g4,g5⟩,g1,Jn⟩;rw[hrp];exact g3
open Go.Proofs Go.Proofs.Tryz
def bh.from{ZJ U J RC Z':ai}(h:bh ZJ J RC Z')(hs:aa U J):bh ZJ U RC Z':=⟨h.1,λi o h1 h2=>h.2 i o h1 (hs _ _ h2)⟩
def l8(body:Int)(x:List P'×List P')(f m:P'):List P'×List P':=(if qS x.2 m body then x.1 else x.1++[m],if qS x.2 m body then x.2++[f]else x.2)
def fV(top shift:Int)(f:P'):P':={ f with y:=max 0 (f.y-top)+shift }
def ju(top shift body:Int)(L:List P'):List P'×List P':=L.foldl (λx f=>l8 body x f (fV top shift f)) ([],[])
def AI(top shift body:Int)(L:List P')(f:P'):ju top shift body (L++[f])=l8 body (ju top shift body L) f (fV top shift f):=by
 unfold ju;rw[List.foldl_append];rfl
def pL(top shift body:Int)(L:List P'):(ju top shift body L).1.length+(ju top shift body L).2.length=L.length:=by
 have key:∀(L:List P') (x:List P'×List P'),(L.foldl (λx f=>l8 body x f (fV top shift f)) x).1.length+(L.foldl (λx f=>l8 body x f (fV top shift f)) x).2.length=x.1.length+x.2.length+L.length:=by
  intro L
  induction L with
  |nil=>intro x;rfl
  |cons f L ih=>
   intro x;rw[List.foldl_cons,ih];unfold l8;split<;>simp<;>omega
 have:=key L ([],[]);simpa[ju]using this
def si(l:List RY)(s:R0)(kept:Int):Int:=(Sq l s.atom).y+s.done-kept
def dG(l:List RY)(fl:List P')(s:R0)(to kept shift body:Int):List P'×List P':=if bZ l s then ju (si l s kept) shift body (fD fl s to)else([],[])
def Ed(x:Int):(if x>0 then x else 0)=max 0 x:=by split<;>omega
def EK(l:List RY)(hl:lF l)(fl:List P')(UL:fl.length<=1000000)(V8:∀f∈fl,f.ok)(s:R0)(hd:s.done<=1152921504606846976)(to kept shift body:Int)(hk:-1152921504606846976<=kept/\kept<=2305843009213693952)(UM:0<=shift/\shift<=1152921504606846976):
 aV prog 242 [bl l,aH fl,bj s,vI to,vI kept,vI shift,vI body] (.Rf [aH (dG l fl s to kept shift body).1,aH (dG l fl s to kept shift body).2]):=λU=>by
 refine Ow.r (by simp[Jm]) ?_;have hs:=aa.refl U;have XO:=hl.len;have TS:(bj s).cells=[vI s.atom,vI s.done,.bool s.free]:=rfl;have UH:(bj s).stays=true:=rfl;refine ad.mix 20 ?_;apply sR;simp only[go_sem,seval,Jm,TS,UH];refine af λi9 Z9 s9 a9 f9=>?_;have z9:=hs.none f9;replace hs:=hs.trans s9;simp only[go_sem,seval];refine af λSN Z12 WV a12 f12=>?_;have n912:=ao a9 f12;replace a9:=WV _ _ a9;have z12:=hs.none f12;replace hs:=hs.trans WV;simp only[go_sem,seval];refine af λWM Y13 s13 TB f13=>?_;have n913:=ao a9 f13;replace a9:=s13 _ _ a9;have n1213:=ao a12 f13;replace a12:=s13 _ _ a12;have z13:=hs.none f13;replace hs:=hs.trans s13;rw[bj]at a9;simp only[go_sem,seval,a9,al,ak];refine ad.aB rfl rfl rfl (pP l s _) ?_;unfold dG;by_cases hm:bZ l s
 .rw[decide_eq_true hm,if_pos hm];obtain⟨h0,h2⟩:=hm.1;obtain⟨k,Vf⟩:∃k:Nat,s.atom=k:=⟨s.atom.toNat,by omega⟩
  have Tv:k<l.length:=by omega
  have Q9:=λU=>iy (U:=U) Tv;have hy:=hl.Xp _ (List.getElem_mem Tv);have Vv:=hm.2.1;have Xt:si l s kept=l[k].y+s.done-kept:=by rw[si,Vf,bz Tv]
  have r1:Rq .i64 (l[k].y+s.done):=aq (by omega) (by omega);have r2:Rq .i64 (l[k].y+s.done-kept):=aq (by omega) (by omega);have htr:-4611686018427387904<=si l s kept/\si l s kept<=4611686018427387904:=by rw[Xt];omega
  have Sn:=pj fl (if s.done>0 then s.atom+1 else s.atom) to;have hcm:∀f∈fD fl s to,f.ok:=λf hf=>V8 f ((List.mem_filter.1 hf).1);have hca:=FE fl UL s (aq (by omega) (by omega)) to;have hcl':(fD fl s to).length<=1000000:=Nat.le_trans Sn UL;generalize fD fl s to=L at*;rw[Vf]at a9;apply sR;simp only[go_sem,seval,Vf];refine af λi16 Z16 s16 a16 f16=>?_;have n916:=ao a9 f16;replace a9:=s16 _ _ a9;have n1216:=ao a12 f16;replace a12:=s16 _ _ a12;have n1316:=ao TB f16;replace TB:=s16 _ _ TB;have z16:=hs.none f16;replace hs:=hs.trans s16;simp only[go_sem,seval,a16,a9,Q9,cF,r1,r2,al,ak];refine bx λi17 Y17 s17 Wt f17=>?_;have n917:=ao a9 f17;replace a9:=s17 _ _ a9;have n1217:=ao a12 f17;replace a12:=s17 _ _ a12;have YI:=ao TB f17;replace TB:=s17 _ _ TB;have n1617:=ao a16 f17;replace a16:=s17 _ _ a16;have z17:=hs.none f17;replace hs:=hs.trans s17;simp only[go_sem,seval,Wt,a9,ab n917,ab n1217,ab YI,ab n1617];generalize Yp:C' _ i17 _=Z17;replace Wt:=(congrFun Yp i17).symm.trans ag;replace a9:=((congrFun Yp i9).symm.trans (ab n917)).trans a9;replace a12:=((congrFun Yp SN).symm.trans (ab n1217)).trans a12;replace TB:=((congrFun Yp WM).symm.trans (ab YI)).trans TB;replace a16:=((congrFun Yp i16).symm.trans (ab n1617)).trans a16;replace hs:=Eq.subst (motive:=aa _) Yp (hs.aE z17);clear Yp;rw[bj,Vf]at hca;refine ad.aB rfl rfl rfl (hca _) ?_;apply sR;simp only[go_sem,seval];refine ad.aB rfl rfl rfl (J4 L _) ?_;apply sR;simp only[go_sem,seval];rw[<-Xt]at Wt;generalize si l s kept=top at*;generalize hS:mix 20 _ _=S;have S12:S 12=.ptr SN 0 0:=by rw[<-hS];rfl
  have S13:S 13=.ptr WM 0 0:=by rw[<-hS];rfl
  have S16:S 16=.ptr i16 0 0:=by rw[<-hS];rfl
  have S17:S 17=.ptr i17 0 0:=by rw[<-hS];rfl
  have S39:S 39=.fn 321 [.rp (aH L)]:=by rw[<-hS];rfl
  clear hS;obtain⟨Z0,hY0⟩:∃Z0,Z0=del Z17 i16:=⟨_,rfl⟩
  have d0:∀i,i≠i16->Z0 i=Z17 i:=λi hi=>by rw[hY0];exact dO hi
  have Xo:Z0 SN=_:=(d0 _ n1216).trans a12;have b13:Z0 WM=_:=(d0 _ n1316).trans TB;have b17:Z0 i17=_:=(d0 _ n1617.symm).trans Wt;have b16:Z0 i16=none:=by rw[hY0];simp[del]
  have RX:aa U Z0:=λi o h=>by
   rw[d0 i (λe=>by rw[e,z16]at h;cases h)];exact hs _ _ h
  have h16:SoJ Z0 i16 [] [] Z17:=⟨⟨.aC,.aC,a16,aT.start,aT.start,dW.aC _⟩,hY0▸aa.wz _ _,b16⟩
  refine ad.cZ (g:=.t 39) (caps:=[.rp (aH L)]) S39 (CX L hcl') (λy hy=>?_) [] (λpre ZJ=>SoJ Z0 i16 (ju top shift body (L.take pre.length)).1 (ju top shift body (L.take pre.length)).2 ZJ)
   (λ_ _ _=>False) ?_ ?_ ?_ ?_ ?_
  .obtain⟨t,_,rfl⟩:=List.mem_map.1 hy;rfl
  .exact h16
  .rintro pre y post ZJ ZB TJ hJ G';obtain⟨f,hf,rfl⟩:=oF TJ;obtain⟨H',hfe⟩:=List.getElem?_eq_some_iff.1 hf;have hlen:(pre++[[aQ f]]).length=pre.length+1:=by simp
   have Sf:L.take (pre.length+1)=L.take pre.length++[f]:=by rw[List.take_succ_eq_append_getElem H',hfe]
   have Tv:=pL top shift body (L.take pre.length);have Vq:(L.take pre.length).length<=1000000:=by rw[List.length_take];omega
   rw[hlen,Sf,AI];generalize ju top shift body (L.take pre.length)=x at*;have hfo':=hcm f (List.mem_of_getElem? hf);have a12:=G' _ _ (hJ.sub _ _ Xo);have TB:=G' _ _ (hJ.sub _ _ b13);have Wt:=G' _ _ (hJ.sub _ _ b17);obtain⟨o1,o2,o3,o4⟩:=hfo';unfold Bq at o1 o2 o3 o4;have q1:Rq .i64 (f.y-top):=aq (by omega) (by omega);have q2:Rq .i64 (max 0 (f.y-top)+shift):=aq (by omega) (by omega);generalize Tg:me S [40] [aQ f]=S0;have T12:S0 12=.ptr SN 0 0:=by rw[<-Tg];exact S12
   have T13:S0 13=.ptr WM 0 0:=by rw[<-Tg];exact S13
   have T16:S0 16=.ptr i16 0 0:=by rw[<-Tg];exact S16
   have T17:S0 17=.ptr i17 0 0:=by rw[<-Tg];exact S17
   have T40:S0 40=.agg [vI f.node,vI f.side,vI f.anchor,vI f.x,vI f.y,vI f.w,vI f.h]:=by rw[<-Tg];rfl
   clear Tg;have hs:=aa.refl ZB;refine ad.mix 20 ?_;apply sR;simp only[go_sem,seval];refine af λi18 Z18 s18 a18 f18=>?_;have n1218:=ao a12 f18;replace a12:=s18 _ _ a12;have n1318:=ao TB f18;replace TB:=s18 _ _ TB;have n1718:=ao Wt f18;replace Wt:=s18 _ _ Wt;have z18:=hs.none f18;replace hs:=hs.trans s18;simp only[go_sem,seval,a18,T40];generalize Zq:C' _ i18 _=Y18;replace a18:=(congrFun Zq i18).symm.trans ag;replace a12:=((congrFun Zq SN).symm.trans (ab n1218)).trans a12;replace TB:=((congrFun Zq WM).symm.trans (ab n1318)).trans TB;replace Wt:=((congrFun Zq i17).symm.trans (ab n1718)).trans Wt;replace hs:=Eq.subst (motive:=aa _) Zq (hs.aE z18);clear Zq;apply sR;simp only[go_sem,seval,a18];refine af λi19 Z19 s19 WZ f19=>?_;have n1819:=ao a18 f19;replace a18:=s19 _ _ a18;have n1219:=ao a12 f19;replace a12:=s19 _ _ a12;have n1319:=ao TB f19;replace TB:=s19 _ _ TB;have n1719:=ao Wt f19;replace Wt:=s19 _ _ Wt;have z19:=hs.none f19;replace hs:=hs.trans s19;simp only[go_sem,seval,WZ,a18,Wt,a12,TB,T12,T13,T16,T17,ab n1819,ab n1719,ab n1219,ab n1319,q1,q2,Ed];generalize Yq:C' _ i19 _=Y19;replace WZ:=(congrFun Yq i19).symm.trans ag;replace a18:=((congrFun Yq i18).symm.trans (ab n1819)).trans a18;replace a12:=((congrFun Yq SN).symm.trans (ab n1219)).trans a12;replace TB:=((congrFun Yq WM).symm.trans (ab n1319)).trans TB;replace Wt:=((congrFun Yq i17).symm.trans (ab n1719)).trans Wt;replace hs:=Eq.subst (motive:=aa _) Yq (hs.aE z19);clear Yq;have hc:=Hx x.1 x.2 (by omega) (by omega) f (fV top shift f) body (aq (by simp only[fV];omega) (by simp only[fV];omega)) hJ (G'.trans hs);rw[<-T16]at hc;refine ad.call rfl rfl rfl hc ?_;rintro-Z2 ⟨RC,hB,TE⟩;apply sR;simp only[go_sem,seval];exact⟨_,hB.from hs,TE⟩
  .rintro Z' hJ;have Sh:(L.map λf=>[aQ f]).length=L.length:=by simp
   rw[Sh,List.take_length]at hJ;obtain⟨⟨v,u,Jx,Jv,Ju,_⟩,Js,Jn⟩:=hJ;obtain⟨vc,vs⟩:=Jv.vc;obtain⟨uc,us⟩:=Ju.vc;refine ad.mix 20 ?_;apply sR;simp only[go_sem,seval,S16,Jx,vc,uc,vs,us];have RA:=RX.trans Js;have hK:aa U (bg Z0 i16):=λi o hh=>by
    rw[bg,if_neg (λe=>by rw[e,z16]at hh;cases hh)];exact RX _ _ hh
   exact⟨_,U,RA,Wk.Rf (vs':=[aH (ju top shift body L).1,aH (ju top shift body L).2]) ⟨Jv.wk hK RA,Ju.wk hK RA,trivial⟩,rfl,rfl⟩
  .intro id h;cases h
  .rintro pre Z' _ ⟨⟩
 .rw[decide_eq_false hm,if_neg hm];apply sR;simp only[go_sem,seval];exact⟨_,U,hs,Wk.Rf (vs':=[aH [],aH []]) ⟨Wk.aC 7,Wk.aC 7,trivial⟩,rfl,rfl⟩
variable {P:Program} {n:Nat} {st:St} {Q:St->Prop} {k:List It} {I:Mu} {w:World}
def HP{o:Op}{sz:Nat}{xs:List VX}(h:RG P n o=.more (.cpy sz) xs):∃x y t e args argTypes,o=.call { callee:=.builtin .copy,args:=args,argTypes:=argTypes }/\
 args=#[x,y]/\argTypes[0]?=some t/\P.underlying t=some (.slice e)/\bU P e=true/\P.cellsOf e=sz/\xs=[cx n x,cx n y]:=by
 cases o
 case call c=>
  obtain⟨callee,args,argTypes⟩:=c;cases callee
  case builtin b=>
   cases b
   case copy=>
    simp only[RG,cO]at h;split at h
    .rename_i x y t h1 h2;split at h
     .rename_i e he;split at h
      .rename_i hz;simp only[Rt.more.injEq,MOp.cpy.injEq]at h;exact⟨x,y,t,e,args,argTypes,rfl,by apply Array.ext';simpa using h1,h2,he,hz,h.1,h.2.symm⟩
      .cases h
     .cases h
    .cases h
   all_goals (simp only[RG,cO]at h;(repeat' split at h)<;>cases h)
  all_goals (simp only[RG,cO]at h;(repeat' split at h)<;>cases h)
 case unOp op t x=>cases op<;>simp only[RG,cO]at h<;>cases h
 case makeFunc f a b=>cases f<;>simp only[RG,cO]at h<;>(repeat' split at h)<;>cases h
 all_goals (simp only[RG,cO]at h;(repeat' split at h)<;>cases h)
def CZ{F:Fr}{a:Act}(hs:dt F I st a w){o:Oper}{x y:Operand}{t e:TypeId}{args:Array Operand}{argTypes:Array TypeId}
 (Wa:o.op=.call { callee:=.builtin .copy,args:=args,argTypes:=argTypes })(harg:args=#[x,y])(WD:argTypes[0]?=some t)
 (ht:P.underlying t=some (.slice e))(hk:bU P e=true){id off len:Nat}(h1:(cx F.n x).ev st.s=.own id off len){ob:Ob}(h2:st.U id=some ob)
 (h3:ob.sz=P.cellsOf e)(h4:off+len<=ob.rows.length){rows:List V}(h5:bR st.U (P.cellsOf e) ((cx F.n y).ev st.s)=some rows)(h6:rows.length=len):
 ∃y w',(execOp a.eval o).run P w=.ok (.value y) w'/\
  dt F I ⟨aX st.s (o.dst.filter (·<F.n)) (.int .i64 len),C' st.U id { ob with rows:=ob.rows.take off++rows++ob.rows.drop (off+len) }⟩ (a.put o.dst y) w':=by
 have Su:=(dK hk).2.2;have R:=cL hs;have hx:=R x;rw[h1]at hx;simp only[E']at hx;obtain⟨news,hY,n1,n2,n3,n4,n5⟩:=mZ (P:=P) hs.sat Su h5 (R y);have RT:∀v w',(Builtin.copy_ argTypes o.type #[a.eval x,a.eval y]).run P w=.ok v w'->(execOp a.eval o).run P w=.ok (.value v) w':=by
  intro v w' XZ;unfold execOp;rw[Wa];simp[resolve,invoke,Go.builtin,harg,XZ]
 have Ur:E' I (aG I st.U) w (.int .i64 len) (goInt len):=by simp only[E'];rfl
 have hcopy:∀b c,a.eval x=.slice b len c->(Builtin.copy_ argTypes o.type #[a.eval x,a.eval y]).run P w=((match b with|some q=>storeCells q news 0|none=>pure ()).run P w).andThen λ_ w'=>.ok (goInt len) w':=by
  intro b c hX;have hlen:=hY w;have Va:=n5 w (λ_ _ _ h=>h);rw[h6]at hlen Va;rw[hX];have hm:Nat.min len len=len:=Nat.min_self len;cases b
  .simp[Builtin.copy_,WD,run_underlying ht,hlen,hm,ct hk,Va]
  .simp[Builtin.copy_,WD,run_underlying ht,hlen,hm,ct hk,Va]
 have hzero:len=0->∃y w',(execOp a.eval o).run P w=.ok (.value y) w'/\
  dt F I ⟨aX st.s (o.dst.filter (·<F.n)) (.int .i64 len),C' st.U id { ob with rows:=ob.rows.take off++rows++ob.rows.drop (off+len) }⟩ (a.put o.dst y) w':=by
  intro h0;subst h0;have hX:∃b c,a.eval x=.slice b 0 c:=by
   split at hx
   .exact hx.elim
   .exact⟨_,_,hx.1⟩
   .obtain⟨o',c,h,_⟩:=hx;exact⟨_,_,h⟩
  obtain⟨b,c,hX⟩:=hX;obtain rfl:rows=[]:=List.eq_nil_of_length_eq_zero h6;obtain rfl:news=[]:=List.eq_nil_of_length_eq_zero (by simpa using n4);have RA:C' st.U id { ob with rows:=ob.rows.take off++[]++ob.rows.drop (off+0) }=st.U:=by
   funext j;simp only[C',List.append_nil,Nat.add_zero,List.take_append_drop];split
   .rename_i e';rw[e',h2]
   .rfl
  rw[RA];refine⟨goInt 0,w,RT _ w ?_,hs.pure Ur⟩;rw[hcopy b c hX];cases b<;>simp[storeCells]
 split at hx
 .exact hx.elim
 .exact hzero hx.2.2
 .rename_i b UQ cap M';obtain⟨o',c,hX,c1,c2,c3,ZH⟩:=hx;by_cases h0:len=0
  .exact hzero h0
  have Sa:=hs.sat.obj id ob h2;rw[M']at Sa;obtain⟨cur,e1,e2,e3,e4,e5,e6,e7⟩:=Sa.plain ZH;obtain⟨g1,xs,g2,g3,g4,g5⟩:=e7.cur e1;have hoff:o'=off*UQ:=by
   rcases c3 with c3|c3
   .exact c3
   .omega
  subst hoff;have Ru:UQ=P.cellsOf e:=by omega
  subst Ru;have hbound:off*P.cellsOf e+len*P.cellsOf e<=ob.rows.length*P.cellsOf e:=by rw[<-Nat.add_mul];exact Nat.mul_le_mul_right _ h4
  have YA:ob.rows.length*P.cellsOf e<=cap*P.cellsOf e:=Nat.mul_le_mul_right _ e5;rw[h6]at n4;have RA:=run_storeCells_at P b (off*P.cellsOf e) ob.elem news 0 cur w e1 (by rw[n4];omega) n3;simp only[Nat.add_zero]at RA;refine⟨goInt len,w.setRow b (cur.toList.take (off*P.cellsOf e)++news++cur.toList.drop (off*P.cellsOf e+news.length)).toArray,RT _ _ ?_,?_⟩
  .rw[hcopy _ c hX];simp only[RA,Result.andThen_ok]
  .have Xd:w.grownBy (w.setRow b (cur.toList.take (off*P.cellsOf e)++news++cur.toList.drop (off*P.cellsOf e+news.length)).toArray) (some b):=
    ⟨rfl,rfl,rfl,by simp,λkk _ Vf=>setRow_other w b kk _ (λe=>Vf (by rw[e]))⟩
   have VF:∀q∈ob.rows.take off++rows++ob.rows.drop (off+len),q.cells.length=P.cellsOf e:=by
    intro q hq;simp only[List.mem_append]at hq;rcases hq with(hq|hq)|hq
    .exact g1 q (List.mem_of_mem_take hq)
    .exact n1 q hq
    .exact g1 q (List.mem_of_mem_drop hq)
   have VD:flat (ob.rows.take off++rows++ob.rows.drop (off+len))=
    (flat ob.rows).take (off*P.cellsOf e)++flat rows++(flat ob.rows).drop (off*P.cellsOf e+len*P.cellsOf e):=by
    rw[gM,gM,qe g1];congr 1;rw[vT g1,Nat.add_mul]
   have hch:=hs.sat.change h2 M' (by omega) Xd _ (ob.rows.take off++rows++ob.rows.drop (off+len)) (xs.take (off*P.cellsOf e)++news++xs.drop (off*P.cellsOf e+news.length))
    (setRow_heap w b cur _ ob.elem _ e1) (by simp only[List.size_toArray,List.length_append,List.length_take,List.length_drop,n4];rw[Array.length_toList];omega) (by simp;omega) VF
    (by rw[VD,n4];exact((g2.take _).append n2).append (g2.drop _))
    (by intro u hu
        simp only[List.mem_append]at hu;rcases hu with(hu|hu)|hu
        .exact g3 u (List.mem_of_mem_take hu)
        .exact n3 u hu
        .exact g3 u (List.mem_of_mem_drop hu))
    (by intro j u hu
        have:=kg cur.toList xs _ g5 (off*P.cellsOf e) (by rw[n4,g4];omega) j u hu;simpa using this)
   exact hs.step hch.1 (dc.refl _) hch.2 (by simp) (by simp only[E'];rfl)
def ad.cpy{i:aN}{l:List aN}{sz:Nat}{xa xb:VX}(hw:bw st.s i.g=some true)(ho:i.op=.more (.cpy sz) [xa,xb])
 {id off len:Nat}(h1:xa.ev st.s=.own id off len){ob:Ob}(h2:st.U id=some ob)(h3:ob.sz=sz)(h4:off+len<=ob.rows.length){rows:List V}(h5:bR st.U sz (xb.ev st.s)=some rows)(h6:rows.length=len)
 (h:ad P n (.ops l::k) ⟨aX st.s i.dst (.int .i64 len),C' st.U id { ob with rows:=ob.rows.take off++rows++ob.rows.drop (off+len) }⟩ Q):ad P n (.ops (i::l)::k) st Q:=by
 refine ad.ins (by rw[ho];simp) hw λF hn I a w o all hi hs next Q' Rp=>?_
 subst hn;obtain⟨Rk,hd⟩:=eE hi;rw[ho]at Rk;obtain⟨x,y,t,e,args,argTypes,g1,g2,g3,g4,g5,rfl,TJ⟩:=HP Rk;simp only[List.cons.injEq,and_true]at TJ;obtain⟨rfl,rfl⟩:=TJ;obtain⟨y,w',hx,Ru⟩:=CZ hs g1 g2 g3 g4 g5 h1 h2 h3 h4 h5 h6;unfold Oper.wp;rw[hx];refine Rp _ _ _ ⟨I,?_⟩ h;rw[<-hd];exact Ru
open Go.Proofs Go.Proofs.Tryz
def dC(body:Int):List P'->Int->List P'×List P'×Int
 |[],sh=>([],[],sh)
 |f::r,sh=>if sh+min f.h body>body then([],f::r,sh)else({ f with y:=sh,h:=min f.h body }::(dC body r (sh+min f.h body)).1,(dC body r (sh+min f.h body)).2)
def pV{P:List P'}{j:Nat}(h:j<=P.length):∀U,cM U 7 (aH P) (some (.int .i64 j)) none none=some (aH (P.drop j)):=λU=>by
 have h1:(j:Int)<=P.length:=by omega
 simp only[aH,cM,bF,List.length_map];rw[if_pos ⟨by omega,h1,Int.le_refl _,Int.le_refl _,trivial⟩,Int.toNat_natCast,Int.toNat_natCast,<-List.map_drop,List.take_of_length_le (by simp)]
def Fx(P:List P')(hP:P.length<=1000000)(body:Int)(hb0:1<=body)(Wb:body<=1099511627776)(hh:∀f∈P,0<=f.h):
 aV prog 117 [aH P,vI body] (.Rf [aH (dC body P 0).1,aH (dC body P 0).2.1,vI (dC body P 0).2.2]):=λU=>by
 refine P0.r (by simp[Mt]) ?_;have hs:=aa.refl U;have XP:=gk P;refine ad.mix 13 ?_;apply sR;simp only[go_sem,seval,Mt,XP];refine ad.fg (λst=>∃p q sh,dC body P 0=(p,q,sh)/\aa U st.U/\aT U st.U 150 7 (st.s 4) (p.map aQ)/\aT U st.U 150 7 (st.s 5) (q.map aQ)/\st.s 6=vI sh)
  (λm st=>∃(j:Nat) (acc:List P') (sh:Int),j<=P.length/\m=P.length-j/\acc.length=j/\dC body P 0=(acc++(dC body (P.drop j) sh).1,(dC body (P.drop j) sh).2)/\0<=sh/\sh<=body/\aa U st.U/\aT U st.U 150 7 (st.s 4) (acc.map aQ)/\st.s 5=.aC/\st.s 6=vI sh/\st.s 0=aH P/\st.s 1=vI body/\st.s 10=aH P/\st.s 11=vI P.length/\st.s 12=vI j) P.length ?_ ?_ ?_
 .exact⟨0,[],0,by omega,rfl,rfl,rfl,by omega,by omega,hs,aT.start,rfl,rfl,rfl,rfl,rfl,rfl,rfl⟩
 .clear hs;rintro m ⟨S,J⟩ ⟨j,acc,sh,hj,rfl,TZ,heq,h0,h1,hs,ho,t5,t6,t0,t1,t10,t11,t12⟩;simp only at hs ho t5 t6 t0 t1 t10 t11 t12;generalize hv4:S 4=v4 at ho;refine ad.mix 13 ?_;by_cases H':j<P.length
  .have q:((j:Int)<P.length)=True:=eq_true (by omega);have Q9:=λU=>j5 (U:=U) H';have hf0:=hh _ (List.getElem_mem H');have hd:P.drop j=P[j]::P.drop (j+1):=List.drop_eq_getElem_cons H';have UL:aQ P[j]=.agg [vI P[j].node,vI P[j].side,vI P[j].anchor,vI P[j].x,vI P[j].y,vI P[j].w,vI P[j].h]:=rfl;rw[hd,dC]at heq;generalize P[j]=f at*;have hsY:=hs;replace hs:=aa.refl J;have r1:Rq .i64 ((j:Int)+1):=aq (by omega) (by omega);have r2:Rq .i64 (sh+min f.h body):=aq (by omega) (by omega);apply sR;simp only[go_sem,seval,t0,t1,t5,t6,t10,t11,t12,hv4,q,Q9,UL];refine af λi8 Z8 s8 a8 f8=>?_;have z8:=hs.none f8;replace hs:=hs.trans s8;simp only[go_sem,seval,a8,t0,t1,t5,t6,t10,t11,t12,hv4];generalize SC:C' _ i8 _=Y8;replace a8:=(congrFun SC i8).symm.trans ag;replace hs:=Eq.subst (motive:=aa _) SC (hs.aE z8);clear SC;refine af λi9 Z9 s9 a9 f9=>?_;have XL:=ao a8 f9;replace a8:=s9 _ _ a8;have z9:=hs.none f9;replace hs:=hs.trans s9;simp only[go_sem,seval,a9,a8,t0,t1,t5,t6,t10,t11,t12,hv4,dj,ab XL,ab XL];generalize Sp:C' _ i9 _=Y9;replace a9:=(congrFun Sp i9).symm.trans ag;replace a8:=((congrFun Sp i8).symm.trans (ab XL)).trans a8;replace hs:=Eq.subst (motive:=aa _) Sp (hs.aE z9);clear Sp;refine ad.ry (by kernel_rfl) [0,1,2,3,4,5,6,7,8] [[],[],[1],[],[1,2,3],[0],[0,5],[0,1,2,3,4,5,6],[0,1,2,3,4,5,6,7]] [0,2,4,6,8,10,12,5,14,16] (by kernel_rfl) (by kernel_rfl) ?_;refine RE.Sg (n:=0) [5,14,16] [0,2,4,6,8,10,12] [⟨(.some 18),(.Rn (.t 6)),.none⟩,⟨(.some 19),(.Rz .false 6 1 (.t 8)),.none⟩,⟨(.some 20),(.load .false 1 (.t 19)),.none⟩,⟨(.some 21),(.Rn (.t 1)),.none⟩,⟨(.some 22),(.Rh .false (.t 20) (.t 21)),.none⟩,⟨(.some 23),(.Rz .false 4 1 (.t 9)),.none⟩,⟨.none,(.store 1 (.t 23) (.t 18)),.none⟩] rfl rfl ?_;apply sG;simp only[go_sem,seval,a9,a8,t6,t1,e8];refine RE.SB rfl rfl rfl rfl rfl trivial (by simp only[go_sem,seval,a9,a8,t6,t1,e8,ab XL,ab XL]) ?_;refine RE.Sg (n:=0) [] [14,16] [⟨(.some 24),(.Rz .false 6 1 (.t 9)),.none⟩,⟨.none,(.store 1 (.t 24) (.t 22)),.none⟩] rfl rfl ?_;apply sG;simp only[go_sem,seval,a9,a8,t6,t1,e8,ab XL,ab XL];generalize Sp:C' _ i9 _=Y9;replace a9:=(congrFun Sp i9).symm.trans ag;replace a8:=((congrFun Sp i8).symm.trans (ab XL)).trans a8;replace hs:=Eq.subst (motive:=aa _) Sp (hs.aE z9);clear Sp;by_cases hgt:sh+min f.h body>body
   .have q1:(sh+min f.h body>body)=True:=eq_true hgt;rw[if_pos hgt]at heq;have r3:Rq .i64 ((P.length:Int)-j):=aq (by omega) (by omega);apply sR;simp only[go_sem,seval,a9,a8,t0,t1,t5,t6,t10,t11,t12,hv4,XP,r2,q1,r3];obtain⟨n,hn⟩:∃n:Nat,n=P.length-j:=⟨_,rfl⟩
    have hnj:(P.length:Int)-j=(n:Int):=by omega
    rw[hnj];have hbm:(0:Int)<=n/\(n:Int).toNat*57<=140737488355328:=by omega
    simp only[go_sem,seval,hbm];refine af λi36 Z36 s36 a36 f36=>?_;have WE:=pV hj;simp only[BB,seval,<-decide_not,bu,fk,aL,cU,eI,ei,eH,dZ,cy,jU,gz,bI,fH,dL,fm,cP,bF,iP,dh,cS,cm,Sk,jS,df,cc,iQ,dJ,cd,de,cY,kE,binBV,bW,dq,V.cells,V.stays,t0,t5,WE,Int.toNat_natCast];have UR:(P.drop j).length=n:=by rw[List.length_drop,hn]
    refine ad.cpy (id:=i36) (off:=0) (len:=n) (rows:=(P.drop j).map aQ) rfl rfl rfl a36 rfl (by simp) rfl (by rw[List.length_map,UR]) ?_;have hrw:(List.replicate (n:Int).toNat (V.agg [vI 0,vI 0,vI 0,vI 0,vI 0,vI 0,vI 0])).take 0++(P.drop j).map aQ++(List.replicate (n:Int).toNat (V.agg [vI 0,vI 0,vI 0,vI 0,vI 0,vI 0,vI 0])).drop (0+n)=(P.drop j).map aQ:=by
     generalize (P.drop j).map aQ=X;simp
    rw[hrw];apply sR;simp only[go_sem,seval,t0,t1,t6,t10,t11,t12,hv4];have RA:=(hsY.trans (hs.trans s36)).aE (o:=⟨150,7,(P.drop j).map aQ⟩) ((hsY.trans hs).none f36);refine⟨acc,P.drop j,sh,?_,RA,?_,?_,rfl⟩
    .rw[heq,List.append_nil,hd]
    .exact ho.mono ((hs.trans s36).aE (hs.none f36))
    .exact aT.new (by rw[List.length_map,UR]) ag ((hsY.trans hs).none f36)
   .have q1:(sh+min f.h body>body)=False:=eq_false hgt;rw[if_neg hgt]at heq;apply sR;simp only[go_sem,seval,a9,a8,t0,t1,t5,t6,t10,t11,t12,hv4,r2,q1];refine af λi44 Z44 s44 a44 f44=>?_;obtain⟨Rr,SM,Sv,Zi,Xq⟩:=ho.AD (hs.trans s44);have Wv:(acc.map aQ).length=j:=by rw[List.length_map,TZ]
    have Sb:(j+1)*57<=140737488355328:=by omega
    simp only[go_sem,seval,SM,dS a44,Wv,Sb];refine fU λi45 Z45 s45 a45 f45=>?_;have b9:=s45 _ _ ((Xq i9 z9 Z44).trans (s44 _ _ a9));have k45:=(Sv U (aa.refl _) Z44 (hsY.trans (hs.trans s44))).trans s45;have Tp:U i45=none:=(hsY.trans (hs.trans s44)).none f45;simp only[go_sem,seval,t0,t1,t5,t6,t10,t11,t12,b9,r1,r2];refine⟨_,?_,j+1,acc++[{ f with y:=sh,h:=min f.h body }],sh+min f.h body,by omega,rfl,by simp[TZ],?_,by omega,by omega,k45,?_,by simp⟩
    .omega
    .rw[heq,List.append_assoc];rfl
    .rw[List.map_append];exact aT.new (by simp[TZ]) a45 Tp
  .have q:((j:Int)<P.length)=False:=eq_false (by omega);have SX:j=P.length:=by omega
   rw[SX,List.drop_length,dC,List.append_nil]at heq;apply sR;simp only[go_sem,seval,t0,t1,t5,t6,t10,t11,t12,hv4,q];exact⟨acc,[],sh,heq,hs,hv4▸ho,aT.start,rfl⟩
 .rintro⟨S,J⟩ ⟨p,q,sh,heq,hs,ho,hu,t6⟩;simp only at hs ho hu t6;generalize hv4:S 4=v4 at ho;generalize hv5:S 5=v5 at hu;refine ad.mix 13 ?_;apply sR;simp only[go_sem,seval,hv4,hv5,t6];rw[heq];exact⟨_,U,hs,Wk.Rf (vs':=[aH p,aH q,vI sh]) ⟨ho.wk (aa.refl _) hs,hu.wk (aa.refl _) hs,Wk.refl hs _,trivial⟩,rfl,rfl⟩
open Go.Proofs Go.Proofs.Tryz
structure Bk where
 nodes:List Nd
 (w h:Int)
 atoms:List RY
 Re:List P'
 Ra:Int
 L':List S1
def bt(b:Bk):V:=.agg [aK b.nodes,vI b.w,vI b.h,bl b.atoms,aH b.Re,vI b.Ra,bC b.L']
structure Wx where
 Rj:V
 (high body:Int)
 s:R0
 kind:Int
 (hs fs ls:List SU)
 shift:Int
def dv(b:Bk)(x:Wx)(vh vf vl:V):Ob:=⟨219,13,[.agg [x.Rj,vI x.high,vI x.body,.rp (bt b),vI x.s.atom,vI x.s.done,.bool x.s.free,vI 0,vI x.kind,vh,vf,vl,vI x.shift]]⟩
structure Tw(b:Bk)(K:ai)(ix:Nat)(x:Wx)(U:ai)(vh vf vl:V):Prop where
 row:U ix=some (dv b x vh vf vl)
 oh:aT (bg K ix) U 63 7 vh (x.hs.map bo)
 of:aT (bg K ix) U 63 7 vf (x.fs.map bo)
 ol:aT (bg K ix) U 63 7 vl (x.ls.map bo)
 hf:dW vh vf
 hl:dW vh vl
 fl:dW vf vl
 sub:aa K U
 no:K ix=none
def Tw.mono{b:Bk}{K:ai}{ix:Nat}{x:Wx}{U J:ai}{vh vf vl:V}(h:Tw b K ix x U vh vf vl)(hs:aa U J):Tw b K ix x J vh vf vl:=
 ⟨hs _ _ h.row,h.oh.mono hs,h.of.mono hs,h.ol.mono hs,h.hf,h.hl,h.fl,h.sub.trans hs,h.no⟩
def yF{K Z8:ai}{ix e sz:Nat}{v:V}{rows:List V}(Js:aa K Z8)(Jn:K ix=none){ox:Ob}(Jx:Z8 ix=some ox)(Jv:aT (bg K ix) Z8 e sz v rows):
 ∃Rr,cg Z8 e sz v=some (rows,Rr)/\∀(Z9:ai) (id:Nat) (Rd:List V),aa (Vc.bK Z8 Rr) Z9->Z9 id=some ⟨e,sz,Rd⟩->Z8 id=none->
  Z9 ix=some ox/\∀o',aa K (C' Z9 ix o')/\aT (bg K ix) (C' Z9 ix o') e sz (.own id 0 Rd.length) Rd/\
  ∀u Wz,aT (bg K ix) Z8 e sz u Wz->dW v u->aT (bg K ix) (C' Z9 ix o') e sz u Wz/\dW (.own id 0 Rd.length) u:=by
 obtain⟨Rr,SM,Vj⟩:=Jv.MN (aa.refl Z8);have k2:bg K ix ix≠none:=λh=>(aM.1 h).1 rfl;have UF:∀(i:Nat),bg K ix i≠none->Vc.bK Z8 Rr i=Z8 i:=λi hk=>by
  cases Rr with
  |none=>rfl
  |some a=>exact dO (λe=>hk (by rw[e];exact(Vj a rfl).1))
 refine⟨Rr,SM,λZ9 id Rd hs9 h9 f=>⟨hs9 _ _ ((UF _ k2).trans Jx),λo'=>⟨?_,?_,λu Wz hu hap=>⟨?_,dW.new hu f⟩⟩⟩⟩
 .refine aa.aE (λi o h=>hs9 _ _ ((UF _ (λhk=>?_)).trans (Js _ _ h))) Jn;rw[(aM.1 hk).2]at h;cases h
 .have m:id≠ix:=λe=>by rw[e,Jx]at f;cases f
  refine aT.new rfl ((ab m).trans h9) (aM.2 ⟨m,?_⟩);exact Js.none f
 .rcases hu with h|⟨a,rfl,h1,h2⟩
  .exact .inl h
  .refine .inr ⟨a,rfl,(ab (aM.1 h2).1).trans (hs9 _ _ ?_),h2⟩;cases hA:Rr with
   |none=>exact h1
   |some i=>
    have:a≠i:=λe=>hap _ _ _ _ (Vj i hA).2.2 rfl e.symm;simp only[Vc.bK];rw[dO this];exact h1
def tK(high:Int)(f:P'):SU:=⟨f.node,-1,0,f.x,f.y+high,f.w,f.h⟩
def Wx.put(x:Wx)(l:List P'):Wx:={ x with ls:=x.ls++l.map (tK x.high) }
def mK(b:Bk)(l:List P')(hl:l.length<=1000000)(x:Wx)(hx:x.ls.length<=1000000)(hr:∀f∈l,Rq .i64 (f.y+x.high)){K U:ai}{i1:Nat}{vh vf vl:V}(hJ:Tw b K i1 x U vh vf vl):
 aD prog 118 [.ptr i1 0 0,aH l] U λ_ Z'=>∃Uz,Tw b K i1 (x.put l) Z' vh vf Uz:=by
 refine Q6.r (by simp[LI]) ?_;have US:=gk l;obtain⟨ch,sh⟩:=hJ.oh.vc;obtain⟨cf,sf⟩:=hJ.of.vc;refine ad.mix 9 ?_;apply sR;simp only[go_sem,seval,LI,US];refine ad.loop (λm st=>∃(j:Nat) (Uz:V),j<=l.length/\m=l.length-j/\Tw b K i1 (x.put (l.take j)) st.U vh vf Uz/\st.s 0=.ptr i1 0 0/\st.s 6=aH l/\st.s 7=vI l.length/\st.s 8=vI j) l.length ?_ ?_
 .exact⟨0,vl,by omega,rfl,by simpa[Wx.put]using hJ,rfl,rfl,rfl,rfl⟩
 .rintro m ⟨S,J⟩ ⟨j,Uz,hj,rfl,hJ,t0,t6,t7,t8⟩;simp only at hJ t0 t6 t7 t8;refine ad.mix 9 ?_;by_cases H':j<l.length
  .have q:((j:Int)<l.length)=True:=eq_true (by omega);have Q9:=λU=>j5 (U:=U) H';have UL:aQ l[j]=.agg [vI l[j].node,vI l[j].side,vI l[j].anchor,vI l[j].x,vI l[j].y,vI l[j].w,vI l[j].h]:=rfl;have Sf:l.take (j+1)=l.take j++[l[j]]:=List.take_succ_eq_append_getElem H';have hput:x.put (l.take (j+1))={ x.put (l.take j)with ls:=(x.put (l.take j)).ls++[tK x.high l[j]] }:=by
    rw[Sf];simp only[Wx.put,List.map_append,List.map_cons,List.map_nil,List.append_assoc]
   have r0:=hr _ (List.getElem_mem H');have r1:Rq .i64 ((j:Int)+1):=aq (by omega) (by omega);have hyl:((x.put (l.take j)).ls.map bo).length<=2000000:=by simp[Wx.put];omega
   have hyh:(x.put (l.take j)).high=x.high:=rfl;rw[<-hyh]at hput r0;generalize l[j]=f at*;generalize x.put (l.take j)=y at*;have hs:=aa.refl J;have a1:=hJ.row;rw[dv]at a1;obtain⟨cl,sl⟩:=hJ.ol.vc;apply sR;simp only[go_sem,seval,t0,t6,t7,t8,q,Q9,UL];refine af λi5 Z5 s5 a5 f5=>?_;have YO:=ao a1 f5;replace a1:=s5 _ _ a1;have z5:=hs.none f5;replace hs:=hs.trans s5;simp only[go_sem,seval,a5,a1,t0,t6,t7,t8,ab YO,ab YO,r0,ch,sh,cf,sf,cl,sl];generalize TR:C' _ i5 _=Y5;replace a5:=(congrFun TR i5).symm.trans ag;replace a1:=((congrFun TR i1).symm.trans (ab YO)).trans a1;replace hs:=Eq.subst (motive:=aa _) TR (hs.aE z5);clear TR;refine bx λi35 Z35 s35 a35 f35=>?_;have V1:=hJ.mono (hs.trans s35);obtain⟨Rr,SM,XD⟩:=yF V1.sub V1.no V1.row V1.ol;generalize hrw:y.ls.map bo=rows at*;have Sb:(rows.length+1)*57<=140737488355328:=by omega
   simp only[go_sem,seval,SM,dS a35,Sb];refine jy λi36 Z36 s36 a36 f36=>?_;obtain⟨b1,hg⟩:=XD Z36 i36 _ s36 a36 f36;rw[dv]at b1;obtain⟨g1,g2,g3⟩:=hg (dv b { y with ls:=y.ls++[tK y.high f] } vh vf (.own i36 0 (rows.length+1)));simp only[go_sem,seval,b1,t0,t6,t7,t8,ch,sh,cf,sf,cl,sl,r1];refine⟨_,?_,j+1,.own i36 0 (rows.length+1),by omega,rfl,?_,by simp⟩
   .omega
   .rw[hput];obtain⟨k1,k2⟩:=g3 _ _ V1.oh V1.hl.symm;obtain⟨k3,k4⟩:=g3 _ _ V1.of V1.fl.symm;rw[List.length_append]at g2 k2 k4;refine⟨ag,k1,k3,?_,hJ.hf,k2.symm,k4.symm,g1,hJ.no⟩;show aT _ _ _ _ _ ((y.ls++[tK y.high f]).map bo);rw[List.map_append,hrw];exact g2
  .have q:((j:Int)<l.length)=False:=eq_false (by omega);have SX:j=l.length:=by omega
   rw[SX,List.take_length]at hJ;apply sR;simp only[go_sem,seval,t0,t6,t7,t8,q];exact⟨_,_,aa.refl _,Wk.refl (aa.refl _) _,Uz,hJ⟩
open Go.Proofs Go.Proofs.Tryz
structure BkOk(b:Bk):Prop where
 RD:lF b.atoms
 tight:∀a∈b.atoms,-18014398509481984<=a.y/\a.y<=18014398509481984/\0<=a.h/\a.h<=18014398509481984
 len:b.atoms.length<=900000
 Uf:b.Re.length<=1000000
 Yk:∀f∈b.Re,f.ok
 ZV:b.L'.length=b.atoms.length+1
structure Sc where
 s:R0
 bN:List P'
def bX(x:Sc):V:=.agg [vI x.s.atom,vI x.s.done,.bool x.s.free,aH x.bN]
def CM{top shift body:Int}:∀{L:List P'} {m:P'},m∈(ju top shift body L).1->∃f∈L,m=fV top shift f:=by
 have key:∀(L L0:List P') (x:List P'×List P'),(∀m∈x.1,∃f∈L0,m=fV top shift f)->∀m∈(L.foldl (λx f=>l8 body x f (fV top shift f)) x).1,∃f∈L0++L,m=fV top shift f:=by
  intro L
  induction L with
  |nil=>intro L0 x h m hm;simpa using h m hm
  |cons f L ih=>
   intro L0 x h m hm;rw[List.foldl_cons]at hm;have:=ih (L0++[f]) _ (λm hm=>?_) m hm
   .simpa using this
   .unfold l8 at hm;simp only at hm;split at hm
    .obtain⟨g,hg,e⟩:=h m hm;exact⟨g,by simp[hg],e⟩
    .rcases List.mem_append.1 hm with hm|hm
     .obtain⟨g,hg,e⟩:=h m hm;exact⟨g,by simp[hg],e⟩
     .simp at hm;exact⟨f,by simp,hm⟩
 intro L m hm;have:=key L [] ([],[]) (by simp) m hm;simpa using this
def vg{b:Bk}(hb:BkOk b){s:R0}(hd:s.done<=1152921504606846976){to kept shift body:Int}(hk:-1152921504606846976<=kept/\kept<=2305843009213693952)(UM:0<=shift/\shift<=1152921504606846976):
 (dG b.atoms b.Re s to kept shift body).1.length<=1000000/\∀m∈(dG b.atoms b.Re s to kept shift body).1,0<=m.y/\m.y<=6917529027641081856:=by
 unfold dG;split
 .rename_i hm;have h1:=pL (si b.atoms s kept) shift body (fD b.Re s to);have h2:(fD b.Re s to).length<=b.Re.length:=pj _ _ _;have h3:=hb.Uf;refine⟨by omega,λm hmm=>?_⟩;obtain⟨f,hf,rfl⟩:=CM hmm;have V8:=hb.Yk f (List.mem_filter.1 hf).1;obtain⟨_,⟨o1,o2⟩,_⟩:=V8;obtain⟨h0,h4⟩:=hm.1;have Xt:-4611686018427387904<=si b.atoms s kept:=by
   unfold si;have:=hm.2.1;obtain⟨k,Vf⟩:∃k:Nat,s.atom=k:=⟨s.atom.toNat,by omega⟩
   have Tv:k<b.atoms.length:=by omega
   have hy:=hb.RD.Xp _ (List.getElem_mem Tv);rw[Vf,bz Tv];omega
  simp only[fV];omega
 .simp
def cE(high:Int)(f:SU):SU:={ f with y:=f.y+high }
def cj(b:Bk)(x:Wx)(kept:Int)(n:Nat):List SU:=(List.range n).map λi:Nat=>cE x.high (cQ b.atoms x.s kept x.shift (x.s.atom+(i:Nat)))
def Wx.add(x:Wx)(l:List SU):Wx:={ x with fs:=x.fs++l }
def Av{l:List RY}(hl:lF l){s:R0}(Vv:0<=s.done)(hd:s.done<=1152921504606846976){kept shift:Int}(hk:-1152921504606846976<=kept/\kept<=2305843009213693952)(UM:0<=shift/\shift<=1152921504606846976)(k:Int):
 -4611686018427387904<=(cQ l s kept shift k).y/\(cQ l s kept shift k).y<=6917529027641081856:=by
 have h:=nF hl hd hk UM k;unfold cQ;split
 .split
  .simp only;omega
  .simp only[jC];omega
 .simp
def gm(l:List RY)(U:ai):bS U false 1 (.rp (bl l))=some (bl l):=rfl
def Cd(l:List P')(U:ai):bS U false 1 (.rp (aH l))=some (aH l):=rfl
def E3(l:List S1)(U:ai):bS U false 1 (.rp (bC l))=some (bC l):=rfl
def NR(l:List Nd)(U:ai):bS U false 1 (.rp (aK l))=some (aK l):=rfl
def Tw.ni{b:Bk}{K:ai}{ix:Nat}{x:Wx}{U J:ai}{vh vf vl:V}(h:Tw b K ix x U vh vf vl)(hs:aa U J){i:Nat}{o:Ob}(h1:U i=none)(h2:J i=some o):Tw b (C' K i o) ix x J vh vf vl:=by
 have key:∀{v rows},aT (bg K ix) U 63 7 v rows->aT (bg (C' K i o) ix) J 63 7 v rows:=λhv=>by
  rcases hv with h|⟨a,e,h3,h4⟩
  .exact .inl h
  .refine .inr ⟨a,e,hs _ _ h3,aM.2 ⟨(aM.1 h4).1,?_⟩⟩;rw[ab (λe=>by subst e;rw[h1]at h3;cases h3)];exact(aM.1 h4).2
 refine⟨hs _ _ h.row,key h.oh,key h.of,key h.ol,h.hf,h.hl,h.fl,λa q ha=>?_,?_⟩
 .by_cases e:a=i
  .subst e;rw[Vc.ag]at ha;cases ha;exact h2
  .rw[Vc.ab e]at ha;exact hs _ _ (h.sub _ _ ha)
 .rw[Vc.ab (λe=>by subst e;rw[h.row]at h1;cases h1)];exact h.no
def Tw.narrow{b:Bk}{K:ai}{ix i:Nat}{o:Ob}{x:Wx}{U:ai}{vh vf vl:V}(h:Tw b (C' K i o) ix x U vh vf vl)(hK:K i=none):Tw b K ix x U vh vf vl:=by
 have hk:∀a,C' K i o a=none->K a=none:=λa ha=>by
  by_cases e:a=i
  .subst e;exact hK
  .rwa [Vc.ab e]at ha
 have key:∀{v rows},aT (bg (C' K i o) ix) U 63 7 v rows->aT (bg K ix) U 63 7 v rows:=λhv=>by
  rcases hv with h|⟨a,e,h3,h4⟩
  .exact .inl h
  .exact .inr ⟨a,e,h3,aM.2 ⟨(aM.1 h4).1,hk _ (aM.1 h4).2⟩⟩
 refine⟨h.row,key h.oh,key h.of,key h.ol,h.hf,h.hl,h.fl,λa q ha=>h.sub _ _ ?_,hk _ h.no⟩;rw[Vc.ab (λe=>by subst e;rw[hK]at ha;cases ha)];exact ha
def Tw.drop{b:Bk}{K:ai}{ix i:Nat}{o:Ob}{x:Wx}{U:ai}{vh vf vl:V}(h:Tw b (C' K i o) ix x U vh vf vl)(hK:K i=none)(o':Ob):Tw b K ix x (C' U i o') vh vf vl:=by
 have hn:ix≠i:=λe=>by have:=h.no;subst e;rw[Vc.ag]at this;cases this
 have key:∀{v rows},aT (bg K ix) U 63 7 v rows->aT (bg (C' K i o) ix) U 63 7 v rows->aT (bg K ix) (C' U i o') 63 7 v rows:=λhv hw=>by
  rcases hv with h|⟨a,rfl,h3,h4⟩
  .exact .inl h
  .refine .inr ⟨a,rfl,?_,h4⟩;rcases hw with⟨h,_⟩|⟨c,h,h5,h6⟩
   .cases h
   .cases h;have:a≠i:=λe=>by subst e;have:=(aM.1 h6).2;rw[Vc.ag]at this;cases this
    rw[Vc.ab this];exact h3
 have g:=h.narrow hK;refine⟨(Vc.ab hn).trans h.row,key g.oh h.oh,key g.of h.of,key g.ol h.ol,h.hf,h.hl,h.fl,g.sub.aE hK,g.no⟩
def EY(b:Bk)(hb:BkOk b)(x:Wx)(hm:bZ b.atoms x.s)(hd:x.s.done<=1152921504606846976)(hx:x.fs.length<=1000000)(hxl:x.ls.length<=1000000)(hh:0<=x.high/\x.high<=1152921504606846976)(kept:Int)(hk:-1152921504606846976<=kept/\kept<=2305843009213693952)
 (UM:0<=x.shift/\x.shift<=1152921504606846976)(cut:Nat)(hc:x.s.atom<=cut)(Sn:cut<=b.atoms.length){K U:ai}{i1:Nat}{vh vf vl:V}(hJ:Tw b K i1 x U vh vf vl):
 aD prog 181 [.ptr i1 0 0,vI kept,vI cut] U λr Z'=>∃U4 Uz,r=bX ⟨⟨cut,0,decide ((b.L'.getD cut ⟨0,0,0⟩).forced≠0)⟩,(dG b.atoms b.Re x.s cut kept x.shift x.body).2⟩/\
  Tw b K i1 ((x.add (cj b x kept (cut-x.s.atom.toNat))).put (dG b.atoms b.Re x.s cut kept x.shift x.body).1) Z' vh U4 Uz:=by
 refine O3.r (by simp[I1]) ?_;have hs:=aa.refl U;have UW:bt b=.agg [aK b.nodes,vI b.w,vI b.h,bl b.atoms,aH b.Re,vI b.Ra,bC b.L']:=rfl;have a1:=hJ.row;rw[dv]at a1;obtain⟨ch,sh⟩:=hJ.oh.vc;obtain⟨a,haa⟩:∃a:Nat,x.s.atom=a:=⟨x.s.atom.toNat,by have:=hm.1;omega⟩
 obtain⟨n,hn⟩:∃n,n=cut-x.s.atom.toNat:=⟨_,rfl⟩
 have hnc:a+n=cut:=by omega
 rw[<-hn];have hlen:=hb.len;refine ad.mix 13 ?_;apply sR;simp only[go_sem,seval,I1];refine af λi6 Z6 s6 a6 f6=>?_;have n16:=ao a1 f6;replace a1:=s6 _ _ a1;have z6:=hs.none f6;replace hs:=hs.trans s6;have V3:=hJ.ni s6 f6 a6;have k6:K i6=none:=hJ.sub.none f6;simp only[go_sem,seval,a1,UW,haa,gm];refine ad.fg (λst=>∃U4,Tw b (C' K i6 ⟨45,4,[.agg [vI 0,vI 0,.bool false,.aC]]⟩) i1 (x.add (cj b x kept n)) st.U vh U4 vl/\st.s 0=.ptr i1 0 0/\st.s 1=vI kept/\st.s 2=vI cut/\st.s 6=.ptr i6 0 0/\st.s 7=bl b.atoms)
  (λm st=>∃(j:Nat) (U4:V),j<=n/\m=n-j/\Tw b (C' K i6 ⟨45,4,[.agg [vI 0,vI 0,.bool false,.aC]]⟩) i1 (x.add (cj b x kept j)) st.U vh U4 vl/\st.s 0=.ptr i1 0 0/\st.s 1=vI kept/\st.s 2=vI cut/\st.s 6=.ptr i6 0 0/\st.s 7=bl b.atoms/\∃z:Int,st.s 8=vI z/\z=(a:Int)+j) n ?_ ?_ ?_
 .exact⟨0,vf,by omega,rfl,by simpa[Wx.add,cj]using V3,rfl,rfl,rfl,rfl,rfl,_,rfl,by omega⟩
 .clear hs V3 a1 hJ a6;rintro m ⟨S,J⟩ ⟨j,U4,hj,rfl,hJ,t0,t1,t2,t6,t7,z,t8,hz⟩;simp only at hJ t0 t1 t2 t6 t7 t8;refine ad.mix 13 ?_;by_cases H':j<n
  .have q:(z<(cut:Int))=True:=eq_true (by omega);have hsw:x.add (cj b x kept (j+1))={ x.add (cj b x kept j)with fs:=(x.add (cj b x kept j)).fs++[cE x.high (cQ b.atoms x.s kept x.shift z)] }:=by
    simp only[Wx.add,cj,List.range_succ,List.map_append,List.map_cons,List.map_nil,List.append_assoc];rw[hz,haa]
   have SL:aV prog 243 [bl b.atoms,bj (x.add (cj b x kept j)).s,vI kept,vI (x.add (cj b x kept j)).shift,vI z] (bo (cQ b.atoms x.s kept x.shift z)):=Dz b.atoms hb.RD x.s hd kept x.shift z hk UM;have Wr:=Av hb.RD hm.2.1 hd hk UM z;have hyl:((x.add (cj b x kept j)).fs.map bo).length<=2000000:=by simp[Wx.add,cj];omega
   have hyh:(x.add (cj b x kept j)).high=x.high:=rfl;rw[<-hyh]at hsw;generalize cQ b.atoms x.s kept x.shift z=w at*;generalize x.add (cj b x kept j)=y at*;have hs:=aa.refl J;have a1:=hJ.row;rw[dv]at a1;rw[bj]at SL;have r1:Rq .i64 (z+1):=aq (by omega) (by omega);have r2:Rq .i64 (w.y+y.high):=aq (by omega) (by omega);obtain⟨cf,sf⟩:=hJ.of.vc;obtain⟨cl,sl⟩:=hJ.ol.vc;apply sR;simp only[go_sem,seval,t0,t1,t2,t6,t7,t8,q,dj];refine ad.C4 (by kernel_rfl) 8 (.fork [[],[],[1],[2,1],[3,2,1],[],[],[6],[7,6],[8,7,6],[],[0,4,5,9,10,3,2,1,8,7,6],[],[12,11,0,1,2,3,4,5,6,7,8,9,10]] [0,1,2,3,4,5,6,7,8,9,10] [11,12] [(.leaf [[],[],[1],[2,1],[3,2,1],[],[],[6],[7,6],[8,7,6],[],[0,4,5,9,10,3,2,1,8,7,6],[11,0,4,5,9,10,3,2,1,8,7,6],[11,0,4,5,9,10,3,2,1,8,7,6,12]] [11,12,13]),(.leaf [[],[],[1],[2,1],[3,2,1],[],[],[6],[7,6],[8,7,6],[],[12,0,4,5,9,10,3,2,1,8,7,6],[],[12,11,0,1,2,3,4,5,6,7,8,9,10]] [12,11,13])]) (by kernel_rfl) ?_;refine GT.oe (its:=[0,2,4,6,8,10,12,14,16,18,20]) (by kernel_rfl) ?_;refine RE.Sg (n:=0) [] [0,2,4,6,8,10,12,14,16,18,20] [⟨(.some 31),(.Rn (.t 7)),.none⟩,⟨(.some 32),(.Rn (.t 0)),.none⟩,⟨(.some 33),(.nilCheck (.t 32)),.none⟩,⟨(.some 34),(.Rz .true 4 3 (.t 33)),.none⟩,⟨(.some 35),(.load .true 3 (.t 34)),.none⟩,⟨(.some 36),(.Rn (.t 1)),.none⟩,⟨(.some 37),(.Rn (.t 0)),.none⟩,⟨(.some 38),(.nilCheck (.t 37)),.none⟩,⟨(.some 39),(.Rz .false 12 1 (.t 38)),.none⟩,⟨(.some 40),(.load .false 1 (.t 39)),.none⟩,⟨(.some 41),(.Rn (.t 8)),.none⟩] rfl rfl ?_;apply sG;simp only[go_sem,seval,a1,t0,t1,t7,t8,bo];refine⟨?_,?_⟩
   .refine GT.iN (its:=[22,24,26]) (by kernel_rfl) ?_;refine RE.aB rfl rfl rfl rfl rfl (SL _) ?_;refine RE.Sg (n:=0) [] [24,26] [⟨(.some 9),(.alloc 63 7 (.agg [(.int .i64 0),(.int .i64 0),(.int .i64 0),(.int .i64 0),(.int .i64 0),(.int .i64 0),(.int .i64 0)])),.none⟩,⟨.none,(.store 7 (.t 9) (.t 42)),.none⟩] rfl rfl ?_;apply sG;simp only[go_sem,seval,a1,t0,t1,t7,t8,bo];refine bx λi9 Z9 s9 a9 f9=>?_;have n19:=ao a1 f9;replace a1:=s9 _ _ a1;have z9:=hs.none f9;replace hs:=hs.trans s9;simp only[go_sem,seval,a1,t0,t1,t7,t8,bo,a9];generalize Sp:C' _ i9 _=Y9;replace a9:=(congrFun Sp i9).symm.trans ag;replace a1:=((congrFun Sp i1).symm.trans (ab n19)).trans a1;replace hs:=Eq.subst (motive:=aa _) Sp (hs.aE z9);clear Sp;apply sR;simp only[go_sem,seval,a9,a1,t0,r2,ab n19,ab n19,cf,sf];generalize Sp:C' _ i9 _=Y9;replace a9:=(congrFun Sp i9).symm.trans ag;replace a1:=((congrFun Sp i1).symm.trans (ab n19)).trans a1;replace hs:=Eq.subst (motive:=aa _) Sp (hs.aE z9);clear Sp;refine bx λi59 Z59 s59 a59 f59=>?_;have Te:=(hJ.mono hs).mono s59;obtain⟨Rr,SM,XD⟩:=yF Te.sub Te.no Te.row Te.of;generalize hrw:y.fs.map bo=rows at*;have Sb:(rows.length+1)*57<=140737488355328:=by omega
    simp only[go_sem,seval,SM,dS a59,Sb];refine jy λi60 Z60 s60 a60 f60=>?_;obtain⟨b1,hg⟩:=XD Z60 i60 _ s60 a60 f60;rw[dv]at b1;obtain⟨g1,g2,g3⟩:=hg (dv b { y with fs:=y.fs++[cE y.high w] } vh (.own i60 0 (rows.length+1)) vl);simp only[go_sem,seval,b1,t0,t1,t2,t6,t7,t8,ch,sh,cf,sf,cl,sl,r1];refine⟨_,?_,j+1,.own i60 0 (rows.length+1),by omega,rfl,?_,_,rfl,by omega⟩
    .omega
    .rw[hsw];obtain⟨k1,k2⟩:=g3 _ _ Te.oh Te.hf.symm;obtain⟨k3,k4⟩:=g3 _ _ Te.ol Te.fl;rw[List.length_append]at g2 k2 k4;refine⟨?_,k1,?_,k3,k2.symm,hJ.hl,k4,g1,hJ.no⟩
     .exact ag
     .show aT _ _ _ _ _ ((y.fs++[cE y.high w]).map bo);rw[List.map_append,hrw];exact g2
   .refine GT.iN (its:=[24,9,19,22,26]) (by kernel_rfl) ?_;refine RE.Sg (n:=0) [9,19,22,26] [24] [⟨(.some 9),(.alloc 63 7 (.agg [(.int .i64 0),(.int .i64 0),(.int .i64 0),(.int .i64 0),(.int .i64 0),(.int .i64 0),(.int .i64 0)])),.none⟩] rfl rfl ?_;apply sG;simp only[go_sem,seval,a1,t0,t1,t7,t8,bo];refine bx λi9 Z9 s9 a9 f9=>?_;have n19:=ao a1 f9;replace a1:=s9 _ _ a1;have z9:=hs.none f9;replace hs:=hs.trans s9;simp only[go_sem,seval,a1,t0,t1,t7,t8,bo,a9];refine RE.SB rfl rfl rfl rfl rfl trivial (by simp only[go_sem,seval,a1,t0,t1,t7,t8,bo,a9]) ?_;refine RE.SB rfl rfl rfl rfl rfl trivial (by simp only[go_sem,seval,a1,t0,t1,t7,t8,bo,a9]) ?_;refine RE.aB rfl rfl rfl rfl rfl (SL _) ?_;refine RE.Sg (n:=0) [] [26] [⟨.none,(.store 7 (.t 9) (.t 42)),.none⟩] rfl rfl ?_;apply sG;simp only[go_sem,seval,a1,t0,t1,t7,t8,bo,a9];generalize Sp:C' _ i9 _=Y9;replace a9:=(congrFun Sp i9).symm.trans ag;replace a1:=((congrFun Sp i1).symm.trans (ab n19)).trans a1;replace hs:=Eq.subst (motive:=aa _) Sp (hs.aE z9);clear Sp;apply sR;simp only[go_sem,seval,a9,a1,t0,r2,ab n19,ab n19,cf,sf];generalize Sp:C' _ i9 _=Y9;replace a9:=(congrFun Sp i9).symm.trans ag;replace a1:=((congrFun Sp i1).symm.trans (ab n19)).trans a1;replace hs:=Eq.subst (motive:=aa _) Sp (hs.aE z9);clear Sp;refine bx λi59 Z59 s59 a59 f59=>?_;have Te:=(hJ.mono hs).mono s59;obtain⟨Rr,SM,XD⟩:=yF Te.sub Te.no Te.row Te.of;generalize hrw:y.fs.map bo=rows at*;have Sb:(rows.length+1)*57<=140737488355328:=by omega
    simp only[go_sem,seval,SM,dS a59,Sb];refine jy λi60 Z60 s60 a60 f60=>?_;obtain⟨b1,hg⟩:=XD Z60 i60 _ s60 a60 f60;rw[dv]at b1;obtain⟨g1,g2,g3⟩:=hg (dv b { y with fs:=y.fs++[cE y.high w] } vh (.own i60 0 (rows.length+1)) vl);simp only[go_sem,seval,b1,t0,t1,t2,t6,t7,t8,ch,sh,cf,sf,cl,sl,r1];refine⟨_,?_,j+1,.own i60 0 (rows.length+1),by omega,rfl,?_,_,rfl,by omega⟩
    .omega
    .rw[hsw];obtain⟨k1,k2⟩:=g3 _ _ Te.oh Te.hf.symm;obtain⟨k3,k4⟩:=g3 _ _ Te.ol Te.fl;rw[List.length_append]at g2 k2 k4;refine⟨?_,k1,?_,k3,k2.symm,hJ.hl,k4,g1,hJ.no⟩
     .exact ag
     .show aT _ _ _ _ _ ((y.fs++[cE y.high w]).map bo);rw[List.map_append,hrw];exact g2
  .have q:(z<(cut:Int))=False:=eq_false (by omega);have SX:j=n:=by omega
   subst SX;apply sR;simp only[go_sem,seval,t0,t1,t2,t6,t7,t8,q];exact⟨U4,hJ⟩
 .clear hs V3 a1 hJ a6;rintro⟨S,J⟩ ⟨U4,hJ,t0,t1,t2,t6,t7⟩;simp only at hJ t0 t1 t2 t6 t7;have SL:aV prog 242 [bl b.atoms,aH b.Re,bj (x.add (cj b x kept n)).s,vI cut,vI kept,vI (x.add (cj b x kept n)).shift,vI (x.add (cj b x kept n)).body] (.Rf [aH (dG b.atoms b.Re x.s cut kept x.shift x.body).1,aH (dG b.atoms b.Re x.s cut kept x.shift x.body).2]):=
   EK b.atoms hb.RD b.Re hb.Uf hb.Yk x.s hd cut kept x.shift x.body hk UM
  have Wr:=vg hb hd (to:=cut) (body:=x.body) hk UM;have hyl:(x.add (cj b x kept n)).ls.length<=1000000:=hxl;have hyh:(x.add (cj b x kept n)).high=x.high:=rfl;rw[bj]at SL;generalize dG b.atoms b.Re x.s cut kept x.shift x.body=R at*;generalize x.add (cj b x kept n)=y at*;have a1:=hJ.row;rw[dv]at a1;have hflo:=mK b R.1 Wr.1 y hyl (λf hf=>by
   have:=Wr.2 f hf;rw[hyh];exact aq (by omega) (by omega)) hJ
  have hcb:cut<b.L'.length:=by have:=hb.ZV;omega
  have Q9:=λU=>sZ (U:=U) hcb;have V9:b.L'.getD cut ⟨0,0,0⟩=b.L'[cut]:=by simp[hcb]
  rw[V9];generalize b.L'[cut]=bk at*;refine ad.mix 13 ?_;apply sR;simp only[go_sem,seval,t0,t1,t2,t6,t7,a1,UW,gm,Cd];refine Go.bP rfl rfl rfl SL ?_;apply sG;simp only[go_sem,seval,t0];refine ad.call rfl rfl rfl hflo ?_;rintro r Z' ⟨Uz,TE⟩;clear a1;have a1:=TE.row;rw[dv]at a1;have a6:=TE.sub _ _ ag;have hs:=aa.refl Z';apply sR;simp only[go_sem,seval,t0,t2,t6,a1,UW,E3,Q9,dX];refine af λSN Z12 WV a12 f12=>?_;have n112:=ao a1 f12;replace a1:=WV _ _ a1;have n612:=ao a6 f12;replace a6:=WV _ _ a6;have z12:=hs.none f12;replace hs:=hs.trans WV;simp only[go_sem,seval,a12,a6,t6,ar,au,ab n112,ab n612];exact⟨_,_,aa.refl _,Wk.refl (aa.refl _) _,U4,Uz,rfl,(TE.mono (hs.aE f12)).drop k6 _⟩
open Go.Proofs Go.Proofs.Tryz
def bJ.rt:bJ->bJ
 |.seq _ b=>b
 |c=>c
def cB{i j:Nat}(h:i≠j):(∀(U:ai) (o:Ob),C' U i o j=U j)/\∀(U:ai) (o:Ob),C' U j o i=U i:=⟨λ_ _=>ab h.symm,λ_ _=>ab h⟩
def Il(l:List RY)(s:R0)(RJ:Int):(ic l s RJ).y=0:=by
 unfold ic;split<;>rfl
def qj(b:Bk)(x:Wx):Wx:=(x.add [cE x.high (ic b.atoms x.s x.body)]).put (dG b.atoms b.Re x.s (x.s.atom+1) 0 0 x.body).1
def uv(b:Bk)(x:Wx):Sc:=⟨ew b.atoms x.s x.body,(dG b.atoms b.Re x.s (x.s.atom+1) 0 0 x.body).2⟩
def H6(b:Bk)(hb:BkOk b)(x:Wx)(hm:bZ b.atoms x.s)(hd:x.s.done<=1152921504606846976)(hx:x.fs.length<=1000000)(hxl:x.ls.length<=1000000)(hh:0<=x.high/\x.high<=1152921504606846976)(u v:Int)
 {K U:ai}{i1:Nat}{vh vf vl:V}(hJ:Tw b K i1 x U vh vf vl):
 aD prog 180 [.ptr i1 0 0,vI u,vI v] U λr Z'=>∃U4 Uz,r=bX (uv b x)/\Tw b K i1 (qj b x) Z' vh U4 Uz:=by
 refine PJ.r (by simp[Fj]) ?_;have UW:bt b=.agg [aK b.nodes,vI b.w,vI b.h,bl b.atoms,aH b.Re,vI b.Ra,bC b.L']:=rfl;have a1:=hJ.row;rw[dv]at a1;obtain⟨ch,sh⟩:=hJ.oh.vc;have hlen:=hb.len;refine ad.mix 12 ?_;have hs:=aa.refl U;apply sR;simp only[go_sem,seval,Fj];refine af λi6 Z6 s6 a6 f6=>?_;have n16:=ao a1 f6;replace a1:=s6 _ _ a1;have z6:=hs.none f6;replace hs:=hs.trans s6;have k6:K i6=none:=hJ.sub.none f6;have V3:=hJ.ni s6 f6 a6;clear hJ;simp only[go_sem,seval,a1,UW,gm,dj];have Sx:=Mj b.atoms hb.RD x.s hd x.body;have hw0:=Il b.atoms x.s x.body;unfold qj uv;have SL:=EK b.atoms hb.RD b.Re hb.Uf hb.Yk x.s hd (x.s.atom+1) 0 0 x.body (by omega) (by omega);have Wr:=vg hb hd (to:=x.s.atom+1) (kept:=0) (shift:=0) (body:=x.body) (by omega) (by omega);generalize ic b.atoms x.s x.body=w at*;generalize ew b.atoms x.s x.body=nx at*;generalize dG b.atoms b.Re x.s (x.s.atom+1) 0 0 x.body=R at*;rw[bj]at Sx SL;obtain⟨cf,sf⟩:=V3.of.vc;obtain⟨cl,sl⟩:=V3.ol.vc;have nc:(bj nx).cells=[vI nx.atom,vI nx.done,.bool nx.free]:=rfl;have ns:(bj nx).stays=true:=rfl;have fin:∀(S:Nat->V) (J:ai) (i8 i9:Nat),aa Z6 J->((∀(U:ai) (o:Ob),C' U i8 o i9=U i9)/\∀(U:ai) (o:Ob),C' U i9 o i8=U i8)->Z6 i8=none->Z6 i9=none->J i8=some ⟨63,7,[.agg [vI w.node,vI w.atom,vI w.fr,vI w.x,vI w.y,vI w.w,vI w.h]]⟩->J i9=some ⟨42,3,[.agg [vI nx.atom,vI nx.done,.bool nx.free]]⟩->
  S 0=.ptr i1 0 0->S 6=.ptr i6 0 0->S 7=bl b.atoms->S 8=.ptr i8 0 0->S 9=.ptr i9 0 0->
  ad prog 89 [It.code Fj.code.rt.rt.rt] ⟨S,J⟩ λst=>Vr [.cell true 4 (.t 6)] st λr Z'=>∃U4 Uz,r=bX ⟨nx,R.2⟩/\Tw b K i1 ((x.add [cE x.high w]).put R.1) Z' vh U4 Uz:=by
  intro S J i8 i9 hsZ hn z8 z9 a8 a9 t0 t6 t7 t8 t9;have n69:=ao a6 z9;have k9:=V3.sub.none z9;have hJ:=V3.ni hsZ z9 a9;have n18:i1≠i8:=ao a1 z8;have a1:=hJ.row;rw[dv]at a1;have r2:Rq .i64 (w.y+x.high):=aq (by omega) (by omega);have r3:Rq .i64 (x.s.atom+1):=aq (by have:=hm.1;omega) (by have:=hm.1;omega);have hs:=aa.refl J;have z8:=z8;refine ad.mix 12 ?_;apply sR;simp only[go_sem,seval,Fj,bJ.rt,t0,t6,t7,t8,t9,a8,a1,r2,ab n18,cf,sf];generalize SC:C' J i8 _=Y8;have SF:Tw b (C' K i6 ⟨45,4,[.agg [vI 0,vI 0,.bool false,.aC]]⟩) i1 x Y8 vh vf vl:=V3.mono (SC▸hsZ.aE z8);replace a8:=(congrFun SC i8).symm.trans ag;replace a9:=((congrFun SC i9).symm.trans (hn.1 _ _)).trans a9;replace hJ:=V3.ni (SC▸hsZ.aE z8) z9 a9;clear SC;refine bx λi50 Z50 s50 a50 f50=>?_;have Te:=hJ.mono s50;obtain⟨Rr,SM,XD⟩:=yF Te.sub Te.no Te.row Te.of;have UL:(x.fs.map bo).length<=1000000:=by simpa using hx
  generalize hrw:x.fs.map bo=rows at*;have Sb:(rows.length+1)*57<=140737488355328:=by omega
  simp only[go_sem,seval,SM,dS a50,Sb];refine jy λi51 Z51 s51 a51 f51=>?_;obtain⟨b1,hg⟩:=XD Z51 i51 _ s51 a51 f51;rw[dv]at b1;obtain⟨g1,g2,g3⟩:=hg (dv b (x.add [cE x.high w]) vh (.own i51 0 (rows.length+1)) vl);have hJa:Tw b (C' (C' K i6 ⟨45,4,[.agg [vI 0,vI 0,.bool false,.aC]]⟩) i9 ⟨42,3,[.agg [vI nx.atom,vI nx.done,.bool nx.free]]⟩) i1 (x.add [cE x.high w]) (C' Z51 i1 (dv b (x.add [cE x.high w]) vh (.own i51 0 (rows.length+1)) vl)) vh (.own i51 0 (rows.length+1)) vl:=by
   obtain⟨k1,k2⟩:=g3 _ _ Te.oh Te.hf.symm;obtain⟨k3,k4⟩:=g3 _ _ Te.ol Te.fl;rw[List.length_append]at g2 k2 k4;refine⟨ag,k1,?_,k3,k2.symm,Te.hl,k4,g1,Te.no⟩;show aT _ _ _ _ _ ((x.fs++[cE x.high w]).map bo);rw[List.map_append,hrw];exact g2
  have hya:(x.add [cE x.high w]).high=x.high:=rfl;have hys:(x.add [cE x.high w]).ls=x.ls:=rfl;have hxl':(x.add [cE x.high w]).ls.length<=1000000:=hxl;generalize hY:x.add [cE x.high w]=y at*;simp only[go_sem,seval,b1,t0,t6,t7,t8,t9,ch,sh,cl,sl,UW,gm,Cd,r3];generalize hq1:C' Z51 i1 _=Y1;have hJb:=hJa;rw[show C' Z51 i1 (dv b y vh (.own i51 0 (rows.length+1)) vl)=Y1 by rw[<-hq1,dv,<-hY];rfl]at hJb;clear hJa hq1;refine Go.bP rfl rfl rfl SL ?_;apply sG;simp only[go_sem,seval,t0];refine ad.call rfl rfl rfl (mK b R.1 Wr.1 y hxl' (λf hf=>by
   have:=Wr.2 f hf;rw[hya];exact aq (by omega) (by omega)) hJb) ?_
  rintro r Z' ⟨Uz,TE⟩;have c9:=TE.sub _ _ ag;have c6:=TE.sub i6 _ ((ab n69).trans ag);apply sR;simp only[go_sem,seval,t6,t9,c9,c6,ar,au];exact⟨_,_,aa.refl _,Wk.refl (aa.refl _) _,_,Uz,rfl,(TE.narrow k9).drop k6 _⟩
 have a8:True:=trivial;have a9:True:=trivial;have hn:True:=trivial;have RX:=aa.refl Z6;refine ad.C4 (by kernel_rfl) 8 (.fork [[],[],[1],[2,1],[3,2,1],[],[5],[6,5],[7,6,5],[8,7,6,5],[0,4,9,3,2,1,8,7,6,5],[10,0,4,9,3,2,1,8,7,6,5],[11,10,0,4,9,3,2,1,8,7,6,5],[11,10,0,4,9,3,2,1,8,7,6,5],[],[],[14,12,10,0,1,2,3,4,5,6,7,8,9,11,15],[15,13,16,0,1,2,3,4,5,6,7,8,9,10,11,12,14]] [0,1,2,3,4,5,6,7,8,9] [10,14,15] [(.fork [[],[],[1],[2,1],[3,2,1],[],[5],[6,5],[7,6,5],[8,7,6,5],[0,4,9,3,2,1,8,7,6,5],[10,0,4,9,3,2,1,8,7,6,5],[11,10,0,4,9,3,2,1,8,7,6,5],[11,10,0,4,9,3,2,1,8,7,6,5],[10,0,4,9,3,2,1,8,7,6,5],[10,0,4,9,3,2,1,8,7,6,5],[10,0,4,9,3,2,1,8,7,6,5,14,12,11,15],[10,0,4,9,3,2,1,8,7,6,5,15,13,16,11,12,14]] [10,11,12,13] [14,15] [(.leaf [[],[],[1],[2,1],[3,2,1],[],[5],[6,5],[7,6,5],[8,7,6,5],[0,4,9,3,2,1,8,7,6,5],[10,0,4,9,3,2,1,8,7,6,5],[11,10,0,4,9,3,2,1,8,7,6,5],[11,10,0,4,9,3,2,1,8,7,6,5],[10,0,4,9,3,2,1,8,7,6,5],[14,10,0,4,9,3,2,1,8,7,6,5],[14,10,0,4,9,3,2,1,8,7,6,5,12,11,15],[14,10,0,4,9,3,2,1,8,7,6,5,15,13,16,11,12]] [14,15,16,17]),(.leaf [[],[],[1],[2,1],[3,2,1],[],[5],[6,5],[7,6,5],[8,7,6,5],[0,4,9,3,2,1,8,7,6,5],[10,0,4,9,3,2,1,8,7,6,5],[11,10,0,4,9,3,2,1,8,7,6,5],[11,10,0,4,9,3,2,1,8,7,6,5],[15,10,0,4,9,3,2,1,8,7,6,5],[10,0,4,9,3,2,1,8,7,6,5],[15,10,0,4,9,3,2,1,8,7,6,5,14,12,11],[15,10,0,4,9,3,2,1,8,7,6,5,13,16,11,12,14]] [15,14,16,17])]),(.fork [[],[],[1],[2,1],[3,2,1],[],[5],[6,5],[7,6,5],[8,7,6,5],[14,0,4,9,3,2,1,8,7,6,5],[14,10,0,4,9,3,2,1,8,7,6,5],[14,11,10,0,4,9,3,2,1,8,7,6,5],[14,11,10,0,4,9,3,2,1,8,7,6,5],[],[14],[14,12,10,0,1,2,3,4,5,6,7,8,9,11,15],[14,15,13,16,0,1,2,3,4,5,6,7,8,9,10,11,12]] [14] [10,15] [(.leaf [[],[],[1],[2,1],[3,2,1],[],[5],[6,5],[7,6,5],[8,7,6,5],[14,0,4,9,3,2,1,8,7,6,5],[14,10,0,4,9,3,2,1,8,7,6,5],[14,11,10,0,4,9,3,2,1,8,7,6,5],[14,11,10,0,4,9,3,2,1,8,7,6,5],[],[10,14,0,4,9,3,2,1,8,7,6,5],[10,14,0,4,9,3,2,1,8,7,6,5,12,11,15],[10,14,0,4,9,3,2,1,8,7,6,5,15,13,16,11,12]] [10,11,12,13,15,16,17]),(.leaf [[],[],[1],[2,1],[3,2,1],[],[5],[6,5],[7,6,5],[8,7,6,5],[15,14,0,4,9,3,2,1,8,7,6,5],[15,14,10,0,4,9,3,2,1,8,7,6,5],[15,14,11,10,0,4,9,3,2,1,8,7,6,5],[15,14,11,10,0,4,9,3,2,1,8,7,6,5],[],[14],[15,14,12,10,0,1,2,3,4,5,6,7,8,9,11],[15,14,13,16,0,1,2,3,4,5,6,7,8,9,10,11,12]] [15,10,11,12,13,16,17])]),(.fork [[],[],[1],[2,1],[3,2,1],[],[5],[6,5],[7,6,5],[8,7,6,5],[15,0,4,9,3,2,1,8,7,6,5],[15,10,0,4,9,3,2,1,8,7,6,5],[15,11,10,0,4,9,3,2,1,8,7,6,5],[15,11,10,0,4,9,3,2,1,8,7,6,5],[15],[],[15,14,12,10,0,1,2,3,4,5,6,7,8,9,11],[15,13,16,0,1,2,3,4,5,6,7,8,9,10,11,12,14]] [15] [10,14] [(.leaf [[],[],[1],[2,1],[3,2,1],[],[5],[6,5],[7,6,5],[8,7,6,5],[15,0,4,9,3,2,1,8,7,6,5],[15,10,0,4,9,3,2,1,8,7,6,5],[15,11,10,0,4,9,3,2,1,8,7,6,5],[15,11,10,0,4,9,3,2,1,8,7,6,5],[10,15,0,4,9,3,2,1,8,7,6,5],[],[10,15,0,4,9,3,2,1,8,7,6,5,14,12,11],[10,15,0,4,9,3,2,1,8,7,6,5,13,16,11,12,14]] [10,11,12,13,14,16,17]),(.leaf [[],[],[1],[2,1],[3,2,1],[],[5],[6,5],[7,6,5],[8,7,6,5],[14,15,0,4,9,3,2,1,8,7,6,5],[14,15,10,0,4,9,3,2,1,8,7,6,5],[14,15,11,10,0,4,9,3,2,1,8,7,6,5],[14,15,11,10,0,4,9,3,2,1,8,7,6,5],[15],[],[14,15,12,10,0,1,2,3,4,5,6,7,8,9,11],[14,15,13,16,0,1,2,3,4,5,6,7,8,9,10,11,12]] [14,10,11,12,13,16,17])])]) (by kernel_rfl) ?_;refine GT.N1 (its:=[0,2,4,6,8,10,12,14,16,18]) (by kernel_rfl) ?_;refine RE.Sg (n:=0) [] [0,2,4,6,8,10,12,14,16,18] [⟨(.some 21),(.Rn (.t 7)),.none⟩,⟨(.some 22),(.Rn (.t 0)),.none⟩,⟨(.some 23),(.nilCheck (.t 22)),.none⟩,⟨(.some 24),(.Rz .true 4 3 (.t 23)),.none⟩,⟨(.some 25),(.load .true 3 (.t 24)),.none⟩,⟨(.some 26),(.Rn (.t 0)),.none⟩,⟨(.some 27),(.nilCheck (.t 26)),.none⟩,⟨(.some 28),(.Rz .true 0 3 (.t 27)),.none⟩,⟨(.some 29),(.Rz .false 2 1 (.t 28)),.none⟩,⟨(.some 30),(.load .false 1 (.t 29)),.none⟩] rfl rfl ?_;apply sG;simp only[go_sem,seval,a1,bo,nc,ns,a8,a9,hn];refine⟨?_,?_,?_⟩
 .refine GT.oe (its:=[20,22,24,26]) (by kernel_rfl) ?_;refine RE.aB rfl rfl rfl rfl rfl (Sx _) ?_;refine RE.Sg (n:=0) [] [22,24,26] [⟨(.some 20),(.Rn (.t 31)),.none⟩,⟨(.some 32),(.ext 0 (.t 20)),.none⟩,⟨(.some 33),(.ext 1 (.t 20)),.none⟩] rfl rfl ?_;apply sG;simp only[go_sem,seval,a1,bo,nc,ns,a8,a9,hn];refine⟨?_,?_⟩
  .refine GT.iN (its:=[28,30,32,34]) (by kernel_rfl) ?_;refine RE.Sg (n:=0) [] [28,30,32,34] [⟨(.some 8),(.alloc 63 7 (.agg [(.int .i64 0),(.int .i64 0),(.int .i64 0),(.int .i64 0),(.int .i64 0),(.int .i64 0),(.int .i64 0)])),.none⟩,⟨(.some 9),(.alloc 42 3 (.agg [(.int .i64 0),(.int .i64 0),(.bool .false)])),.none⟩,⟨.none,(.store 7 (.t 8) (.t 32)),.none⟩,⟨.none,(.store 3 (.t 9) (.t 33)),.none⟩] rfl rfl ?_;apply sG;simp only[go_sem,seval,a1,bo,nc,ns,a8,a9,hn];refine bx λi8 Z8 s8 a8 f8=>?_;replace a1:=s8 _ _ a1
   try replace hn:=cB (ao a9 f8).symm
   try replace a9:=s8 _ _ a9
   have z8:=RX.none f8;replace RX:=RX.trans s8;simp only[go_sem,seval,a1,bo,nc,ns,a8,a9,hn];refine bx λi9 Z9 s9 a9 f9=>?_;replace a1:=s9 _ _ a1
   try replace hn:=cB (ao a8 f9)
   try replace a8:=s9 _ _ a8
   have z9:=RX.none f9;replace RX:=RX.trans s9;simp only[go_sem,seval,a1,bo,nc,ns,a8,a9,hn];exact fin _ _ i8 i9 ((RX.aE z8).aE z9) hn z8 z9 ((hn.2 _ _).trans ag) ag rfl rfl rfl rfl rfl
  .refine GT.iN (its:=[30,28,32,34]) (by kernel_rfl) ?_;refine RE.Sg (n:=0) [] [30,28,32,34] [⟨(.some 9),(.alloc 42 3 (.agg [(.int .i64 0),(.int .i64 0),(.bool .false)])),.none⟩,⟨(.some 8),(.alloc 63 7 (.agg [(.int .i64 0),(.int .i64 0),(.int .i64 0),(.int .i64 0),(.int .i64 0),(.int .i64 0),(.int .i64 0)])),.none⟩,⟨.none,(.store 7 (.t 8) (.t 32)),.none⟩,⟨.none,(.store 3 (.t 9) (.t 33)),.none⟩] rfl rfl ?_;apply sG;simp only[go_sem,seval,a1,bo,nc,ns,a8,a9,hn];refine bx λi9 Z9 s9 a9 f9=>?_;replace a1:=s9 _ _ a1
   try replace hn:=cB (ao a8 f9)
   try replace a8:=s9 _ _ a8
   have z9:=RX.none f9;replace RX:=RX.trans s9;simp only[go_sem,seval,a1,bo,nc,ns,a8,a9,hn];refine bx λi8 Z8 s8 a8 f8=>?_;replace a1:=s8 _ _ a1
   try replace hn:=cB (ao a9 f8).symm
   try replace a9:=s8 _ _ a9
   have z8:=RX.none f8;replace RX:=RX.trans s8;simp only[go_sem,seval,a1,bo,nc,ns,a8,a9,hn];exact fin _ _ i8 i9 ((RX.aE z8).aE z9) hn z8 z9 ((hn.2 _ _).trans ag) ag rfl rfl rfl rfl rfl
 .refine GT.oe (its:=[28,9,19]) (by kernel_rfl) ?_;refine RE.Sg (n:=0) [9,19] [28] [⟨(.some 8),(.alloc 63 7 (.agg [(.int .i64 0),(.int .i64 0),(.int .i64 0),(.int .i64 0),(.int .i64 0),(.int .i64 0),(.int .i64 0)])),.none⟩] rfl rfl ?_;apply sG;simp only[go_sem,seval,a1,bo,nc,ns,a8,a9,hn];refine bx λi8 Z8 s8 a8 f8=>?_;replace a1:=s8 _ _ a1
  try replace hn:=cB (ao a9 f8).symm
  try replace a9:=s8 _ _ a9
  have z8:=RX.none f8;replace RX:=RX.trans s8;simp only[go_sem,seval,a1,bo,nc,ns,a8,a9,hn];refine RE.SB rfl rfl rfl rfl rfl trivial (by simp only[go_sem,seval,a1,bo,nc,ns,a8,a9,hn]) ?_;refine RE.SB rfl rfl rfl rfl rfl trivial (by simp only[go_sem,seval,a1,bo,nc,ns,a8,a9,hn]) ?_;refine⟨?_,?_⟩
  .refine GT.iN (its:=[20,22,24,26,30,32,34]) (by kernel_rfl) ?_;refine RE.aB rfl rfl rfl rfl rfl (Sx _) ?_;refine RE.Sg (n:=0) [] [22,24,26,30,32,34] [⟨(.some 20),(.Rn (.t 31)),.none⟩,⟨(.some 32),(.ext 0 (.t 20)),.none⟩,⟨(.some 33),(.ext 1 (.t 20)),.none⟩,⟨(.some 9),(.alloc 42 3 (.agg [(.int .i64 0),(.int .i64 0),(.bool .false)])),.none⟩,⟨.none,(.store 7 (.t 8) (.t 32)),.none⟩,⟨.none,(.store 3 (.t 9) (.t 33)),.none⟩] rfl rfl ?_;apply sG;simp only[go_sem,seval,a1,bo,nc,ns,a8,a9,hn];refine bx λi9 Z9 s9 a9 f9=>?_;replace a1:=s9 _ _ a1
   try replace hn:=cB (ao a8 f9)
   try replace a8:=s9 _ _ a8
   have z9:=RX.none f9;replace RX:=RX.trans s9;simp only[go_sem,seval,a1,bo,nc,ns,a8,a9,hn];exact fin _ _ i8 i9 ((RX.aE z8).aE z9) hn z8 z9 ((hn.2 _ _).trans ag) ag rfl rfl rfl rfl rfl
  .refine GT.iN (its:=[30,9,19,20,22,24,26,32,34]) (by kernel_rfl) ?_;refine RE.Sg (n:=0) [9,19,20,22,24,26,32,34] [30] [⟨(.some 9),(.alloc 42 3 (.agg [(.int .i64 0),(.int .i64 0),(.bool .false)])),.none⟩] rfl rfl ?_;apply sG;simp only[go_sem,seval,a1,bo,nc,ns,a8,a9,hn];refine bx λi9 Z9 s9 a9 f9=>?_;replace a1:=s9 _ _ a1
   try replace hn:=cB (ao a8 f9)
   try replace a8:=s9 _ _ a8
   have z9:=RX.none f9;replace RX:=RX.trans s9;simp only[go_sem,seval,a1,bo,nc,ns,a8,a9,hn];refine RE.SB rfl rfl rfl rfl rfl trivial (by simp only[go_sem,seval,a1,bo,nc,ns,a8,a9,hn]) ?_;refine RE.SB rfl rfl rfl rfl rfl trivial (by simp only[go_sem,seval,a1,bo,nc,ns,a8,a9,hn]) ?_;refine RE.aB rfl rfl rfl rfl rfl (Sx _) ?_;refine RE.Sg (n:=0) [] [22,24,26,32,34] [⟨(.some 20),(.Rn (.t 31)),.none⟩,⟨(.some 32),(.ext 0 (.t 20)),.none⟩,⟨(.some 33),(.ext 1 (.t 20)),.none⟩,⟨.none,(.store 7 (.t 8) (.t 32)),.none⟩,⟨.none,(.store 3 (.t 9) (.t 33)),.none⟩] rfl rfl ?_;apply sG;simp only[go_sem,seval,a1,bo,nc,ns,a8,a9,hn];exact fin _ _ i8 i9 ((RX.aE z8).aE z9) hn z8 z9 ((hn.2 _ _).trans ag) ag rfl rfl rfl rfl rfl
 .refine GT.oe (its:=[30,9,19]) (by kernel_rfl) ?_;refine RE.Sg (n:=0) [9,19] [30] [⟨(.some 9),(.alloc 42 3 (.agg [(.int .i64 0),(.int .i64 0),(.bool .false)])),.none⟩] rfl rfl ?_;apply sG;simp only[go_sem,seval,a1,bo,nc,ns,a8,a9,hn];refine bx λi9 Z9 s9 a9 f9=>?_;replace a1:=s9 _ _ a1
  try replace hn:=cB (ao a8 f9)
  try replace a8:=s9 _ _ a8
  have z9:=RX.none f9;replace RX:=RX.trans s9;simp only[go_sem,seval,a1,bo,nc,ns,a8,a9,hn];refine RE.SB rfl rfl rfl rfl rfl trivial (by simp only[go_sem,seval,a1,bo,nc,ns,a8,a9,hn]) ?_;refine RE.SB rfl rfl rfl rfl rfl trivial (by simp only[go_sem,seval,a1,bo,nc,ns,a8,a9,hn]) ?_;refine⟨?_,?_⟩
  .refine GT.iN (its:=[20,22,24,26,28,32,34]) (by kernel_rfl) ?_;refine RE.aB rfl rfl rfl rfl rfl (Sx _) ?_;refine RE.Sg (n:=0) [] [22,24,26,28,32,34] [⟨(.some 20),(.Rn (.t 31)),.none⟩,⟨(.some 32),(.ext 0 (.t 20)),.none⟩,⟨(.some 33),(.ext 1 (.t 20)),.none⟩,⟨(.some 8),(.alloc 63 7 (.agg [(.int .i64 0),(.int .i64 0),(.int .i64 0),(.int .i64 0),(.int .i64 0),(.int .i64 0),(.int .i64 0)])),.none⟩,⟨.none,(.store 7 (.t 8) (.t 32)),.none⟩,⟨.none,(.store 3 (.t 9) (.t 33)),.none⟩] rfl rfl ?_;apply sG;simp only[go_sem,seval,a1,bo,nc,ns,a8,a9,hn];refine bx λi8 Z8 s8 a8 f8=>?_;replace a1:=s8 _ _ a1
   try replace hn:=cB (ao a9 f8).symm
   try replace a9:=s8 _ _ a9
   have z8:=RX.none f8;replace RX:=RX.trans s8;simp only[go_sem,seval,a1,bo,nc,ns,a8,a9,hn];exact fin _ _ i8 i9 ((RX.aE z8).aE z9) hn z8 z9 ((hn.2 _ _).trans ag) ag rfl rfl rfl rfl rfl
  .refine GT.iN (its:=[28,9,19,20,22,24,26,32,34]) (by kernel_rfl) ?_;refine RE.Sg (n:=0) [9,19,20,22,24,26,32,34] [28] [⟨(.some 8),(.alloc 63 7 (.agg [(.int .i64 0),(.int .i64 0),(.int .i64 0),(.int .i64 0),(.int .i64 0),(.int .i64 0),(.int .i64 0)])),.none⟩] rfl rfl ?_;apply sG;simp only[go_sem,seval,a1,bo,nc,ns,a8,a9,hn];refine bx λi8 Z8 s8 a8 f8=>?_;replace a1:=s8 _ _ a1
   try replace hn:=cB (ao a9 f8).symm
   try replace a9:=s8 _ _ a9
   have z8:=RX.none f8;replace RX:=RX.trans s8;simp only[go_sem,seval,a1,bo,nc,ns,a8,a9,hn];refine RE.SB rfl rfl rfl rfl rfl trivial (by simp only[go_sem,seval,a1,bo,nc,ns,a8,a9,hn]) ?_;refine RE.SB rfl rfl rfl rfl rfl trivial (by simp only[go_sem,seval,a1,bo,nc,ns,a8,a9,hn]) ?_;refine RE.aB rfl rfl rfl rfl rfl (Sx _) ?_;refine RE.Sg (n:=0) [] [22,24,26,32,34] [⟨(.some 20),(.Rn (.t 31)),.none⟩,⟨(.some 32),(.ext 0 (.t 20)),.none⟩,⟨(.some 33),(.ext 1 (.t 20)),.none⟩,⟨.none,(.store 7 (.t 8) (.t 32)),.none⟩,⟨.none,(.store 3 (.t 9) (.t 33)),.none⟩] rfl rfl ?_;apply sG;simp only[go_sem,seval,a1,bo,nc,ns,a8,a9,hn];exact fin _ _ i8 i9 ((RX.aE z8).aE z9) hn z8 z9 ((hn.2 _ _).trans ag) ag rfl rfl rfl rfl rfl
end Go.Vc
