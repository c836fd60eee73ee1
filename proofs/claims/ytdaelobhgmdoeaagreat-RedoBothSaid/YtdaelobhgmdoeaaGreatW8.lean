/- Part 8 of the library of this proof. -/
import Derived.Test.YtdaelobhgmdoeaaGreatW7
set_option linter.all false
set_option maxHeartbeats 8000000
set_option maxRecDepth 100000
namespace Go.Vc
open Go.Proofs Go.Proofs.Tryz
def yk(l:List Nd)(of:List Int):List Int:=(List.range (of.length+1)).map (pZ l of)
def Lo(l:List Nd)(hl:dH l)(hb:R3 l=true)(of:List Int)(TK:of.length<=1000000)(Sx:∀x∈of,0<=x/\x<l.length)(hm:ph l of=true):
 aV prog 111 [aK l,bn of] (.Rf [bn (yk l of),vI 0]):=λU=>by
 refine Qv.r (by simp[IW]) ?_;have hs:=aa.refl U;have UK:=fG of;refine ad.mix 11 ?_;apply sR;simp only[go_sem,seval,IW];refine ad.aB rfl rfl rfl (nX l hl hb of TK hm _) ?_;have q0:((0:Int)≠0)=False:=eq_false (λh=>h rfl);have r0:Rq .i64 ((of.length:Int)+1):=ao (by omega) (by omega);apply sR;simp only[go_sem,seval,q0,UK,r0];refine ad.fe (λst=>aa U st.U/\aT U st.U 3 1 (st.s 7) ((yk l of).map vI))
  (λm st=>∃j:Nat,j<=of.length+1/\m=of.length+1-j/\aa U st.U/\aT U st.U 3 1 (st.s 7) (((List.range j).map (pZ l of)).map vI)/\st.s 0=aK l/\st.s 1=bn of/\st.s 19=vI ((of.length:Int)+1)/\st.s 20=vI j) (of.length+1) ?_ ?_ ?_
 .exact⟨0,by omega,rfl,hs,aT.start,rfl,rfl,rfl,rfl⟩
 .clear hs;rintro m ⟨S,J⟩ ⟨j,hj,rfl,hs,ho,t0,t1,t19,t20⟩;simp only at hs ho t0 t1 t19 t20;generalize hv7:S 7=v7 at ho;refine ad.mix 11 ?_;by_cases H':j<of.length+1
  .have q:((j:Int)<of.length+1)=True:=eq_true (by omega);have r1:Rq .i64 ((j:Int)+1):=ao (by omega) (by omega);have RS:(((List.range (j+1)).map (pZ l of)).map vI)=(((List.range j).map (pZ l of)).map vI)++[vI (pZ l of j)]:=by
    rw[List.range_succ];simp
   have Wv:(((List.range j).map (pZ l of)).map vI).length=j:=by simp
   apply sR;simp only[go_sem,seval,t0,t1,t19,t20,q];refine ad.aB rfl rfl rfl (N2 l hl hb of TK Sx hm j (by omega) _) ?_;generalize ((List.range j).map (pZ l of)).map vI=rows at*;apply sR;simp only[go_sem,seval,t0,t1,t19,t20,hv7];refine af λi32 Z32 s32 a32 f32=>?_;obtain⟨Rr,SM,Sv,Zi,Xq⟩:=ho.AD s32;have Sb:(rows.length+1)*9<=140737488355328:=by omega
   simp only[go_sem,seval,t0,t1,t19,t20,hv7,SM,dW a32,Sb];refine fM λi33 Z33 s33 a33 f33=>?_;have k33:=(Sv U (aa.refl _) Z32 (hs.trans s32)).trans s33;have n33:U i33=none:=(hs.trans s32).none f33;simp only[go_sem,seval,t0,t1,t19,t20,r1];refine⟨_,?_,j+1,by omega,rfl,k33,?_,by simp[t0,t1,t19]⟩
   .omega
   .rw[RS];exact aT.new (by simp) a33 n33
  .have q:((j:Int)<of.length+1)=False:=eq_false (by omega);have SX:j=of.length+1:=by omega
   subst SX;apply sR;simp only[go_sem,seval,t0,t1,t19,t20,q];exact⟨hs,hv7▸ho⟩
 .rintro⟨S,J⟩ ⟨hs,ho⟩;simp only at hs ho;generalize hv7:S 7=v7 at ho;refine ad.mix 11 ?_;apply sR;simp only[go_sem,seval,hv7];exact⟨_,U,hs,Wk.Rf (vs':=[bn (yk l of),vI 0]) ⟨ho.wk (aa.refl _) hs,Wk.refl hs _,trivial⟩,rfl,rfl⟩
open Go.Proofs Go.Proofs.Tryz
structure S1 where
 (cls forced R5:Int)
deriving DecidableEq
def dX(x:S1):V:=.agg [vI x.cls,vI x.forced,vI x.R5]
def bC(l:List S1):V:=.sl 3 (l.map dX)
def aI(l:List S1):(bC l).cells=[bC l]:=rfl
def aJ(l:List S1):(bC l).stays=true:=rfl
def Bg(l:List S1):dz false (bC l)=some (.int .i64 l.length):=by simp[bC,dz]
def sc{U:ai}{l:List S1}{i:Nat}(h:i<l.length):bQ U 3 (bC l) (.int .i64 i)=some (.rp (dX l[i])):=by simp[bC,bQ,h,dX]
def pT(of:List Int)(k:Nat):Int:=if k=0 then 0 else if k=of.length then 3 else if of.getD k 0=of.getD (k-1) 0 then 2 else 1
def Hy(of:List Int)(TK:of.length<=1000000)(k:Nat)(hk:k<=of.length):aV prog 112 [bn of,vI k] (vI (pT of k)):=λU=>by
 refine Ol.r (by simp[CU]) ?_;have UK:=fG of;refine ad.mix 6 ?_;unfold pT;rcases Nat.eq_zero_or_pos k with rfl|h0
 .have q1:(((0:Nat):Int)=0)=True:=eq_true rfl;apply sR;simp only[go_sem,seval,CU,q1];exact ay.same rfl
 have q1:((k:Int)=0)=False:=eq_false (by omega);rw[if_neg (by omega)];by_cases TH:k=of.length
 .have q2:((k:Int)=of.length)=True:=eq_true (by omega);rw[if_pos TH];apply sR;simp only[go_sem,seval,CU,q1,q2,UK];exact ay.same rfl
 have q2:((k:Int)=of.length)=False:=eq_false (by omega);rw[if_neg TH];have h1:k<of.length:=by omega
 have q5:=ao (m:=((k-1:Nat):Int)) (by omega) (by omega);have q6:((k:Int)-1)=((k-1:Nat):Int):=by omega
 have q7:=λU=>gO (U:=U) h1;have q8:=λU=>gO (U:=U) (l:=of) (i:=k-1) (by omega);have g1:of.getD k 0=of[k]:=by simp[h1]
 have g2:of.getD (k-1) 0=of[k-1]:=by
  have:k-1<of.length:=by omega
  simp[this]
 rw[g1,g2];by_cases h2:of[k]=of[k-1]
 .have q9:(of[k]=of[k-1])=True:=eq_true h2;rw[if_pos h2];apply sR;simp only[go_sem,seval,CU,q1,q2,UK,q5,q6,q7,q8,q9];exact ay.same rfl
 .have q9:(of[k]=of[k-1])=False:=eq_false h2;rw[if_neg h2];apply sR;simp only[go_sem,seval,CU,q1,q2,UK,q5,q6,q7,q8,q9];exact ay.same rfl
open Go.Proofs Go.Proofs.Tryz
def YP(l:List Nd)(of:List Int)(k:Nat):S1:=⟨pT of k,je l of k,if je l of k=0 then pZ l of k else 0⟩
def rq(l:List Nd)(of:List Int):List S1:=(List.range (of.length+1)).map (YP l of)
def IP{U:ai}{f:Nat->Int}{n j:Nat}(h:j<n):bQ U 1 (bn ((List.range n).map f)) (.int .i64 j)=some (.rp (vI (f j))):=by
 rw[gO (by simpa using h)];simp
def J5(l:List Nd)(hl:dH l)(hb:R3 l=true)(of:List Int)(TK:of.length<=1000000)(Sx:∀x∈of,0<=x/\x<l.length)(hm:ph l of=true):
 aV prog 52 [aK l,bn of] (.Rf [bC (rq l of),vI 0]):=λU=>by
 refine e52.r (by simp[c52]) ?_;have hs:=aa.refl U;have UK:=fG of;refine ad.mix 14 ?_;apply sR;simp only[go_sem,seval,c52];refine ad.aB rfl rfl rfl (nX l hl hb of TK hm _) ?_;have q0:((0:Int)≠0)=False:=eq_false (λh=>h rfl);have r0:Rq .i64 ((of.length:Int)+1):=ao (by omega) (by omega);apply sR;simp only[go_sem,seval,q0,UK,r0];refine ad.aB rfl rfl rfl (My l hl hb of TK Sx hm _) ?_;apply sR;simp only[go_sem,seval];refine ad.aB rfl rfl rfl (Lo l hl hb of TK Sx hm _) ?_;apply sR;simp only[go_sem,seval,UK,r0];refine ad.fe (λst=>aa U st.U/\aT U st.U 168 3 (st.s 11) ((rq l of).map dX))
  (λm st=>∃j:Nat,j<=of.length+1/\m=of.length+1-j/\aa U st.U/\aT U st.U 168 3 (st.s 11) (((List.range j).map (YP l of)).map dX)/\st.s 0=aK l/\st.s 1=bn of/\st.s 7=bn (zR l of)/\st.s 9=bn (yk l of)/\st.s 34=vI ((of.length:Int)+1)/\st.s 35=vI j) (of.length+1) ?_ ?_ ?_
 .exact⟨0,by omega,rfl,hs,aT.start,rfl,rfl,rfl,rfl,rfl,rfl⟩
 .clear hs;rintro m ⟨S,J⟩ ⟨j,hj,rfl,hs,ho,t0,t1,t7,t9,t34,t35⟩;simp only at hs ho t0 t1 t7 t9 t34 t35;generalize WR:S 11=v11 at ho;refine ad.mix 14 ?_;by_cases H':j<of.length+1
  .have q:((j:Int)<of.length+1)=True:=eq_true (by omega);have r1:Rq .i64 ((j:Int)+1):=ao (by omega) (by omega);have RS:(((List.range (j+1)).map (YP l of)).map dX)=(((List.range j).map (YP l of)).map dX)++[dX (YP l of j)]:=by
    rw[List.range_succ];simp
   have Wv:(((List.range j).map (YP l of)).map dX).length=j:=by simp
   have hi7:∀U,bQ U 1 (bn (zR l of)) (.int .i64 j)=some (.rp (vI (je l of j))):=λU=>IP H';have hi9:∀U,bQ U 1 (bn (yk l of)) (.int .i64 j)=some (.rp (vI (pZ l of j))):=λU=>IP H';apply sR;simp only[go_sem,seval,t0,t1,t7,t9,WR,t34,t35,q];refine Go.bP rfl rfl rfl (Hy of TK j (by omega)) ?_;apply sG;simp only[go_sem,seval,t0,t1,t7,t9,WR,t34,t35,hi7];refine bu λWM Y13 s13 TB f13=>?_;by_cases hz:je l of j=0
   .have q2:(je l of j=0)=True:=eq_true hz;have UW:dX (YP l of j)=.agg [vI (pT of j),vI (je l of j),vI (pZ l of j)]:=by rw[YP,if_pos hz];rfl
    simp only[go_sem,seval,TB,t0,t1,t7,t9,WR,t34,t35,hi7,hi9,q2];generalize hq13:C' _ WM _=Z13;have Yo:aa J Z13:=by rw[<-hq13];exact s13.aE f13
    clear hq13;refine af λi58 Z58 s58 a58 f58=>?_;obtain⟨Rr,SM,Sv,Zi,Xq⟩:=ho.AD (Yo.trans s58);generalize ((List.range j).map (YP l of)).map dX=rows at*;have Sb:(rows.length+1)*25<=140737488355328:=by omega
    simp only[go_sem,seval,t0,t1,t7,t9,WR,t34,t35,SM,dW a58,Sb];refine fM λi59 Z59 s59 a59 f59=>?_;have k59:=(Sv U (aa.refl _) Z58 (hs.trans (Yo.trans s58))).trans s59;have n59:U i59=none:=(hs.trans (Yo.trans s58)).none f59;simp only[go_sem,seval,t0,t1,t7,t9,t34,t35,r1];refine⟨_,?_,j+1,by omega,rfl,k59,?_,by simp[t0,t1,t7,t9,t34]⟩
    .omega
    .rw[RS,UW];exact aT.new (by simp) a59 n59
   .have q2:(je l of j=0)=False:=eq_false hz;have UW:dX (YP l of j)=.agg [vI (pT of j),vI (je l of j),vI 0]:=by rw[YP,if_neg hz];rfl
    simp only[go_sem,seval,TB,t0,t1,t7,t9,WR,t34,t35,hi7,hi9,q2];generalize hq13:C' _ WM _=Z13;have Yo:aa J Z13:=by rw[<-hq13];exact s13.aE f13
    clear hq13;refine af λi58 Z58 s58 a58 f58=>?_;obtain⟨Rr,SM,Sv,Zi,Xq⟩:=ho.AD (Yo.trans s58);generalize ((List.range j).map (YP l of)).map dX=rows at*;have Sb:(rows.length+1)*25<=140737488355328:=by omega
    simp only[go_sem,seval,t0,t1,t7,t9,WR,t34,t35,SM,dW a58,Sb];refine fM λi59 Z59 s59 a59 f59=>?_;have k59:=(Sv U (aa.refl _) Z58 (hs.trans (Yo.trans s58))).trans s59;have n59:U i59=none:=(hs.trans (Yo.trans s58)).none f59;simp only[go_sem,seval,t0,t1,t7,t9,t34,t35,r1];refine⟨_,?_,j+1,by omega,rfl,k59,?_,by simp[t0,t1,t7,t9,t34]⟩
    .omega
    .rw[RS,UW];exact aT.new (by simp) a59 n59
  .have q:((j:Int)<of.length+1)=False:=eq_false (by omega);have SX:j=of.length+1:=by omega
   subst SX;apply sR;simp only[go_sem,seval,t0,t1,t7,t9,t34,t35,q];exact⟨hs,WR▸ho⟩
 .rintro⟨S,J⟩ ⟨hs,ho⟩;simp only at hs ho;generalize WR:S 11=v11 at ho;refine ad.mix 14 ?_;apply sR;simp only[go_sem,seval,WR];exact⟨_,U,hs,Wk.Rf (vs':=[bC (rq l of),vI 0]) ⟨ho.wk (aa.refl _) hs,Wk.refl hs _,trivial⟩,rfl,rfl⟩
open Go.Proofs Go.Proofs.Tryz
def nT(x:S1)(first last:Bool):Prop:=
 (first=true->x.cls=0)/\(first=false->last=true->x.cls=3)/\(first=false->last=false->x.cls=1\/x.cls=2)/\
 (x.forced=0\/(2<=x.forced/\x.forced<=4/\x.cls≠3/\x.cls≠2))/\(x.R5=0\/((x.cls=1\/x.cls=2)/\x.forced=0/\0<x.R5/\x.R5<8))
instance (x:S1) (a b:Bool):Decidable (nT x a b):=by unfold nT;infer_instance
def Gz(x:S1)(first last:Bool):aV prog 283 [dX x,.bool first,.bool last] (.bool (decide (nT x first last))):=λU=>by
 refine PH.r (by simp[Kf]) ?_;have hs:=aa.refl U;obtain⟨c,f,r⟩:=x;refine ad.mix 9 ?_;apply sR;simp only[go_sem,seval,Kf,dX];refine af λi3 Z3 s3 a3 f3=>?_;have z3:=hs.none f3;replace hs:=hs.trans s3;unfold nT;simp only;have C:c=0\/c=1\/c=2\/c=3\/((c=0)=False/\(c=1)=False/\(c=2)=False/\(c=3)=False/\(c≠0)=True/\(c≠3)=True):=by
  by_cases h0:c=0
  .exact .inl h0
  by_cases h1:c=1
  .exact .inr (.inl h1)
  by_cases h2:c=2
  .exact .inr (.inr (.inl h2))
  by_cases h3:c=3
  .exact .inr (.inr (.inr (.inl h3)))
  .exact .inr (.inr (.inr (.inr ⟨eq_false h0,eq_false h1,eq_false h2,eq_false h3,eq_true h0,eq_true h3⟩)))
 have F:f=0\/((f=0)=False/\((f<2)=True/\(2<=f/\f<=4)=False\/(f<2)=False/\((f>4)=True/\(2<=f/\f<=4)=False\/(f>4)=False/\(2<=f)=True/\(f<=4)=True))):=by
  by_cases h0:f=0
  .exact .inl h0
  refine .inr ⟨eq_false h0,?_⟩;by_cases h1:f<2
  .exact .inl ⟨eq_true h1,eq_false (by omega)⟩
  refine .inr ⟨eq_false h1,?_⟩;by_cases h2:f>4
  .exact .inl ⟨eq_true h2,eq_false (by omega)⟩
  .exact .inr ⟨eq_false h2,eq_true (by omega),eq_true (by omega)⟩
 have R:r=0\/((r=0)=False/\((r>0)=False/\(0<r)=False\/(r>0)=True/\(0<r)=True/\((r<8)=True\/(r<8)=False))):=by
  by_cases h0:r=0
  .exact .inl h0
  refine .inr ⟨eq_false h0,?_⟩;by_cases h1:r>0
  .refine .inr ⟨eq_true h1,eq_true h1,?_⟩;by_cases h2:r<8
   .exact .inl (eq_true h2)
   .exact .inr (eq_false h2)
  .exact .inl ⟨eq_false h1,eq_false (by omega)⟩
 rcases C with rfl|rfl|rfl|rfl|⟨c0,c1,c2,c3,c4,c5⟩
 .rcases F with rfl|⟨f0,⟨f1,f2⟩|⟨f1,⟨f2,f3⟩|⟨f2,f3,f4⟩⟩⟩
  .cases first
   .cases last
    .simp only[go_sem,seval,a3];exact ay.pure hs (by simp)
    .simp only[go_sem,seval,a3];exact ay.pure hs (by simp)
   .cases last
    .rcases R with rfl|⟨r0,⟨r1,r2⟩|⟨r1,r2,r3|r3⟩⟩
     .simp only[go_sem,seval,a3];exact ay.pure hs (by simp)
     .simp only[go_sem,seval,a3,r0,r1];exact ay.pure hs (by simp[r0,r2])
     .simp only[go_sem,seval,a3,r0,r1,r3];exact ay.pure hs (by simp[r0,r2,r3])
     .simp only[go_sem,seval,a3,r0,r1,r3];exact ay.pure hs (by simp[r0,r2,r3])
    .rcases R with rfl|⟨r0,⟨r1,r2⟩|⟨r1,r2,r3|r3⟩⟩
     .simp only[go_sem,seval,a3];exact ay.pure hs (by simp)
     .simp only[go_sem,seval,a3,r0,r1];exact ay.pure hs (by simp[r0,r2])
     .simp only[go_sem,seval,a3,r0,r1,r3];exact ay.pure hs (by simp[r0,r2,r3])
     .simp only[go_sem,seval,a3,r0,r1,r3];exact ay.pure hs (by simp[r0,r2,r3])
  .cases first
   .cases last
    .simp only[go_sem,seval,a3,f0,f1];exact ay.pure hs (by simp[f0,f2])
    .simp only[go_sem,seval,a3,f0,f1];exact ay.pure hs (by simp[f0,f2])
   .cases last
    .simp only[go_sem,seval,a3,f0,f1];exact ay.pure hs (by simp[f0,f2])
    .simp only[go_sem,seval,a3,f0,f1];exact ay.pure hs (by simp[f0,f2])
  .cases first
   .cases last
    .simp only[go_sem,seval,a3,f0,f1,f2];exact ay.pure hs (by simp[f0,f3])
    .simp only[go_sem,seval,a3,f0,f1,f2];exact ay.pure hs (by simp[f0,f3])
   .cases last
    .simp only[go_sem,seval,a3,f0,f1,f2];exact ay.pure hs (by simp[f0,f3])
    .simp only[go_sem,seval,a3,f0,f1,f2];exact ay.pure hs (by simp[f0,f3])
  .cases first
   .cases last
    .simp only[go_sem,seval,a3,f0,f1,f2];exact ay.pure hs (by simp[f0,f3,f4])
    .simp only[go_sem,seval,a3,f0,f1,f2];exact ay.pure hs (by simp[f0,f3,f4])
   .cases last
    .rcases R with rfl|⟨r0,⟨r1,r2⟩|⟨r1,r2,r3|r3⟩⟩
     .simp only[go_sem,seval,a3,f0,f1,f2];exact ay.pure hs (by simp[f0,f3,f4])
     .simp only[go_sem,seval,a3,f0,f1,f2,r0,r1];exact ay.pure hs (by simp[f0,f3,f4,r0,r2])
     .simp only[go_sem,seval,a3,f0,f1,f2,r0,r1,r3];exact ay.pure hs (by simp[f0,f3,f4,r0,r2,r3])
     .simp only[go_sem,seval,a3,f0,f1,f2,r0,r1,r3];exact ay.pure hs (by simp[f0,f3,f4,r0,r2,r3])
    .rcases R with rfl|⟨r0,⟨r1,r2⟩|⟨r1,r2,r3|r3⟩⟩
     .simp only[go_sem,seval,a3,f0,f1,f2];exact ay.pure hs (by simp[f0,f3,f4])
     .simp only[go_sem,seval,a3,f0,f1,f2,r0,r1];exact ay.pure hs (by simp[f0,f3,f4,r0,r2])
     .simp only[go_sem,seval,a3,f0,f1,f2,r0,r1,r3];exact ay.pure hs (by simp[f0,f3,f4,r0,r2,r3])
     .simp only[go_sem,seval,a3,f0,f1,f2,r0,r1,r3];exact ay.pure hs (by simp[f0,f3,f4,r0,r2,r3])
 .rcases F with rfl|⟨f0,⟨f1,f2⟩|⟨f1,⟨f2,f3⟩|⟨f2,f3,f4⟩⟩⟩
  .cases first
   .cases last
    .rcases R with rfl|⟨r0,⟨r1,r2⟩|⟨r1,r2,r3|r3⟩⟩
     .simp only[go_sem,seval,a3];exact ay.pure hs (by simp)
     .simp only[go_sem,seval,a3,r0,r1];exact ay.pure hs (by simp[r0,r2])
     .simp only[go_sem,seval,a3,r0,r1,r3];exact ay.pure hs (by simp[r0,r2,r3])
     .simp only[go_sem,seval,a3,r0,r1,r3];exact ay.pure hs (by simp[r0,r2,r3])
    .simp only[go_sem,seval,a3];exact ay.pure hs (by simp)
   .cases last
    .simp only[go_sem,seval,a3];exact ay.pure hs (by simp)
    .simp only[go_sem,seval,a3];exact ay.pure hs (by simp)
  .cases first
   .cases last
    .simp only[go_sem,seval,a3,f0,f1];exact ay.pure hs (by simp[f0,f2])
    .simp only[go_sem,seval,a3,f0,f1];exact ay.pure hs (by simp[f0,f2])
   .cases last
    .simp only[go_sem,seval,a3,f0,f1];exact ay.pure hs (by simp[f0,f2])
    .simp only[go_sem,seval,a3,f0,f1];exact ay.pure hs (by simp[f0,f2])
  .cases first
   .cases last
    .simp only[go_sem,seval,a3,f0,f1,f2];exact ay.pure hs (by simp[f0,f3])
    .simp only[go_sem,seval,a3,f0,f1,f2];exact ay.pure hs (by simp[f0,f3])
   .cases last
    .simp only[go_sem,seval,a3,f0,f1,f2];exact ay.pure hs (by simp[f0,f3])
    .simp only[go_sem,seval,a3,f0,f1,f2];exact ay.pure hs (by simp[f0,f3])
  .cases first
   .cases last
    .rcases R with rfl|⟨r0,⟨r1,r2⟩|⟨r1,r2,r3|r3⟩⟩
     .simp only[go_sem,seval,a3,f0,f1,f2];exact ay.pure hs (by simp[f0,f3,f4])
     .simp only[go_sem,seval,a3,f0,f1,f2,r0,r1];exact ay.pure hs (by simp[f0,f3,f4,r0,r2])
     .simp only[go_sem,seval,a3,f0,f1,f2,r0,r1,r3];exact ay.pure hs (by simp[f0,f3,f4,r0,r2,r3])
     .simp only[go_sem,seval,a3,f0,f1,f2,r0,r1,r3];exact ay.pure hs (by simp[f0,f3,f4,r0,r2,r3])
    .simp only[go_sem,seval,a3,f0,f1,f2];exact ay.pure hs (by simp[f0,f3,f4])
   .cases last
    .simp only[go_sem,seval,a3,f0,f1,f2];exact ay.pure hs (by simp[f0,f3,f4])
    .simp only[go_sem,seval,a3,f0,f1,f2];exact ay.pure hs (by simp[f0,f3,f4])
 .rcases F with rfl|⟨f0,⟨f1,f2⟩|⟨f1,⟨f2,f3⟩|⟨f2,f3,f4⟩⟩⟩
  .cases first
   .cases last
    .rcases R with rfl|⟨r0,⟨r1,r2⟩|⟨r1,r2,r3|r3⟩⟩
     .simp only[go_sem,seval,a3];exact ay.pure hs (by simp)
     .simp only[go_sem,seval,a3,r0,r1];exact ay.pure hs (by simp[r0,r2])
     .simp only[go_sem,seval,a3,r0,r1,r3];exact ay.pure hs (by simp[r0,r2,r3])
     .simp only[go_sem,seval,a3,r0,r1,r3];exact ay.pure hs (by simp[r0,r2,r3])
    .simp only[go_sem,seval,a3];exact ay.pure hs (by simp)
   .cases last
    .simp only[go_sem,seval,a3];exact ay.pure hs (by simp)
    .simp only[go_sem,seval,a3];exact ay.pure hs (by simp)
  .cases first
   .cases last
    .simp only[go_sem,seval,a3,f0,f1];exact ay.pure hs (by simp[f0,f2])
    .simp only[go_sem,seval,a3,f0,f1];exact ay.pure hs (by simp[f0,f2])
   .cases last
    .simp only[go_sem,seval,a3,f0,f1];exact ay.pure hs (by simp[f0,f2])
    .simp only[go_sem,seval,a3,f0,f1];exact ay.pure hs (by simp[f0,f2])
  .cases first
   .cases last
    .simp only[go_sem,seval,a3,f0,f1,f2];exact ay.pure hs (by simp[f0,f3])
    .simp only[go_sem,seval,a3,f0,f1,f2];exact ay.pure hs (by simp[f0,f3])
   .cases last
    .simp only[go_sem,seval,a3,f0,f1,f2];exact ay.pure hs (by simp[f0,f3])
    .simp only[go_sem,seval,a3,f0,f1,f2];exact ay.pure hs (by simp[f0,f3])
  .cases first
   .cases last
    .simp only[go_sem,seval,a3,f0,f1,f2];exact ay.pure hs (by simp[f0,f3,f4])
    .simp only[go_sem,seval,a3,f0,f1,f2];exact ay.pure hs (by simp[f0,f3,f4])
   .cases last
    .simp only[go_sem,seval,a3,f0,f1,f2];exact ay.pure hs (by simp[f0,f3,f4])
    .simp only[go_sem,seval,a3,f0,f1,f2];exact ay.pure hs (by simp[f0,f3,f4])
 .rcases F with rfl|⟨f0,⟨f1,f2⟩|⟨f1,⟨f2,f3⟩|⟨f2,f3,f4⟩⟩⟩
  .cases first
   .cases last
    .simp only[go_sem,seval,a3];exact ay.pure hs (by simp)
    .rcases R with rfl|⟨r0,⟨r1,r2⟩|⟨r1,r2,r3|r3⟩⟩
     .simp only[go_sem,seval,a3];exact ay.pure hs (by simp)
     .simp only[go_sem,seval,a3,r0,r1];exact ay.pure hs (by simp[r0,r2])
     .simp only[go_sem,seval,a3,r0,r1,r3];exact ay.pure hs (by simp[r0,r2,r3])
     .simp only[go_sem,seval,a3,r0,r1,r3];exact ay.pure hs (by simp[r0,r2,r3])
   .cases last
    .simp only[go_sem,seval,a3];exact ay.pure hs (by simp)
    .simp only[go_sem,seval,a3];exact ay.pure hs (by simp)
  .cases first
   .cases last
    .simp only[go_sem,seval,a3,f0,f1];exact ay.pure hs (by simp[f0,f2])
    .simp only[go_sem,seval,a3,f0,f1];exact ay.pure hs (by simp[f0,f2])
   .cases last
    .simp only[go_sem,seval,a3,f0,f1];exact ay.pure hs (by simp[f0,f2])
    .simp only[go_sem,seval,a3,f0,f1];exact ay.pure hs (by simp[f0,f2])
  .cases first
   .cases last
    .simp only[go_sem,seval,a3,f0,f1,f2];exact ay.pure hs (by simp[f0,f3])
    .simp only[go_sem,seval,a3,f0,f1,f2];exact ay.pure hs (by simp[f0,f3])
   .cases last
    .simp only[go_sem,seval,a3,f0,f1,f2];exact ay.pure hs (by simp[f0,f3])
    .simp only[go_sem,seval,a3,f0,f1,f2];exact ay.pure hs (by simp[f0,f3])
  .cases first
   .cases last
    .simp only[go_sem,seval,a3,f0,f1,f2];exact ay.pure hs (by simp[f0,f3,f4])
    .simp only[go_sem,seval,a3,f0,f1,f2];exact ay.pure hs (by simp[f0,f3,f4])
   .cases last
    .simp only[go_sem,seval,a3,f0,f1,f2];exact ay.pure hs (by simp[f0,f3,f4])
    .simp only[go_sem,seval,a3,f0,f1,f2];exact ay.pure hs (by simp[f0,f3,f4])
 .rcases F with rfl|⟨f0,⟨f1,f2⟩|⟨f1,⟨f2,f3⟩|⟨f2,f3,f4⟩⟩⟩
  .cases first
   .cases last
    .simp only[go_sem,seval,a3,c0,c1,c2,c3,c4,c5];exact ay.pure hs (by simp[c0,c1,c2,c3,c4,c5])
    .simp only[go_sem,seval,a3,c0,c1,c2,c3,c4,c5];exact ay.pure hs (by simp[c0,c1,c2,c3,c4,c5])
   .cases last
    .simp only[go_sem,seval,a3,c0,c1,c2,c3,c4,c5];exact ay.pure hs (by simp[c0,c1,c2,c3,c4,c5])
    .simp only[go_sem,seval,a3,c0,c1,c2,c3,c4,c5];exact ay.pure hs (by simp[c0,c1,c2,c3,c4,c5])
  .cases first
   .cases last
    .simp only[go_sem,seval,a3,c0,c1,c2,c3,c4,c5,f0,f1];exact ay.pure hs (by simp[c0,c1,c2,c3,c4,c5,f0,f2])
    .simp only[go_sem,seval,a3,c0,c1,c2,c3,c4,c5,f0,f1];exact ay.pure hs (by simp[c0,c1,c2,c3,c4,c5,f0,f2])
   .cases last
    .simp only[go_sem,seval,a3,c0,c1,c2,c3,c4,c5,f0,f1];exact ay.pure hs (by simp[c0,c1,c2,c3,c4,c5,f0,f2])
    .simp only[go_sem,seval,a3,c0,c1,c2,c3,c4,c5,f0,f1];exact ay.pure hs (by simp[c0,c1,c2,c3,c4,c5,f0,f2])
  .cases first
   .cases last
    .simp only[go_sem,seval,a3,c0,c1,c2,c3,c4,c5,f0,f1,f2];exact ay.pure hs (by simp[c0,c1,c2,c3,c4,c5,f0,f3])
    .simp only[go_sem,seval,a3,c0,c1,c2,c3,c4,c5,f0,f1,f2];exact ay.pure hs (by simp[c0,c1,c2,c3,c4,c5,f0,f3])
   .cases last
    .simp only[go_sem,seval,a3,c0,c1,c2,c3,c4,c5,f0,f1,f2];exact ay.pure hs (by simp[c0,c1,c2,c3,c4,c5,f0,f3])
    .simp only[go_sem,seval,a3,c0,c1,c2,c3,c4,c5,f0,f1,f2];exact ay.pure hs (by simp[c0,c1,c2,c3,c4,c5,f0,f3])
  .cases first
   .cases last
    .simp only[go_sem,seval,a3,c0,c1,c2,c3,c4,c5,f0,f1,f2];exact ay.pure hs (by simp[c0,c1,c2,c3,c4,c5,f0,f3,f4])
    .simp only[go_sem,seval,a3,c0,c1,c2,c3,c4,c5,f0,f1,f2];exact ay.pure hs (by simp[c0,c1,c2,c3,c4,c5,f0,f3,f4])
   .cases last
    .simp only[go_sem,seval,a3,c0,c1,c2,c3,c4,c5,f0,f1,f2];exact ay.pure hs (by simp[c0,c1,c2,c3,c4,c5,f0,f3,f4])
    .simp only[go_sem,seval,a3,c0,c1,c2,c3,c4,c5,f0,f1,f2];exact ay.pure hs (by simp[c0,c1,c2,c3,c4,c5,f0,f3,f4])
open Go.Proofs Go.Proofs.Tryz
def TL(b:List S1)(i:Nat):S1:=b.getD i ⟨0,0,0⟩
def gT(b:List S1)(i:Nat):Bool:=decide (nT (TL b i) (decide ((i:Int)=0)) (decide ((i:Int)=(b.length:Int)-1)))
def ux(b:List S1):Bool:=(List.range b.length).all (gT b)&&decide ((b.length:Int)>0)
def CM{b:List S1}{j:Nat}(h:(List.range j).all (gT b)=true)(hr:gT b j=true):(List.range (j+1)).all (gT b)=true:=by
 rw[List.range_succ,List.all_append,h];simp[hr]
def Ka(b:List S1)(hb:b.length<=1000000):aV prog 235 [bC b] (.bool (ux b)):=λU=>by
 refine O5.r (by simp[Mh]) ?_;have V2:=Bg b;refine ad.mix 5 ?_;apply sR;simp only[go_sem,seval,Mh,V2];refine ad.fe (λst=>aa U st.U/\st.s 0=bC b/\(List.range b.length).all (gT b)=true)
  (λm st=>∃j:Nat,j<=b.length/\m=b.length-j/\aa U st.U/\(List.range j).all (gT b)=true/\st.s 0=bC b/\st.s 5=bC b/\st.s 6=vI b.length/\st.s 7=vI j) b.length ?_ ?_ ?_
 .exact⟨0,by omega,rfl,aa.refl _,rfl,rfl,rfl,rfl,rfl⟩
 .rintro m ⟨S,J⟩ ⟨j,hj,rfl,hs,So,t0,t5,t6,t7⟩;simp only at hs t0 t5 t6 t7;refine ad.mix 5 ?_;by_cases H':j<b.length
  .have q:((j:Int)<b.length)=True:=eq_true (by omega);have r1:Rq .i64 ((j:Int)+1):=ao (by omega) (by omega);have r2:Rq .i64 ((b.length:Int)-1):=ao (by omega) (by omega);have Q9:=λU=>sc (U:=U) H';have hg:TL b j=b[j]:=by simp[TL,H']
   have hra:gT b j=decide (nT b[j] (decide ((j:Int)=0)) (decide ((j:Int)=(b.length:Int)-1))):=by rw[gT,hg]
   apply sR;simp only[go_sem,seval,t0,t5,t6,t7,q,Q9,dX];refine af λi4 Z4 s4 a4 f4=>?_;simp only[go_sem,seval,a4,t0,t5,t6,t7,V2,r2];generalize SZ:C' Z4 i4 _=Y4;have YN:aa J Y4:=by rw[<-SZ];exact s4.aE f4
   clear SZ;refine ad.aB rfl rfl rfl (Gz b[j] (decide ((j:Int)=0)) (decide ((j:Int)=(b.length:Int)-1)) _) ?_;rw[<-hra];cases hv:gT b j
   .apply sR;simp only[go_sem,seval,t0,t5,t6,t7];have hm:ux b=false:=by
     rw[ux];have:(List.range b.length).all (gT b)=false:=by
      rw[List.all_eq_false];exact⟨j,List.mem_range.2 H',by simp[hv]⟩
     rw[this];rfl
    exact ay.pure (hs.trans YN) (by rw[hm])
   .apply sR;simp only[go_sem,seval,t0,t5,t6,t7,r1];refine⟨_,?_,j+1,by omega,rfl,hs.trans YN,CM So hv,by simp[t0,t5,t6]⟩;omega
  .have q:((j:Int)<b.length)=False:=eq_false (by omega);have SX:j=b.length:=by omega
   subst SX;apply sR;simp only[go_sem,seval,t0,t5,t6,t7,q];exact⟨hs,So⟩
 .rintro⟨S,J⟩ ⟨hs,t0,So⟩;simp only at hs t0 So;refine ad.mix 5 ?_;apply sR;simp only[go_sem,seval,t0,V2];exact ay.pure hs (by rw[ux,So];rfl)
open Go.Proofs Go.Proofs.Tryz
def iW(b:List S1)(i:Nat):V:=.agg [vI (TL b i).cls,vI (TL b i).forced,vI (TL b i).R5,vI i]
def rE(b:List S1)(bT to:Int):Nat:=(min to ((b.length:Int)-1)+1-max bT 0).toNat
def VP(b:List S1)(bT to:Int):List Nat:=List.range' (max bT 0).toNat (rE b bT to)
def MP(U:ai)(b:List S1):bS U false 1 (.rp (bC b))=some (bC b):=rfl
def range_split:∀(j s n:Nat),j<n->List.range' s n=List.range' s j++(s+j)::List.range' (s+j+1) (n-j-1)
 |0,s,n+1,_=>by simp[List.range']
 |j+1,s,n+1,h=>by
  have:=range_split j (s+1) n (by omega);rw[List.range',this,List.range'];have e1:s+1+j=s+(j+1):=by omega
  have e2:n-j-1=n+1-(j+1)-1:=by omega
  rw[e1,e2];rfl
def rb(s j:Nat):List.range' s (j+1)=List.range' s j++[s+j]:=by
 rw[range_split j s (j+1) (by omega),show j+1-j-1=0 by omega];rfl
def FO(b:List S1)(hb:b.length<=1000000)(bT to:Int):Iter prog 320 [.rp (vI bT),.rp (vI to),.rp (bC b)] ((VP b bT to).map λi=>[iW b i]):=by
 refine⟨MT.c,λRF τ Jx Z0 hy hJ=>?_⟩;refine(MT.r (by simp[Jf]) ?_).2;have V2:=Bg b;refine ad.mix 6 ?_;apply sR;simp only[go_sem,seval,Jf,dh];obtain⟨s,hsv⟩:∃s:Nat,s=(max bT 0).toNat:=⟨_,rfl⟩
 have RX:max bT 0=(s:Int):=by omega
 obtain⟨n,hnv⟩:∃n:Nat,n=rE b bT to:=⟨_,rfl⟩
 have hn1:∀j:Nat,(((s+j:Nat):Int)<=min to ((b.length:Int)-1))↔j<n:=λj=>by rw[hnv,rE,RX];omega
 rw[VP,<-hsv,<-hnv]at hy|-;rw[RX];refine ad.loop (λm st=>∃(j:Nat) (ZJ:ai),j<=n/\m=n-j/\τ ((List.range' s j).map λi=>[iW b i]) ZJ/\aa ZJ st.U/\st.s 0=.yl RF/\st.s 1=.rp (vI bT)/\st.s 2=.rp (vI to)/\st.s 3=.rp (bC b)/\st.s 5=vI (s+j:Nat)) n ?_ ?_
 .exact⟨0,Z0,by omega,rfl,by simpa using hJ,aa.refl _,rfl,rfl,rfl,rfl,rfl⟩
 .rintro m ⟨S,J⟩ ⟨j,ZJ,hj,rfl,SV,G',t0,t1,t2,t3,t5⟩;simp only at G' t0 t1 t2 t3 t5;refine ad.mix 6 ?_;have r2:Rq .i64 ((b.length:Int)-1):=ao (by omega) (by omega);by_cases H':j<n
  .have hle:=(hn1 j).2 H';have Sh:s+j<b.length:=by omega
   have q:(((s+j:Nat):Int)<=min to ((b.length:Int)-1))=True:=eq_true hle;have r1:Rq .i64 (((s+j:Nat):Int)+1):=ao (by omega) (by omega);have Q9:=λU=>sc (U:=U) Sh;have hg:TL b (s+j)=b[s+j]:=by simp[TL,Sh]
   have hfd:iW b (s+j)=.agg [vI b[s+j].cls,vI b[s+j].forced,vI b[s+j].R5,vI (s+j:Nat)]:=by rw[iW,hg]
   have e:((List.range' s n).map λi=>[iW b i])=((List.range' s j).map λi=>[iW b i])++[iW b (s+j)]::((List.range' (s+j+1) (n-j-1)).map λi=>[iW b i]):=by
    rw[range_split j s n H'];simp
   have Sf:((List.range' s (j+1)).map λi=>[iW b i])=((List.range' s j).map λi=>[iW b i])++[[iW b (s+j)]]:=by rw[rb];simp
   have q5:s+(j+1)=s+j+1:=by omega
   generalize s+j=sj at*;apply sR;simp only[go_sem,seval,t0,t1,t2,t3,t5,MP,V2,r2,e8,q,Q9,dX];rw[<-hfd];refine ad.mA (Post:=λb' Z2=>∃RC,bh ZJ J RC Z2/\((b'=true/\τ (((List.range' s j).map λi=>[iW b i])++[[iW b sj]]) RC)\/(b'=false/\Jx (((List.range' s j).map λi=>[iW b i])++[[iW b sj]]) RC))) rfl rfl rfl (hy _ [iW b sj] _ ZJ J e SV G') ?_;rintro b' Z2 ⟨RC,Sl,R6⟩;rcases R6 with⟨rfl,R6⟩|⟨rfl,R6⟩
   .apply sR;simp only[go_sem,seval,t0,t1,t2,t3,t5,r1];refine⟨_,?_,j+1,RC,by omega,rfl,by rw[Sf];exact R6,Sl.1,by simp[t0,t1,t2,t3,q5]⟩;omega
   .apply sR;simp only[go_sem,seval,t0,t1,t2,t3,t5];exact⟨_,RC,Sl.1,Wk.refl Sl.1 _,.inr ⟨_,⟨_,by rw[e,List.append_assoc];rfl⟩,R6⟩⟩
  .have q:(((s+j:Nat):Int)<=min to ((b.length:Int)-1))=False:=eq_false (λh=>H' ((hn1 j).1 h));have SX:j=n:=by omega
   subst SX;generalize s+j=sj at*;apply sR;simp only[go_sem,seval,t0,t1,t2,t3,t5,MP,V2,r2,e8,q];exact⟨_,ZJ,G',Wk.refl G' _,.inl SV⟩
open Go.Proofs Go.Proofs.Tryz
structure Fd where
 (b:S1)(i:Int)
def fL(x:Fd):V:=.agg [vI x.b.cls,vI x.b.forced,vI x.b.R5,vI x.i]
def gm(ah:Fd->Fd->Bool->Bool)(p:Fd×Bool)(x:Fd):Fd×Bool:=if ah x p.1 p.2 then(x,true)else p
def fF(ah:Fd->Fd->Bool->Bool)(xs:List Fd)(d:Fd):Fd×Bool:=xs.foldl (gm ah) (d,false)
def tm(ah:Fd->Fd->Bool->Bool)(xs:List Fd)(x:Fd)(d:Fd):fF ah (xs++[x]) d=gm ah (fF ah xs d) x:=by simp[fF,List.foldl_append]
def zj{g f:FuncId}{caps:List V}{xs:List Fd}(Wq:Iter prog g caps (xs.map λx=>[fL x]))(d:Fd)(ah:Fd->Fd->Bool->Bool)
 (hf:∀x y s,aV prog f [fL x,fL y,.bool s] (.bool (ah x y s))):
 aV prog 284 [.fn g caps,fL d,.fn f []] (fL (fF ah xs d).1):=λU=>by
 refine Qo.r (by simp[Kj]) ?_;have hs:=aa.refl U;have Va:(V.fn f []).cells=[.fn f []]:=rfl;have Tk:(V.fn f []).stays=true:=rfl;refine ad.mix 10 ?_;apply sR;simp only[go_sem,seval,Kj,fL,Va,Tk];refine af λi4 Z4 s4 a4 f4=>?_;have z4:=hs.none f4;replace hs:=hs.trans s4;simp only[go_sem,seval,Va,Tk];refine af λi5 Z5 s5 a5 f5=>?_;have Tp:=aq a4 f5;replace a4:=s5 _ _ a4;have z5:=hs.none f5;replace hs:=hs.trans s5;simp only[go_sem,seval,Va,Tk];refine af λi6 Z6 s6 a6 f6=>?_;have Zd:=aq a4 f6;replace a4:=s6 _ _ a4;have n56:=aq a5 f6;replace a5:=s6 _ _ a5;have z6:=hs.none f6;replace hs:=hs.trans s6;simp only[go_sem,seval,a4,Va,Tk];have hs6:=aa.refl Z6;refine af λi7 Z7 s7 a7 f7=>?_;simp only[go_sem,seval,a7,Va,Tk];refine af λi8 Z8 s8 a8 f8=>?_;have Xk:i7≠i8:=aq a7 f8;have b7:=s8 _ _ a7;simp only[go_sem,seval,b7,a8,ab Xk,ab Xk.symm,Va,Tk];generalize hS:mix 10 _ _=S;have S5:S 5=.ptr i5 0 0:=by rw[<-hS];rfl
 have S6:S 6=.ptr i6 0 0:=by rw[<-hS];rfl
 have S7:S 7=.ptr i7 0 0:=by rw[<-hS];rfl
 have S8:S 8=.ptr i8 0 0:=by rw[<-hS];rfl
 have S11:S 11=.fn g caps:=by rw[<-hS];rfl
 clear hS;refine ad.cX (g:=.t 11) (caps:=caps) S11 Wq (λy hy=>?_) [] (λpre ZJ=>ZJ i7=some ⟨358,4,[fL (fF ah (xs.take pre.length) d).1]⟩/\ZJ i8=some ⟨4,1,[.bool (fF ah (xs.take pre.length) d).2]⟩/\aa Z6 ZJ)
  (λ_ _ _=>False) ?_ ?_ ?_ ?_ ?_
 .obtain⟨t,_,rfl⟩:=List.mem_map.1 hy;rfl
 .refine⟨(ab Xk).trans ag,ag,?_⟩;have h7:=(s7.trans s8).aE (id:=i7) (o:=⟨358,4,[.agg [vI d.b.cls,vI d.b.forced,vI d.b.R5,vI d.i]]⟩) f7;exact h7.aE (s7.none f8)
 .rintro pre y post ZJ ZB TJ ⟨J7,J8,Js⟩ G';obtain⟨t,Zk,rfl⟩:=oK (f:=fL) TJ;have Sf:fF ah (xs.take (pre.length+1)) d=gm ah (fF ah (xs.take pre.length) d) t:=by rw[List.take_add_one,Zk];exact tm _ _ _ _
  have hlen:(pre++[[fL t]]).length=pre.length+1:=by simp
  rw[hlen,Sf];generalize fF ah (xs.take pre.length) d=p at*;obtain⟨p1,p2⟩:=p;simp only at J7 J8;have c7:=G' _ _ J7;have c8:=G' _ _ J8;have c5:=G' _ _ (Js _ _ a5);generalize Tg:lR S [12] [fL t]=S0;have T5:S0 5=.ptr i5 0 0:=by rw[<-Tg];exact S5
  have T7:S0 7=.ptr i7 0 0:=by rw[<-Tg];exact S7
  have T8:S0 8=.ptr i8 0 0:=by rw[<-Tg];exact S8
  have T12:S0 12=fL t:=by rw[<-Tg];rfl
  clear Tg;rw[fL]at c7 T12;refine ad.mix 10 ?_;apply sR;simp only[go_sem,seval,T5,T7,T8,T12];rw[aO];intro i9 f9;have m7:i7≠i9:=aq c7 f9;have m8:i8≠i9:=aq c8 f9;have m5:i5≠i9:=aq c5 f9;simp only[go_sem,seval,T5,T7,T8,T12];have U3:=(bh.refl G').pk (o:=⟨358,4,[.agg [vI t.b.cls,vI t.b.forced,vI t.b.R5,vI t.i]]⟩) f9;have d7:=(ab (o:=⟨358,4,[.agg [vI t.b.cls,vI t.b.forced,vI t.b.R5,vI t.i]]⟩) m7).trans c7;have d8:=(ab (o:=⟨358,4,[.agg [vI t.b.cls,vI t.b.forced,vI t.b.R5,vI t.i]]⟩) m8).trans c8;have d5:=(ab (o:=⟨358,4,[.agg [vI t.b.cls,vI t.b.forced,vI t.b.R5,vI t.i]]⟩) m5).trans c5;have d9:C' ZB i9 ⟨358,4,[.agg [vI t.b.cls,vI t.b.forced,vI t.b.R5,vI t.i]]⟩ i9=_:=ag;generalize C' ZB i9 ⟨358,4,[.agg [vI t.b.cls,vI t.b.forced,vI t.b.R5,vI t.i]]⟩=Y9 at*;apply sR;simp only[go_sem,seval,T5,T7,T8,d5,d7,d8,d9];refine ad.aB rfl rfl rfl (hf t p1 p2 _) ?_;cases hv:ah t p1 p2
  .apply sR;simp only[go_sem,seval,T5,T7,T8];refine⟨_,U3,?_,?_,Js⟩
   .rw[gm,hv];exact J7
   .rw[gm,hv];exact J8
  .apply sR;simp only[go_sem,seval,T5,T7,T8,d5,d7,d8,d9,ab Xk,ab Xk.symm];refine⟨_,(U3.set (id:=i7) J7).set (id:=i8) (by rw[ab Xk.symm];exact J8),?_,?_,?_⟩
   .rw[gm,hv];exact(ab Xk).trans ag
   .rw[gm,hv];exact ag
   .exact(Js.aE f7).aE (s7.none f8)
 .rintro Z' ⟨J7,J8,Js⟩;rw[List.length_map,List.take_length]at J7 J8;rw[fL]at J7;have e6:=Js _ _ a6;refine ad.mix 10 ?_;apply sR;simp only[go_sem,seval,S6,S7,J7,e6];exact ay.pure ((hs.trans Js).aE z6) rfl
 .intro id h;cases h
 .rintro pre Z' _ ⟨⟩
open Go.Proofs Go.Proofs.Tryz
def uR(b:List S1)(bT to:Int):aV prog 285 [bC b,vI bT,vI to] (.fn 320 [.rp (vI bT),.rp (vI to),.rp (bC b)]):=λU=>by
 refine OH.r (by simp[IZ]) ?_;refine ad.mix 7 ?_;have q1:=aI b;have q2:=aJ b;generalize bC b=x at*;apply sR;simp only[go_sem,seval,IZ,q1,q2];refine af λUJ Z1 s1 a1 f1=>?_;simp only[go_sem,seval,q1,q2];refine af λWg Z2 s2 a2 f2=>?_;simp only[go_sem,seval,q1,q2];refine af λid3 Z3 s3 a3 f3=>?_;simp only[go_sem,seval,q1,q2];have hs:=(s1.trans s2).trans s3;exact⟨_,U,hs,Wk.fn (vs':=[.rp (vI bT),.rp (vI to),.rp x]) ⟨Wk.ptr hs (s3 _ _ a2) (s1.none f2),Wk.ptr hs a3 ((s1.trans s2).none f3),Wk.ptr hs (s3 _ _ (s2 _ _ a1)) f1,trivial⟩,rfl,rfl⟩
def kX(b:List S1)(i:Nat):Fd:=⟨TL b i,i⟩
def zM:Fd:=⟨⟨0,0,0⟩,-1⟩
def gX(x _y:Fd)(s:Bool):Bool:=!s&&decide (x.b.forced≠0)
def jc(x y:Fd)(s:Bool):Bool:=!s||decide (x.b.R5<=y.b.R5)
def Fu(x y:Fd)(s:Bool):aV prog 286 [fL x,fL y,.bool s] (.bool (gX x y s)):=λU=>by
 refine Qs.r (by simp[I5]) ?_;have hs:=aa.refl U;obtain⟨⟨c,f,r⟩,i⟩:=x;obtain⟨⟨c',f',r'⟩,i'⟩:=y;refine ad.mix 7 ?_;apply sR;simp only[go_sem,seval,I5,fL];refine af λi3 Z3 s3 a3 f3=>?_;have z3:=hs.none f3;replace hs:=hs.trans s3;simp only[go_sem,seval];refine af λi4 Z4 s4 a4 f4=>?_;have YE:=aq a3 f4;replace a3:=s4 _ _ a3;have z4:=hs.none f4;replace hs:=hs.trans s4;cases s
 .by_cases h:f≠0
  .have q:(f≠0)=True:=eq_true h;simp only[go_sem,seval,a3,a4,q];exact ay.pure hs (by simp[gX,h])
  .have q:(f≠0)=False:=eq_false h;simp only[go_sem,seval,a3,a4,q];exact ay.pure hs (by simp[gX,h])
 .simp only[go_sem,seval,a3,a4];exact ay.pure hs (by simp[gX])
def HY(x y:Fd)(s:Bool):aV prog 287 [fL x,fL y,.bool s] (.bool (jc x y s)):=λU=>by
 refine Q1.r (by simp[Lu]) ?_;have hs:=aa.refl U;obtain⟨⟨c,f,r⟩,i⟩:=x;obtain⟨⟨c',f',r'⟩,i'⟩:=y;refine ad.mix 7 ?_;apply sR;simp only[go_sem,seval,Lu,fL];refine af λi3 Z3 s3 a3 f3=>?_;have z3:=hs.none f3;replace hs:=hs.trans s3;simp only[go_sem,seval];refine af λi4 Z4 s4 a4 f4=>?_;have YE:=aq a3 f4;replace a3:=s4 _ _ a3;have z4:=hs.none f4;replace hs:=hs.trans s4;cases s
 .simp only[go_sem,seval,a3,a4];exact ay.pure hs (by simp[jc])
 .by_cases h:r<=r'
  .have q:(r<=r')=True:=eq_true h;simp only[go_sem,seval,a3,a4,q];exact ay.pure hs (by simp[jc,h])
  .have q:(r<=r')=False:=eq_false h;simp only[go_sem,seval,a3,a4,q];exact ay.pure hs (by simp[jc,h])
def kz(b:List S1)(bT to:Int):Int:=(fF gX ((VP b bT to).map (kX b)) zM).1.i
def Ca(b:List S1)(bT to:Int):Int:=(fF jc ((VP b bT to).map (kX b)) zM).1.i
def ve(b:List S1)(hb:b.length<=1000000)(bT to:Int):Iter prog 320 [.rp (vI bT),.rp (vI to),.rp (bC b)] (((VP b bT to).map (kX b)).map λx=>[fL x]):=by
 have h:=FO b hb bT to;rw[List.map_map];exact h
def GQ(b:List S1)(hb:b.length<=1000000)(bT to:Int):aV prog 236 [bC b,vI bT,vI to] (vI (kz b bT to)):=λU=>by
 refine O8.r (by simp[Jr]) ?_;have hs:=aa.refl U;refine ad.mix 8 ?_;apply sR;simp only[go_sem,seval,Jr];refine ad.aB rfl rfl rfl (uR b bT to _) ?_;apply sR;simp only[go_sem,seval];refine ad.aB rfl rfl rfl (zj (ve b hb bT to) zM gX Fu _) ?_;have Sn:∀x,(fL x).cells=[vI x.b.cls,vI x.b.forced,vI x.b.R5,vI x.i]:=λ_=>rfl;apply sR;simp only[go_sem,seval,fL];refine af λi7 Z7 s7 a7 f7=>?_;have z7:=hs.none f7;replace hs:=hs.trans s7;simp only[go_sem,seval,a7];exact ay.pure (hs.aE z7) rfl
def Lx(b:List S1)(hb:b.length<=1000000)(bT to:Int):aV prog 237 [bC b,vI bT,vI to] (vI (Ca b bT to)):=λU=>by
 refine Qh.r (by simp[J4]) ?_;have hs:=aa.refl U;refine ad.mix 8 ?_;apply sR;simp only[go_sem,seval,J4];refine ad.aB rfl rfl rfl (uR b bT to _) ?_;apply sR;simp only[go_sem,seval];refine ad.aB rfl rfl rfl (zj (ve b hb bT to) zM jc HY _) ?_;apply sR;simp only[go_sem,seval,fL];refine af λi7 Z7 s7 a7 f7=>?_;have z7:=hs.none f7;replace hs:=hs.trans s7;simp only[go_sem,seval,a7];exact ay.pure (hs.aE z7) rfl
open Go.Proofs Go.Proofs.Tryz
structure Kp where
 (Rj:List Int)
 (high body:Int)
def iY(l:List Nd)(x:Kp)(a:Int):Kp:=if(SP l a).head<1\/x.body-(SP l a).head<1 then x else⟨x.Rj++[a],x.high+(SP l a).head,x.body-(SP l a).head⟩
structure KpJ(Z0:ai)(i7:Nat)(x:Kp)(U:ai):Prop where
 row:∃v,U i7=some ⟨246,3,[.agg [v,vI x.high,vI x.body]]⟩/\aT (bg Z0 i7) U 3 1 v (x.Rj.map vI)
 sub:aa Z0 U
 no:Z0 i7=none
def Hf(l:List Nd)(hb:R3 l=true)(x:Kp)(hlen:x.Rj.length<=1000000)(h0:0<=x.high)(h1:x.high<=4398046511104)(h2:0<=x.body)(h3:x.body<=4398046511104)(a:Nat)(ha:a<l.length)
 {Z0 ZJ ZB:ai}{i7:Nat}(hJ:KpJ Z0 i7 x ZJ)(G':aa ZJ ZB):
 aD prog 160 [.ptr i7 0 0,aK l,vI a] ZB λ_ Z'=>∃RC,bh ZJ ZB RC Z'/\KpJ Z0 i7 (iY l x a) RC:=by
 refine O4.r (by simp[ER]) ?_;have RL:=(gr hb ha).st.head;have SR:=λU=>cK (U:=U) (l:=l) (a:=a) ha;obtain⟨⟨v,J7,Jo⟩,Js,Jn⟩:=hJ;obtain⟨hds,high,body⟩:=x;simp only at hlen h0 h1 h2 h3 J7 Jo;have UT:v.cells=[v]:=by rcases Jo with⟨rfl,_⟩|⟨_,rfl,_⟩<;>rfl
 have c7:=G' _ _ J7;unfold iY;rw[jf ha];simp only;have same:(l[a].st.head<1\/body-l[a].st.head<1)->ay (.Rf []) ZB λ_ Z'=>∃RC,bh ZJ ZB RC Z'/\KpJ Z0 i7 (if l[a].st.head<1\/body-l[a].st.head<1 then⟨hds,high,body⟩else⟨hds++[(a:Int)],high+l[a].st.head,body-l[a].st.head⟩) RC:=λh=>by
  rw[if_pos h];exact⟨_,ZB,aa.refl _,Wk.refl (aa.refl _) _,ZJ,bh.refl G',⟨v,J7,Jo⟩,Js,Jn⟩
 refine ad.mix 7 ?_;have r1:Rq .i64 (body-l[a].st.head):=ao (by omega) (by omega);have r2:Rq .i64 (high+l[a].st.head):=ao (by omega) (by omega);by_cases hn:l[a].st.head<1
 .have q1:(l[a].st.head<1)=True:=eq_true hn;have fin:=same (.inl hn);generalize hX:(if l[a].st.head<1\/body-l[a].st.head<1 then(⟨hds,high,body⟩:Kp)else⟨hds++[(a:Int)],high+l[a].st.head,body-l[a].st.head⟩)=X at*;apply sR;simp only[go_sem,seval,ER,SR,Nd.cells,q1,c7,UT];exact fin
 have q1:(l[a].st.head<1)=False:=eq_false hn;by_cases hn2:body-l[a].st.head<1
 .have q2:(body-l[a].st.head<1)=True:=eq_true hn2;have fin:=same (.inr hn2);generalize hX:(if l[a].st.head<1\/body-l[a].st.head<1 then(⟨hds,high,body⟩:Kp)else⟨hds++[(a:Int)],high+l[a].st.head,body-l[a].st.head⟩)=X at*;apply sR;simp only[go_sem,seval,ER,SR,Nd.cells,q1,r1,q2,c7,UT];exact fin
 have q2:(body-l[a].st.head<1)=False:=eq_false hn2;rw[if_neg (by omega)];clear same;apply sR;simp only[go_sem,seval,ER,SR,Nd.cells,q1,r1,q2,c7,UT];rw[aO];intro UU f28;have WG:(hds.map vI).length<=1000000:=by simpa using hlen
 have RS:((hds++[(a:Int)]).map vI)=hds.map vI++[vI a]:=by simp
 generalize hds.map vI=rows at*;have U3:=(bh.refl G').pk (o:=⟨3,1,[vI (a:Int)]⟩) f28;have y2:C' ZB UU ⟨3,1,[vI (a:Int)]⟩ i7=_:=(ab (aq c7 f28)).trans c7;have a28:C' ZB UU ⟨3,1,[vI (a:Int)]⟩ UU=some ⟨3,1,[vI (a:Int)]⟩:=ag;generalize C' ZB UU ⟨3,1,[vI (a:Int)]⟩=Z8 at*;obtain⟨Rr,SM,Vj⟩:=Jo.Dj U3.1;have Sb:(rows.length+1)*9<=140737488355328:=by omega
 have k2:bg Z0 i7 i7≠none:=λh=>(aM.1 h).1 rfl;have UF:∀(i:Nat) (Zx:ai),bg Z0 i7 i≠none->Vc.bK Zx Rr i=Zx i:=λi Zx hk=>by
  cases Rr with
  |none=>rfl
  |some a=>exact dO (λe=>hk (by rw[e];exact(Vj a rfl).1))
 simp only[go_sem,seval,SM,dW a28,Sb];rw[aO];intro Th f29;have f29:Z8 Th=none:=f29;have YK:i7≠Th:=aq y2 f29;have f29':Vc.bK Z8 Rr Th=none:=by
  cases Rr with
  |none=>exact f29
  |some a=>simp only[Vc.bK,del];split<;>first|rfl|exact f29
 have y2':C' (Vc.bK Z8 Rr) Th ⟨3,1,rows++[vI (a:Int)]⟩ i7=some ⟨246,3,[.agg [v,vI high,vI body]]⟩:=by rw[ab YK,UF _ _ k2];exact y2
 have hB9:=((U3.C1 (e:=Rr) λi h=>(Vj i h).2).new (o:=⟨3,1,rows++[vI (a:Int)]⟩) f29').set (id:=i7) (o:=⟨246,3,[.agg [v,vI high,vI body]]⟩) (o':=⟨246,3,[.agg [.own Th 0 (rows.length+1),vI (high+l[a].st.head),vI (body-l[a].st.head)]]⟩) (by rw[ab YK,UF _ _ k2];exact J7);simp only[go_sem,seval,UT,y2',r1,r2];refine⟨_,_,aa.refl _,Wk.refl (aa.refl _) _,_,hB9,⟨.own Th 0 (rows.length+1),ag,?_⟩,?_,Jn⟩
 .rw[RS];refine aT.new (by simp) (by rw[ab YK.symm,ag]) ?_;rw[aM];refine⟨YK.symm,?_⟩;cases h:Z0 Th with
  |none=>rfl
  |some o=>rw[U3.1 _ _ (Js _ _ h)]at f29;cases f29
 .refine aa.aE (λi o h=>?_) Jn;have h1:=Js _ _ h;rw[ab (aq (U3.1 _ _ h1) f29),UF _ _ (λhk=>by rw[(aM.1 hk).2]at h;cases h)];exact h1
open Go.Proofs Go.Proofs.Tryz
def bwd(L:List Int):List (List V):=(List.range' 0 L.length).map λq=>[vI ((L.length-1-q:Nat):Int),vI (L.getD (L.length-1-q) 0)]
def EU(L:List Int)(hL:L.length<=1000000):Iter prog 213 [.rp (bn L)] (bwd L):=by
 refine⟨Nx.c,λRF τ Jx Z0 hy hJ=>?_⟩;refine(Nx.r (by simp[IU]) ?_).2;have hlL:=fG L;have ldI:∀(U:ai) (X:List Int),bS U false 1 (.rp (bn X))=some (bn X):=λU X=>rfl;have r2:Rq .i64 ((L.length:Int)-1):=ao (by omega) (by omega);refine ad.mix 4 ?_;apply sR;simp only[go_sem,seval,IU,ldI,hlL,r2];generalize hT:bwd L=T at hy|-
 let F:Nat->List V:=λq=>[vI ((L.length-1-q:Nat):Int),vI (L.getD (L.length-1-q) 0)]
 have hTF:T=(List.range' 0 L.length).map F:=hT.symm;refine ad.loop (λm st=>∃(j:Nat) (ZJ:ai),j<=L.length/\m=L.length-j/\τ ((List.range' 0 j).map F) ZJ/\aa ZJ st.U/\st.s 0=.yl RF/\st.s 1=.rp (bn L)/\st.s 3=vI ((L.length:Int)-1-j)) L.length ?_ ?_
 .exact⟨0,Z0,by omega,rfl,by simpa using hJ,aa.refl _,rfl,rfl,by simp[aX,mix]⟩
 .rintro m ⟨S,J⟩ ⟨j,ZJ,hj,rfl,SV,G',t0,t1,t3⟩;simp only at G' t0 t1 t3;refine ad.mix 4 ?_;by_cases H':j<L.length
  .obtain⟨i,hi⟩:∃i:Nat,i=L.length-1-j:=⟨_,rfl⟩
   have Uc:i<L.length:=by omega
   have t3':S 3=vI (i:Int):=by rw[t3];congr 1;omega
   have q:((i:Int)>=0)=True:=eq_true (by omega);have r1:Rq .i64 ((i:Int)-1):=ao (by omega) (by omega);have Q9:=λU=>gO (U:=U) Uc;have hF:F j=[vI (i:Int),vI L[i]]:=by
    show[vI ((L.length-1-j:Nat):Int),vI (L.getD (L.length-1-j) 0)]=_;rw[<-hi];simp[Uc]
   have e:T=((List.range' 0 j).map F)++[vI (i:Int),vI L[i]]::((List.range' (0+j+1) (L.length-j-1)).map F):=by
    rw[hTF,range_split j 0 L.length H',List.map_append,List.map_cons,Nat.zero_add,hF]
   have Sf:((List.range' 0 (j+1)).map F)=((List.range' 0 j).map F)++[[vI (i:Int),vI L[i]]]:=by rw[rb,List.map_append,Nat.zero_add,List.map_cons,hF];rfl
   have q5:(i:Int)-1=(L.length:Int)-1-((j+1:Nat):Int):=by omega
   apply sR;simp only[go_sem,seval,t0,t1,t3',ldI,q,Q9];refine ad.mA (Post:=λb' Z2=>∃RC,bh ZJ J RC Z2/\((b'=true/\τ (((List.range' 0 j).map F)++[[vI (i:Int),vI L[i]]]) RC)\/(b'=false/\Jx (((List.range' 0 j).map F)++[[vI (i:Int),vI L[i]]]) RC))) rfl rfl rfl (hy _ [vI (i:Int),vI L[i]] _ ZJ J e SV G') ?_;rintro b' Z2 ⟨RC,Sl,R6⟩;rcases R6 with⟨rfl,R6⟩|⟨rfl,R6⟩
   .apply sR;simp only[go_sem,seval,t0,t1,t3',r1];refine⟨_,?_,j+1,RC,by omega,rfl,by rw[Sf];exact R6,Sl.1,by simp[t0,t1,q5]⟩;omega
   .apply sR;simp only[go_sem,seval,t0,t1,t3'];exact⟨_,RC,Sl.1,Wk.refl Sl.1 _,.inr ⟨_,⟨_,by rw[e,List.append_assoc];rfl⟩,R6⟩⟩
  .have SX:j=L.length:=by omega
   subst SX;have q:((L.length:Int)-1-(L.length:Int)>=0)=False:=eq_false (by omega);apply sR;simp only[go_sem,seval,t0,t1,t3,q];exact⟨_,ZJ,G',Wk.refl G' _,.inl (hTF▸SV)⟩
def MZ(L:List Int):aV prog 158 [bn L] (.fn 213 [.rp (bn L)]):=λU=>by
 refine OK.r (by simp[JW]) ?_;refine ad.mix 3 ?_;apply sR;simp only[go_sem,seval,JW,aj,av];refine af λUJ Z1 s1 a1 f1=>?_;simp only[go_sem,seval,aj,av];exact⟨_,U,s1,Wk.fn (vs':=[.rp (bn L)]) ⟨Wk.ptr s1 a1 f1,trivial⟩,rfl,rfl⟩
open Go.Proofs Go.Proofs.Tryz
def jy(x:Kp):V:=.agg [bn x.Rj,vI x.high,vI x.body]
def gw(l:List Nd)(L:List Int)(h:Int):Nat->Kp
 |0=>⟨[],0,h⟩
 |m+1=>iY l (gw l L h m) (L.getD (L.length-1-m) 0)
def Dz{l:List Nd}{x:Kp}{a:Int}{m:Nat}{h:Int}(h0:0<=(SP l a).head)(hx:x.Rj.length<=m/\0<=x.high/\0<=x.body/\x.high+x.body=h):(iY l x a).Rj.length<=m+1/\0<=(iY l x a).high/\0<=(iY l x a).body/\(iY l x a).high+(iY l x a).body=h:=by
 obtain⟨h1,h2,h3,h4⟩:=hx;unfold iY;split
 .exact⟨by omega,h2,h3,h4⟩
 .simp only[List.length_append,List.length_cons,List.length_nil];omega
def pc{l:List Nd}(hb:R3 l=true){L:List Int}(hL:∀x∈L,∃n:Nat,x=n/\n<l.length){h:Int}(hh:0<=h):∀m,m<=L.length->(gw l L h m).Rj.length<=m/\0<=(gw l L h m).high/\0<=(gw l L h m).body/\(gw l L h m).high+(gw l L h m).body=h
 |0,_=>by simp[gw];omega
 |m+1,hm=>by
  have ih:=pc hb hL hh m (by omega);rw[gw];refine Dz ?_ ih;have H':L.length-1-m<L.length:=by omega
  have hg:L.getD (L.length-1-m) 0=L[L.length-1-m]:=by simp[H']
  rw[hg];obtain⟨n,hn,UR⟩:=hL _ (List.getElem_mem H');rw[hn,jf UR];exact(gr hb UR).st.head.1
def wP(l:List Nd)(a:Nat)(h:Int):Kp:=gw l (U' l a) h (U' l a).length
def Gw(l:List Nd)(hl:dH l)(hb:R3 l=true)(hn:l.length<=100000)(a:Nat)(ha:a<l.length)(h:Int)(h0:0<=h)(h1:h<=2199023255552):
 aV prog 105 [aK l,vI a,vI h] (jy (wP l a h)):=λU=>by
 refine Qm.r (by simp[Mw]) ?_;have hs:=aa.refl U;refine ad.mix 10 ?_;apply sR;simp only[go_sem,seval,Mw,ae,ax];refine af λi3 Z3 s3 a3 f3=>?_;have z3:=hs.none f3;replace hs:=hs.trans s3;simp only[go_sem,seval];refine af λi6 Z6 s6 a6 f6=>?_;have n36:=aq a3 f6;replace a3:=s6 _ _ a3;have z6:=hs.none f6;replace hs:=hs.trans s6;simp only[go_sem,seval,a3,ae];refine af λi7 Z7 s7 a7 f7=>?_;have ZO:i3≠i7:=aq a3 f7;have VK:i6≠i7:=aq a6 f7;have b3:=s7 _ _ a3;simp only[go_sem,seval,a7,b3,ab ZO,ae,ax];have h7:KpJ Z6 i7 ⟨[],0,h⟩ (C' Z7 i7 ⟨246,3,[.agg [.aC,vI 0,vI h]]⟩):=⟨⟨.aC,ag,aT.start⟩,s7.aE f7,f7⟩
 have e3:C' Z7 i7 ⟨246,3,[.agg [.aC,vI 0,vI h]]⟩ i3=_:=(ab ZO).trans b3;generalize C' Z7 i7 ⟨246,3,[.agg [.aC,vI 0,vI h]]⟩=Y7 at*;refine ad.aB rfl rfl rfl (yT l hl hb hn a ha _) ?_;have Wr:∀x∈U' l a,∃n:Nat,x=n/\n<l.length:=λx hx=>by
  obtain⟨n,h1,h2⟩:=oe ha x hx;exact⟨n,h1,by omega⟩
 have hlL:(U' l a).length<=l.length+1:=iQ _ _ _;unfold wP;generalize U' l a=L at*;apply sR;simp only[go_sem,seval];refine ad.aB rfl rfl rfl (MZ L _) ?_;apply sR;simp only[go_sem,seval];generalize hS:mix 10 _ _=S;have S3:S 3=.ptr i3 0 0:=by rw[<-hS];rfl
 have S6:S 6=.ptr i6 0 0:=by rw[<-hS];rfl
 have S7:S 7=.ptr i7 0 0:=by rw[<-hS];rfl
 have S16:S 16=.fn 213 [.rp (bn L)]:=by rw[<-hS];rfl
 clear hS;refine ad.cX (g:=.t 16) (caps:=[.rp (bn L)]) S16 (EU L (by omega)) (λy hy=>?_) [] (λpre ZJ=>KpJ Z6 i7 (gw l L h pre.length) ZJ)
  (λ_ _ _=>False) ?_ ?_ ?_ ?_ ?_
 .obtain⟨t,_,rfl⟩:=List.mem_map.1 hy;rfl
 .exact h7
 .rintro pre y post ZJ ZB TJ hJ G';have Vq:pre.length<L.length:=by
   have:=congrArg List.length TJ;simp[bwd]at this;omega
  obtain⟨i,hi⟩:∃i:Nat,i=L.length-1-pre.length:=⟨_,rfl⟩
  have Uc:i<L.length:=by omega
  have hy:y=[vI (i:Int),vI (L.getD i 0)]:=by
   have h1:(bwd L)[pre.length]?=some y:=by rw[TJ];simp
   simp[bwd,Vq]at h1;rw[<-h1,hi];simp
  have hlen:(pre++[y]).length=pre.length+1:=by simp
  have hinv:=pc hb Wr h0 pre.length (by omega);have RA:gw l L h (pre.length+1)=iY l (gw l L h pre.length) (L.getD i 0):=by rw[gw,hi]
  have hg:L.getD i 0=L[i]:=by simp[Uc]
  obtain⟨n,RK,UR⟩:=Wr _ (List.getElem_mem Uc);rw[hlen,RA,hg,RK];rw[hg,RK]at hy;subst hy;generalize gw l L h pre.length=x at*;have c3:=G' _ _ (hJ.sub _ _ a3);generalize Tg:lR S [17,18] [vI (i:Int),vI (n:Int)]=S0;have T3:S0 3=.ptr i3 0 0:=by rw[<-Tg];exact S3
  have T7:S0 7=.ptr i7 0 0:=by rw[<-Tg];exact S7
  have T18:S0 18=vI (n:Int):=by rw[<-Tg];rfl
  clear Tg;refine ad.mix 10 ?_;apply sR;simp only[go_sem,seval,T3,T7,T18];apply sR;simp only[go_sem,seval,T3,T7,T18,c3,ae];have hc:=Hf l hb x (by omega) (by omega) (by omega) (by omega) (by omega) n UR hJ G';rw[<-T7]at hc;refine ad.call rfl rfl rfl hc ?_;rintro-Z2 ⟨RC,hB,TE⟩;apply sR;simp only[go_sem,seval];exact⟨_,hB,TE⟩
 .rintro Z' hJ;have Sh:(bwd L).length=L.length:=by simp[bwd]
  rw[Sh]at hJ;obtain⟨⟨v,J7,Jo⟩,Js,Jn⟩:=hJ;have UT:v.cells=[v]:=by rcases Jo with⟨rfl,_⟩|⟨_,rfl,_⟩<;>rfl
  have e6:=Js _ _ a6;refine ad.mix 10 ?_;apply sR;simp only[go_sem,seval,S6,S7,J7,e6,UT];have RA:=(hs.trans Js).aE (o:=⟨180,3,[.agg [v,vI (gw l L h L.length).high,vI (gw l L h L.length).body]]⟩) z6;have Jo':aT (bg Z6 i7) (C' Z' i6 ⟨180,3,[.agg [v,vI (gw l L h L.length).high,vI (gw l L h L.length).body]]⟩) 3 1 v ((gw l L h L.length).Rj.map vI):=by
   rcases Jo with h|⟨id,g1,g2,g3⟩
   .exact .inl h
   .refine .inr ⟨id,g1,?_,g3⟩;rw[ab (λe=>by rw[e,aM]at g3;rw[a6]at g3;cases g3.2)];exact g2
  have hK:aa U (bg Z6 i7):=λi o hh=>by
   rw[bg,if_neg (λe=>by rw[e,hs.none f7]at hh;cases hh)];exact hs _ _ hh
  exact⟨_,U,RA,Wk.agg (vs':=[bn (gw l L h L.length).Rj,vI (gw l L h L.length).high,vI (gw l L h L.length).body]) ⟨Jo'.wk hK RA,Wk.refl RA _,Wk.refl RA _,trivial⟩,rfl,rfl⟩
 .intro id h;cases h
 .rintro pre Z' _ ⟨⟩
open Go.Proofs Go.Proofs.Tryz
def iZ(l:List Nd)(h:Int):Bool:=decide (1<=h/\h<=1099511627776)&&R3 l
def El(l:List Nd)(hl:dH l)(h:Int):aV prog 104 [aK l,vI h] (.bool (iZ l h)):=λU=>by
 refine On.r (by simp[Jp]) ?_;refine ad.mix 5 ?_;apply sR;simp only[go_sem,seval,Jp];refine ad.aB rfl rfl rfl (pC h _) ?_;unfold iZ;cases hd:decide (1<=h/\h<=1099511627776)
 .apply sR;simp only[go_sem,seval];exact ay.same (by simp)
 .apply sR;simp only[go_sem,seval];refine ad.aB rfl rfl rfl (Cl l hl _) ?_;apply sR;simp only[go_sem,seval];exact ay.same (by simp)
def rv(l:List Nd)(a h:Int):Kp:=if iZ l h=true/\0<=a/\a<l.length then wP l a.toNat h else⟨[],0,0⟩
def IC(l:List Nd)(hl:dH l)(a h:Int):aV prog 174 [aK l,vI a,vI h] (jy (rv l a h)):=λU=>by
 refine Qw.r (by simp[KM]) ?_;have hs:=aa.refl U;have US:=fj l;have hn:l.length<=100000:=by have:=hl.1;omega
 refine ad.mix 7 ?_;apply sR;simp only[go_sem,seval,KM];refine af λi6 Z6 s6 a6 f6=>?_;have z6:=hs.none f6;replace hs:=hs.trans s6;simp only[go_sem,seval];refine ad.aB rfl rfl rfl (El l hl h _) ?_;have bad:¬(iZ l h=true/\0<=a/\a<l.length)->ay (.agg [.aC,vI 0,vI 0]) Z6 λr Z'=>r=jy (rv l a h)/\Z'=U:=λhb=>by
  rw[rv,if_neg hb];exact⟨_,U,hs,Wk.agg (vs':=[bn [],vI 0,vI 0]) ⟨Wk.aC 1,Wk.refl hs _,Wk.refl hs _,trivial⟩,rfl,rfl⟩
 have a6':C' Z6 i6 ⟨180,3,[.agg [.aC,vI 0,vI 0]]⟩=Z6:=by
  funext i;by_cases hi:i=i6
  .rw[hi,ag];exact a6.symm
  .rw[ab hi]
 cases hm:iZ l h
 .have fin:=bad (by simp[hm]);apply sR;simp only[go_sem,seval,a6];rw[a6'];exact fin
 by_cases h0:a<0
 .have q0:(a<0)=True:=eq_true h0;have fin:=bad (by omega);apply sR;simp only[go_sem,seval,a6,q0];rw[a6'];exact fin
 have q0:(a<0)=False:=eq_false h0;by_cases h1:a>=l.length
 .have q1:(a>=l.length)=True:=eq_true h1;have fin:=bad (by omega);apply sR;simp only[go_sem,seval,a6,q0,q1,US];rw[a6'];exact fin
 have q1:(a>=l.length)=False:=eq_false h1;clear bad a6';obtain⟨n,rfl⟩:∃n:Nat,a=n:=⟨a.toNat,by omega⟩
 have hb:R3 l=true:=by unfold iZ at hm;simp at hm;exact hm.2
 have hh:1<=h/\h<=1099511627776:=by unfold iZ at hm;simp at hm;exact hm.1
 have hr:rv l n h=wP l n h:=by rw[rv,if_pos ⟨hm,by omega,by omega⟩,Int.toNat_natCast]
 rw[hr];apply sR;simp only[go_sem,seval,a6,q0,q1,US];refine ad.aB rfl rfl rfl (Gw l hl hb hn n (by omega) h (by omega) (by omega) _) ?_;apply sR;simp only[go_sem,seval,a6,jy,aj,av];exact ay.pure (hs.aE z6) rfl
def iE(l:List Nd)(h:Int):Nat->Int
 |0=>h
 |j+1=>if(RI l j).kind=2\/(RI l j).kind=3 then min (iE l h j) (wP l j h).body else iE l h j
def gU(l:List Nd)(h:Int):Int:=if iZ l h=true then iE l h l.length else 0
def FJ(l:List Nd)(hl:dH l)(h:Int):aV prog 48 [aK l,vI h] (vI (gU l h)):=λU=>by
 refine e48.r (by simp[c48]) ?_;have hs:=aa.refl U;have US:=fj l;have hn:l.length<=100000:=by have:=hl.1;omega
 refine ad.mix 8 ?_;apply sR;simp only[go_sem,seval,c48];refine ad.aB rfl rfl rfl (El l hl h _) ?_;unfold gU;cases hm:iZ l h
 .apply sR;simp only[go_sem,seval];exact ay.same rfl
 have hb:R3 l=true:=by unfold iZ at hm;simp at hm;exact hm.2
 have hh:1<=h/\h<=1099511627776:=by unfold iZ at hm;simp at hm;exact hm.1
 rw[if_pos rfl];apply sR;simp only[go_sem,seval,US];refine ad.loop (λm st=>∃j:Nat,j<=l.length/\m=l.length-j/\aa U st.U/\st.s 0=aK l/\st.s 1=vI h/\st.s 5=vI (iE l h j)/\st.s 13=aK l/\st.s 14=vI l.length/\st.s 15=vI j) l.length ?_ ?_
 .exact⟨0,by omega,rfl,hs,rfl,rfl,rfl,rfl,rfl,rfl⟩
 .clear hs;rintro m ⟨S,J⟩ ⟨j,hj,rfl,hs,t0,t1,t5,t13,t14,t15⟩;simp only at hs t0 t1 t5 t13 t14 t15;refine ad.mix 8 ?_;by_cases H':j<l.length
  .have q:((j:Int)<l.length)=True:=eq_true (by omega);have r1:Rq .i64 ((j:Int)+1):=ao (by omega) (by omega);have SR:=λU=>cK (U:=U) (l:=l) (a:=j) H';have RA:iE l h (j+1)=if l[j].kind=2\/l[j].kind=3 then min (iE l h j) (wP l j h).body else iE l h j:=by rw[iE,iS H']
   apply sR;simp only[go_sem,seval,t0,t1,t5,t13,t14,t15,q,SR,Nd.cells];refine af λi7 Z7 s7 a7 f7=>?_;by_cases hk:l[j].kind=2
   .have q1:(l[j].kind=2)=True:=eq_true hk;simp only[go_sem,seval,a7,q1,t0,t1,t5,t13,t14,t15,aj,av];refine ad.aB rfl rfl rfl (Gw l hl hb hn j H' h (by omega) (by omega) _) ?_;apply sR;simp only[go_sem,seval,t0,t1,t5,t13,t14,t15,jy,r1,e8,aj,av];refine⟨_,?_,j+1,by omega,rfl,hs.trans (s7.aE f7),by simp[t0,t1,t13,t14,RA,hk]⟩;omega
   .have q1:(l[j].kind=2)=False:=eq_false hk;by_cases Wp:l[j].kind=3
    .have q2:(l[j].kind=3)=True:=eq_true Wp;have hk:=Wp;simp only[go_sem,seval,a7,q1,q2,t0,t1,t5,t13,t14,t15,aj,av];refine ad.aB rfl rfl rfl (Gw l hl hb hn j H' h (by omega) (by omega) _) ?_;apply sR;simp only[go_sem,seval,t0,t1,t5,t13,t14,t15,jy,r1,e8,aj,av];refine⟨_,?_,j+1,by omega,rfl,hs.trans (s7.aE f7),by simp[t0,t1,t13,t14,RA,hk]⟩;omega
    .have q2:(l[j].kind=3)=False:=eq_false Wp;simp only[go_sem,seval,a7,q1,q2,t0,t1,t5,t13,t14,t15,r1,aj,av];refine⟨_,?_,j+1,by omega,rfl,hs.trans (s7.aE f7),by simp[t0,t1,t13,t14,RA,hk,Wp]⟩;omega
  .have q:((j:Int)<l.length)=False:=eq_false (by omega);have SX:j=l.length:=by omega
   apply sR;simp only[go_sem,seval,t0,t1,t5,t13,t14,t15,q];exact ay.pure hs (by rw[SX])
open Go.Proofs Go.Proofs.Tryz
def ak(l:List RY):(bl l).cells=[bl l]:=rfl
def al(l:List RY):(bl l).stays=true:=rfl
def gG(l:List RY):dz false (bl l)=some (.int .i64 l.length):=by simp[bl,dz]
def iz{U:ai}{l:List RY}{i:Nat}(h:i<l.length):bQ U 8 (bl l) (.int .i64 i)=some (.rp (cF l[i])):=by simp[bl,bQ,h,cF]
structure lF(l:List RY):Prop where
 len:l.length<=1000000000
 Xp:∀a∈l,-1152921504606846976<=a.y/\a.y<=1152921504606846976/\0<=a.h/\a.h<=1152921504606846976
def xz(l:List RY)(k:Int):aV prog 281 [bl l,vI k] (.bool (decide (0<=k/\k<l.length))):=λU=>by
 refine Qr.r (by simp[EX]) ?_;have hl:=gG l;refine ad.mix 5 ?_;by_cases h0:k>=0
 .have q0:(k>=0)=True:=eq_true h0;by_cases h1:k<l.length
  .have q1:(k<l.length)=True:=eq_true h1;apply sR;simp only[go_sem,seval,EX,q0,q1,hl];exact ay.same (by simp[h0,h1])
  .have q1:(k<l.length)=False:=eq_false h1;apply sR;simp only[go_sem,seval,EX,q0,q1,hl];exact ay.same (by simp[h1])
 .have q0:(k>=0)=False:=eq_false h0;apply sR;simp only[go_sem,seval,EX,q0,hl];exact ay.same (by simp<;>omega)
def C6(a:RY)(h:-1152921504606846976<=a.y/\a.y<=1152921504606846976/\0<=a.h/\a.h<=1152921504606846976):aV prog 319 [cF a] (vI (a.y+a.h)):=λU=>by
 refine PD.r (by simp[KY]) ?_;have hs:=aa.refl U;have r1:Rq .i64 (a.y+a.h):=ao (by omega) (by omega);refine ad.mix 3 ?_;apply sR;simp only[go_sem,seval,KY,cF];refine af λi1 Z1 s1 a1 f1=>?_;have z1:=hs.none f1;replace hs:=hs.trans s1;simp only[go_sem,seval,a1,r1];exact ay.pure hs rfl
def Sq(l:List RY)(k:Int):RY:=l.getD k.toNat ⟨0,0,0,0,0,0,0,0⟩
def fI(l:List RY)(k:Int):Int:=if 0<=k/\k<l.length then(Sq l k).y+(Sq l k).h else 0
def lg(l:List RY)(k:Int):Int:=if 0<=k/\k<l.length then(Sq l k).y-fI l (k-1)else 0
def gk(l:List RY)(i k:Int):Int:=if(0<=i/\i<l.length)/\(0<=k/\k<l.length)then(Sq l k).y-(Sq l i).y else 0
def bz{l:List RY}{k:Nat}(h:k<l.length):Sq l k=l[k]:=by simp[Sq,h]
def qw{l:List RY}(hl:lF l)(k:Int):-1152921504606846976<=fI l k/\fI l k<=2305843009213693952:=by
 unfold fI;split
 .rename_i h;obtain⟨n,rfl⟩:∃n:Nat,k=n:=⟨k.toNat,by omega⟩
  have hn:n<l.length:=by omega
  rw[bz hn];have:=hl.Xp _ (List.getElem_mem hn);omega
 .omega
def C4(l:List RY)(hl:lF l)(k:Int):aV prog 282 [bl l,vI k] (vI (fI l k)):=λU=>by
 refine Qp.r (by simp[I2]) ?_;refine ad.mix 5 ?_;apply sR;simp only[go_sem,seval,I2];refine ad.aB rfl rfl rfl (xz l k _) ?_;unfold fI;by_cases h:0<=k/\k<l.length
 .obtain⟨n,rfl⟩:∃n:Nat,k=n:=⟨k.toNat,by omega⟩
  have hn:n<l.length:=by omega
  have hd:decide (0<=(n:Int)/\(n:Int)<l.length)=true:=by simp;omega
  have Q9:=λU=>iz (U:=U) hn;rw[hd,if_pos h,bz hn];apply sR;simp only[go_sem,seval,Q9,cF];refine ad.aB rfl rfl rfl (C6 l[n] (hl.Xp _ (List.getElem_mem hn)) _) ?_;apply sR;simp only[go_sem,seval];exact ay.same rfl
 .have hd:decide (0<=k/\k<l.length)=false:=by simpa using h
  rw[hd,if_neg h];apply sR;simp only[go_sem,seval];exact ay.same rfl
def Mm(l:List RY)(hl:lF l)(k:Int):aV prog 234 [bl l,vI k] (vI (lg l k)):=λU=>by
 refine OG.r (by simp[L7]) ?_;refine ad.mix 5 ?_;apply sR;simp only[go_sem,seval,L7];refine ad.aB rfl rfl rfl (xz l k _) ?_;unfold lg;by_cases h:0<=k/\k<l.length
 .obtain⟨n,rfl⟩:∃n:Nat,k=n:=⟨k.toNat,by omega⟩
  have hn:n<l.length:=by omega
  have hd:decide (0<=(n:Int)/\(n:Int)<l.length)=true:=by simp;omega
  have Q9:=λU=>iz (U:=U) hn;have XO:=hl.len;have hy:=hl.Xp _ (List.getElem_mem hn);have hbr:=qw hl ((n:Int)-1);have r1:Rq .i64 ((n:Int)-1):=ao (by omega) (by omega);have r2:Rq .i64 (l[n].y-fI l ((n:Int)-1)):=ao (by omega) (by omega);rw[hd,if_pos h,bz hn];apply sR;simp only[go_sem,seval,Q9,cF,r1];refine Go.bP rfl rfl rfl (C4 l hl ((n:Int)-1)) ?_;apply sG;simp only[go_sem,seval,r2];exact ay.same rfl
 .have hd:decide (0<=k/\k<l.length)=false:=by simpa using h
  rw[hd,if_neg h];apply sR;simp only[go_sem,seval];exact ay.same rfl
def DQ(l:List RY)(hl:lF l)(i k:Int):aV prog 288 [bl l,vI i,vI k] (vI (gk l i k)):=λU=>by
 refine Oq.r (by simp[Jh]) ?_;refine ad.mix 8 ?_;apply sR;simp only[go_sem,seval,Jh];refine ad.aB rfl rfl rfl (xz l i _) ?_;unfold gk;by_cases h:0<=i/\i<l.length
 .have hd:decide (0<=i/\i<l.length)=true:=by simp;omega
  rw[hd];apply sR;simp only[go_sem,seval];refine ad.aB rfl rfl rfl (xz l k _) ?_;by_cases h2:0<=k/\k<l.length
  .obtain⟨m,rfl⟩:∃m:Nat,i=m:=⟨i.toNat,by omega⟩
   obtain⟨n,rfl⟩:∃n:Nat,k=n:=⟨k.toNat,by omega⟩
   have hm:m<l.length:=by omega
   have hn:n<l.length:=by omega
   have Xq:decide (0<=(n:Int)/\(n:Int)<l.length)=true:=by simp;omega
   have Q9:=λU=>iz (U:=U) hn;have hidx2:=λU=>iz (U:=U) hm;have hy:=hl.Xp _ (List.getElem_mem hn);have hy2:=hl.Xp _ (List.getElem_mem hm);have r1:Rq .i64 (l[n].y-l[m].y):=ao (by omega) (by omega);rw[Xq,if_pos ⟨h,h2⟩,bz hn,bz hm];apply sR;simp only[go_sem,seval,Q9,hidx2,cF,r1];exact ay.same rfl
  .have Xq:decide (0<=k/\k<l.length)=false:=by simpa using h2
   rw[Xq,if_neg (λh=>h2 h.2)];apply sR;simp only[go_sem,seval];exact ay.same rfl
 .have hd:decide (0<=i/\i<l.length)=false:=by simpa using h
  rw[hd,if_neg (λh'=>h h'.1)];apply sR;simp only[go_sem,seval];exact ay.same rfl
open Go.Proofs Go.Proofs.Tryz
def eO(b:List S1)(i fit:Int):Prop:=ux b=true/\0<=i/\i<(b.length:Int)-1/\i<fit
instance (b:List S1) (i fit:Int):Decidable (eO b i fit):=by unfold eO;infer_instance
def nC(b:List S1)(i fit:Int):Int:=if kz b (i+1) fit<0 then Ca b (i+1) fit else kz b (i+1) fit
def L9(b:List S1)(hb:b.length<=1000000)(i fit:Int):aV prog 178 [bC b,vI i,vI fit] (.Rf [vI (if eO b i fit then nC b i fit else 0),.bool (decide (eO b i fit))]):=λU=>by
 refine OD.r (by simp[LV]) ?_;have V2:=Bg b;have r0:Rq .i64 ((b.length:Int)-1):=ao (by omega) (by omega);refine ad.mix 8 ?_;apply sR;simp only[go_sem,seval,LV];refine ad.aB rfl rfl rfl (Ka b hb _) ?_;have bad:¬eO b i fit->ay (.Rf [vI 0,.bool false]) U λr Z'=>r=.Rf [vI (if eO b i fit then nC b i fit else 0),.bool (decide (eO b i fit))]/\Z'=U:=λh=>ay.same (by rw[if_neg h,decide_eq_false h]);generalize hX:(V.Rf [vI (if eO b i fit then nC b i fit else 0),.bool (decide (eO b i fit))])=X at*;cases hm:ux b
 .have fin:=bad (λh=>by rw[h.1]at hm;cases hm);apply sR;simp only[go_sem,seval];exact fin
 by_cases h0:i<0
 .have q0:(i<0)=True:=eq_true h0;have fin:=bad (λh=>by have:=h.2.1;omega);apply sR;simp only[go_sem,seval,q0];exact fin
 have q0:(i<0)=False:=eq_false h0;by_cases h1:i>=(b.length:Int)-1
 .have q1:(i>=(b.length:Int)-1)=True:=eq_true h1;have fin:=bad (λh=>by have:=h.2.2.1;omega);apply sR;simp only[go_sem,seval,q0,V2,r0,q1];exact fin
 have q1:(i>=(b.length:Int)-1)=False:=eq_false h1;by_cases h2:fit<=i
 .have q2:(fit<=i)=True:=eq_true h2;have fin:=bad (λh=>by have:=h.2.2.2;omega);apply sR;simp only[go_sem,seval,q0,V2,r0,q1,q2];exact fin
 have q2:(fit<=i)=False:=eq_false h2;clear bad;have Rg:eO b i fit:=⟨hm,by omega,by omega,by omega⟩
 have r1:Rq .i64 (i+1):=ao (by omega) (by omega);rw[if_pos Rg,decide_eq_true Rg]at hX;subst hX;apply sR;simp only[go_sem,seval,q0,V2,r0,q1,q2,r1];refine ad.aB rfl rfl rfl (GQ b hb (i+1) fit _) ?_;unfold nC;by_cases h3:kz b (i+1) fit<0
 .have q3:(kz b (i+1) fit<0)=True:=eq_true h3;rw[if_pos h3];apply sR;simp only[go_sem,seval,q3,r1];refine ad.aB rfl rfl rfl (Lx b hb (i+1) fit _) ?_;apply sR;simp only[go_sem,seval];exact ay.same rfl
 .have q3:(kz b (i+1) fit<0)=False:=eq_false h3;rw[if_neg h3];apply sR;simp only[go_sem,seval,q3];exact ay.same rfl
open Go.Proofs Go.Proofs.Tryz
structure R0 where
 (atom done:Int)
 free:Bool
def bj(s:R0):V:=.agg [vI s.atom,vI s.done,.bool s.free]
def tO(s:R0)(l:List RY):V:=.agg [vI s.atom,vI s.done,.bool s.free,bl l]
def bZ(l:List RY)(s:R0):Prop:=(0<=s.atom/\s.atom<l.length)/\0<=s.done/\(s.done=0\/s.done<(Sq l s.atom).h)
instance (l:List RY) (s:R0):Decidable (bZ l s):=by unfold bZ;infer_instance
def A7(l:List RY)(s:R0):aV prog 175 [tO s l] (.bool (decide (bZ l s))):=λU=>by
 refine Qc.r (by simp[I0]) ?_;have hs:=aa.refl U;have hl:=gG l;obtain⟨a,d,fr⟩:=s;refine ad.mix 3 ?_;apply sR;simp only[go_sem,seval,I0,tO,ak,al];refine af λi1 Z1 s1 a1 f1=>?_;have z1:=hs.none f1;replace hs:=hs.trans s1;by_cases h0:a>=0
 .have q0:(a>=0)=True:=eq_true h0;by_cases h1:a<l.length
  .have q1:(a<l.length)=True:=eq_true h1;obtain⟨n,rfl⟩:∃n:Nat,a=n:=⟨a.toNat,by omega⟩
   have hn:n<l.length:=by omega
   have Q9:=λU=>iz (U:=U) hn;have hg:=bz hn;by_cases h2:d>=0
   .have q2:(d>=0)=True:=eq_true h2;by_cases h3:d=0
    .have q3:(d=0)=True:=eq_true h3;simp only[go_sem,seval,a1,q0,q1,q2,q3,hl,ak,al];have hh:bZ l ⟨n,d,fr⟩:=⟨⟨h0,h1⟩,h2,.inl h3⟩
     exact ay.pure hs (by rw[decide_eq_true hh])
    .have q3:(d=0)=False:=eq_false h3;by_cases h4:d<l[n].h
     .have q4:(d<l[n].h)=True:=eq_true h4;simp only[go_sem,seval,a1,q0,q1,q2,q3,q4,hl,Q9,cF,ak,al];have hh:bZ l ⟨n,d,fr⟩:=⟨⟨h0,h1⟩,h2,.inr (by rw[hg];exact h4)⟩
      exact ay.pure hs (by rw[decide_eq_true hh])
     .have q4:(d<l[n].h)=False:=eq_false h4;simp only[go_sem,seval,a1,q0,q1,q2,q3,q4,hl,Q9,cF,ak,al];exact ay.pure hs (by rw[decide_eq_false (λh:bZ l ⟨n,d,fr⟩=>by rcases h.2.2 with h|h;exact h3 h;rw[hg]at h;exact h4 h)])
   .have q2:(d>=0)=False:=eq_false h2;simp only[go_sem,seval,a1,q0,q1,q2,hl,ak,al];exact ay.pure hs (by rw[decide_eq_false (λh:bZ l ⟨n,d,fr⟩=>h2 h.2.1)])
  .have q1:(a<l.length)=False:=eq_false h1;simp only[go_sem,seval,a1,q0,q1,hl,ak,al];exact ay.pure hs (by rw[decide_eq_false (λh:bZ l ⟨a,d,fr⟩=>h1 h.1.2)])
 .have q0:(a>=0)=False:=eq_false h0;simp only[go_sem,seval,a1,q0,hl,ak,al];exact ay.pure hs (by rw[decide_eq_false (λh:bZ l ⟨a,d,fr⟩=>h0 h.1.1)])
def p7(l:List RY)(s:R0):aV prog 173 [bl l,bj s] (.bool (decide (bZ l s))):=λU=>by
 refine PS.r (by simp[Jz]) ?_;have hs:=aa.refl U;have hc:=A7 l s;obtain⟨a,d,fr⟩:=s;rw[tO]at hc;refine ad.mix 5 ?_;apply sR;simp only[go_sem,seval,Jz,bj,ak,al];refine af λi3 Z3 s3 a3 f3=>?_;have z3:=hs.none f3;replace hs:=hs.trans s3;simp only[go_sem,seval,a3,ak,al];refine ad.aB rfl rfl rfl (hc _) ?_;apply sR;simp only[go_sem,seval];exact ay.pure hs rfl
def Ce(l:List RY)(hl:lF l)(s:R0)(h:bZ l s)(hd:s.done<=1152921504606846976):aV prog 176 [tO s l] (vI ((Sq l s.atom).h-s.done)):=λU=>by
 refine QQ.r (by simp[JH]) ?_;have hs:=aa.refl U;obtain⟨a,d,fr⟩:=s;obtain⟨⟨h0,h1⟩,h2,h3⟩:=h;simp only at h0 h1 h2 h3 hd|-;obtain⟨n,rfl⟩:∃n:Nat,a=n:=⟨a.toNat,by omega⟩
 have hn:n<l.length:=by omega
 have Q9:=λU=>iz (U:=U) hn;have hy:=hl.Xp _ (List.getElem_mem hn);rw[bz hn];have r1:Rq .i64 (l[n].h-d):=ao (by omega) (by omega);refine ad.mix 3 ?_;apply sR;simp only[go_sem,seval,JH,tO,ak,al];refine af λi1 Z1 s1 a1 f1=>?_;have z1:=hs.none f1;replace hs:=hs.trans s1;simp only[go_sem,seval,a1,Q9,r1,cF,ak,al];exact ay.pure hs rfl
def ik(l:List RY)(s:R0)(RJ:Int):Int:=if bZ l s/\s.free=true/\s.done=0/\lg l s.atom+((Sq l s.atom).h-s.done)<=RJ then lg l s.atom else 0
def Ec{l:List RY}(hl:lF l)(k:Int):-3458764513820540928<=lg l k/\lg l k<=2305843009213693952:=by
 unfold lg;have hb:=qw hl (k-1);split
 .rename_i h;obtain⟨n,rfl⟩:∃n:Nat,k=n:=⟨k.toNat,by omega⟩
  have hn:n<l.length:=by omega
  rw[bz hn];have:=hl.Xp _ (List.getElem_mem hn);omega
 .omega
def BJ(l:List RY)(hl:lF l)(s:R0)(RJ:Int):aV prog 177 [bl l,bj s,vI RJ] (vI (ik l s RJ)):=λU=>by
 refine PU.r (by simp[JB]) ?_;have hs:=aa.refl U;have hc:=A7 l s;have W2:=λh hd=>Ce l hl s h hd;have XD:=Ec hl s.atom;obtain⟨a,d,fr⟩:=s;rw[tO]at hc W2;simp only at XD W2;refine ad.mix 9 ?_;apply sR;simp only[go_sem,seval,JB,bj,ak,al];refine af λi4 Z4 s4 a4 f4=>?_;have z4:=hs.none f4;replace hs:=hs.trans s4;simp only[go_sem,seval,a4,ak,al];refine af λi7 Z7 s7 a7 f7=>?_;have n47:=aq a4 f7;replace a4:=s7 _ _ a4;have z7:=hs.none f7;replace hs:=hs.trans s7;simp only[go_sem,seval,a7,a4,ak,al];refine ad.aB rfl rfl rfl (hc _) ?_;have bad:¬(bZ l ⟨a,d,fr⟩/\fr=true/\d=0/\lg l a+((Sq l a).h-d)<=RJ)->ik l ⟨a,d,fr⟩ RJ=0:=λh=>if_neg h;by_cases hm:bZ l ⟨a,d,fr⟩
 .rw[decide_eq_true hm];cases fr
  .apply sR;simp only[go_sem,seval,a7,ak,al];exact ay.pure (hs.aE z7) (by rw[bad (λh=>by cases h.2.1)])
  have Vv:=hm.2.1;simp only at Vv;by_cases hd:d>0
  .have q:(d>0)=True:=eq_true hd;apply sR;simp only[go_sem,seval,a7,q,ak,al];exact ay.pure (hs.aE z7) (by rw[bad (λh=>by have:=h.2.2.1;omega)])
  .have q:(d>0)=False:=eq_false hd;obtain rfl:d=0:=by omega
   apply sR;simp only[go_sem,seval,a7,q,ak,al];refine ad.aB rfl rfl rfl (Mm l hl a _) ?_;have hlf':=W2 hm (by omega);have hy:0<=(Sq l a).h/\(Sq l a).h<=1152921504606846976:=by
    obtain⟨h0,h1⟩:=hm.1;simp only at h0 h1;obtain⟨n,rfl⟩:∃n:Nat,a=n:=⟨a.toNat,by omega⟩
    have hn:n<l.length:=by omega
    rw[bz hn];exact(hl.Xp _ (List.getElem_mem hn)).2.2
   have r1:Rq .i64 (lg l a+((Sq l a).h-0)):=ao (by omega) (by omega);apply sR;simp only[go_sem,seval,a7,ag,ak,al];refine ad.aB rfl rfl rfl (hlf' _) ?_;by_cases h4:lg l a+((Sq l a).h-0)<=RJ
   .have q4:(lg l a+((Sq l a).h-0)<=RJ)=True:=eq_true h4;have hk:ik l ⟨a,0,true⟩ RJ=lg l a:=if_pos ⟨hm,rfl,rfl,h4⟩;rw[hk];apply sR;simp only[go_sem,seval,r1,q4];exact ay.pure (hs.aE z7) rfl
   .have q4:(lg l a+((Sq l a).h-0)<=RJ)=False:=eq_false h4;rw[bad (λh=>h4 h.2.2.2)];apply sR;simp only[go_sem,seval,r1,q4];exact ay.pure (hs.aE z7) rfl
 .rw[decide_eq_false hm];apply sR;simp only[go_sem,seval,a7,ak,al];exact ay.pure (hs.aE z7) (by rw[bad (λh=>hm h.1)])
open Go.Proofs Go.Proofs.Tryz
def gP(l:List RY)(s:R0):Int:=if bZ l s then(Sq l s.atom).h-s.done else 0
def HT(l:List RY)(hl:lF l)(s:R0)(hd:s.done<=1152921504606846976):aV prog 119 [bl l,bj s] (vI (gP l s)):=λU=>by
 refine N7.r (by simp[Lq]) ?_;have hs:=aa.refl U;have hc:=A7 l s;have W2:=λh=>Ce l hl s h hd;unfold gP;obtain⟨a,d,fr⟩:=s;rw[tO]at hc W2;refine ad.mix 6 ?_;apply sR;simp only[go_sem,seval,Lq,bj,ak,al];refine af λi3 Z3 s3 a3 f3=>?_;have z3:=hs.none f3;replace hs:=hs.trans s3;simp only[go_sem,seval,a3,ak,al];refine af λi5 Z5 s5 a5 f5=>?_;have Yc:=aq a3 f5;replace a3:=s5 _ _ a3;have z5:=hs.none f5;replace hs:=hs.trans s5;simp only[go_sem,seval,a5,a3,ak,al];refine ad.aB rfl rfl rfl (hc _) ?_;by_cases hm:bZ l ⟨a,d,fr⟩
 .rw[decide_eq_true hm,if_pos hm];apply sR;simp only[go_sem,seval,a5,ak,al];refine ad.aB rfl rfl rfl (W2 hm _) ?_;apply sR;simp only[go_sem,seval];exact ay.pure (hs.aE z5) rfl
 .rw[decide_eq_false hm,if_neg hm];apply sR;simp only[go_sem,seval];exact ay.pure (hs.aE z5) rfl
def dp(l:List RY)(s:R0)(kept shift k:Int):Int:=if bZ l s/\s.atom<=k/\k<l.length then gk l s.atom k-s.done+kept+shift else 0
def qS{l:List RY}(hl:lF l)(i k:Int):-2305843009213693952<=gk l i k/\gk l i k<=2305843009213693952:=by
 unfold gk;split
 .rename_i h;obtain⟨n,rfl⟩:∃n:Nat,k=n:=⟨k.toNat,by omega⟩
  obtain⟨m,rfl⟩:∃m:Nat,i=m:=⟨i.toNat,by omega⟩
  have hn:n<l.length:=by omega
  have hm:m<l.length:=by omega
  rw[bz hn,bz hm];have h1:=hl.Xp _ (List.getElem_mem hn);have h2:=hl.Xp _ (List.getElem_mem hm);omega
 .omega
def xL(l:List RY)(hl:lF l)(s:R0)(hd:s.done<=1152921504606846976)(kept shift k:Int)(hk:-1152921504606846976<=kept/\kept<=2305843009213693952)(UM:0<=shift/\shift<=1152921504606846976):
 aV prog 240 [bl l,bj s,vI kept,vI shift,vI k] (vI (dp l s kept shift k)):=λU=>by
 refine Ps.r (by simp[Ji]) ?_;have hs:=aa.refl U;have hc:=p7 l s;have hor:=qS hl s.atom k;have hlen:=gG l;have bad:¬(bZ l s/\s.atom<=k/\k<l.length)->dp l s kept shift k=0:=λh=>if_neg h;have XE:(bZ l s/\s.atom<=k/\k<l.length)->dp l s kept shift k=gk l s.atom k-s.done+kept+shift:=λh=>if_pos h;generalize dp l s kept shift k=P at*;obtain⟨a,d,fr⟩:=s;rw[bj]at hc;simp only at hor hd XE bad;refine ad.mix 11 ?_;apply sR;simp only[go_sem,seval,Ji,bj,ak,al];refine af λi6 Z6 s6 a6 f6=>?_;have z6:=hs.none f6;replace hs:=hs.trans s6;simp only[go_sem,seval,a6,ak,al];refine ad.aB rfl rfl rfl (hc _) ?_;by_cases hm:bZ l ⟨a,d,fr⟩
 .rw[decide_eq_true hm];by_cases h1:k<a
  .have q1:(k<a)=True:=eq_true h1;apply sR;simp only[go_sem,seval,a6,q1,ak,al];exact ay.pure hs (by rw[bad (λh=>by omega)])
  have q1:(k<a)=False:=eq_false h1;by_cases h2:k>=l.length
  .have q2:(k>=l.length)=True:=eq_true h2;apply sR;simp only[go_sem,seval,a6,q1,q2,hlen,ak,al];exact ay.pure hs (by rw[bad (λh=>by omega)])
  have q2:(k>=l.length)=False:=eq_false h2;rw[XE ⟨hm,by omega,by omega⟩];have Vv:=hm.2.1;simp only at Vv;have r1:Rq .i64 (gk l a k-d):=ao (by omega) (by omega);have r2:Rq .i64 (gk l a k-d+kept):=ao (by omega) (by omega);have r3:Rq .i64 (gk l a k-d+kept+shift):=ao (by omega) (by omega);apply sR;simp only[go_sem,seval,a6,q1,q2,hlen,ak,al];refine Go.bP rfl rfl rfl (DQ l hl a k) ?_;apply sG;simp only[go_sem,seval,a6,r1,r2,r3];exact ay.pure hs rfl
 .rw[decide_eq_false hm];apply sR;simp only[go_sem,seval,a6,ak,al];exact ay.pure hs (by rw[bad (λh=>hm h.1)])
open Go.Proofs Go.Proofs.Tryz
def G0{m:Int}(h1:0<=m)(h2:m<=18446744073709551615):Rq .u64 m:=by
 unfold Rq IntKind.wrap;simp only[IntKind.signed,IntKind.bits];simp;omega
def kx(p:Nat->Bool):Nat->Nat->Nat->Nat
 |0,i,_=>i
 |f+1,i,j=>if i<j then if p ((i+j)/2)then kx p f i ((i+j)/2)else kx p f ((i+j)/2+1) j else i
def Ao(p:Nat->Bool)(n:Nat):Nat:=kx p n 0 n
def mI(p:Nat->Bool):∀(f g i j:Nat),j-i<=f->j-i<=g->kx p f i j=kx p g i j
 |0,0,_,_,_,_=>rfl
 |0,g+1,i,j,h,_=>by rw[kx,kx,if_neg (by omega)]
 |f+1,0,i,j,_,h=>by rw[kx,kx,if_neg (by omega)]
 |f+1,g+1,i,j,h1,h2=>by
  rw[kx,kx];split
  .rename_i H';split
   .exact mI p f g i ((i+j)/2) (by omega) (by omega)
   .exact mI p f g ((i+j)/2+1) j (by omega) (by omega)
  .rfl
def Ez{f:FuncId}{caps:List V}(p:Nat->Bool)(n:Nat)(hn:n<=1000000000){U:ai}(hf:∀i:Nat,i<n->aD prog f (vI i::caps) U λr Z'=>r=.bool (p i)/\Z'=U):
 aD prog 238 [vI n,.fn f caps] U λr Z'=>r=vI (Ao p n)/\Z'=U:=by
 refine PV.r (by simp[Kh]) ?_;refine ad.mix 8 ?_;apply sR;simp only[go_sem,seval,Kh];refine ad.loop (λm st=>∃i j:Nat,i<=j/\j<=n/\m=j-i/\Ao p n=kx p (j-i) i j/\st.U=U/\st.s 1=.fn f caps/\st.s 5=vI i/\st.s 6=vI j) n ?_ ?_
 .exact⟨0,n,by omega,by omega,rfl,rfl,rfl,rfl,rfl,rfl⟩
 .rintro m ⟨S,J⟩ ⟨i,j,hij,hjn,rfl,heq,RH,t1,t5,t6⟩;simp only at RH t1 t5 t6;subst RH;refine ad.mix 8 ?_;by_cases H':i<j
  .have q:((i:Int)<j)=True:=eq_true (by omega);have r1:Rq .i64 ((i:Int)+j):=ao (by omega) (by omega);apply sR;simp only[go_sem,seval,t1,t5,t6,q,r1];have hh:((i:Int)+j).fdiv (2^min 1 64)=(((i+j)/2:Nat):Int):=by
    rw[show(2^min 1 64:Int)=2 from rfl,Int.fdiv_eq_ediv_of_nonneg _ (by decide)];omega
   rw[hh];refine⟨G0 (by omega) (by omega),ao (by omega) (by omega),?_⟩;obtain⟨k,hk⟩:∃k:Nat,k=(i+j)/2:=⟨_,rfl⟩
   rw[<-hk];obtain⟨w,hw⟩:∃w:Nat,j-i=w+1:=⟨j-i-1,by omega⟩
   rw[hw,kx,if_pos H',<-hk]at heq;refine ad.aB rfl rfl rfl (hf k (by omega)) ?_;have r2:Rq .i64 ((k:Int)+1):=ao (by omega) (by omega);cases hp:p k
   .rw[hp]at heq;apply sR;simp only[go_sem,seval,t1,t5,t6,r2];refine⟨_,?_,k+1,j,by omega,hjn,rfl,?_,by simp[t1,t6]⟩
    .omega
    .rw[heq];exact mI p _ _ _ _ (by omega) (by omega)
   .rw[hp]at heq;apply sR;simp only[go_sem,seval,t1,t5,t6];refine⟨_,?_,i,k,by omega,by omega,rfl,?_,by simp[t1,t5]⟩
    .omega
    .rw[heq];exact mI p _ _ _ _ (by omega) (by omega)
  .have q:((i:Int)<j)=False:=eq_false (by omega);have TV:i=j:=by omega
   subst TV;apply sR;simp only[go_sem,seval,t1,t5,t6,q];refine ay.same ?_;rw[heq,Nat.sub_self];rfl
open Go.Proofs Go.Proofs.Tryz
def fE(l:List RY)(s:R0)(kept shift body:Int)(n:Nat):Bool:=decide (dp l s kept shift (s.atom+n)+(Sq l (s.atom+n)).h>body)
def iU(l:List RY)(s:R0)(kept shift body:Int):Int:=if bZ l s then s.atom+Ao (fE l s kept shift body) (l.length-s.atom.toNat)else 0
def xm(p:Nat->Bool):∀(f i j:Nat),i<=j->kx p f i j<=j
 |0,i,j,h=>h
 |f+1,i,j,h=>by
  rw[kx];split
  .split
   .exact Nat.le_trans (xm p f _ _ (by omega)) (by omega)
   .exact xm p f _ _ (by omega)
  .exact h
def Bw(p:Nat->Bool)(n:Nat):Ao p n<=n:=xm p n 0 n (Nat.zero_le n)
def nP{l:List RY}(hl:lF l){s:R0}(hd:s.done<=1152921504606846976){kept shift:Int}(hk:-1152921504606846976<=kept/\kept<=2305843009213693952)(UM:0<=shift/\shift<=1152921504606846976)(k:Int):
 -4611686018427387904<=dp l s kept shift k/\dp l s kept shift k<=5764607523034234880:=by
 unfold dp;have h1:=qS hl s.atom k;split
 .rename_i h;have:=h.1.2.1;omega
 .omega
def EN(l:List RY)(hl:lF l)(s:R0)(hm:bZ l s)(hd:s.done<=1152921504606846976)(kept shift body:Int)(hk:-1152921504606846976<=kept/\kept<=2305843009213693952)(UM:0<=shift/\shift<=1152921504606846976)
 {U:ai}{i5 i6 i7 i8 i9:Nat}(a5:U i5=some ⟨77,1,[bl l]⟩)(a6:U i6=some ⟨42,3,[bj s]⟩)(a7:U i7=some ⟨3,1,[vI kept]⟩)(a8:U i8=some ⟨3,1,[vI shift]⟩)(a9:U i9=some ⟨3,1,[vI body]⟩)
 (n:Nat)(hn:n<l.length-s.atom.toNat):
 aD prog 239 [vI n,.ptr i6 0 0,.ptr i5 0 0,.ptr i7 0 0,.ptr i8 0 0,.ptr i9 0 0] U λr Z'=>r=.bool (fE l s kept shift body n)/\Z'=U:=by
 refine PK.r (by simp[G9]) ?_;have Zj:=nP hl hd hk UM (s.atom+n);have Ua:=xL l hl s hd kept shift (s.atom+n) hk UM;unfold fE;have XO:=hl.len;obtain⟨a,d,fr⟩:=s;obtain⟨h0,h1⟩:=hm.1;rw[bj]at a6 Ua;simp only at h0 h1 hn Zj Ua|-;obtain⟨m,rfl⟩:∃m:Nat,a=m:=⟨a.toNat,by omega⟩
 have e1:(m:Int)+(n:Int)=((m+n:Nat):Int):=by omega
 rw[e1]at Zj Ua|-;have hmn:m+n<l.length:=by omega
 have Q9:=λU=>iz (U:=U) hmn;have hy:=hl.Xp _ (List.getElem_mem hmn);rw[bz hmn];have r1:Rq .i64 ((m+n:Nat):Int):=ao (by omega) (by omega);generalize dp l ⟨m,d,fr⟩ kept shift ((m+n:Nat):Int)=P at*;have r2:Rq .i64 (P+l[m+n].h):=ao (by omega) (by omega);generalize m+n=q at*;refine ad.mix 9 ?_;by_cases hb:P+l[q].h>body
 .have q1:(P+l[q].h>body)=True:=eq_true hb;apply sR;simp only[go_sem,seval,G9,a5,a6,a7,a8,a9,e1,r1,ak,al];refine Go.bP rfl rfl rfl Ua ?_;apply sG;simp only[go_sem,seval,a5,a6,a7,a8,a9,r2,Q9,cF,q1,ak,al];exact ay.same rfl
 .have q1:(P+l[q].h>body)=False:=eq_false hb;apply sR;simp only[go_sem,seval,G9,a5,a6,a7,a8,a9,e1,r1,ak,al];refine Go.bP rfl rfl rfl Ua ?_;apply sG;simp only[go_sem,seval,a5,a6,a7,a8,a9,r2,Q9,cF,q1,ak,al];exact ay.same rfl
def zA(l:List RY)(hl:lF l)(s:R0)(hd:s.done<=1152921504606846976)(kept shift body:Int)(hk:-1152921504606846976<=kept/\kept<=2305843009213693952)(UM:0<=shift/\shift<=1152921504606846976):
 aV prog 179 [bl l,bj s,vI kept,vI shift,vI body] (vI (iU l s kept shift body)):=λU=>by
 refine OP.r (by simp[LQ]) ?_;have hs:=aa.refl U;have hc:=p7 l s;have hlen:=gG l;have XO:=hl.len;refine ad.mix 12 ?_;have TS:(bj s).cells=[vI s.atom,vI s.done,.bool s.free]:=rfl;have UH:(bj s).stays=true:=rfl;apply sR;simp only[go_sem,seval,LQ,TS,UH,ak,al];refine af λi5 Z5 s5 a5 f5=>?_;have z5:=hs.none f5;replace hs:=hs.trans s5;simp only[go_sem,seval,TS,UH,ak,al];refine af λi6 Z6 s6 a6 f6=>?_;have n56:=aq a5 f6;replace a5:=s6 _ _ a5;have z6:=hs.none f6;replace hs:=hs.trans s6;simp only[go_sem,seval,TS,UH,ak,al];refine af λi7 Z7 s7 a7 f7=>?_;have n57:=aq a5 f7;replace a5:=s7 _ _ a5;have VK:=aq a6 f7;replace a6:=s7 _ _ a6;have z7:=hs.none f7;replace hs:=hs.trans s7;simp only[go_sem,seval,TS,UH,ak,al];refine af λi8 Z8 s8 a8 f8=>?_;have n58:=aq a5 f8;replace a5:=s8 _ _ a5;have n68:=aq a6 f8;replace a6:=s8 _ _ a6;have Xk:=aq a7 f8;replace a7:=s8 _ _ a7;have z8:=hs.none f8;replace hs:=hs.trans s8;simp only[go_sem,seval,TS,UH,ak,al];refine af λi9 Z9 s9 a9 f9=>?_;have n59:=aq a5 f9;replace a5:=s9 _ _ a5;have n69:=aq a6 f9;replace a6:=s9 _ _ a6;have n79:=aq a7 f9;replace a7:=s9 _ _ a7;have XL:=aq a8 f9;replace a8:=s9 _ _ a8;have z9:=hs.none f9;replace hs:=hs.trans s9;have b6:=a6;rw[bj]at b6;simp only[go_sem,seval,a5,b6,ak,al];refine ad.aB rfl rfl rfl (hc _) ?_;unfold iU;by_cases hm:bZ l s
 .obtain⟨h0,h1⟩:=hm.1;obtain⟨m,hmm⟩:∃m:Nat,s.atom=m:=⟨s.atom.toNat,by omega⟩
  have hn:((l.length:Int)-s.atom)=((l.length-s.atom.toNat:Nat):Int):=by omega
  have r1:Rq .i64 ((l.length-s.atom.toNat:Nat):Int):=ao (by omega) (by omega);rw[decide_eq_true hm,if_pos hm];apply sR;simp only[go_sem,seval,a5,b6,hlen,hn,r1,ak,al];refine ad.aB rfl rfl rfl (Ez (fE l s kept shift body) (l.length-s.atom.toNat) (by omega) (λi hi=>EN l hl s hm hd kept shift body hk UM a5 a6 a7 a8 a9 i hi)) ?_;have hse:=Bw (fE l s kept shift body) (l.length-s.atom.toNat);have r2:Rq .i64 (s.atom+(Ao (fE l s kept shift body) (l.length-s.atom.toNat):Nat)):=ao (by omega) (by omega);apply sR;simp only[go_sem,seval,b6,r2];exact ay.pure hs rfl
 .rw[decide_eq_false hm,if_neg hm];apply sR;simp only[go_sem,seval];exact ay.pure hs rfl
open Go.Proofs Go.Proofs.Tryz
structure SU where
 (node atom fr x y w h:Int)
deriving DecidableEq
def bo(f:SU):V:=.agg [vI f.node,vI f.atom,vI f.fr,vI f.x,vI f.y,vI f.w,vI f.h]
def fv(l:List RY)(k:Int):SU:=⟨(Sq l k).node,k,0,(Sq l k).x,0,(Sq l k).w,(Sq l k).h⟩
def SU.bT(f:SU)(d:Int):SU:={ f with fr:=d,h:=f.h-d }
def SU.cut(f:SU)(a:Int):SU:={ f with h:=min f.h a }
def jh(l:List RY)(f:SU):R0:=if f.fr+f.h<(Sq l f.atom).h then⟨f.atom,f.fr+f.h,false⟩else⟨f.atom+1,0,false⟩
def EG(l:List RY)(k:Nat)(hk:k<l.length):aV prog 289 [bl l,vI k] (bo (fv l k)):=λU=>by
 refine Pu.r (by simp[Ky]) ?_;have hs:=aa.refl U;have Q9:=λU=>iz (U:=U) hk;rw[fv,bz hk];refine ad.mix 6 ?_;apply sR;simp only[go_sem,seval,Ky];refine af λi4 Z4 s4 a4 f4=>?_;have z4:=hs.none f4;replace hs:=hs.trans s4;simp only[go_sem,seval,Q9,cF,ak,al];refine af λi5 Z5 s5 a5 f5=>?_;have Tp:=aq a4 f5;replace a4:=s5 _ _ a4;have z5:=hs.none f5;replace hs:=hs.trans s5;simp only[go_sem,seval,a5,a4,ab Tp,ak,al];exact ay.pure ((hs.aE z5).aE z4) rfl
def yE(f:SU)(d:Int)(hr:Rq .i64 (f.h-d)){U:ai}{i:Nat}(h:U i=some ⟨367,7,[bo f]⟩):
 aD prog 290 [.ptr i 0 0,vI d] U λ_ Z'=>Z'=C' U i ⟨367,7,[bo (f.bT d)]⟩:=by
 refine Om.r (by simp[LK]) ?_;rw[bo]at h;refine ad.mix 4 ?_;generalize hX:(C' U i ⟨367,7,[bo (f.bT d)]⟩)=X;apply sR;simp only[go_sem,seval,LK,h,hr];exact⟨_,_,aa.refl _,Wk.refl (aa.refl _) _,hX⟩
def Ha(f:SU)(a:Int){U:ai}{i:Nat}(h:U i=some ⟨367,7,[bo f]⟩):
 aD prog 291 [.ptr i 0 0,vI a] U λ_ Z'=>Z'=C' U i ⟨367,7,[bo (f.cut a)]⟩:=by
 refine Ql.r (by simp[JG]) ?_;rw[bo]at h;refine ad.mix 4 ?_;generalize hX:(C' U i ⟨367,7,[bo (f.cut a)]⟩)=X;apply sR;simp only[go_sem,seval,JG,h,e8];exact⟨_,_,aa.refl _,Wk.refl (aa.refl _) _,hX⟩
def A2(l:List RY)(f:SU)(k:Nat)(hf:f.atom=k)(hk:k<l.length)(hl:l.length<=1000000000)(hr:Rq .i64 (f.fr+f.h)){U:ai}{i:Nat}(h:U i=some ⟨367,7,[bo f]⟩):
 aD prog 292 [.ptr i 0 0,bl l] U λr Z'=>r=bj (jh l f)/\Z'=U:=by
 refine O0.r (by simp[KH]) ?_;have hs:=aa.refl U;have Q9:=λU=>iz (U:=U) hk;obtain⟨nd,RD,fr,x,y,w,hh⟩:=f;simp only at hf hr;subst hf;rw[bo]at h;unfold jh;simp only;rw[bz hk];have r1:Rq .i64 ((k:Int)+1):=ao (by omega) (by omega);refine ad.mix 6 ?_;apply sR;simp only[go_sem,seval,KH];refine af λi4 Z4 s4 a4 f4=>?_;have z4:=hs.none f4;replace hs:=hs.trans s4;have b:=s4 _ _ h;have n4:i≠i4:=aq h f4;by_cases hc:fr+hh<l[k].h
 .have q:(fr+hh<l[k].h)=True:=eq_true hc;rw[if_pos hc];simp only[go_sem,seval,a4,b,hr,r1,q,Q9,cF];exact ay.pure (hs.aE z4) rfl
 .have q:(fr+hh<l[k].h)=False:=eq_false hc;rw[if_neg hc];simp only[go_sem,seval,a4,b,hr,r1,q,Q9,cF];exact ay.pure (hs.aE z4) rfl
open Go.Proofs Go.Proofs.Tryz
def kC{s:Nat->V}{U:ai}{a1 a2:Bool}{n1 n2 d e:Nat}{Post:V->ai->Prop}:
 Vr [.cell a1 n1 (.t d),.cell a2 n2 (.t e)] ⟨s,U⟩ Post=dV (bS U a1 n1 (s d)) λv=>dV (bS U a2 n2 (s e)) λw=>ay (.Rf [v,w]) U Post:=by
 unfold Vr ay mW;simp only[eX,gC,VX.ev];cases bS U a1 n1 (s d)<;>cases bS U a2 n2 (s e)<;>simp[dV]
def dU(l:List RY)(s:R0)(RJ:Int):SU:=((fv l s.atom).bT s.done).cut RJ
def ki(l:List RY)(s:R0)(RJ:Int):Prop:=bZ l s/\1<=RJ
instance (l:List RY) (s:R0) (RJ:Int):Decidable (ki l s RJ):=by unfold ki;infer_instance
def ic(l:List RY)(s:R0)(RJ:Int):SU:=if ki l s RJ then dU l s RJ else⟨0,0,0,0,0,0,0⟩
def ew(l:List RY)(s:R0)(RJ:Int):R0:=if ki l s RJ then jh l (dU l s RJ)else⟨0,0,false⟩
def KS(l:List RY)(hl:lF l)(s:R0)(hd:s.done<=1152921504606846976)(RJ:Int):aV prog 241 [bl l,bj s,vI RJ] (.Rf [bo (ic l s RJ),bj (ew l s RJ)]):=λU=>by
 refine O3.r (by simp[LD]) ?_;have hs:=aa.refl U;have XO:=hl.len;have TS:(bj s).cells=[vI s.atom,vI s.done,.bool s.free]:=rfl;have UH:(bj s).stays=true:=rfl;refine ad.mix 9 ?_;apply sR;simp only[go_sem,seval,LD,TS,UH,ak,al];refine af λi4 Z4 s4 a4 f4=>?_;have z4:=hs.none f4;replace hs:=hs.trans s4;simp only[go_sem,seval];refine af λi6 Z6 s6 a6 f6=>?_;have Zd:=aq a4 f6;replace a4:=s6 _ _ a4;have z6:=hs.none f6;replace hs:=hs.trans s6;simp only[go_sem,seval];refine af λi7 Z7 s7 a7 f7=>?_;have n47:=aq a4 f7;replace a4:=s7 _ _ a4;have VK:=aq a6 f7;replace a6:=s7 _ _ a6;have z7:=hs.none f7;replace hs:=hs.trans s7;have b4:=a4;rw[bj]at b4;simp only[go_sem,seval,b4,ak,al];refine ad.aB rfl rfl rfl (p7 l s _) ?_;have bad:¬ki l s RJ->(bo (ic l s RJ)=.agg [vI 0,vI 0,vI 0,vI 0,vI 0,vI 0,vI 0]/\bj (ew l s RJ)=.agg [vI 0,vI 0,.bool false]):=λh=>by
  rw[ic,ew,if_neg h,if_neg h];exact⟨rfl,rfl⟩
 have XE:ki l s RJ->(ic l s RJ=dU l s RJ/\ew l s RJ=jh l (dU l s RJ)):=λh=>⟨if_pos h,if_pos h⟩
 generalize ic l s RJ=X at*;generalize ew l s RJ=Y at*;by_cases hm:bZ l s
 .rw[decide_eq_true hm];by_cases h1:RJ<1
  .have q1:(RJ<1)=True:=eq_true h1;obtain⟨e1,e2⟩:=bad (λh=>by have:=h.2;omega);rw[e1,e2];apply sR;simp only[go_sem,seval,a6,a7,ab VK,ab VK.symm,q1,kC];exact ay.pure ((hs.aE z6).aE z7) rfl
  have q1:(RJ<1)=False:=eq_false h1;obtain⟨rfl,rfl⟩:=XE ⟨hm,by omega⟩;clear XE bad;obtain⟨h0,h2⟩:=hm.1;obtain⟨k,hk⟩:∃k:Nat,s.atom=k:=⟨s.atom.toNat,by omega⟩
  have Tv:k<l.length:=by omega
  apply sR;simp only[go_sem,seval,b4,hk,q1,ak,al];refine ad.aB rfl rfl rfl (EG l k Tv _) ?_;have Va:∀f,(bo f).cells=[vI f.node,vI f.atom,vI f.fr,vI f.x,vI f.y,vI f.w,vI f.h]:=λ_=>rfl;apply sR;simp only[go_sem,seval];refine af λi8 Z8 s8 a8 f8=>?_;have n48:=aq a4 f8;replace a4:=s8 _ _ a4;have n68:=aq a6 f8;replace a6:=s8 _ _ a6;have Xk:=aq a7 f8;replace a7:=s8 _ _ a7;have z8:=hs.none f8;replace hs:=hs.trans s8;have Vv:=hm.2.1;have hy:=hl.Xp _ (List.getElem_mem Tv);have hdh:s.done=0\/s.done<l[k].h:=by have:=hm.2.2;rw[hk,bz Tv]at this;exact this
  have YQ:(fv l k).h=l[k].h:=by rw[fv,bz Tv]
  have Tk:∀f,(bo f).stays=true:=λ_=>rfl;rw[bj]at a4;simp only[go_sem,seval,a8,a4,ab n48,Va,Tk];generalize SC:C' _ i8 _=Y8;replace a8:=(congrFun SC i8).symm.trans ag;replace a4:=((congrFun SC i4).symm.trans (ab n48)).trans a4;replace a6:=((congrFun SC i6).symm.trans (ab n68)).trans a6;replace a7:=((congrFun SC i7).symm.trans (ab Xk)).trans a7;replace hs:=Eq.subst (motive:=aa _) SC (hs.aE z8);clear SC;have h8:Y8 i8=some ⟨367,7,[bo (fv l k)]⟩:=a8;refine ad.call rfl rfl rfl (yE (fv l k) s.done (ao (by omega) (by omega)) h8) ?_;rintro-Z9 rfl;generalize SC:C' _ i8 _=Y8;replace a8:=(congrFun SC i8).symm.trans ag;replace a4:=((congrFun SC i4).symm.trans (ab n48)).trans a4;replace a6:=((congrFun SC i6).symm.trans (ab n68)).trans a6;replace a7:=((congrFun SC i7).symm.trans (ab Xk)).trans a7;replace hs:=Eq.subst (motive:=aa _) SC (hs.aE z8);clear SC;apply sR;simp only[go_sem,seval];refine ad.call rfl rfl rfl (Ha ((fv l k).bT s.done) RJ a8) ?_;rintro-Z9 rfl;generalize SC:C' _ i8 _=Y8;replace a8:=(congrFun SC i8).symm.trans ag;replace a4:=((congrFun SC i4).symm.trans (ab n48)).trans a4;replace a6:=((congrFun SC i6).symm.trans (ab n68)).trans a6;replace a7:=((congrFun SC i7).symm.trans (ab Xk)).trans a7;replace hs:=Eq.subst (motive:=aa _) SC (hs.aE z8);clear SC;have WE:((fv l k).bT s.done).cut RJ=dU l s RJ:=by rw[dU,hk]
  rw[WE]at a8;have ha:(dU l s RJ).atom=k:=by rw[<-WE];rfl
  have Us:(dU l s RJ).fr=s.done:=by rw[<-WE];rfl
  have hhh:(dU l s RJ).h=min (l[k].h-s.done) RJ:=by rw[<-WE,<-YQ];rfl
  have ZQ:=λ(Z1:ai) (h1:aa Y8 Z1)=>A2 l (dU l s RJ) k ha Tv XO (ao (by omega) (by omega)) (h1 _ _ a8);generalize jh l (dU l s RJ)=Y at*;generalize dU l s RJ=X at*;have b8:=a8;rw[bo]at b8;apply sR;simp only[go_sem,seval,b8];refine Go.wi rfl rfl rfl (λZ1 h1=>ZQ Z1 h1) ?_;have hyc:(bj Y).cells=[vI Y.atom,vI Y.done,.bool Y.free]:=rfl;have hys:(bj Y).stays=true:=rfl;apply sG;simp only[go_sem,seval,a6,a7,ab VK,ab VK.symm,hyc,hys,kC];exact ay.pure ((hs.aE z6).aE z7) rfl
 .rw[decide_eq_false hm];obtain⟨e1,e2⟩:=bad (λh=>hm h.1);rw[e1,e2];apply sR;simp only[go_sem,seval,a6,a7,ab VK,ab VK.symm,kC];exact ay.pure ((hs.aE z6).aE z7) rfl
open Go.Proofs Go.Proofs.Tryz
def jI(l:List RY)(k:Int)(y:Int):SU:={ fv l k with y:=y }
def cU(l:List RY)(s:R0)(kept shift k:Int):SU:=
 if bZ l s/\s.atom<=k/\k<l.length then
  (if k=s.atom then{ (jI l k (dp l s kept shift k)).bT s.done with y:=dp l s kept shift k+s.done }else jI l k (dp l s kept shift k))
 else⟨0,0,0,0,0,0,0⟩
def CH(l:List RY)(hl:lF l)(s:R0)(hd:s.done<=1152921504606846976)(kept shift k:Int)(hk:-1152921504606846976<=kept/\kept<=2305843009213693952)(UM:0<=shift/\shift<=1152921504606846976):
 aV prog 243 [bl l,bj s,vI kept,vI shift,vI k] (bo (cU l s kept shift k)):=λU=>by
 refine Q3.r (by simp[Jj]) ?_;have hs:=aa.refl U;have hlen:=gG l;have TS:(bj s).cells=[vI s.atom,vI s.done,.bool s.free]:=rfl;have UH:(bj s).stays=true:=rfl;have Ua:=xL l hl s hd kept shift k hk UM;have Zj:=nP hl hd hk UM k;refine ad.mix 12 ?_;apply sR;simp only[go_sem,seval,Jj,TS,UH,ak,al];refine af λi6 Z6 s6 a6 f6=>?_;have z6:=hs.none f6;replace hs:=hs.trans s6;simp only[go_sem,seval];refine af λRP Ws Tz RU f10=>?_;have n610:=aq a6 f10;replace a6:=Tz _ _ a6;have U7:=hs.none f10;replace hs:=hs.trans Tz;rw[bj]at a6 Ua;simp only[go_sem,seval,a6,ak,al];refine ad.aB rfl rfl rfl (p7 l s _) ?_;have bad:¬(bZ l s/\s.atom<=k/\k<l.length)->bo (cU l s kept shift k)=.agg [vI 0,vI 0,vI 0,vI 0,vI 0,vI 0,vI 0]:=λh=>by
  rw[cU,if_neg h];rfl
 have XE:(bZ l s/\s.atom<=k/\k<l.length)->cU l s kept shift k=(if k=s.atom then{ (jI l k (dp l s kept shift k)).bT s.done with y:=dp l s kept shift k+s.done }else jI l k (dp l s kept shift k)):=λh=>if_pos h;generalize cU l s kept shift k=X at*;by_cases hm:bZ l s
 .rw[decide_eq_true hm];by_cases h1:k<s.atom
  .have q1:(k<s.atom)=True:=eq_true h1;rw[bad (λh=>by omega)];apply sR;simp only[go_sem,seval,a6,RU,q1,ak,al];exact ay.pure (hs.aE U7) rfl
  have q1:(k<s.atom)=False:=eq_false h1;by_cases h2:k>=l.length
  .have q2:(k>=l.length)=True:=eq_true h2;rw[bad (λh=>by omega)];apply sR;simp only[go_sem,seval,a6,RU,q1,q2,hlen,ak,al];exact ay.pure (hs.aE U7) rfl
  have q2:(k>=l.length)=False:=eq_false h2;obtain rfl:=XE ⟨hm,by omega,by omega⟩;clear XE bad;obtain⟨h0,h3⟩:=hm.1;obtain⟨n,rfl⟩:∃n:Nat,k=n:=⟨k.toNat,by omega⟩
  have UR:n<l.length:=by omega
  apply sR;simp only[go_sem,seval,a6,q1,q2,hlen,ak,al];refine ad.aB rfl rfl rfl (EG l n UR _) ?_;have Va:∀f,(bo f).cells=[vI f.node,vI f.atom,vI f.fr,vI f.x,vI f.y,vI f.w,vI f.h]:=λ_=>rfl;have Tk:∀f,(bo f).stays=true:=λ_=>rfl;generalize dp l s kept shift (n:Int)=P at*;apply sR;simp only[go_sem,seval,Va,Tk];refine af λTc ZM Vu U8 f11=>?_;have Uo:=aq a6 f11;replace a6:=Vu _ _ a6;have Sw:=aq RU f11;replace RU:=Vu _ _ RU;have z11:=hs.none f11;replace hs:=hs.trans Vu;simp only[go_sem,seval,U8,a6,ab (Ne.symm Uo),ab Uo,Va,Tk,ak,al];generalize SO:C' _ Tc _=Y11;replace U8:=(congrFun SO Tc).symm.trans ag;replace a6:=((congrFun SO i6).symm.trans (ab Uo)).trans a6;replace RU:=((congrFun SO RP).symm.trans (ab Sw)).trans RU;replace hs:=Eq.subst (motive:=aa _) SO (hs.aE z11);clear SO;refine ad.aB rfl rfl rfl (Ua _) ?_;rw[bo]at U8;have Vv:=hm.2.1;have hy:=hl.Xp _ (List.getElem_mem UR);have YQ:(fv l n).h=l[n].h:=by rw[fv,bz UR]
  by_cases he:(n:Int)=s.atom
  .have q3:((n:Int)=s.atom)=True:=eq_true he;rw[if_pos he];have r2:Rq .i64 (P+s.done):=ao (by omega) (by omega);apply sR;simp only[go_sem,seval,U8,a6,q3,ak,al,ab Uo];generalize SO:C' _ Tc _=Y11;replace U8:=(congrFun SO Tc).symm.trans ag;replace a6:=((congrFun SO i6).symm.trans (ab Uo)).trans a6;replace RU:=((congrFun SO RP).symm.trans (ab Sw)).trans RU;replace hs:=Eq.subst (motive:=aa _) SO (hs.aE z11);clear SO;have Vw:Y11 Tc=some ⟨367,7,[bo (jI l n P)]⟩:=U8;refine ad.call rfl rfl rfl (yE (jI l n P) s.done (ao (by show _<=(fv l n).h-s.done;omega) (by show(fv l n).h-s.done<=_;omega)) Vw) ?_;rintro-Z9 rfl;generalize SO:C' _ Tc _=Y11;replace U8:=(congrFun SO Tc).symm.trans ag;replace a6:=((congrFun SO i6).symm.trans (ab Uo)).trans a6;replace RU:=((congrFun SO RP).symm.trans (ab Sw)).trans RU;replace hs:=Eq.subst (motive:=aa _) SO (hs.aE z11);clear SO;rw[bo]at U8;have r3:Rq .i64 (((jI l n P).bT s.done).y+s.done):=r2;apply sR;simp only[go_sem,seval,U8,a6,RU,r3,ab Uo,ab Sw];exact ay.pure ((hs.aE z11).aE U7) rfl
  .have q3:((n:Int)=s.atom)=False:=eq_false he;rw[if_neg he];apply sR;simp only[go_sem,seval,U8,a6,RU,q3,ak,al,ab Uo,ab Sw];exact ay.pure ((hs.aE z11).aE U7) rfl
 .rw[decide_eq_false hm];rw[bad (λh=>hm h.1)];apply sR;simp only[go_sem,seval,RU];exact ay.pure (hs.aE U7) rfl
open Go.Proofs Go.Proofs.Tryz
def mulR(a n:Int):Int:=
 if dL n≠0/\(dL a>(1099511627776:Int).tdiv (max (dL n) (-dL n))\/dL a<(-1099511627776:Int).tdiv (max (dL n) (-dL n)))then
  (if decide (dL a<0)=decide (dL n<0)then 1099511627776 else -1099511627776)
 else dL a*dL n
def Hk{A B:Int}(h1:A<=(1099511627776:Int).tdiv (max B (-B)))(h2:(-1099511627776:Int).tdiv (max B (-B))<=A)(hB:B≠0):-1099511627776<=A*B/\A*B<=1099511627776:=by
 obtain⟨M,hM⟩:∃M,M=max B (-B):=⟨_,rfl⟩
 rw[<-hM]at h1 h2;have hM1:1<=M:=by omega
 rw[Int.neg_tdiv]at h2;rw[Int.tdiv_eq_ediv_of_nonneg (by omega)]at h1 h2;have h3:(1099511627776:Int)/M*M<=1099511627776:=Int.ediv_mul_le _ (by omega);have h4:=Int.mul_le_mul_of_nonneg_right h1 (by omega:0<=M);have h5:=Int.mul_le_mul_of_nonneg_right h2 (by omega:0<=M);rw[Int.neg_mul]at h5;rcases(by omega:M=B\/M=-B)with e|e
 .rw[e]at h4 h5 h3;omega
 .have hb:B=-M:=by omega
  rw[hb,Int.mul_neg];omega
def Ny(a n:Int):aV prog 47 [vI a,vI n] (vI (mulR a n)):=λU=>by
 refine e47.r (by simp[c47]) ?_;refine ad.mix 5 ?_;apply sR;simp only[go_sem,seval,c47];refine ad.aB rfl rfl rfl (yY a _) ?_;apply sR;simp only[go_sem,seval];refine ad.aB rfl rfl rfl (yY n _) ?_;unfold mulR;have hA:-1099511627776<=dL a/\dL a<=1099511627776:=by unfold dL;omega
 have hB:-1099511627776<=dL n/\dL n<=1099511627776:=by unfold dL;omega
 generalize dL a=A at*;generalize dL n=B at*;have b1:(true==true)=true:=rfl;have b2:(true==false)=false:=rfl;have b3:(false==true)=false:=rfl;have b4:(false==false)=true:=rfl;by_cases h0:B=0
 .subst h0;have q0:((0:Int)≠0)=False:=eq_false (λh=>h rfl);have r1:Rq .i64 (A*0):=ao (by omega) (by omega);apply sR;simp only[go_sem,seval,q0,r1];exact ay.same (by rw[if_neg (by simp)])
 have q0:(B≠0)=True:=eq_true h0;have hM1:1<=max B (-B)/\max B (-B)<=1099511627776:=by omega
 have qM:(max B (-B)=0)=False:=eq_false (by omega);have rn:Rq .i64 (-B):=ao (by omega) (by omega);have t1:0<=(1099511627776:Int).tdiv (max B (-B))/\(1099511627776:Int).tdiv (max B (-B))<=1099511627776:=by
  rw[Int.tdiv_eq_ediv_of_nonneg (by omega)];exact⟨Int.ediv_nonneg (by omega) (by omega),Int.ediv_le_self _ (by omega)⟩
 have t2:(-1099511627776:Int).tdiv (max B (-B))=-((1099511627776:Int).tdiv (max B (-B))):=Int.neg_tdiv ..;have hr:=Hk (A:=A) (B:=B);have rq1:Rq .i64 ((1099511627776:Int).tdiv (max B (-B))):=ao (by omega) (by omega);have rq2:Rq .i64 ((-1099511627776:Int).tdiv (max B (-B))):=ao (by omega) (by omega);by_cases h1:A>(1099511627776:Int).tdiv (max B (-B))
 .have q1:(A>(1099511627776:Int).tdiv (max B (-B)))=True:=eq_true h1;rw[if_pos ⟨h0,.inl h1⟩];by_cases sA:A<0
  .have qA:(A<0)=True:=eq_true sA;by_cases sB:B<0
   .have qB:(B<0)=True:=eq_true sB;apply sR;simp only[go_sem,seval,q0,Int.zero_sub,rn,dh,qM,rq1,q1,qA,qB,b1,b2,b3,b4];exact ay.same (by first|rfl|simp[sA,sB])
   .have qB:(B<0)=False:=eq_false sB;apply sR;simp only[go_sem,seval,q0,Int.zero_sub,rn,dh,qM,rq1,q1,qA,qB,b1,b2,b3,b4];exact ay.same (by first|rfl|simp[sA,sB])
  .have qA:(A<0)=False:=eq_false sA;by_cases sB:B<0
   .have qB:(B<0)=True:=eq_true sB;apply sR;simp only[go_sem,seval,q0,Int.zero_sub,rn,dh,qM,rq1,q1,qA,qB,b1,b2,b3,b4];exact ay.same (by first|rfl|simp[sA,sB])
   .have qB:(B<0)=False:=eq_false sB;apply sR;simp only[go_sem,seval,q0,Int.zero_sub,rn,dh,qM,rq1,q1,qA,qB,b1,b2,b3,b4];exact ay.same (by first|rfl|simp[sA,sB])
 have q1:(A>(1099511627776:Int).tdiv (max B (-B)))=False:=eq_false h1;by_cases h2:A<(-1099511627776:Int).tdiv (max B (-B))
 .have q2:(A<(-1099511627776:Int).tdiv (max B (-B)))=True:=eq_true h2;rw[if_pos ⟨h0,.inr h2⟩];by_cases sA:A<0
  .have qA:(A<0)=True:=eq_true sA;by_cases sB:B<0
   .have qB:(B<0)=True:=eq_true sB;apply sR;simp only[go_sem,seval,q0,Int.zero_sub,rn,dh,qM,rq1,q1,rq2,q2,qA,qB,b1,b2,b3,b4];exact ay.same (by first|rfl|simp[sA,sB])
   .have qB:(B<0)=False:=eq_false sB;apply sR;simp only[go_sem,seval,q0,Int.zero_sub,rn,dh,qM,rq1,q1,rq2,q2,qA,qB,b1,b2,b3,b4];exact ay.same (by first|rfl|simp[sA,sB])
  .have qA:(A<0)=False:=eq_false sA;by_cases sB:B<0
   .have qB:(B<0)=True:=eq_true sB;apply sR;simp only[go_sem,seval,q0,Int.zero_sub,rn,dh,qM,rq1,q1,rq2,q2,qA,qB,b1,b2,b3,b4];exact ay.same (by first|rfl|simp[sA,sB])
   .have qB:(B<0)=False:=eq_false sB;apply sR;simp only[go_sem,seval,q0,Int.zero_sub,rn,dh,qM,rq1,q1,rq2,q2,qA,qB,b1,b2,b3,b4];exact ay.same (by first|rfl|simp[sA,sB])
 have q2:(A<(-1099511627776:Int).tdiv (max B (-B)))=False:=eq_false h2;have hr':=hr (by omega) (by omega) h0;have r3:Rq .i64 (A*B):=ao (by omega) (by omega);rw[if_neg (λh=>by rcases h.2 with h|h;exact h1 h;exact h2 h)]
 apply sR;simp only[go_sem,seval,q0,Int.zero_sub,rn,dh,qM,rq1,q1,rq2,q2,r3];exact ay.same rfl
open Go.Proofs Go.Proofs.Tryz
def Dg(l:List P')(hl:l.length<=1000000):Iter prog 321 [.rp (aH l)] (l.map λf=>[aQ f]):=by
 refine⟨M1.c,λRF τ Jx Z0 hy hJ=>?_⟩;refine(M1.r (by simp[MJ]) ?_).2;have ldF:∀U:ai,bS U false 1 (.rp (aH l))=some (aH l):=λU=>rfl;have US:=gj l;refine ad.mix 5 ?_;apply sR;simp only[go_sem,seval,MJ,ldF,US];refine ad.loop (λm st=>∃(j:Nat) (ZJ:ai),j<=l.length/\m=l.length-j/\τ ((l.take j).map λf=>[aQ f]) ZJ/\aa ZJ st.U/\st.s 0=.yl RF/\st.s 5=aH l/\st.s 6=vI l.length/\st.s 7=vI j) l.length ?_ ?_
 .exact⟨0,Z0,by omega,rfl,by simpa using hJ,aa.refl _,rfl,rfl,rfl,rfl⟩
 .rintro m ⟨S,J⟩ ⟨j,ZJ,hj,rfl,SV,G',t0,t5,t6,t7⟩;simp only at G' t0 t5 t6 t7;refine ad.mix 5 ?_;by_cases H':j<l.length
  .have q:((j:Int)<l.length)=True:=eq_true (by omega);have r1:Rq .i64 ((j:Int)+1):=ao (by omega) (by omega);have Q9:=λU=>ke (U:=U) H';have e0':l=l.take j++l[j]::l.drop (j+1):=by rw[<-List.drop_eq_getElem_cons H',List.take_append_drop]
   have e:(l.map λf=>[aQ f])=((l.take j).map λf=>[aQ f])++[aQ l[j]]::((l.drop (j+1)).map λf=>[aQ f]):=by
    have:=congrArg (List.map λf=>[aQ f]) e0'
    rwa [List.map_append,List.map_cons]at this
   have Sf:((l.take (j+1)).map λf=>[aQ f])=((l.take j).map λf=>[aQ f])++[[aQ l[j]]]:=by rw[List.take_succ_eq_append_getElem H',List.map_append];rfl
   have UL:aQ l[j]=.agg [vI l[j].node,vI l[j].side,vI l[j].anchor,vI l[j].x,vI l[j].y,vI l[j].w,vI l[j].h]:=rfl;generalize l[j]=x at*;apply sR;simp only[go_sem,seval,t0,t5,t6,t7,q,Q9,UL];refine af λi4 Z4 s4 a4 f4=>?_;simp only[go_sem,seval,a4,t0,t5,t6,t7];generalize SZ:C' Z4 i4 _=Y4;have hs4:aa J Y4:=by rw[<-SZ];exact s4.aE f4
   clear SZ;refine ad.mA (Post:=λb' Z2=>∃RC,bh ZJ Y4 RC Z2/\((b'=true/\τ (((l.take j).map λf=>[aQ f])++[[aQ x]]) RC)\/(b'=false/\Jx (((l.take j).map λf=>[aQ f])++[[aQ x]]) RC))) rfl rfl rfl (hy _ [aQ x] _ ZJ Y4 e SV (G'.trans hs4)) ?_;rintro b' Z2 ⟨RC,Sl,R6⟩;rcases R6 with⟨rfl,R6⟩|⟨rfl,R6⟩
   .apply sR;simp only[go_sem,seval,t0,t5,t6,t7,r1];refine⟨_,?_,j+1,RC,by omega,rfl,by rw[Sf];exact R6,Sl.1,by simp[t0,t5,t6]⟩;omega
   .apply sR;simp only[go_sem,seval,t0,t5,t6,t7];exact⟨_,RC,Sl.1,Wk.refl Sl.1 _,.inr ⟨_,⟨_,by rw[e,List.append_assoc];rfl⟩,R6⟩⟩
  .have q:((j:Int)<l.length)=False:=eq_false (by omega);rw[List.take_of_length_le (by omega)]at SV;apply sR;simp only[go_sem,seval,t0,t5,t6,t7,q];exact⟨_,ZJ,G',Wk.refl G' _,.inl SV⟩
def Me(l:List P'):aV prog 293 [aH l] (.fn 321 [.rp (aH l)]):=λU=>by
 refine PJ.r (by simp[KG]) ?_;refine ad.mix 3 ?_;have q1:=ar l;have q2:=au l;generalize aH l=x at*;apply sR;simp only[go_sem,seval,KG,q1,q2];refine af λUJ Z1 s1 a1 f1=>?_;simp only[go_sem,seval,q1,q2];exact⟨_,U,s1,Wk.fn (vs':=[.rp x]) ⟨Wk.ptr s1 a1 f1,trivial⟩,rfl,rfl⟩
def tN(bT to:Int)(f:P'):Bool:=decide (f.anchor<bT\/f.anchor>=to)
def Ku(bT to:Int)(f:P'){U:ai}{i4 i5:Nat}(a4:U i4=some ⟨3,1,[vI bT]⟩)(a5:U i5=some ⟨3,1,[vI to]⟩):
 aD prog 334 [aQ f,.ptr i4 0 0,.ptr i5 0 0] U λr Z'=>r=.bool (tN bT to f)/\Z'=U:=by
 refine OF.r (by simp[I4]) ?_;have hs:=aa.refl U;refine ad.mix 5 ?_;apply sR;simp only[go_sem,seval,I4,aQ];refine af λi3 Z3 s3 a3 f3=>?_;have z3:=hs.none f3;replace hs:=hs.trans s3;have b4:=s3 _ _ a4;have b5:=s3 _ _ a5;by_cases h0:f.anchor<bT
 .have q0:(f.anchor<bT)=True:=eq_true h0;simp only[go_sem,seval,a3,b4,b5,q0];exact ay.pure hs (by simp[tN,h0])
 .have q0:(f.anchor<bT)=False:=eq_false h0;by_cases h1:f.anchor>=to
  .have q1:(f.anchor>=to)=True:=eq_true h1;simp only[go_sem,seval,a3,b4,b5,q0,q1];exact ay.pure hs (by simp[tN,h1])
  .have q1:(f.anchor>=to)=False:=eq_false h1;simp only[go_sem,seval,a3,b4,b5,q0,q1];exact ay.pure hs (by simp only[tN];rw[decide_eq_false (by omega)])
open Go.Proofs Go.Proofs.Tryz
def fV(p:P'->Bool):List P'->Nat->Int
 |[],_=>-1
 |f::r,i=>if p f then i else fV p r (i+1)
def zW{p:P'->Bool}{l:List P'}{i:Nat}(h:i<l.length):fV p (l.drop i) i=if p l[i]then(i:Int)else fV p (l.drop (i+1)) (i+1):=by
 rw[List.drop_eq_getElem_cons h,fV]
def EL{U:ai}{v:V}(l:List P')(hl:l.length<=1000000)(hr:Reads U 7 true v (l.map aQ)){f:FuncId}{caps:List V}(p:P'->Bool)
 (hf:∀x∈l,aD prog f (aQ x::caps) U λr Z'=>r=.bool (p x)/\Z'=U):
 aD prog 244 [v,.fn f caps] U λr Z'=>r=vI (fV p l 0)/\Z'=U:=by
 refine Qb.r (by simp[Md]) ?_;have hlv:dz false v=some (.int .i64 l.length):=by rw[hr.1,List.length_map]
 refine ad.mix 6 ?_;apply sR;simp only[go_sem,seval,Md,hlv];refine ad.loop (λm st=>∃i:Nat,i<=l.length/\m=l.length-i/\fV p l 0=fV p (l.drop i) i/\st.U=U/\st.s 0=v/\st.s 1=.fn f caps/\st.s 7=vI l.length/\st.s 8=vI i) l.length ?_ ?_
 .exact⟨0,by omega,rfl,rfl,rfl,rfl,rfl,rfl,rfl⟩
 .rintro m ⟨s,Z'⟩ ⟨i,hi,rfl,heq,RH,h0,h1,h7,h8⟩;simp only at RH h0 h1 h7 h8;subst RH;refine ad.mix 6 ?_;by_cases H':i<l.length
  .have q:((i:Int)<l.length)=True:=eq_true (by omega);have hd:=zW (p:=p) H';obtain⟨a,ha,Un⟩:=hr.2 i (aQ l[i]) (by simp[H']);have hfx:=hf l[i] (List.getElem_mem H');have r1:Rq .i64 ((i:Int)+1):=ao (by omega) (by omega);generalize l[i]=x at*;apply sR;simp only[go_sem,seval,h0,h1,h7,h8,q,ha,Un];refine ad.aB rfl rfl rfl hfx ?_;cases hp:p x
   .rw[hp]at hd;apply sR;simp only[go_sem,seval,h0,h1,h7,h8,r1];refine⟨_,?_,i+1,by omega,rfl,?_,by simp[h0,h1,h7]⟩
    .omega
    .rw[heq,hd];rfl
   .rw[hp]at hd;apply sR;simp only[go_sem,seval,h0,h1,h7,h8];refine ay.same ?_;rw[heq,hd];rfl
  .have q:((i:Int)<l.length)=False:=eq_false (by omega);have TV:i=l.length:=by omega
   apply sR;simp only[go_sem,seval,h0,h1,h7,h8,q];refine ay.same ?_;rw[heq,TV,List.drop_length];rfl
open Go.Proofs Go.Proofs.Tryz
def Gb(l:List RY)(hl:l.length<=1000000000):aV prog 61 [bl l] (bl l):=
 zD func61 (e61.b.trans rfl) e61.c (l.map cF) (by simp;omega)
def yz(l:List P')(hl:l.length<=1000000000):aV prog 62 [aH l] (aH l):=
 zD func62 (e62.b.trans rfl) e62.c (l.map aQ) (by simp;omega)
open Go.Proofs Go.Proofs.Tryz
def kM(a:P'):List P'->Nat->Int
 |[],_=>-1
 |q::r,i=>if a=q then i else kM a r (i+1)
def Dc{a:P'}{p:List P'}{i:Nat}(h:i<p.length):kM a (p.drop i) i=if a=p[i]then(i:Int)else kM a (p.drop (i+1)) (i+1):=by
 rw[List.drop_eq_getElem_cons h,kM]
def Ea(p:List P')(hp:p.length<=1000000000)(a:P'):aV prog 172 [aH p,aQ a] (vI (kM a p 0)):=λU=>by
 refine OB.r (by simp[MH]) ?_;have hs:=aa.refl U;have XP:=gj p;have hac:(aQ a).cells=[vI a.node,vI a.side,vI a.anchor,vI a.x,vI a.y,vI a.w,vI a.h]:=rfl;have has:(aQ a).stays=true:=rfl;have he:∀b:P',iM false [0,0,0,0,0,0,0] (.agg [vI a.node,vI a.side,vI a.anchor,vI a.x,vI a.y,vI a.w,vI a.h]) (.agg [vI b.node,vI b.side,vI b.anchor,vI b.x,vI b.y,vI b.w,vI b.h])=some (.bool (decide (a=b))):=λb=>by
  have:(a=b)↔(a.node=b.node/\a.side=b.side/\a.anchor=b.anchor/\a.x=b.x/\a.y=b.y/\a.w=b.w/\a.h=b.h):=by
   cases a;cases b;simp
  simp only[iM,dI,cd,df,this];simp
 refine ad.mix 9 ?_;apply sR;simp only[go_sem,seval,MH,hac,has];refine af λi3 Z3 s3 a3 f3=>?_;have z3:=hs.none f3;replace hs:=hs.trans s3;simp only[go_sem,seval,XP,hac,has];rw[aQ]at a3;refine ad.loop (λm st=>∃(i:Nat),i<=p.length/\m=p.length-i/\kM a p 0=kM a (p.drop i) i/\st.U=Z3/\st.s 0=aH p/\st.s 3=.ptr i3 0 0/\st.s 7=vI p.length/\st.s 8=vI i) p.length ?_ ?_
 .exact⟨0,by omega,rfl,rfl,rfl,rfl,rfl,rfl,rfl⟩
 .rintro m ⟨s,Z'⟩ ⟨i,hi,rfl,heq,RH,h0,h3,h7,h8⟩;simp only at RH h0 h3 h7 h8;subst RH;refine ad.mix 9 ?_;by_cases H':i<p.length
  .have q:((i:Int)<p.length)=True:=eq_true (by omega);have hd:=Dc (a:=a) H';have Q9:=λU=>ke (U:=U) H';have r1:Rq .i64 ((i:Int)+1):=ao (by omega) (by omega);have XQ:=he p[i];have UL:aQ p[i]=.agg [vI p[i].node,vI p[i].side,vI p[i].anchor,vI p[i].x,vI p[i].y,vI p[i].w,vI p[i].h]:=rfl;by_cases hc:a=p[i]
   .rw[decide_eq_true hc]at XQ;apply sR;simp only[BB,seval,<-decide_not,bw,fi,aL,cQ,eN,ej,eK,dY,ct,jS,gx,bI,fC,dN,fq,cM,cP,bF,iN,dg,cT,ck,Sk,jV,dc,cc,dI,cd,df,cY,kT,binBV,bW,dq,V.cells,V.stays,Tm.nothing,h0,h3,h7,h8,q,a3,Q9,UL,XQ];refine ay.pure hs ?_;rw[heq,hd,if_pos hc]
   .rw[decide_eq_false hc]at XQ;apply sR;simp only[BB,seval,<-decide_not,bw,fi,aL,cQ,eN,ej,eK,dY,ct,jS,gx,bI,fC,dN,fq,cM,cP,bF,iN,dg,cT,ck,Sk,jV,dc,cc,dI,cd,df,cY,kT,binBV,bW,dq,V.cells,V.stays,Tm.nothing,h0,h3,h7,h8,q,a3,Q9,UL,XQ,r1];refine⟨_,?_,i+1,by omega,rfl,?_,by simp[h0,h3,h7]⟩
    .omega
    .rw[heq,hd,if_neg hc]
  .have q:((i:Int)<p.length)=False:=eq_false (by omega);have TV:i=p.length:=by omega
   apply sR;simp only[go_sem,seval,h0,h3,h7,h8,q];refine ay.pure hs ?_;rw[heq,TV,List.drop_length];rfl
open Go
def To.same{U:ai}{N:Nat->Prop}:∀(vs:List V),gq vs=true->To U N vs vs
 |[],_=>.nil
 |v::vs,h=>by
  simp only[gq,Ba]at h;exact .cons _ _ _ _ (.same v h.1) (To.same vs h.2)
def To.app{U:ai}{N:Nat->Prop}:∀{a b c d:List V},To U N a b->To U N c d->To U N (a++c) (b++d)
 |_,_,_,_,.nil,h=>h
 |_,_,_,_,.cons v u vs us h h',h2=>.cons v u _ _ h (To.app h' h2)
def To.one{U:ai}{N:Nat->Prop}{v u:V}(h:Fz U N v u):To U N [v] [u]:=.cons _ _ _ _ h .nil
def aT.fz{K U:ai}{N:Nat->Prop}{e sz:Nat}{v:V}{rows:List V}(h:aT K U e sz v rows)(hN:∀id,K id=none->N id)(hr:gq rows=true):Fz U N v (.sl sz rows):=by
 rcases h with⟨rfl,rfl⟩|⟨id,rfl,ho,hk⟩
 .exact .nil sz
 .exact .own id 0 rows.length ⟨e,sz,rows⟩ rows ho (hN id hk) (by simp) (by rw[List.drop_zero,List.take_length];exact To.same rows hr)
def aT.ab{K U:ai}{e sz:Nat}{v:V}{rows:List V}(h:aT K U e sz v rows){id:Nat}{o:Ob}(hK:K id≠none):aT K (C' U id o) e sz v rows:=by
 rcases h with h|⟨q,h1,h2,h3⟩
 .exact .inl h
 .have:q≠id:=λe=>hK (by rw[<-e];exact h3);exact .inr ⟨q,h1,by rw[Vc.ab this];exact h2,h3⟩
def CZ(l:List Int):gq (l.map vI)=true:=by
 induction l with
 |nil=>rfl
 |cons x l ih=>rw[List.map_cons,gq,ih];rfl
abbrev NI(x:Nd):List V:=[vI x.kind,vI x.size,vI x.st.top,vI x.st.Ry,vI x.st.Rl,vI x.st.Rb,vI x.st.R9,vI x.st.RM,vI x.st.RV,vI x.st.head,vI x.st.before,vI x.st.after,vI x.st.inside,vI x.st.clear,vI x.line,vI x.space]
def ndW(x:Nd)(v:V):V:=.agg [vI x.kind,vI x.size,vI x.st.top,vI x.st.Ry,vI x.st.Rl,vI x.st.Rb,vI x.st.R9,vI x.st.RM,vI x.st.RV,vI x.st.head,vI x.st.before,vI x.st.after,vI x.st.inside,vI x.st.clear,vI x.line,vI x.space,v,vI x.side,vI x.w,vI x.h]
def M9{U:ai}{N:Nat->Prop}{x:Nd}{v:V}(h:Fz U N v (bn x.words)):Fz U N (ndW x v) (iB x):=by
 refine .agg _ _ ?_;exact(To.same (NI x) rfl).app ((To.one h).app (To.same [vI x.side,vI x.w,vI x.h] rfl))
def gg(K U:ai):List Nd->List V->Prop
 |[],[]=>True
 |x::l,r::rows=>(∃w,r=ndW x w/\aT K U 3 1 w (x.words.map vI))/\gg K U l rows
 |_,_=>False
def aT.kept{K U Z':ai}{id e:Nat}{w:V}{rows rows0:List V}(h:aT K U 3 1 w rows)(ho:U id=some ⟨e,20,rows0⟩)(hs:∀i,i≠id->∀o,U i=some o->Z' i=some o):aT K Z' 3 1 w rows:=by
 rcases h with h|⟨i,h1,h2,h3⟩
 .exact .inl h
 .have RK:i≠id:=λe=>by subst e;rw[ho]at h2;simp at h2
  exact .inr ⟨i,h1,hs i RK _ h2,h3⟩
def gg.kept{K U Z':ai}{id e:Nat}{rows0:List V}(ho:U id=some ⟨e,20,rows0⟩)(hs:∀i,i≠id->∀o,U i=some o->Z' i=some o):∀{l:List Nd} {rows:List V},gg K U l rows->gg K Z' l rows
 |[],[],_=>trivial
 |_::_,_::_,⟨⟨w,h1,h2⟩,h⟩=>⟨⟨w,h1,h2.kept ho hs⟩,gg.kept ho hs h⟩
 |[],_::_,h=>h.elim
 |_::_,[],h=>h.elim
def gg.mono{K U Z':ai}(hs:aa U Z'):∀{l:List Nd} {rows:List V},gg K U l rows->gg K Z' l rows
 |[],[],_=>trivial
 |_::_,_::_,⟨⟨w,h1,h2⟩,h⟩=>⟨⟨w,h1,h2.mono hs⟩,gg.mono hs h⟩
 |[],_::_,h=>h.elim
 |_::_,[],h=>h.elim
def aT.MS{K K' U:ai}{e sz:Nat}{v:V}{rows:List V}(h:aT K U e sz v rows)(hk:aa K' K):aT K' U e sz v rows:=by
 rcases h with h|⟨i,h1,h2,h3⟩
 .exact .inl h
 .exact .inr ⟨i,h1,h2,hk.none h3⟩
def gg.app{K U:ai}:∀{l l2:List Nd} {rows rows2:List V},gg K U l rows->gg K U l2 rows2->gg K U (l++l2) (rows++rows2)
 |[],_,[],_,_,h2=>h2
 |_::_,_,_::_,_,⟨h1,h⟩,h2=>⟨h1,gg.app h h2⟩
 |[],_,_::_,_,h,_=>h.elim
 |_::_,_,[],_,h,_=>h.elim
def gg.fz{K U:ai}{N:Nat->Prop}(hN:∀id,K id=none->N id):∀{l:List Nd} {rows:List V},gg K U l rows->To U N rows (l.map iB)
 |[],[],_=>.nil
 |_::_,_::_,⟨⟨w,h1,h2⟩,h⟩=>by
  rw[h1];exact .cons _ _ _ _ (M9 (h2.fz hN (CZ _))) (gg.fz hN h)
 |[],_::_,h=>h.elim
 |_::_,[],h=>h.elim
def yN(K U:ai)(v:V)(l:List Nd):Prop:=∃rows,aT K U 59 20 v rows/\gg K U l rows
def yN.fz{K U:ai}{N:Nat->Prop}{v:V}{l:List Nd}(h:yN K U v l)(hN:∀id,K id=none->N id):Fz U N v (aK l):=by
 obtain⟨rows,ho,hr⟩:=h;have hf:=hr.fz hN;rcases ho with⟨rfl,rfl⟩|⟨id,rfl,ho,hk⟩
 .cases l with
  |nil=>exact .nil 20
  |cons x l=>exact hr.elim
 .exact .own id 0 rows.length ⟨_,20,rows⟩ _ ho (hN id hk) (by simp) (by rw[List.drop_zero,List.take_length];exact hf)
open Go.Proofs Go.Proofs.Tryz
def HW(l:List Nd)(hl:l.length<=10000)(U:ai):aD prog 49 [aK l] U λr Z'=>aa U Z'/\aT U Z' 59 20 r (l.map iB):=by
 refine e49.r (by simp[c49]) ?_;refine ad.mix 3 ?_
 (refine ad.bN Tm.nothing 8 ?_;simp only[go_sem,seval,nQ,c49])
 refine ad.Dt rfl rfl rfl λb hb=>?_;cases b
 .apply sR;simp only[go_sem,seval];refine af λUJ Z1 s1 a1 f1=>?_;obtain⟨Rr,hd,Sv⟩:=(aT.new (K:=U) (e:=59) (sz:=20) (n:=0) (rows:=[]) rfl a1 f1).dst (aa.refl _);have X6:∀U,bR U 20 (aK l)=some (l.map iB):=λU=>by simp[aK,bR]
  have Sb:l.length*177<=140737488355328:=by omega
  simp only[go_sem,seval,hd,X6,List.length_map,Sb];refine fM λWg Z2 s2 a2 f2=>?_;have TQ:=(Sv U (aa.refl _) Z1 s1).trans s2;simp only[go_sem,seval];refine⟨_,_,aa.refl _,Wk.refl (aa.refl _) _,TQ,aT.new (by simp) a2 (s1.none f2)⟩
 .apply sR;simp only[go_sem,seval];refine⟨_,_,aa.refl _,Wk.refl (aa.refl _) _,aa.refl _,?_⟩;have:l.map iB=[]:=hb rfl;rw[this];exact aT.start
def Fx(l:List Int)(hl:l.length<=1000000000)(U:ai):aD prog 50 [bn l] U λr Z'=>aa U Z'/\aT U Z' 3 1 r (l.map vI):=by
 refine e50.r (by simp[c50]) ?_;refine ad.mix 3 ?_
 (refine ad.bN Tm.nothing 8 ?_;simp only[go_sem,seval,nQ,c50])
 refine ad.Dt rfl rfl rfl λb hb=>?_;cases b
 .apply sR;simp only[go_sem,seval];refine af λUJ Z1 s1 a1 f1=>?_;obtain⟨Rr,hd,Sv⟩:=(aT.new (K:=U) (e:=3) (sz:=1) (n:=0) (rows:=[]) rfl a1 f1).dst (aa.refl _);have Sb:l.length*9<=140737488355328:=by omega
  simp only[go_sem,seval,hd,wm,List.length_map,Sb];refine fM λWg Z2 s2 a2 f2=>?_;have TQ:=(Sv U (aa.refl _) Z1 s1).trans s2;simp only[go_sem,seval];exact⟨_,_,aa.refl _,Wk.refl (aa.refl _) _,TQ,aT.new (by simp) a2 (s1.none f2)⟩
 .apply sR;simp only[go_sem,seval];have:l.map vI=[]:=hb rfl;refine⟨_,_,aa.refl _,Wk.refl (aa.refl _) _,aa.refl _,?_⟩;rw[this];exact aT.start
open Go.Proofs Go.Proofs.Tryz
def GW(K U:ai)(e sz:Nat)(v:V)(rows:List V):Prop:=(v=.aC/\rows=[])\/∃id all,v=.own id 0 rows.length/\U id=some ⟨e,sz,all⟩/\all.take rows.length=rows/\K id=none
def aT.OJ{K U:ai}{e sz:Nat}{v:V}{rows:List V}(h:aT K U e sz v rows):GW K U e sz v rows:=by
 rcases h with h|⟨id,h1,h2,h3⟩
 .exact .inl h
 .exact .inr ⟨id,rows,h1,h2,List.take_length,h3⟩
def GW.wk{K U:ai}{e sz:Nat}{v:V}{rows:List V}(h:GW K U e sz v rows){K':ai}(hK:aa K' K)(hs:aa K' U):Wk U K' v (.sl sz rows):=by
 rcases h with⟨rfl,rfl⟩|⟨id,all,rfl,ho,ht,hk⟩
 .exact Wk.aC sz
 .have hl:rows.length<=all.length:=by
   have:=congrArg List.length ht;simp at this;omega
  have:=Wk.own hs ho (hK.none hk) (off:=0) (len:=rows.length) (by simpa using hl);rw[List.drop_zero,ht]at this;exact this
open Go.Proofs Go.Proofs.Tryz
def qI{p:P'->Bool}:∀(l:List P') (i:Nat),fV p l i<0->l.filter (λf=>!p f)=l
 |[],_,_=>rfl
 |x::l,i,h=>by
  rw[fV]at h;split at h
  .omega
  .rename_i hp;have hp':p x=false:=by simpa using hp
   simp only[List.filter_cons,hp',Bool.not_false,if_true,qI l _ h]
def qu{p:P'->Bool}:∀(l:List P') (i:Nat),¬fV p l i<0->∃w:Nat,fV p l i=((i+w:Nat):Int)/\w<l.length/\(l.take w).filter (λf=>!p f)=l.take w/\∀x,l[w]?=some x->p x=true
 |[],i,h=>by simp[fV]at h
 |x::l,i,h=>by
  rw[fV]at h|-;split
  .rename_i hp;exact⟨0,by simp,by simp,by simp,λy hy=>by simp at hy;subst hy;exact hp⟩
  .rename_i hp;rw[if_neg hp]at h;have hp':p x=false:=by simpa using hp
   obtain⟨w,h1,h2,h3,h4⟩:=qu l (i+1) h;refine⟨w+1,by rw[h1];congr 1;omega,by simp;omega,?_,by simpa using h4⟩;simp only[List.take_succ_cons,List.filter_cons,hp',Bool.not_false,if_true,h3]
def tp{p:P'->Bool}:∀(l:List P') (i:Nat),fV p l i<0->fV p l i=-1
 |[],_,_=>rfl
 |x::l,i,h=>by
  rw[fV]at h|-;split
  .rename_i hp;rw[if_pos hp]at h;omega
  .rename_i hp;rw[if_neg hp]at h;exact tp l _ h
abbrev lA(p:P'->Bool)(l:List P'):List P':=l.filter λf=>!p f
def vR{K U:ai}{v:V}(l:List P')(hl:l.length<=1000000)(hK:aa K U)(ho:aT K U 150 7 v (l.map aQ)){f:FuncId}{caps:List V}(p:P'->Bool)
 (hf:∀x∈l,∀J,aa K J->aD prog f (aQ x::caps) J λr Z'=>r=.bool (p x)/\Z'=J):
 aD prog 188 [v,.fn f caps] U λr Z'=>GW K Z' 150 7 r ((lA p l).map aQ)/\aa K Z':=by
 have hr:Reads U 7 true v (l.map aQ):=by
  rcases ho with⟨rfl,h0⟩|⟨id,rfl,h2,h3⟩
  .rw[h0];exact⟨rfl,λi v h=>by simp at h⟩
  .refine⟨by simp[dz],λi r hi=>⟨_,j4 h2 (by have:=List.getElem?_eq_some_iff.1 hi;exact this.1),?_⟩⟩;have hx:∃x,r=aQ x:=by
    have:=List.mem_of_getElem? hi;simp only[List.mem_map]at this;obtain⟨n,_,rfl⟩:=this;exact⟨n,rfl⟩
   obtain⟨x,rfl⟩:=hx;simp only[bS,h2,hi,if_true];rw[if_pos ⟨trivial,rfl⟩];rfl
 refine OM.r (by simp[J6]) ?_;refine ad.mix 8 ?_;apply sR;simp only[go_sem,seval,J6];refine ad.aB rfl rfl rfl (EL l hl hr p (λx hx=>hf x hx U hK)) ?_;generalize hw:fV p l 0=w;by_cases hn:w<0
 .have hw1:w=-1:=by rw[<-hw];exact tp _ _ (by rw[hw];exact hn)
  have hk:lA p l=l:=qI l 0 (by rw[hw];exact hn);have q:(w=-1)=True:=eq_true hw1;apply sR;simp only[go_sem,seval,q];rw[hk];exact⟨_,U,aa.refl _,Wk.refl (aa.refl _) _,ho.OJ,hK⟩
 .obtain⟨u0,g0,g1,g2,g3⟩:=qu l 0 (by rw[hw];exact hn);rw[hw,Nat.zero_add]at g0;subst g0;have q:((u0:Int)=-1)=False:=eq_false (by omega);have r1:Rq .i64 ((u0:Int)+1):=ao (by omega) (by omega);obtain⟨i1,rfl,h2,h3⟩:∃id,v=.own id 0 (l.map aQ).length/\U id=some ⟨150,7,l.map aQ⟩/\K id=none:=by
   rcases ho with⟨_,h0⟩|h
   .have:l=[]:=by simpa using h0
    subst this;simp at g1
   .exact h
  rw[List.length_map]at*;apply sR;simp only[go_sem,seval,q,r1];refine ad.loop (λm st=>∃(u j:Nat) (cur:List P'),u<j/\j<=l.length/\m=l.length-j/\cur.length=l.length/\cur.take u=lA p (l.take j)/\(∀q,j<=q->cur[q]?=l[q]?)/\aa K st.U/\st.U i1=some ⟨150,7,cur.map aQ⟩/\
   st.s 0=.own i1 0 l.length/\st.s 1=.fn f caps/\st.s 5=vI u/\∃z:Int,st.s 6=vI z/\z=j) (l.length-(u0+1)) ?_ ?_
  .refine⟨u0,u0+1,l,by omega,by omega,rfl,rfl,?_,λ_ _=>rfl,hK,h2,rfl,rfl,rfl,_,rfl,by omega⟩;have hp:=g3 l[u0] (by simp[g1]);rw[List.take_succ_eq_append_getElem g1];have g2':lA p (l.take u0)=l.take u0:=g2;simp only[lA,List.filter_append]at g2'|-;rw[g2'];simp[hp]
  .rintro m ⟨s,J⟩ ⟨u,j,cur,huj,hjk,rfl,Sn,hct,YV,hs,a1,h0,h1,h5,z,h6,rfl⟩;simp only at hs a1 h0 h1 h5 h6;refine ad.mix 8 ?_;have Wv:(cur.map aQ).length=l.length:=by rw[List.length_map,Sn]
   by_cases H':j<l.length
   .have q1:((j:Int)<l.length)=True:=eq_true (by omega);have hjc:j<cur.length:=by omega
    have huc:u<cur.length:=by omega
    have hfj:l[j]?=some cur[j]:=by rw[<-YV j (Nat.le_refl _)];simp[hjc]
    have Yd:cur[j]∈l:=List.mem_of_getElem? hfj;have htj:l.take (j+1)=l.take j++[cur[j]]:=by
     rw[List.take_succ_eq_append_getElem H'];congr 2;rw[List.getElem?_eq_getElem H']at hfj;simpa using hfj
    have iX:∀(J:ai) (rows:List V) (k n:Nat),J i1=some ⟨150,7,rows⟩->rows.length=l.length->n=l.length->k<l.length->bQ J 7 (.own i1 0 n) (.int .i64 k)=some (.ptr i1 k 0):=λJ rows k n h e hn hk=>by subst hn;rw[<-e];exact j4 h (by omega)
    have e1:=iX _ _ j _ a1 Wv rfl H';have v1:(cur.map aQ)[j]?=some (aQ cur[j]):=by simp[hjc]
    have vu:(cur.map aQ)[u]?=some (aQ cur[u]):=by simp[huc]
    have Xi:(cur.set u cur[j]).map aQ=(cur.map aQ).set u (aQ cur[j]):=List.map_set;have Va:=hf cur[j] Yd;have hfc7:∀f:P',(aQ f).cells=[vI f.node,vI f.side,vI f.anchor,vI f.x,vI f.y,vI f.w,vI f.h]:=λ_=>rfl;have hsu:(cur.set u cur[j]).take (u+1)=cur.take u++[cur[j]]:=by
     rw[List.take_succ_eq_append_getElem (by simpa using huc),List.take_set,List.set_eq_of_length_le (by simp;omega)];simp
    have r2:Rq .i64 ((u:Int)+1):=ao (by omega) (by omega);have r3:Rq .i64 ((j:Int)+1):=ao (by omega) (by omega);generalize cur[j]=x at*;generalize cur[u]=y at*;apply sR;simp only[go_sem,seval,h0,h1,h5,h6,q1,a1,e1,v1,hfc7];refine af λi7 Z7 s7 a7 f7=>?_;have n17:=aq a1 f7;replace a1:=s7 _ _ a1;have z7:=hs.none f7;replace hs:=hs.trans s7;simp only[go_sem,seval,a7,h0,h1,h5,h6];generalize SY:C' _ i7 _=Y7;replace a7:=(congrFun SY i7).symm.trans ag;replace a1:=((congrFun SY i1).symm.trans (ab n17)).trans a1;replace hs:=Eq.subst (motive:=aa _) SY (hs.aE z7);clear SY;refine ad.aB rfl rfl rfl (Va _ hs) ?_;have e2:=iX _ _ u _ a1 Wv rfl (by omega);cases hp:p x
    .apply sR;simp only[go_sem,seval,h0,h1,h5,h6,a7,a1,e2,vu,hfc7,r2,r3];refine⟨_,?_,u+1,j+1,cur.set u x,by omega,by omega,rfl,by simpa using Sn,?_,λq hq=>?_,hs.aE h3,?_,by simp,_,rfl,by omega⟩
     .omega
     .rw[hsu,htj,hct];simp[lA,List.filter_append,hp]
     .rw[List.getElem?_set_ne (by omega)];exact YV q (by omega)
     .rw[Xi];rfl
    .apply sR;simp only[go_sem,seval,h0,h1,h5,h6,r3];refine⟨_,?_,u,j+1,cur,by omega,by omega,rfl,Sn,?_,λq hq=>YV q (by omega),hs,a1,by simp,_,rfl,by omega⟩
     .omega
     .rw[htj,hct];simp[lA,List.filter_append,hp]
   .have q1:((j:Int)<l.length)=False:=eq_false (by omega);have hjk':j=l.length:=by omega
    subst hjk';rw[List.take_length]at hct;have b3:(0:Int)<=u:=by omega
    have b4:(u:Int)<=l.length:=by omega
    apply sR;simp only[go_sem,seval,h0,h1,h5,h6,q1,a1,b3,b4,Int.le_refl,Int.toNat_natCast];refine ad.clear (id:=i1) (off:=u) (len:=l.length-u) (ob:=⟨150,7,cur.map aQ⟩) rfl rfl rfl a1 rfl (by simp;omega) ?_;apply sR;simp only[go_sem,seval,h0,h1,h5,h6,b3,b4,Int.le_refl,Int.toNat_natCast,Nat.sub_zero];have hlu:((lA p l).map aQ).length=u:=by rw[List.length_map,<-hct,List.length_take];omega
    refine⟨_,_,aa.refl _,Wk.refl (aa.refl _) _,.inr ⟨i1,_,by rw[hlu],ag,?_,h3⟩,hs.aE h3⟩;rw[hlu,List.append_assoc,List.take_append_of_le_length (by simp;omega),List.take_take,Nat.min_self,<-List.map_take,hct]
open Go.Proofs Go.Proofs.Tryz
def xP(l:List P')(fr to:Int):List P':=lA (tN fr to) l
def pO(l:List P')(fr to:Int):(xP l fr to).length<=l.length:=List.length_filter_le _ _
def F8(l:List P')(hl:l.length<=1000000)(fr to:Int):aV prog 322 [aH l,vI fr,vI to] (aH (xP l fr to)):=λU=>by
 refine Q2.r (by simp[KB]) ?_;have hs:=aa.refl U;refine ad.mix 7 ?_;apply sR;simp only[go_sem,seval,KB];refine af λi4 Z4 s4 a4 f4=>?_;have z4:=hs.none f4;replace hs:=hs.trans s4;simp only[go_sem,seval];refine af λi5 Z5 s5 a5 f5=>?_;have Tp:=aq a4 f5;replace a4:=s5 _ _ a4;have z5:=hs.none f5;replace hs:=hs.trans s5;simp only[go_sem,seval];refine ad.call rfl rfl rfl (oO func62 (e62.b.trans rfl) e62.c (l.map aQ) (by simp;omega) _) ?_;rintro r Z9 ⟨h9,ho9⟩;apply sR;simp only[go_sem,seval];refine ad.call rfl rfl rfl (vR l hl h9 ho9 (tN fr to) (λx _ J Zm=>Ku fr to x (Zm _ _ a4) (Zm _ _ a5))) ?_;rintro r2 Ws ⟨hp,VY⟩;apply sR;simp only[go_sem,seval];exact⟨_,U,hs.trans VY,hp.wk hs (hs.trans VY),rfl,rfl⟩
def fH(l:List P')(s:R0)(to:Int):List P':=xP l (if s.done>0 then s.atom+1 else s.atom) to
def DZ(l:List P')(hl:l.length<=1000000)(s:R0)(ha:Rq .i64 (s.atom+1))(to:Int):aV prog 294 [aH l,bj s,vI to] (aH (fH l s to)):=λU=>by
 refine Qi.r (by simp[KT]) ?_;have hs:=aa.refl U;have TS:(bj s).cells=[vI s.atom,vI s.done,.bool s.free]:=rfl;have UH:(bj s).stays=true:=rfl;refine ad.mix 7 ?_;apply sR;simp only[go_sem,seval,KT,TS,UH];refine af λi4 Z4 s4 a4 f4=>?_;have z4:=hs.none f4;replace hs:=hs.trans s4;rw[bj]at a4;by_cases hd:s.done>0
 .have q:(s.done>0)=True:=eq_true hd;simp only[go_sem,seval,a4,q,ha];refine ad.aB rfl rfl rfl (F8 l hl _ _ _) ?_;apply sR;simp only[go_sem,seval];exact ay.pure hs (by rw[fH,if_pos hd])
 .have q:(s.done>0)=False:=eq_false hd;simp only[go_sem,seval,a4,q];refine ad.aB rfl rfl rfl (F8 l hl _ _ _) ?_;apply sR;simp only[go_sem,seval];exact ay.pure hs (by rw[fH,if_neg hd])
open Go.Proofs Go.Proofs.Tryz
def dR(v u:V):Prop:=∀a n b m,v=.own a 0 n->u=.own b 0 m->a≠b
def dR.symm{v u:V}(h:dR v u):dR u v:=λa n b m h1 h2 e=>h b m a n h2 h1 e.symm
def dR.aC(u:V):dR .aC u:=λ_ _ _ _ h _=>by cases h
def aT.Nl{K ZJ Z1:ai}{e sz:Nat}{v:V}{rows:List V}(h:aT K ZJ e sz v rows)(hs:aa ZJ Z1):
 ∃Rr,cg Z1 e sz v=some (rows,Rr)/\∀i,Rr=some i->K i=none/\(∃o,ZJ i=some o)/\v=.own i 0 rows.length:=by
 rcases h with⟨rfl,rfl⟩|⟨id,rfl,ho,hk⟩
 .exact⟨none,rfl,λ_ h=>by cases h⟩
 .refine⟨some id,?_,λi h=>by cases h;exact⟨hk,⟨_,ho⟩,rfl⟩⟩;simp only[cg,hs _ _ ho];rw[if_pos ⟨trivial,trivial,trivial,Nat.le_refl _⟩,List.take_length]
def aT.OZ{K U:ai}{e sz:Nat}{v:V}{rows:List V}(h:aT K U e sz v rows){Rr:Option Nat}(h1:∀i,Rr=some i->∀n,v≠.own i 0 n){id:Nat}{o:Ob}(h2:U id=none):aT K (C' (Vc.bK U Rr) id o) e sz v rows:=by
 rcases h with h|⟨a,rfl,ho,hk⟩
 .exact .inl h
 .refine .inr ⟨a,rfl,?_,hk⟩;have hai:a≠id:=λe=>by subst e;rw[ho]at h2;cases h2
  rw[Vc.ab hai];cases Rr with
  |none=>exact ho
  |some i=>
   have:a≠i:=λe=>h1 i rfl _ (by rw[e]);simp only[Vc.bK];rw[dO this];exact ho
def dR.new{U K:ai}{e sz id n:Nat}{u:V}{rows:List V}(hu:aT K U e sz u rows)(h:U id=none):dR (.own id 0 n) u:=by
 rintro a k b m h1 rfl e;cases h1;subst e;rcases hu with⟨h,_⟩|⟨i,h,h2,_⟩
 .cases h
 .cases h;rw[h]at h2;cases h2
structure SoJ(Z0:ai)(ix:Nat)(p q:List P')(U:ai):Prop where
 row:∃v u,U ix=some ⟨371,2,[.agg [v,u]]⟩/\aT (bg Z0 ix) U 150 7 v (p.map aQ)/\aT (bg Z0 ix) U 150 7 u (q.map aQ)/\dR v u
 sub:aa Z0 U
 no:Z0 ix=none
def FC{Z0 ZJ ZB Z8:ai}{ix e sz:Nat}{v u:V}{rows Wz:List V}(U3:bh ZJ ZB ZJ Z8)(Js:aa Z0 ZJ)(Jn:Z0 ix=none){ox:Ob}(Jx:ZJ ix=some ox)
 (Jv:aT (bg Z0 ix) ZJ e sz v rows)(Ju:aT (bg Z0 ix) ZJ e sz u Wz)(hap:dR v u):
 ∃Rr,cg Z8 e sz v=some (rows,Rr)/\∀(id:Nat) (Rd:List V) (o':Ob),Z8 id=none->
  ix≠id/\Vc.bK Z8 Rr ix=some ox/\aa Z0 (C' (C' (Vc.bK ZJ Rr) id ⟨e,sz,Rd⟩) ix o')/\bh ZJ ZB (C' (C' (Vc.bK ZJ Rr) id ⟨e,sz,Rd⟩) ix o') (C' (C' (Vc.bK Z8 Rr) id ⟨e,sz,Rd⟩) ix o')/\
  aT (bg Z0 ix) (C' (C' (Vc.bK ZJ Rr) id ⟨e,sz,Rd⟩) ix o') e sz (.own id 0 Rd.length) Rd/\aT (bg Z0 ix) (C' (C' (Vc.bK ZJ Rr) id ⟨e,sz,Rd⟩) ix o') e sz u Wz/\dR (.own id 0 Rd.length) u:=by
 obtain⟨Rr,SM,Vj⟩:=Jv.Nl U3.1;refine⟨Rr,SM,λid Rd o' f=>?_⟩;have k2:bg Z0 ix ix≠none:=λh=>(aM.1 h).1 rfl;have UF:∀(i:Nat) (Zx:ai),bg Z0 ix i≠none->Vc.bK Zx Rr i=Zx i:=λi Zx hk=>by
  cases Rr with
  |none=>rfl
  |some a=>exact dO (λe=>hk (by rw[e];exact(Vj a rfl).1))
 have c8:=U3.1 _ _ Jx;have m:ix≠id:=aq c8 f;have fJ:ZJ id=none:=by
  cases h:ZJ id with
  |none=>rfl
  |some o=>rw[U3.1 _ _ h]at f;cases f
 have f':Vc.bK Z8 Rr id=none:=by
  cases Rr with
  |none=>exact f
  |some a=>simp only[Vc.bK,del];split<;>first|rfl|exact f
 have hk:bg Z0 ix id=none:=by
  rw[aM];refine⟨m.symm,?_⟩;cases h:Z0 id with
  |none=>rfl
  |some o=>rw[Js _ _ h]at fJ;cases fJ
 refine⟨m,by rw[UF _ _ k2];exact c8,?_,((U3.C1 (e:=Rr) λi h=>(Vj i h).2.1).new f').set (id:=ix) (o:=ox) (by rw[ab m,UF _ _ k2];exact Jx),?_,?_,dR.new Ju fJ⟩
 .refine aa.aE (λi o h=>?_) Jn;have h1:=Js _ _ h;rw[ab (λe=>by subst e;rw[h1]at fJ;cases fJ),UF _ _ (λhk=>by rw[(aM.1 hk).2]at h;cases h)];exact h1
 .exact aT.new rfl (by rw[ab m.symm,ag]) hk
 .exact(Ju.OZ (λi h n e=>hap _ _ _ _ (Vj i h).2.2 e rfl) fJ).ab k2
def qo(q:List P')(m:P')(body:Int):Bool:=decide (q≠[]\/m.y+m.h>body)
def Hc(p q:List P')(hp:p.length<=1000000)(hq:q.length<=1000000)(f m:P')(body:Int)(hr:Rq .i64 (m.y+m.h)){Z0 ZJ ZB:ai}{ix:Nat}(hJ:SoJ Z0 ix p q ZJ)(G':aa ZJ ZB):
 aD prog 295 [.ptr ix 0 0,aQ f,aQ m,vI body] ZB λ_ Z'=>∃RC,bh ZJ ZB RC Z'/\SoJ Z0 ix (if qo q m body then p else p++[m]) (if qo q m body then q++[f]else q) RC:=by
 refine Q4.r (by simp[KN]) ?_;obtain⟨⟨v,u,Jx,Jv,Ju,hap⟩,Js,Jn⟩:=hJ;obtain⟨vc,vs⟩:=Jv.vc;obtain⟨uc,us⟩:=Ju.vc;have Va:∀f:P',(aQ f).cells=[vI f.node,vI f.side,vI f.anchor,vI f.x,vI f.y,vI f.w,vI f.h]:=λ_=>rfl;have Tk:∀f:P',(aQ f).stays=true:=λ_=>rfl;refine ad.mix 5 ?_;apply sR;simp only[go_sem,seval,KN,Va,Tk];rw[aO];intro i5 f5;have hB5:=(bh.refl G').pk (o:=⟨150,7,[aQ f]⟩) f5;have a5:C' ZB i5 ⟨150,7,[aQ f]⟩ i5=some ⟨150,7,[aQ f]⟩:=ag;have TT:∀f:P',V.agg [vI f.node,vI f.side,vI f.anchor,vI f.x,vI f.y,vI f.w,vI f.h]=aQ f:=λ_=>rfl;generalize TR:C' ZB i5 ⟨150,7,[aQ f]⟩=Z5 at*;simp only[go_sem,seval,Va,Tk];rw[aO];intro i6 f6;have hB6:=hB5.pk (o:=⟨150,7,[aQ m]⟩) f6;have a6:C' Z5 i6 ⟨150,7,[aQ m]⟩ i6=some ⟨150,7,[aQ m]⟩:=ag;replace a5:=(ab (o:=⟨150,7,[aQ m]⟩) (aq a5 f6)).trans a5;generalize Vy:C' Z5 i6 ⟨150,7,[aQ m]⟩=Z6 at*;have cx:=hB6.1 _ _ Jx;have hlq:dz false u=some (.int .i64 q.length):=by have:=Ju.len;rwa [List.length_map]at this
 have hrq:((q++[f]).map aQ)=q.map aQ++[aQ f]:=by simp
 have hrp:((p++[m]).map aQ)=p.map aQ++[aQ m]:=by simp
 have hql:(q.map aQ).length<=1000000:=by simpa using hq
 have Vq:(p.map aQ).length<=1000000:=by simpa using hp
 have hql0:(q.map aQ).length=q.length:=List.length_map _;rw[aQ]at a5 a6;by_cases hl:qo q m body=true
 .rw[if_pos hl,if_pos hl];by_cases hq0:q=[]
  .have q13:((q.length:Int)>0)=False:=by subst hq0;simp
   have qy:(m.y+m.h>body)=True:=by
    simp only[qo,hq0,decide_eq_true_eq]at hl;exact eq_true (hl.resolve_left (by simp))
   simp only[go_sem,seval,cx,vc,uc,hlq,q13,qy,hr,a5,a6];rw[aP];intro i29 f29;have hB7:=hB6.pk (o:=⟨150,7,[(V.agg [vI f.node,vI f.side,vI f.anchor,vI f.x,vI f.y,vI f.w,vI f.h])]⟩) f29;have a29:C' Z6 i29 ⟨150,7,[(V.agg [vI f.node,vI f.side,vI f.anchor,vI f.x,vI f.y,vI f.w,vI f.h])]⟩ i29=some ⟨150,7,[(V.agg [vI f.node,vI f.side,vI f.anchor,vI f.x,vI f.y,vI f.w,vI f.h])]⟩:=ag;generalize SY:C' Z6 i29 ⟨150,7,[(V.agg [vI f.node,vI f.side,vI f.anchor,vI f.x,vI f.y,vI f.w,vI f.h])]⟩=Z7 at*;obtain⟨Rr,SM,XD⟩:=FC hB7 Js Jn Jx Ju Jv hap.symm;generalize q.map aQ=rows at*;have Sb:(rows.length+1)*57<=140737488355328:=by omega
   simp only[go_sem,seval,SM,dW a29,Sb];rw[aP];intro ZS f30;obtain⟨m30,hx,g1,g2,g3,g4,g5⟩:=XD ZS (rows++[(V.agg [vI f.node,vI f.side,vI f.anchor,vI f.x,vI f.y,vI f.w,vI f.h])]) ⟨371,2,[.agg [v,.own ZS 0 (rows++[(V.agg [vI f.node,vI f.side,vI f.anchor,vI f.x,vI f.y,vI f.w,vI f.h])]).length]]⟩ f30;have y2:C' (Vc.bK Z7 Rr) ZS ⟨150,7,rows++[(V.agg [vI f.node,vI f.side,vI f.anchor,vI f.x,vI f.y,vI f.w,vI f.h])]⟩ ix=_:=(ab m30).trans hx;have XO:(rows++[(V.agg [vI f.node,vI f.side,vI f.anchor,vI f.x,vI f.y,vI f.w,vI f.h])]).length=rows.length+1:=by simp
   rw[XO]at g1 g2 g3 g4 g5;simp only[go_sem,seval,y2,vc,uc,vs,us];refine⟨_,_,aa.refl _,Wk.refl (aa.refl _) _,_,g2,⟨v,_,ag,g4,?_,g5.symm⟩,g1,Jn⟩;rw[hrq];exact g3
  .have q13:((q.length:Int)>0)=True:=eq_true (by have:=List.length_pos_iff.2 hq0;omega);simp only[go_sem,seval,cx,vc,uc,hlq,q13,a5,a6];rw[aP];intro i29 f29;have hB7:=hB6.pk (o:=⟨150,7,[(V.agg [vI f.node,vI f.side,vI f.anchor,vI f.x,vI f.y,vI f.w,vI f.h])]⟩) f29;have a29:C' Z6 i29 ⟨150,7,[(V.agg [vI f.node,vI f.side,vI f.anchor,vI f.x,vI f.y,vI f.w,vI f.h])]⟩ i29=some ⟨150,7,[(V.agg [vI f.node,vI f.side,vI f.anchor,vI f.x,vI f.y,vI f.w,vI f.h])]⟩:=ag;generalize SY:C' Z6 i29 ⟨150,7,[(V.agg [vI f.node,vI f.side,vI f.anchor,vI f.x,vI f.y,vI f.w,vI f.h])]⟩=Z7 at*;obtain⟨Rr,SM,XD⟩:=FC hB7 Js Jn Jx Ju Jv hap.symm;generalize q.map aQ=rows at*;have Sb:(rows.length+1)*57<=140737488355328:=by omega
   simp only[go_sem,seval,SM,dW a29,Sb];rw[aP];intro ZS f30;obtain⟨m30,hx,g1,g2,g3,g4,g5⟩:=XD ZS (rows++[(V.agg [vI f.node,vI f.side,vI f.anchor,vI f.x,vI f.y,vI f.w,vI f.h])]) ⟨371,2,[.agg [v,.own ZS 0 (rows++[(V.agg [vI f.node,vI f.side,vI f.anchor,vI f.x,vI f.y,vI f.w,vI f.h])]).length]]⟩ f30;have y2:C' (Vc.bK Z7 Rr) ZS ⟨150,7,rows++[(V.agg [vI f.node,vI f.side,vI f.anchor,vI f.x,vI f.y,vI f.w,vI f.h])]⟩ ix=_:=(ab m30).trans hx;have XO:(rows++[(V.agg [vI f.node,vI f.side,vI f.anchor,vI f.x,vI f.y,vI f.w,vI f.h])]).length=rows.length+1:=by simp
   rw[XO]at g1 g2 g3 g4 g5;simp only[go_sem,seval,y2,vc,uc,vs,us];refine⟨_,_,aa.refl _,Wk.refl (aa.refl _) _,_,g2,⟨v,_,ag,g4,?_,g5.symm⟩,g1,Jn⟩;rw[hrq];exact g3
 .rw[if_neg hl,if_neg hl];simp only[qo,decide_eq_true_eq,not_or,Decidable.not_not]at hl;have q13:((q.length:Int)>0)=False:=by rw[hl.1];simp
  have qy:(m.y+m.h>body)=False:=eq_false hl.2;simp only[go_sem,seval,cx,vc,uc,hlq,q13,qy,hr,a5,a6];rw[aP];intro i29 f29;have hB7:=hB6.pk (o:=⟨150,7,[(V.agg [vI m.node,vI m.side,vI m.anchor,vI m.x,vI m.y,vI m.w,vI m.h])]⟩) f29;have a29:C' Z6 i29 ⟨150,7,[(V.agg [vI m.node,vI m.side,vI m.anchor,vI m.x,vI m.y,vI m.w,vI m.h])]⟩ i29=some ⟨150,7,[(V.agg [vI m.node,vI m.side,vI m.anchor,vI m.x,vI m.y,vI m.w,vI m.h])]⟩:=ag;generalize SY:C' Z6 i29 ⟨150,7,[(V.agg [vI m.node,vI m.side,vI m.anchor,vI m.x,vI m.y,vI m.w,vI m.h])]⟩=Z7 at*;obtain⟨Rr,SM,XD⟩:=FC hB7 Js Jn Jx Jv Ju hap;generalize p.map aQ=rows at*;have Sb:(rows.length+1)*57<=140737488355328:=by omega
  simp only[go_sem,seval,SM,dW a29,Sb];rw[aP];intro ZS f30;obtain⟨m30,hx,g1,g2,g3,g4,g5⟩:=XD ZS (rows++[(V.agg [vI m.node,vI m.side,vI m.anchor,vI m.x,vI m.y,vI m.w,vI m.h])]) ⟨371,2,[.agg [.own ZS 0 (rows++[(V.agg [vI m.node,vI m.side,vI m.anchor,vI m.x,vI m.y,vI m.w,vI m.h])]).length,u]]⟩ f30;have y2:C' (Vc.bK Z7 Rr) ZS ⟨150,7,rows++[(V.agg [vI m.node,vI m.side,vI m.anchor,vI m.x,vI m.y,vI m.w,vI m.h])]⟩ ix=_:=(ab m30).trans hx;have XO:(rows++[(V.agg [vI m.node,vI m.side,vI m.anchor,vI m.x,vI m.y,vI m.w,vI m.h])]).length=rows.length+1:=by simp
  rw[XO]at g1 g2 g3 g4 g5;simp only[go_sem,seval,y2,vc,uc,vs,us];refine⟨_,_,aa.refl _,Wk.refl (aa.refl _) _,_,g2,⟨_,u,ag,?_,g4,g5⟩,g1,Jn⟩;rw[hrp];exact g3
open Go.Proofs Go.Proofs.Tryz
def bh.from{ZJ U J RC Z':ai}(h:bh ZJ J RC Z')(hs:aa U J):bh ZJ U RC Z':=⟨h.1,λi o h1 h2=>h.2 i o h1 (hs _ _ h2)⟩
def lW(body:Int)(x:List P'×List P')(f m:P'):List P'×List P':=(if qo x.2 m body then x.1 else x.1++[m],if qo x.2 m body then x.2++[f]else x.2)
def ga(top shift:Int)(f:P'):P':={ f with y:=max 0 (f.y-top)+shift }
def jB(top shift body:Int)(L:List P'):List P'×List P':=L.foldl (λx f=>lW body x f (ga top shift f)) ([],[])
def As(top shift body:Int)(L:List P')(f:P'):jB top shift body (L++[f])=lW body (jB top shift body L) f (ga top shift f):=by
 unfold jB;rw[List.foldl_append];rfl
def pY(top shift body:Int)(L:List P'):(jB top shift body L).1.length+(jB top shift body L).2.length=L.length:=by
 have key:∀(L:List P') (x:List P'×List P'),(L.foldl (λx f=>lW body x f (ga top shift f)) x).1.length+(L.foldl (λx f=>lW body x f (ga top shift f)) x).2.length=x.1.length+x.2.length+L.length:=by
  intro L
  induction L with
  |nil=>intro x;rfl
  |cons f L ih=>
   intro x;rw[List.foldl_cons,ih];unfold lW;split<;>simp<;>omega
 have:=key L ([],[]);simpa[jB]using this
def sM(l:List RY)(s:R0)(kept:Int):Int:=(Sq l s.atom).y+s.done-kept
def dF(l:List RY)(fl:List P')(s:R0)(to kept shift body:Int):List P'×List P':=if bZ l s then jB (sM l s kept) shift body (fH fl s to)else([],[])
def E9(x:Int):(if x>0 then x else 0)=max 0 x:=by split<;>omega
def Fj(l:List RY)(hl:lF l)(fl:List P')(UL:fl.length<=1000000)(V8:∀f∈fl,f.ok)(s:R0)(hd:s.done<=1152921504606846976)(to kept shift body:Int)(hk:-1152921504606846976<=kept/\kept<=2305843009213693952)(UM:0<=shift/\shift<=1152921504606846976):
 aV prog 242 [bl l,aH fl,bj s,vI to,vI kept,vI shift,vI body] (.Rf [aH (dF l fl s to kept shift body).1,aH (dF l fl s to kept shift body).2]):=λU=>by
 refine QS.r (by simp[JV]) ?_;have hs:=aa.refl U;have XO:=hl.len;have TS:(bj s).cells=[vI s.atom,vI s.done,.bool s.free]:=rfl;have UH:(bj s).stays=true:=rfl;refine ad.mix 20 ?_;apply sR;simp only[go_sem,seval,JV,TS,UH];refine af λi9 Z9 s9 a9 f9=>?_;have z9:=hs.none f9;replace hs:=hs.trans s9;simp only[go_sem,seval];refine af λSN Z12 WV a12 f12=>?_;have n912:=aq a9 f12;replace a9:=WV _ _ a9;have z12:=hs.none f12;replace hs:=hs.trans WV;simp only[go_sem,seval];refine af λWM Y13 s13 TB f13=>?_;have n913:=aq a9 f13;replace a9:=s13 _ _ a9;have n1213:=aq a12 f13;replace a12:=s13 _ _ a12;have z13:=hs.none f13;replace hs:=hs.trans s13;rw[bj]at a9;simp only[go_sem,seval,a9,ak,al];refine ad.aB rfl rfl rfl (p7 l s _) ?_;unfold dF;by_cases hm:bZ l s
 .rw[decide_eq_true hm,if_pos hm];obtain⟨h0,h2⟩:=hm.1;obtain⟨k,Vf⟩:∃k:Nat,s.atom=k:=⟨s.atom.toNat,by omega⟩
  have Tv:k<l.length:=by omega
  have Q9:=λU=>iz (U:=U) Tv;have hy:=hl.Xp _ (List.getElem_mem Tv);have Vv:=hm.2.1;have Xt:sM l s kept=l[k].y+s.done-kept:=by rw[sM,Vf,bz Tv]
  have r1:Rq .i64 (l[k].y+s.done):=ao (by omega) (by omega);have r2:Rq .i64 (l[k].y+s.done-kept):=ao (by omega) (by omega);have htr:-4611686018427387904<=sM l s kept/\sM l s kept<=4611686018427387904:=by rw[Xt];omega
  have Sn:=pO fl (if s.done>0 then s.atom+1 else s.atom) to;have hcm:∀f∈fH fl s to,f.ok:=λf hf=>V8 f ((List.mem_filter.1 hf).1);have hca:=DZ fl UL s (ao (by omega) (by omega)) to;have hcl':(fH fl s to).length<=1000000:=Nat.le_trans Sn UL;generalize fH fl s to=L at*;rw[Vf]at a9;apply sR;simp only[go_sem,seval,Vf];refine af λi16 Z16 s16 a16 f16=>?_;have n916:=aq a9 f16;replace a9:=s16 _ _ a9;have n1216:=aq a12 f16;replace a12:=s16 _ _ a12;have n1316:=aq TB f16;replace TB:=s16 _ _ TB;have z16:=hs.none f16;replace hs:=hs.trans s16;simp only[go_sem,seval,a16,a9,Q9,cF,r1,r2,ak,al];refine bu λi17 Y17 s17 Wt f17=>?_;have n917:=aq a9 f17;replace a9:=s17 _ _ a9;have n1217:=aq a12 f17;replace a12:=s17 _ _ a12;have YI:=aq TB f17;replace TB:=s17 _ _ TB;have n1617:=aq a16 f17;replace a16:=s17 _ _ a16;have z17:=hs.none f17;replace hs:=hs.trans s17;simp only[go_sem,seval,Wt,a9,ab n917,ab n1217,ab YI,ab n1617];generalize Yp:C' _ i17 _=Z17;replace Wt:=(congrFun Yp i17).symm.trans ag;replace a9:=((congrFun Yp i9).symm.trans (ab n917)).trans a9;replace a12:=((congrFun Yp SN).symm.trans (ab n1217)).trans a12;replace TB:=((congrFun Yp WM).symm.trans (ab YI)).trans TB;replace a16:=((congrFun Yp i16).symm.trans (ab n1617)).trans a16;replace hs:=Eq.subst (motive:=aa _) Yp (hs.aE z17);clear Yp;rw[bj,Vf]at hca;refine ad.aB rfl rfl rfl (hca _) ?_;apply sR;simp only[go_sem,seval];refine ad.aB rfl rfl rfl (Me L _) ?_;apply sR;simp only[go_sem,seval];rw[<-Xt]at Wt;generalize sM l s kept=top at*;generalize hS:mix 20 _ _=S;have S12:S 12=.ptr SN 0 0:=by rw[<-hS];rfl
  have S13:S 13=.ptr WM 0 0:=by rw[<-hS];rfl
  have S16:S 16=.ptr i16 0 0:=by rw[<-hS];rfl
  have S17:S 17=.ptr i17 0 0:=by rw[<-hS];rfl
  have S39:S 39=.fn 321 [.rp (aH L)]:=by rw[<-hS];rfl
  clear hS;obtain⟨Z0,hY0⟩:∃Z0,Z0=del Z17 i16:=⟨_,rfl⟩
  have d0:∀i,i≠i16->Z0 i=Z17 i:=λi hi=>by rw[hY0];exact dO hi
  have Xo:Z0 SN=_:=(d0 _ n1216).trans a12;have b13:Z0 WM=_:=(d0 _ n1316).trans TB;have b17:Z0 i17=_:=(d0 _ n1617.symm).trans Wt;have b16:Z0 i16=none:=by rw[hY0];simp[del]
  have RX:aa U Z0:=λi o h=>by
   rw[d0 i (λe=>by rw[e,z16]at h;cases h)];exact hs _ _ h
  have h16:SoJ Z0 i16 [] [] Z17:=⟨⟨.aC,.aC,a16,aT.start,aT.start,dR.aC _⟩,hY0▸aa.wV _ _,b16⟩
  refine ad.cX (g:=.t 39) (caps:=[.rp (aH L)]) S39 (Dg L hcl') (λy hy=>?_) [] (λpre ZJ=>SoJ Z0 i16 (jB top shift body (L.take pre.length)).1 (jB top shift body (L.take pre.length)).2 ZJ)
   (λ_ _ _=>False) ?_ ?_ ?_ ?_ ?_
  .obtain⟨t,_,rfl⟩:=List.mem_map.1 hy;rfl
  .exact h16
  .rintro pre y post ZJ ZB TJ hJ G';obtain⟨f,hf,rfl⟩:=oK TJ;obtain⟨H',hfe⟩:=List.getElem?_eq_some_iff.1 hf;have hlen:(pre++[[aQ f]]).length=pre.length+1:=by simp
   have Sf:L.take (pre.length+1)=L.take pre.length++[f]:=by rw[List.take_succ_eq_append_getElem H',hfe]
   have Tv:=pY top shift body (L.take pre.length);have Vq:(L.take pre.length).length<=1000000:=by rw[List.length_take];omega
   rw[hlen,Sf,As];generalize jB top shift body (L.take pre.length)=x at*;have hfo':=hcm f (List.mem_of_getElem? hf);have a12:=G' _ _ (hJ.sub _ _ Xo);have TB:=G' _ _ (hJ.sub _ _ b13);have Wt:=G' _ _ (hJ.sub _ _ b17);obtain⟨o1,o2,o3,o4⟩:=hfo';unfold Bq at o1 o2 o3 o4;have q1:Rq .i64 (f.y-top):=ao (by omega) (by omega);have q2:Rq .i64 (max 0 (f.y-top)+shift):=ao (by omega) (by omega);generalize Tg:lR S [40] [aQ f]=S0;have T12:S0 12=.ptr SN 0 0:=by rw[<-Tg];exact S12
   have T13:S0 13=.ptr WM 0 0:=by rw[<-Tg];exact S13
   have T16:S0 16=.ptr i16 0 0:=by rw[<-Tg];exact S16
   have T17:S0 17=.ptr i17 0 0:=by rw[<-Tg];exact S17
   have T40:S0 40=.agg [vI f.node,vI f.side,vI f.anchor,vI f.x,vI f.y,vI f.w,vI f.h]:=by rw[<-Tg];rfl
   clear Tg;have hs:=aa.refl ZB;refine ad.mix 20 ?_;apply sR;simp only[go_sem,seval];refine af λi18 Z18 s18 a18 f18=>?_;have n1218:=aq a12 f18;replace a12:=s18 _ _ a12;have n1318:=aq TB f18;replace TB:=s18 _ _ TB;have n1718:=aq Wt f18;replace Wt:=s18 _ _ Wt;have z18:=hs.none f18;replace hs:=hs.trans s18;simp only[go_sem,seval,a18,T40];generalize Zq:C' _ i18 _=Y18;replace a18:=(congrFun Zq i18).symm.trans ag;replace a12:=((congrFun Zq SN).symm.trans (ab n1218)).trans a12;replace TB:=((congrFun Zq WM).symm.trans (ab n1318)).trans TB;replace Wt:=((congrFun Zq i17).symm.trans (ab n1718)).trans Wt;replace hs:=Eq.subst (motive:=aa _) Zq (hs.aE z18);clear Zq;apply sR;simp only[go_sem,seval,a18];refine af λi19 Z19 s19 WZ f19=>?_;have n1819:=aq a18 f19;replace a18:=s19 _ _ a18;have n1219:=aq a12 f19;replace a12:=s19 _ _ a12;have n1319:=aq TB f19;replace TB:=s19 _ _ TB;have n1719:=aq Wt f19;replace Wt:=s19 _ _ Wt;have z19:=hs.none f19;replace hs:=hs.trans s19;simp only[go_sem,seval,WZ,a18,Wt,a12,TB,T12,T13,T16,T17,ab n1819,ab n1719,ab n1219,ab n1319,q1,q2,E9];generalize Yq:C' _ i19 _=Y19;replace WZ:=(congrFun Yq i19).symm.trans ag;replace a18:=((congrFun Yq i18).symm.trans (ab n1819)).trans a18;replace a12:=((congrFun Yq SN).symm.trans (ab n1219)).trans a12;replace TB:=((congrFun Yq WM).symm.trans (ab n1319)).trans TB;replace Wt:=((congrFun Yq i17).symm.trans (ab n1719)).trans Wt;replace hs:=Eq.subst (motive:=aa _) Yq (hs.aE z19);clear Yq;have hc:=Hc x.1 x.2 (by omega) (by omega) f (ga top shift f) body (ao (by simp only[ga];omega) (by simp only[ga];omega)) hJ (G'.trans hs);rw[<-T16]at hc;refine ad.call rfl rfl rfl hc ?_;rintro-Z2 ⟨RC,hB,TE⟩;apply sR;simp only[go_sem,seval];exact⟨_,hB.from hs,TE⟩
  .rintro Z' hJ;have Sh:(L.map λf=>[aQ f]).length=L.length:=by simp
   rw[Sh,List.take_length]at hJ;obtain⟨⟨v,u,Jx,Jv,Ju,_⟩,Js,Jn⟩:=hJ;obtain⟨vc,vs⟩:=Jv.vc;obtain⟨uc,us⟩:=Ju.vc;refine ad.mix 20 ?_;apply sR;simp only[go_sem,seval,S16,Jx,vc,uc,vs,us];have RA:=RX.trans Js;have hK:aa U (bg Z0 i16):=λi o hh=>by
    rw[bg,if_neg (λe=>by rw[e,z16]at hh;cases hh)];exact RX _ _ hh
   exact⟨_,U,RA,Wk.Rf (vs':=[aH (jB top shift body L).1,aH (jB top shift body L).2]) ⟨Jv.wk hK RA,Ju.wk hK RA,trivial⟩,rfl,rfl⟩
  .intro id h;cases h
  .rintro pre Z' _ ⟨⟩
 .rw[decide_eq_false hm,if_neg hm];apply sR;simp only[go_sem,seval];exact⟨_,U,hs,Wk.Rf (vs':=[aH [],aH []]) ⟨Wk.aC 7,Wk.aC 7,trivial⟩,rfl,rfl⟩
variable {P:Program} {n:Nat} {st:St} {Q:St->Prop} {k:List It} {I:Mu} {w:World}
def G1{o:Op}{sz:Nat}{xs:List VX}(h:RG P n o=.more (.cpy sz) xs):∃x y t e args argTypes,o=.call { callee:=.builtin .copy,args:=args,argTypes:=argTypes }/\
 args=#[x,y]/\argTypes[0]?=some t/\P.underlying t=some (.slice e)/\bU P e=true/\P.cellsOf e=sz/\xs=[cx n x,cx n y]:=by
 cases o
 case call c=>
  obtain⟨callee,args,argTypes⟩:=c;cases callee
  case builtin b=>
   cases b
   case copy=>
    simp only[RG,cN]at h;split at h
    .rename_i x y t h1 h2;split at h
     .rename_i e he;split at h
      .rename_i hz;simp only[Rt.more.injEq,MOp.cpy.injEq]at h;exact⟨x,y,t,e,args,argTypes,rfl,by apply Array.ext';simpa using h1,h2,he,hz,h.1,h.2.symm⟩
      .cases h
     .cases h
    .cases h
   all_goals (simp only[RG,cN]at h;(repeat' split at h)<;>cases h)
  all_goals (simp only[RG,cN]at h;(repeat' split at h)<;>cases h)
 case unOp op t x=>cases op<;>simp only[RG,cN]at h<;>cases h
 case makeFunc f a b=>cases f<;>simp only[RG,cN]at h<;>(repeat' split at h)<;>cases h
 all_goals (simp only[RG,cN]at h;(repeat' split at h)<;>cases h)
def C2{F:Fr}{a:Act}(hs:dn F I st a w){o:Oper}{x y:Operand}{t e:TypeId}{args:Array Operand}{argTypes:Array TypeId}
 (Wa:o.op=.call { callee:=.builtin .copy,args:=args,argTypes:=argTypes })(harg:args=#[x,y])(WD:argTypes[0]?=some t)
 (ht:P.underlying t=some (.slice e))(hk:bU P e=true){id off len:Nat}(h1:(cx F.n x).ev st.s=.own id off len){ob:Ob}(h2:st.U id=some ob)
 (h3:ob.sz=P.cellsOf e)(h4:off+len<=ob.rows.length){rows:List V}(h5:bR st.U (P.cellsOf e) ((cx F.n y).ev st.s)=some rows)(h6:rows.length=len):
 ∃y w',(execOp a.eval o).run P w=.ok (.value y) w'/\
  dn F I ⟨aX st.s (o.dst.filter (·<F.n)) (.int .i64 len),C' st.U id { ob with rows:=ob.rows.take off++rows++ob.rows.drop (off+len) }⟩ (a.put o.dst y) w':=by
 have Su:=(dM hk).2.2;have R:=cL hs;have hx:=R x;rw[h1]at hx;simp only[E']at hx;obtain⟨news,hY,n1,n2,n3,n4,n5⟩:=nv (P:=P) hs.sat Su h5 (R y);have RT:∀v w',(Builtin.copy_ argTypes o.type #[a.eval x,a.eval y]).run P w=.ok v w'->(execOp a.eval o).run P w=.ok (.value v) w':=by
  intro v w' XZ;unfold execOp;rw[Wa];simp[resolve,invoke,Go.builtin,harg,XZ]
 have Ur:E' I (aG I st.U) w (.int .i64 len) (goInt len):=by simp only[E'];rfl
 have hcopy:∀b c,a.eval x=.slice b len c->(Builtin.copy_ argTypes o.type #[a.eval x,a.eval y]).run P w=((match b with|some q=>storeCells q news 0|none=>pure ()).run P w).andThen λ_ w'=>.ok (goInt len) w':=by
  intro b c hX;have hlen:=hY w;have Va:=n5 w (λ_ _ _ h=>h);rw[h6]at hlen Va;rw[hX];have hm:Nat.min len len=len:=Nat.min_self len;cases b
  .simp[Builtin.copy_,WD,run_underlying ht,hlen,hm,cy hk,Va]
  .simp[Builtin.copy_,WD,run_underlying ht,hlen,hm,cy hk,Va]
 have hzero:len=0->∃y w',(execOp a.eval o).run P w=.ok (.value y) w'/\
  dn F I ⟨aX st.s (o.dst.filter (·<F.n)) (.int .i64 len),C' st.U id { ob with rows:=ob.rows.take off++rows++ob.rows.drop (off+len) }⟩ (a.put o.dst y) w':=by
  intro h0;subst h0;have hX:∃b c,a.eval x=.slice b 0 c:=by
   split at hx
   .exact hx.elim
   .exact⟨_,_,hx.1⟩
   .obtain⟨o',c,h,_⟩:=hx;exact⟨_,_,h⟩
  obtain⟨b,c,hX⟩:=hX;obtain rfl:rows=[]:=List.eq_nil_of_length_eq_zero h6;obtain rfl:news=[]:=List.eq_nil_of_length_eq_zero (by simpa using n4);have RA:C' st.U id { ob with rows:=ob.rows.take off++[]++ob.rows.drop (off+0) }=st.U:=by
   funext j;simp only[C',List.append_nil,Nat.add_zero,List.take_append_drop];split
   .rename_i e';rw[e',h2]
   .rfl
  rw[RA];refine⟨goInt 0,w,RT _ w ?_,hs.pure Ur⟩;rw[hcopy b c hX];cases b<;>simp[storeCells]
 split at hx
 .exact hx.elim
 .exact hzero hx.2.2
 .rename_i b UQ cap M';obtain⟨o',c,hX,c1,c2,c3,ZH⟩:=hx;by_cases h0:len=0
  .exact hzero h0
  have Sa:=hs.sat.obj id ob h2;rw[M']at Sa;obtain⟨cur,e1,e2,e3,e4,e5,e6,e7⟩:=Sa.plain ZH;obtain⟨g1,xs,g2,g3,g4,g5⟩:=e7.cur e1;have hoff:o'=off*UQ:=by
   rcases c3 with c3|c3
   .exact c3
   .omega
  subst hoff;have Ru:UQ=P.cellsOf e:=by omega
  subst Ru;have hbound:off*P.cellsOf e+len*P.cellsOf e<=ob.rows.length*P.cellsOf e:=by rw[<-Nat.add_mul];exact Nat.mul_le_mul_right _ h4
  have YA:ob.rows.length*P.cellsOf e<=cap*P.cellsOf e:=Nat.mul_le_mul_right _ e5;rw[h6]at n4;have RA:=run_storeCells_at P b (off*P.cellsOf e) ob.elem news 0 cur w e1 (by rw[n4];omega) n3;simp only[Nat.add_zero]at RA;refine⟨goInt len,w.setRow b (cur.toList.take (off*P.cellsOf e)++news++cur.toList.drop (off*P.cellsOf e+news.length)).toArray,RT _ _ ?_,?_⟩
  .rw[hcopy _ c hX];simp only[RA,Result.andThen_ok]
  .have Xd:w.grownBy (w.setRow b (cur.toList.take (off*P.cellsOf e)++news++cur.toList.drop (off*P.cellsOf e+news.length)).toArray) (some b):=
    ⟨rfl,rfl,rfl,by simp,λkk _ Vf=>setRow_other w b kk _ (λe=>Vf (by rw[e]))⟩
   have VF:∀q∈ob.rows.take off++rows++ob.rows.drop (off+len),q.cells.length=P.cellsOf e:=by
    intro q hq;simp only[List.mem_append]at hq;rcases hq with(hq|hq)|hq
    .exact g1 q (List.mem_of_mem_take hq)
    .exact n1 q hq
    .exact g1 q (List.mem_of_mem_drop hq)
   have VD:flat (ob.rows.take off++rows++ob.rows.drop (off+len))=
    (flat ob.rows).take (off*P.cellsOf e)++flat rows++(flat ob.rows).drop (off*P.cellsOf e+len*P.cellsOf e):=by
    rw[gQ,gQ,pE g1];congr 1;rw[vW g1,Nat.add_mul]
   have hch:=hs.sat.change h2 M' (by omega) Xd _ (ob.rows.take off++rows++ob.rows.drop (off+len)) (xs.take (off*P.cellsOf e)++news++xs.drop (off*P.cellsOf e+news.length))
    (setRow_heap w b cur _ ob.elem _ e1) (by simp only[List.size_toArray,List.length_append,List.length_take,List.length_drop,n4];rw[Array.length_toList];omega) (by simp;omega) VF
    (by rw[VD,n4];exact((g2.take _).append n2).append (g2.drop _))
    (by intro u hu
        simp only[List.mem_append]at hu;rcases hu with(hu|hu)|hu
        .exact g3 u (List.mem_of_mem_take hu)
        .exact n3 u hu
        .exact g3 u (List.mem_of_mem_drop hu))
    (by intro j u hu
        have:=kg cur.toList xs _ g5 (off*P.cellsOf e) (by rw[n4,g4];omega) j u hu;simpa using this)
   exact hs.step hch.1 (dd.refl _) hch.2 (by simp) (by simp only[E'];rfl)
def ad.cpy{i:aN}{l:List aN}{sz:Nat}{xa xb:VX}(hw:bx st.s i.g=some true)(ho:i.op=.more (.cpy sz) [xa,xb])
 {id off len:Nat}(h1:xa.ev st.s=.own id off len){ob:Ob}(h2:st.U id=some ob)(h3:ob.sz=sz)(h4:off+len<=ob.rows.length){rows:List V}(h5:bR st.U sz (xb.ev st.s)=some rows)(h6:rows.length=len)
 (h:ad P n (.ops l::k) ⟨aX st.s i.dst (.int .i64 len),C' st.U id { ob with rows:=ob.rows.take off++rows++ob.rows.drop (off+len) }⟩ Q):ad P n (.ops (i::l)::k) st Q:=by
 refine ad.ins (by rw[ho];simp) hw λF hn I a w o all hi hs next Q' Rp=>?_
 subst hn;obtain⟨Rk,hd⟩:=eE hi;rw[ho]at Rk;obtain⟨x,y,t,e,args,argTypes,g1,g2,g3,g4,g5,rfl,TJ⟩:=G1 Rk;simp only[List.cons.injEq,and_true]at TJ;obtain⟨rfl,rfl⟩:=TJ;obtain⟨y,w',hx,Ru⟩:=C2 hs g1 g2 g3 g4 g5 h1 h2 h3 h4 h5 h6;unfold Oper.wp;rw[hx];refine Rp _ _ _ ⟨I,?_⟩ h;rw[<-hd];exact Ru
open Go.Proofs Go.Proofs.Tryz
def dG(body:Int):List P'->Int->List P'×List P'×Int
 |[],sh=>([],[],sh)
 |f::r,sh=>if sh+min f.h body>body then([],f::r,sh)else({ f with y:=sh,h:=min f.h body }::(dG body r (sh+min f.h body)).1,(dG body r (sh+min f.h body)).2)
def px{P:List P'}{j:Nat}(h:j<=P.length):∀U,cM U 7 (aH P) (some (.int .i64 j)) none none=some (aH (P.drop j)):=λU=>by
 have h1:(j:Int)<=P.length:=by omega
 simp only[aH,cM,bF,List.length_map];rw[if_pos ⟨by omega,h1,Int.le_refl _,Int.le_refl _,trivial⟩,Int.toNat_natCast,Int.toNat_natCast,<-List.map_drop,List.take_of_length_le (by simp)]
def FM(P:List P')(hP:P.length<=1000000)(body:Int)(hb0:1<=body)(Wb:body<=1099511627776)(hh:∀f∈P,0<=f.h):
 aV prog 117 [aH P,vI body] (.Rf [aH (dG body P 0).1,aH (dG body P 0).2.1,vI (dG body P 0).2.2]):=λU=>by
 refine QI.r (by simp[LW]) ?_;have hs:=aa.refl U;have XP:=gj P;refine ad.mix 13 ?_;apply sR;simp only[go_sem,seval,LW,XP];refine ad.fe (λst=>∃p q sh,dG body P 0=(p,q,sh)/\aa U st.U/\aT U st.U 150 7 (st.s 4) (p.map aQ)/\aT U st.U 150 7 (st.s 5) (q.map aQ)/\st.s 6=vI sh)
  (λm st=>∃(j:Nat) (acc:List P') (sh:Int),j<=P.length/\m=P.length-j/\acc.length=j/\dG body P 0=(acc++(dG body (P.drop j) sh).1,(dG body (P.drop j) sh).2)/\0<=sh/\sh<=body/\aa U st.U/\aT U st.U 150 7 (st.s 4) (acc.map aQ)/\st.s 5=.aC/\st.s 6=vI sh/\st.s 0=aH P/\st.s 1=vI body/\st.s 10=aH P/\st.s 11=vI P.length/\st.s 12=vI j) P.length ?_ ?_ ?_
 .exact⟨0,[],0,by omega,rfl,rfl,rfl,by omega,by omega,hs,aT.start,rfl,rfl,rfl,rfl,rfl,rfl,rfl⟩
 .clear hs;rintro m ⟨S,J⟩ ⟨j,acc,sh,hj,rfl,TZ,heq,h0,h1,hs,ho,t5,t6,t0,t1,t10,t11,t12⟩;simp only at hs ho t5 t6 t0 t1 t10 t11 t12;generalize hv4:S 4=v4 at ho;refine ad.mix 13 ?_;by_cases H':j<P.length
  .have q:((j:Int)<P.length)=True:=eq_true (by omega);have Q9:=λU=>ke (U:=U) H';have hf0:=hh _ (List.getElem_mem H');have hd:P.drop j=P[j]::P.drop (j+1):=List.drop_eq_getElem_cons H';have UL:aQ P[j]=.agg [vI P[j].node,vI P[j].side,vI P[j].anchor,vI P[j].x,vI P[j].y,vI P[j].w,vI P[j].h]:=rfl;rw[hd,dG]at heq;generalize P[j]=f at*;have hsY:=hs;replace hs:=aa.refl J;have r1:Rq .i64 ((j:Int)+1):=ao (by omega) (by omega);have r2:Rq .i64 (sh+min f.h body):=ao (by omega) (by omega);apply sR;simp only[go_sem,seval,t0,t1,t5,t6,t10,t11,t12,hv4,q,Q9,UL];refine af λi8 Z8 s8 a8 f8=>?_;have z8:=hs.none f8;replace hs:=hs.trans s8;simp only[go_sem,seval,a8,t0,t1,t5,t6,t10,t11,t12,hv4];generalize SC:C' _ i8 _=Y8;replace a8:=(congrFun SC i8).symm.trans ag;replace hs:=Eq.subst (motive:=aa _) SC (hs.aE z8);clear SC;refine af λi9 Z9 s9 a9 f9=>?_;have XL:=aq a8 f9;replace a8:=s9 _ _ a8;have z9:=hs.none f9;replace hs:=hs.trans s9;simp only[go_sem,seval,a9,a8,t0,t1,t5,t6,t10,t11,t12,hv4,dj,ab XL,ab XL];generalize Sp:C' _ i9 _=Y9;replace a9:=(congrFun Sp i9).symm.trans ag;replace a8:=((congrFun Sp i8).symm.trans (ab XL)).trans a8;replace hs:=Eq.subst (motive:=aa _) Sp (hs.aE z9);clear Sp;refine ad.rz (by kernel_rfl) [0,1,2,3,4,5,6,7,8] [[],[],[1],[],[1,2,3],[0],[0,5],[0,1,2,3,4,5,6],[0,1,2,3,4,5,6,7]] [0,2,4,6,8,10,12,5,14,16] (by kernel_rfl) (by kernel_rfl) ?_;refine RE.Sg (n:=0) [5,14,16] [0,2,4,6,8,10,12] [⟨(.some 18),(.Rn (.t 6)),.none⟩,⟨(.some 19),(.Rz .false 6 1 (.t 8)),.none⟩,⟨(.some 20),(.load .false 1 (.t 19)),.none⟩,⟨(.some 21),(.Rn (.t 1)),.none⟩,⟨(.some 22),(.Rh .false (.t 20) (.t 21)),.none⟩,⟨(.some 23),(.Rz .false 4 1 (.t 9)),.none⟩,⟨.none,(.store 1 (.t 23) (.t 18)),.none⟩] rfl rfl ?_;apply sG;simp only[go_sem,seval,a9,a8,t6,t1,e8];refine RE.SB rfl rfl rfl rfl rfl trivial (by simp only[go_sem,seval,a9,a8,t6,t1,e8,ab XL,ab XL]) ?_;refine RE.Sg (n:=0) [] [14,16] [⟨(.some 24),(.Rz .false 6 1 (.t 9)),.none⟩,⟨.none,(.store 1 (.t 24) (.t 22)),.none⟩] rfl rfl ?_;apply sG;simp only[go_sem,seval,a9,a8,t6,t1,e8,ab XL,ab XL];generalize Sp:C' _ i9 _=Y9;replace a9:=(congrFun Sp i9).symm.trans ag;replace a8:=((congrFun Sp i8).symm.trans (ab XL)).trans a8;replace hs:=Eq.subst (motive:=aa _) Sp (hs.aE z9);clear Sp;by_cases hgt:sh+min f.h body>body
   .have q1:(sh+min f.h body>body)=True:=eq_true hgt;rw[if_pos hgt]at heq;have r3:Rq .i64 ((P.length:Int)-j):=ao (by omega) (by omega);apply sR;simp only[go_sem,seval,a9,a8,t0,t1,t5,t6,t10,t11,t12,hv4,XP,r2,q1,r3];obtain⟨n,hn⟩:∃n:Nat,n=P.length-j:=⟨_,rfl⟩
    have hnj:(P.length:Int)-j=(n:Int):=by omega
    rw[hnj];have hbm:(0:Int)<=n/\(n:Int).toNat*57<=140737488355328:=by omega
    simp only[go_sem,seval,hbm];refine af λi36 Z36 s36 a36 f36=>?_;have WE:=px hj;simp only[BB,seval,<-decide_not,bw,fi,aL,cQ,eN,ej,eK,dY,ct,jS,gx,bI,fC,dN,fq,cP,bF,iN,dg,cT,ck,Sk,jV,dc,cc,iM,dI,cd,df,cY,kT,binBV,bW,dq,V.cells,V.stays,t0,t5,WE,Int.toNat_natCast];have UR:(P.drop j).length=n:=by rw[List.length_drop,hn]
    refine ad.cpy (id:=i36) (off:=0) (len:=n) (rows:=(P.drop j).map aQ) rfl rfl rfl a36 rfl (by simp) rfl (by rw[List.length_map,UR]) ?_;have hrw:(List.replicate (n:Int).toNat (V.agg [vI 0,vI 0,vI 0,vI 0,vI 0,vI 0,vI 0])).take 0++(P.drop j).map aQ++(List.replicate (n:Int).toNat (V.agg [vI 0,vI 0,vI 0,vI 0,vI 0,vI 0,vI 0])).drop (0+n)=(P.drop j).map aQ:=by
     generalize (P.drop j).map aQ=X;simp
    rw[hrw];apply sR;simp only[go_sem,seval,t0,t1,t6,t10,t11,t12,hv4];have RA:=(hsY.trans (hs.trans s36)).aE (o:=⟨150,7,(P.drop j).map aQ⟩) ((hsY.trans hs).none f36);refine⟨acc,P.drop j,sh,?_,RA,?_,?_,rfl⟩
    .rw[heq,List.append_nil,hd]
    .exact ho.mono ((hs.trans s36).aE (hs.none f36))
    .exact aT.new (by rw[List.length_map,UR]) ag ((hsY.trans hs).none f36)
   .have q1:(sh+min f.h body>body)=False:=eq_false hgt;rw[if_neg hgt]at heq;apply sR;simp only[go_sem,seval,a9,a8,t0,t1,t5,t6,t10,t11,t12,hv4,r2,q1];refine af λi44 Z44 s44 a44 f44=>?_;obtain⟨Rr,SM,Sv,Zi,Xq⟩:=ho.AD (hs.trans s44);have Wv:(acc.map aQ).length=j:=by rw[List.length_map,TZ]
    have Sb:(j+1)*57<=140737488355328:=by omega
    simp only[go_sem,seval,SM,dW a44,Wv,Sb];refine fM λi45 Z45 s45 a45 f45=>?_;have b9:=s45 _ _ ((Xq i9 z9 Z44).trans (s44 _ _ a9));have k45:=(Sv U (aa.refl _) Z44 (hsY.trans (hs.trans s44))).trans s45;have Tp:U i45=none:=(hsY.trans (hs.trans s44)).none f45;simp only[go_sem,seval,t0,t1,t5,t6,t10,t11,t12,b9,r1,r2];refine⟨_,?_,j+1,acc++[{ f with y:=sh,h:=min f.h body }],sh+min f.h body,by omega,rfl,by simp[TZ],?_,by omega,by omega,k45,?_,by simp⟩
    .omega
    .rw[heq,List.append_assoc];rfl
    .rw[List.map_append];exact aT.new (by simp[TZ]) a45 Tp
  .have q:((j:Int)<P.length)=False:=eq_false (by omega);have SX:j=P.length:=by omega
   rw[SX,List.drop_length,dG,List.append_nil]at heq;apply sR;simp only[go_sem,seval,t0,t1,t5,t6,t10,t11,t12,hv4,q];exact⟨acc,[],sh,heq,hs,hv4▸ho,aT.start,rfl⟩
 .rintro⟨S,J⟩ ⟨p,q,sh,heq,hs,ho,hu,t6⟩;simp only at hs ho hu t6;generalize hv4:S 4=v4 at ho;generalize hv5:S 5=v5 at hu;refine ad.mix 13 ?_;apply sR;simp only[go_sem,seval,hv4,hv5,t6];rw[heq];exact⟨_,U,hs,Wk.Rf (vs':=[aH p,aH q,vI sh]) ⟨ho.wk (aa.refl _) hs,hu.wk (aa.refl _) hs,Wk.refl hs _,trivial⟩,rfl,rfl⟩
open Go.Proofs Go.Proofs.Tryz
structure Bk where
 nodes:List Nd
 (w h:Int)
 atoms:List RY
 Re:List P'
 Ra:Int
 L':List S1
def bt(b:Bk):V:=.agg [aK b.nodes,vI b.w,vI b.h,bl b.atoms,aH b.Re,vI b.Ra,bC b.L']
structure Wx where
 Rj:V
 (high body:Int)
 s:R0
 kind:Int
 (hs fs ls:List SU)
 shift:Int
def du(b:Bk)(x:Wx)(vh vf vl:V):Ob:=⟨219,13,[.agg [x.Rj,vI x.high,vI x.body,.rp (bt b),vI x.s.atom,vI x.s.done,.bool x.s.free,vI 0,vI x.kind,vh,vf,vl,vI x.shift]]⟩
structure Tw(b:Bk)(K:ai)(ix:Nat)(x:Wx)(U:ai)(vh vf vl:V):Prop where
 row:U ix=some (du b x vh vf vl)
 oh:aT (bg K ix) U 63 7 vh (x.hs.map bo)
 of:aT (bg K ix) U 63 7 vf (x.fs.map bo)
 ol:aT (bg K ix) U 63 7 vl (x.ls.map bo)
 hf:dR vh vf
 hl:dR vh vl
 fl:dR vf vl
 sub:aa K U
 no:K ix=none
def Tw.mono{b:Bk}{K:ai}{ix:Nat}{x:Wx}{U J:ai}{vh vf vl:V}(h:Tw b K ix x U vh vf vl)(hs:aa U J):Tw b K ix x J vh vf vl:=
 ⟨hs _ _ h.row,h.oh.mono hs,h.of.mono hs,h.ol.mono hs,h.hf,h.hl,h.fl,h.sub.trans hs,h.no⟩
def zK{K Z8:ai}{ix e sz:Nat}{v:V}{rows:List V}(Js:aa K Z8)(Jn:K ix=none){ox:Ob}(Jx:Z8 ix=some ox)(Jv:aT (bg K ix) Z8 e sz v rows):
 ∃Rr,cg Z8 e sz v=some (rows,Rr)/\∀(Z9:ai) (id:Nat) (Rd:List V),aa (Vc.bK Z8 Rr) Z9->Z9 id=some ⟨e,sz,Rd⟩->Z8 id=none->
  Z9 ix=some ox/\∀o',aa K (C' Z9 ix o')/\aT (bg K ix) (C' Z9 ix o') e sz (.own id 0 Rd.length) Rd/\
  ∀u Wz,aT (bg K ix) Z8 e sz u Wz->dR v u->aT (bg K ix) (C' Z9 ix o') e sz u Wz/\dR (.own id 0 Rd.length) u:=by
 obtain⟨Rr,SM,Vj⟩:=Jv.Nl (aa.refl Z8);have k2:bg K ix ix≠none:=λh=>(aM.1 h).1 rfl;have UF:∀(i:Nat),bg K ix i≠none->Vc.bK Z8 Rr i=Z8 i:=λi hk=>by
  cases Rr with
  |none=>rfl
  |some a=>exact dO (λe=>hk (by rw[e];exact(Vj a rfl).1))
 refine⟨Rr,SM,λZ9 id Rd hs9 h9 f=>⟨hs9 _ _ ((UF _ k2).trans Jx),λo'=>⟨?_,?_,λu Wz hu hap=>⟨?_,dR.new hu f⟩⟩⟩⟩
 .refine aa.aE (λi o h=>hs9 _ _ ((UF _ (λhk=>?_)).trans (Js _ _ h))) Jn;rw[(aM.1 hk).2]at h;cases h
 .have m:id≠ix:=λe=>by rw[e,Jx]at f;cases f
  refine aT.new rfl ((ab m).trans h9) (aM.2 ⟨m,?_⟩);exact Js.none f
 .rcases hu with h|⟨a,rfl,h1,h2⟩
  .exact .inl h
  .refine .inr ⟨a,rfl,(ab (aM.1 h2).1).trans (hs9 _ _ ?_),h2⟩;cases hA:Rr with
   |none=>exact h1
   |some i=>
    have:a≠i:=λe=>hap _ _ _ _ (Vj i hA).2.2 rfl e.symm;simp only[Vc.bK];rw[dO this];exact h1
def tq(high:Int)(f:P'):SU:=⟨f.node,-1,0,f.x,f.y+high,f.w,f.h⟩
def Wx.put(x:Wx)(l:List P'):Wx:={ x with ls:=x.ls++l.map (tq x.high) }
def mJ(b:Bk)(l:List P')(hl:l.length<=1000000)(x:Wx)(hx:x.ls.length<=1000000)(hr:∀f∈l,Rq .i64 (f.y+x.high)){K U:ai}{i1:Nat}{vh vf vl:V}(hJ:Tw b K i1 x U vh vf vl):
 aD prog 118 [.ptr i1 0 0,aH l] U λ_ Z'=>∃Uz,Tw b K i1 (x.put l) Z' vh vf Uz:=by
 refine Pa.r (by simp[JF]) ?_;have US:=gj l;obtain⟨ch,sh⟩:=hJ.oh.vc;obtain⟨cf,sf⟩:=hJ.of.vc;refine ad.mix 9 ?_;apply sR;simp only[go_sem,seval,JF,US];refine ad.loop (λm st=>∃(j:Nat) (Uz:V),j<=l.length/\m=l.length-j/\Tw b K i1 (x.put (l.take j)) st.U vh vf Uz/\st.s 0=.ptr i1 0 0/\st.s 6=aH l/\st.s 7=vI l.length/\st.s 8=vI j) l.length ?_ ?_
 .exact⟨0,vl,by omega,rfl,by simpa[Wx.put]using hJ,rfl,rfl,rfl,rfl⟩
 .rintro m ⟨S,J⟩ ⟨j,Uz,hj,rfl,hJ,t0,t6,t7,t8⟩;simp only at hJ t0 t6 t7 t8;refine ad.mix 9 ?_;by_cases H':j<l.length
  .have q:((j:Int)<l.length)=True:=eq_true (by omega);have Q9:=λU=>ke (U:=U) H';have UL:aQ l[j]=.agg [vI l[j].node,vI l[j].side,vI l[j].anchor,vI l[j].x,vI l[j].y,vI l[j].w,vI l[j].h]:=rfl;have Sf:l.take (j+1)=l.take j++[l[j]]:=List.take_succ_eq_append_getElem H';have hput:x.put (l.take (j+1))={ x.put (l.take j)with ls:=(x.put (l.take j)).ls++[tq x.high l[j]] }:=by
    rw[Sf];simp only[Wx.put,List.map_append,List.map_cons,List.map_nil,List.append_assoc]
   have r0:=hr _ (List.getElem_mem H');have r1:Rq .i64 ((j:Int)+1):=ao (by omega) (by omega);have hyl:((x.put (l.take j)).ls.map bo).length<=2000000:=by simp[Wx.put];omega
   have hyh:(x.put (l.take j)).high=x.high:=rfl;rw[<-hyh]at hput r0;generalize l[j]=f at*;generalize x.put (l.take j)=y at*;have hs:=aa.refl J;have a1:=hJ.row;rw[du]at a1;obtain⟨cl,sl⟩:=hJ.ol.vc;apply sR;simp only[go_sem,seval,t0,t6,t7,t8,q,Q9,UL];refine af λi5 Z5 s5 a5 f5=>?_;have YO:=aq a1 f5;replace a1:=s5 _ _ a1;have z5:=hs.none f5;replace hs:=hs.trans s5;simp only[go_sem,seval,a5,a1,t0,t6,t7,t8,ab YO,ab YO,r0,ch,sh,cf,sf,cl,sl];generalize TR:C' _ i5 _=Y5;replace a5:=(congrFun TR i5).symm.trans ag;replace a1:=((congrFun TR i1).symm.trans (ab YO)).trans a1;replace hs:=Eq.subst (motive:=aa _) TR (hs.aE z5);clear TR;refine bu λi35 Z35 s35 a35 f35=>?_;have V1:=hJ.mono (hs.trans s35);obtain⟨Rr,SM,XD⟩:=zK V1.sub V1.no V1.row V1.ol;generalize hrw:y.ls.map bo=rows at*;have Sb:(rows.length+1)*57<=140737488355328:=by omega
   simp only[go_sem,seval,SM,dW a35,Sb];refine jM λi36 Z36 s36 a36 f36=>?_;obtain⟨b1,hg⟩:=XD Z36 i36 _ s36 a36 f36;rw[du]at b1;obtain⟨g1,g2,g3⟩:=hg (du b { y with ls:=y.ls++[tq y.high f] } vh vf (.own i36 0 (rows.length+1)));simp only[go_sem,seval,b1,t0,t6,t7,t8,ch,sh,cf,sf,cl,sl,r1];refine⟨_,?_,j+1,.own i36 0 (rows.length+1),by omega,rfl,?_,by simp⟩
   .omega
   .rw[hput];obtain⟨k1,k2⟩:=g3 _ _ V1.oh V1.hl.symm;obtain⟨k3,k4⟩:=g3 _ _ V1.of V1.fl.symm;rw[List.length_append]at g2 k2 k4;refine⟨ag,k1,k3,?_,hJ.hf,k2.symm,k4.symm,g1,hJ.no⟩;show aT _ _ _ _ _ ((y.ls++[tq y.high f]).map bo);rw[List.map_append,hrw];exact g2
  .have q:((j:Int)<l.length)=False:=eq_false (by omega);have SX:j=l.length:=by omega
   rw[SX,List.take_length]at hJ;apply sR;simp only[go_sem,seval,t0,t6,t7,t8,q];exact⟨_,_,aa.refl _,Wk.refl (aa.refl _) _,Uz,hJ⟩
open Go.Proofs Go.Proofs.Tryz
structure BkOk(b:Bk):Prop where
 RD:lF b.atoms
 tight:∀a∈b.atoms,-18014398509481984<=a.y/\a.y<=18014398509481984/\0<=a.h/\a.h<=18014398509481984
 len:b.atoms.length<=900000
 Uf:b.Re.length<=1000000
 Yk:∀f∈b.Re,f.ok
 ZV:b.L'.length=b.atoms.length+1
structure Sc where
 s:R0
 bM:List P'
def bY(x:Sc):V:=.agg [vI x.s.atom,vI x.s.done,.bool x.s.free,aH x.bM]
def DA{top shift body:Int}:∀{L:List P'} {m:P'},m∈(jB top shift body L).1->∃f∈L,m=ga top shift f:=by
 have key:∀(L L0:List P') (x:List P'×List P'),(∀m∈x.1,∃f∈L0,m=ga top shift f)->∀m∈(L.foldl (λx f=>lW body x f (ga top shift f)) x).1,∃f∈L0++L,m=ga top shift f:=by
  intro L
  induction L with
  |nil=>intro L0 x h m hm;simpa using h m hm
  |cons f L ih=>
   intro L0 x h m hm;rw[List.foldl_cons]at hm;have:=ih (L0++[f]) _ (λm hm=>?_) m hm
   .simpa using this
   .unfold lW at hm;simp only at hm;split at hm
    .obtain⟨g,hg,e⟩:=h m hm;exact⟨g,by simp[hg],e⟩
    .rcases List.mem_append.1 hm with hm|hm
     .obtain⟨g,hg,e⟩:=h m hm;exact⟨g,by simp[hg],e⟩
     .simp at hm;exact⟨f,by simp,hm⟩
 intro L m hm;have:=key L [] ([],[]) (by simp) m hm;simpa using this
def vM{b:Bk}(hb:BkOk b){s:R0}(hd:s.done<=1152921504606846976){to kept shift body:Int}(hk:-1152921504606846976<=kept/\kept<=2305843009213693952)(UM:0<=shift/\shift<=1152921504606846976):
 (dF b.atoms b.Re s to kept shift body).1.length<=1000000/\∀m∈(dF b.atoms b.Re s to kept shift body).1,0<=m.y/\m.y<=6917529027641081856:=by
 unfold dF;split
 .rename_i hm;have h1:=pY (sM b.atoms s kept) shift body (fH b.Re s to);have h2:(fH b.Re s to).length<=b.Re.length:=pO _ _ _;have h3:=hb.Uf;refine⟨by omega,λm hmm=>?_⟩;obtain⟨f,hf,rfl⟩:=DA hmm;have V8:=hb.Yk f (List.mem_filter.1 hf).1;obtain⟨_,⟨o1,o2⟩,_⟩:=V8;obtain⟨h0,h4⟩:=hm.1;have Xt:-4611686018427387904<=sM b.atoms s kept:=by
   unfold sM;have:=hm.2.1;obtain⟨k,Vf⟩:∃k:Nat,s.atom=k:=⟨s.atom.toNat,by omega⟩
   have Tv:k<b.atoms.length:=by omega
   have hy:=hb.RD.Xp _ (List.getElem_mem Tv);rw[Vf,bz Tv];omega
  simp only[ga];omega
 .simp
def cE(high:Int)(f:SU):SU:={ f with y:=f.y+high }
def cp(b:Bk)(x:Wx)(kept:Int)(n:Nat):List SU:=(List.range n).map λi:Nat=>cE x.high (cU b.atoms x.s kept x.shift (x.s.atom+(i:Nat)))
def Wx.add(x:Wx)(l:List SU):Wx:={ x with fs:=x.fs++l }
def Al{l:List RY}(hl:lF l){s:R0}(Vv:0<=s.done)(hd:s.done<=1152921504606846976){kept shift:Int}(hk:-1152921504606846976<=kept/\kept<=2305843009213693952)(UM:0<=shift/\shift<=1152921504606846976)(k:Int):
 -4611686018427387904<=(cU l s kept shift k).y/\(cU l s kept shift k).y<=6917529027641081856:=by
 have h:=nP hl hd hk UM k;unfold cU;split
 .split
  .simp only;omega
  .simp only[jI];omega
 .simp
def gl(l:List RY)(U:ai):bS U false 1 (.rp (bl l))=some (bl l):=rfl
def Cs(l:List P')(U:ai):bS U false 1 (.rp (aH l))=some (aH l):=rfl
def F5(l:List S1)(U:ai):bS U false 1 (.rp (bC l))=some (bC l):=rfl
def NH(l:List Nd)(U:ai):bS U false 1 (.rp (aK l))=some (aK l):=rfl
def Tw.nh{b:Bk}{K:ai}{ix:Nat}{x:Wx}{U J:ai}{vh vf vl:V}(h:Tw b K ix x U vh vf vl)(hs:aa U J){i:Nat}{o:Ob}(h1:U i=none)(h2:J i=some o):Tw b (C' K i o) ix x J vh vf vl:=by
 have key:∀{v rows},aT (bg K ix) U 63 7 v rows->aT (bg (C' K i o) ix) J 63 7 v rows:=λhv=>by
  rcases hv with h|⟨a,e,h3,h4⟩
  .exact .inl h
  .refine .inr ⟨a,e,hs _ _ h3,aM.2 ⟨(aM.1 h4).1,?_⟩⟩;rw[ab (λe=>by subst e;rw[h1]at h3;cases h3)];exact(aM.1 h4).2
 refine⟨hs _ _ h.row,key h.oh,key h.of,key h.ol,h.hf,h.hl,h.fl,λa q ha=>?_,?_⟩
 .by_cases e:a=i
  .subst e;rw[Vc.ag]at ha;cases ha;exact h2
  .rw[Vc.ab e]at ha;exact hs _ _ (h.sub _ _ ha)
 .rw[Vc.ab (λe=>by subst e;rw[h.row]at h1;cases h1)];exact h.no
def Tw.narrow{b:Bk}{K:ai}{ix i:Nat}{o:Ob}{x:Wx}{U:ai}{vh vf vl:V}(h:Tw b (C' K i o) ix x U vh vf vl)(hK:K i=none):Tw b K ix x U vh vf vl:=by
 have hk:∀a,C' K i o a=none->K a=none:=λa ha=>by
  by_cases e:a=i
  .subst e;exact hK
  .rwa [Vc.ab e]at ha
 have key:∀{v rows},aT (bg (C' K i o) ix) U 63 7 v rows->aT (bg K ix) U 63 7 v rows:=λhv=>by
  rcases hv with h|⟨a,e,h3,h4⟩
  .exact .inl h
  .exact .inr ⟨a,e,h3,aM.2 ⟨(aM.1 h4).1,hk _ (aM.1 h4).2⟩⟩
 refine⟨h.row,key h.oh,key h.of,key h.ol,h.hf,h.hl,h.fl,λa q ha=>h.sub _ _ ?_,hk _ h.no⟩;rw[Vc.ab (λe=>by subst e;rw[hK]at ha;cases ha)];exact ha
def Tw.drop{b:Bk}{K:ai}{ix i:Nat}{o:Ob}{x:Wx}{U:ai}{vh vf vl:V}(h:Tw b (C' K i o) ix x U vh vf vl)(hK:K i=none)(o':Ob):Tw b K ix x (C' U i o') vh vf vl:=by
 have hn:ix≠i:=λe=>by have:=h.no;subst e;rw[Vc.ag]at this;cases this
 have key:∀{v rows},aT (bg K ix) U 63 7 v rows->aT (bg (C' K i o) ix) U 63 7 v rows->aT (bg K ix) (C' U i o') 63 7 v rows:=λhv hw=>by
  rcases hv with h|⟨a,rfl,h3,h4⟩
  .exact .inl h
  .refine .inr ⟨a,rfl,?_,h4⟩;rcases hw with⟨h,_⟩|⟨c,h,h5,h6⟩
   .cases h
   .cases h;have:a≠i:=λe=>by subst e;have:=(aM.1 h6).2;rw[Vc.ag]at this;cases this
    rw[Vc.ab this];exact h3
 have g:=h.narrow hK;refine⟨(Vc.ab hn).trans h.row,key g.oh h.oh,key g.of h.of,key g.ol h.ol,h.hf,h.hl,h.fl,g.sub.aE hK,g.no⟩
def FA(b:Bk)(hb:BkOk b)(x:Wx)(hm:bZ b.atoms x.s)(hd:x.s.done<=1152921504606846976)(hx:x.fs.length<=1000000)(hxl:x.ls.length<=1000000)(hh:0<=x.high/\x.high<=1152921504606846976)(kept:Int)(hk:-1152921504606846976<=kept/\kept<=2305843009213693952)
 (UM:0<=x.shift/\x.shift<=1152921504606846976)(cut:Nat)(hc:x.s.atom<=cut)(Sn:cut<=b.atoms.length){K U:ai}{i1:Nat}{vh vf vl:V}(hJ:Tw b K i1 x U vh vf vl):
 aD prog 181 [.ptr i1 0 0,vI kept,vI cut] U λr Z'=>∃U4 Uz,r=bY ⟨⟨cut,0,decide ((b.L'.getD cut ⟨0,0,0⟩).forced≠0)⟩,(dF b.atoms b.Re x.s cut kept x.shift x.body).2⟩/\
  Tw b K i1 ((x.add (cp b x kept (cut-x.s.atom.toNat))).put (dF b.atoms b.Re x.s cut kept x.shift x.body).1) Z' vh U4 Uz:=by
 refine QT.r (by simp[Ko]) ?_;have hs:=aa.refl U;have UW:bt b=.agg [aK b.nodes,vI b.w,vI b.h,bl b.atoms,aH b.Re,vI b.Ra,bC b.L']:=rfl;have a1:=hJ.row;rw[du]at a1;obtain⟨ch,sh⟩:=hJ.oh.vc;obtain⟨a,haa⟩:∃a:Nat,x.s.atom=a:=⟨x.s.atom.toNat,by have:=hm.1;omega⟩
 obtain⟨n,hn⟩:∃n,n=cut-x.s.atom.toNat:=⟨_,rfl⟩
 have hnc:a+n=cut:=by omega
 rw[<-hn];have hlen:=hb.len;refine ad.mix 13 ?_;apply sR;simp only[go_sem,seval,Ko];refine af λi6 Z6 s6 a6 f6=>?_;have n16:=aq a1 f6;replace a1:=s6 _ _ a1;have z6:=hs.none f6;replace hs:=hs.trans s6;have V3:=hJ.nh s6 f6 a6;have k6:K i6=none:=hJ.sub.none f6;simp only[go_sem,seval,a1,UW,haa,gl];refine ad.fe (λst=>∃U4,Tw b (C' K i6 ⟨45,4,[.agg [vI 0,vI 0,.bool false,.aC]]⟩) i1 (x.add (cp b x kept n)) st.U vh U4 vl/\st.s 0=.ptr i1 0 0/\st.s 1=vI kept/\st.s 2=vI cut/\st.s 6=.ptr i6 0 0/\st.s 7=bl b.atoms)
  (λm st=>∃(j:Nat) (U4:V),j<=n/\m=n-j/\Tw b (C' K i6 ⟨45,4,[.agg [vI 0,vI 0,.bool false,.aC]]⟩) i1 (x.add (cp b x kept j)) st.U vh U4 vl/\st.s 0=.ptr i1 0 0/\st.s 1=vI kept/\st.s 2=vI cut/\st.s 6=.ptr i6 0 0/\st.s 7=bl b.atoms/\∃z:Int,st.s 8=vI z/\z=(a:Int)+j) n ?_ ?_ ?_
 .exact⟨0,vf,by omega,rfl,by simpa[Wx.add,cp]using V3,rfl,rfl,rfl,rfl,rfl,_,rfl,by omega⟩
 .clear hs V3 a1 hJ a6;rintro m ⟨S,J⟩ ⟨j,U4,hj,rfl,hJ,t0,t1,t2,t6,t7,z,t8,hz⟩;simp only at hJ t0 t1 t2 t6 t7 t8;refine ad.mix 13 ?_;by_cases H':j<n
  .have q:(z<(cut:Int))=True:=eq_true (by omega);have hsw:x.add (cp b x kept (j+1))={ x.add (cp b x kept j)with fs:=(x.add (cp b x kept j)).fs++[cE x.high (cU b.atoms x.s kept x.shift z)] }:=by
    simp only[Wx.add,cp,List.range_succ,List.map_append,List.map_cons,List.map_nil,List.append_assoc];rw[hz,haa]
   have SL:aV prog 243 [bl b.atoms,bj (x.add (cp b x kept j)).s,vI kept,vI (x.add (cp b x kept j)).shift,vI z] (bo (cU b.atoms x.s kept x.shift z)):=CH b.atoms hb.RD x.s hd kept x.shift z hk UM;have Wr:=Al hb.RD hm.2.1 hd hk UM z;have hyl:((x.add (cp b x kept j)).fs.map bo).length<=2000000:=by simp[Wx.add,cp];omega
   have hyh:(x.add (cp b x kept j)).high=x.high:=rfl;rw[<-hyh]at hsw;generalize cU b.atoms x.s kept x.shift z=w at*;generalize x.add (cp b x kept j)=y at*;have hs:=aa.refl J;have a1:=hJ.row;rw[du]at a1;rw[bj]at SL;have r1:Rq .i64 (z+1):=ao (by omega) (by omega);have r2:Rq .i64 (w.y+y.high):=ao (by omega) (by omega);obtain⟨cf,sf⟩:=hJ.of.vc;obtain⟨cl,sl⟩:=hJ.ol.vc;apply sR;simp only[go_sem,seval,t0,t1,t2,t6,t7,t8,q,dj];refine ad.CX (by kernel_rfl) 8 (.fork [[],[],[1],[2,1],[3,2,1],[],[],[6],[7,6],[8,7,6],[],[0,4,5,9,10,3,2,1,8,7,6],[],[12,11,0,1,2,3,4,5,6,7,8,9,10]] [0,1,2,3,4,5,6,7,8,9,10] [11,12] [(.leaf [[],[],[1],[2,1],[3,2,1],[],[],[6],[7,6],[8,7,6],[],[0,4,5,9,10,3,2,1,8,7,6],[11,0,4,5,9,10,3,2,1,8,7,6],[11,0,4,5,9,10,3,2,1,8,7,6,12]] [11,12,13]),(.leaf [[],[],[1],[2,1],[3,2,1],[],[],[6],[7,6],[8,7,6],[],[12,0,4,5,9,10,3,2,1,8,7,6],[],[12,11,0,1,2,3,4,5,6,7,8,9,10]] [12,11,13])]) (by kernel_rfl) ?_;refine GT.oX (its:=[0,2,4,6,8,10,12,14,16,18,20]) (by kernel_rfl) ?_;refine RE.Sg (n:=0) [] [0,2,4,6,8,10,12,14,16,18,20] [⟨(.some 31),(.Rn (.t 7)),.none⟩,⟨(.some 32),(.Rn (.t 0)),.none⟩,⟨(.some 33),(.nilCheck (.t 32)),.none⟩,⟨(.some 34),(.Rz .true 4 3 (.t 33)),.none⟩,⟨(.some 35),(.load .true 3 (.t 34)),.none⟩,⟨(.some 36),(.Rn (.t 1)),.none⟩,⟨(.some 37),(.Rn (.t 0)),.none⟩,⟨(.some 38),(.nilCheck (.t 37)),.none⟩,⟨(.some 39),(.Rz .false 12 1 (.t 38)),.none⟩,⟨(.some 40),(.load .false 1 (.t 39)),.none⟩,⟨(.some 41),(.Rn (.t 8)),.none⟩] rfl rfl ?_;apply sG;simp only[go_sem,seval,a1,t0,t1,t7,t8,bo];refine⟨?_,?_⟩
   .refine GT.iO (its:=[22,24,26]) (by kernel_rfl) ?_;refine RE.aB rfl rfl rfl rfl rfl (SL _) ?_;refine RE.Sg (n:=0) [] [24,26] [⟨(.some 9),(.alloc 63 7 (.agg [(.int .i64 0),(.int .i64 0),(.int .i64 0),(.int .i64 0),(.int .i64 0),(.int .i64 0),(.int .i64 0)])),.none⟩,⟨.none,(.store 7 (.t 9) (.t 42)),.none⟩] rfl rfl ?_;apply sG;simp only[go_sem,seval,a1,t0,t1,t7,t8,bo];refine bu λi9 Z9 s9 a9 f9=>?_;have n19:=aq a1 f9;replace a1:=s9 _ _ a1;have z9:=hs.none f9;replace hs:=hs.trans s9;simp only[go_sem,seval,a1,t0,t1,t7,t8,bo,a9];generalize Sp:C' _ i9 _=Y9;replace a9:=(congrFun Sp i9).symm.trans ag;replace a1:=((congrFun Sp i1).symm.trans (ab n19)).trans a1;replace hs:=Eq.subst (motive:=aa _) Sp (hs.aE z9);clear Sp;apply sR;simp only[go_sem,seval,a9,a1,t0,r2,ab n19,ab n19,cf,sf];generalize Sp:C' _ i9 _=Y9;replace a9:=(congrFun Sp i9).symm.trans ag;replace a1:=((congrFun Sp i1).symm.trans (ab n19)).trans a1;replace hs:=Eq.subst (motive:=aa _) Sp (hs.aE z9);clear Sp;refine bu λi59 Z59 s59 a59 f59=>?_;have Te:=(hJ.mono hs).mono s59;obtain⟨Rr,SM,XD⟩:=zK Te.sub Te.no Te.row Te.of;generalize hrw:y.fs.map bo=rows at*;have Sb:(rows.length+1)*57<=140737488355328:=by omega
    simp only[go_sem,seval,SM,dW a59,Sb];refine jM λi60 Z60 s60 a60 f60=>?_;obtain⟨b1,hg⟩:=XD Z60 i60 _ s60 a60 f60;rw[du]at b1;obtain⟨g1,g2,g3⟩:=hg (du b { y with fs:=y.fs++[cE y.high w] } vh (.own i60 0 (rows.length+1)) vl);simp only[go_sem,seval,b1,t0,t1,t2,t6,t7,t8,ch,sh,cf,sf,cl,sl,r1];refine⟨_,?_,j+1,.own i60 0 (rows.length+1),by omega,rfl,?_,_,rfl,by omega⟩
    .omega
    .rw[hsw];obtain⟨k1,k2⟩:=g3 _ _ Te.oh Te.hf.symm;obtain⟨k3,k4⟩:=g3 _ _ Te.ol Te.fl;rw[List.length_append]at g2 k2 k4;refine⟨?_,k1,?_,k3,k2.symm,hJ.hl,k4,g1,hJ.no⟩
     .exact ag
     .show aT _ _ _ _ _ ((y.fs++[cE y.high w]).map bo);rw[List.map_append,hrw];exact g2
   .refine GT.iO (its:=[24,9,19,22,26]) (by kernel_rfl) ?_;refine RE.Sg (n:=0) [9,19,22,26] [24] [⟨(.some 9),(.alloc 63 7 (.agg [(.int .i64 0),(.int .i64 0),(.int .i64 0),(.int .i64 0),(.int .i64 0),(.int .i64 0),(.int .i64 0)])),.none⟩] rfl rfl ?_;apply sG;simp only[go_sem,seval,a1,t0,t1,t7,t8,bo];refine bu λi9 Z9 s9 a9 f9=>?_;have n19:=aq a1 f9;replace a1:=s9 _ _ a1;have z9:=hs.none f9;replace hs:=hs.trans s9;simp only[go_sem,seval,a1,t0,t1,t7,t8,bo,a9];refine RE.SB rfl rfl rfl rfl rfl trivial (by simp only[go_sem,seval,a1,t0,t1,t7,t8,bo,a9]) ?_;refine RE.SB rfl rfl rfl rfl rfl trivial (by simp only[go_sem,seval,a1,t0,t1,t7,t8,bo,a9]) ?_;refine RE.aB rfl rfl rfl rfl rfl (SL _) ?_;refine RE.Sg (n:=0) [] [26] [⟨.none,(.store 7 (.t 9) (.t 42)),.none⟩] rfl rfl ?_;apply sG;simp only[go_sem,seval,a1,t0,t1,t7,t8,bo,a9];generalize Sp:C' _ i9 _=Y9;replace a9:=(congrFun Sp i9).symm.trans ag;replace a1:=((congrFun Sp i1).symm.trans (ab n19)).trans a1;replace hs:=Eq.subst (motive:=aa _) Sp (hs.aE z9);clear Sp;apply sR;simp only[go_sem,seval,a9,a1,t0,r2,ab n19,ab n19,cf,sf];generalize Sp:C' _ i9 _=Y9;replace a9:=(congrFun Sp i9).symm.trans ag;replace a1:=((congrFun Sp i1).symm.trans (ab n19)).trans a1;replace hs:=Eq.subst (motive:=aa _) Sp (hs.aE z9);clear Sp;refine bu λi59 Z59 s59 a59 f59=>?_;have Te:=(hJ.mono hs).mono s59;obtain⟨Rr,SM,XD⟩:=zK Te.sub Te.no Te.row Te.of;generalize hrw:y.fs.map bo=rows at*;have Sb:(rows.length+1)*57<=140737488355328:=by omega
    simp only[go_sem,seval,SM,dW a59,Sb];refine jM λi60 Z60 s60 a60 f60=>?_;obtain⟨b1,hg⟩:=XD Z60 i60 _ s60 a60 f60;rw[du]at b1;obtain⟨g1,g2,g3⟩:=hg (du b { y with fs:=y.fs++[cE y.high w] } vh (.own i60 0 (rows.length+1)) vl);simp only[go_sem,seval,b1,t0,t1,t2,t6,t7,t8,ch,sh,cf,sf,cl,sl,r1];refine⟨_,?_,j+1,.own i60 0 (rows.length+1),by omega,rfl,?_,_,rfl,by omega⟩
    .omega
    .rw[hsw];obtain⟨k1,k2⟩:=g3 _ _ Te.oh Te.hf.symm;obtain⟨k3,k4⟩:=g3 _ _ Te.ol Te.fl;rw[List.length_append]at g2 k2 k4;refine⟨?_,k1,?_,k3,k2.symm,hJ.hl,k4,g1,hJ.no⟩
     .exact ag
     .show aT _ _ _ _ _ ((y.fs++[cE y.high w]).map bo);rw[List.map_append,hrw];exact g2
  .have q:(z<(cut:Int))=False:=eq_false (by omega);have SX:j=n:=by omega
   subst SX;apply sR;simp only[go_sem,seval,t0,t1,t2,t6,t7,t8,q];exact⟨U4,hJ⟩
 .clear hs V3 a1 hJ a6;rintro⟨S,J⟩ ⟨U4,hJ,t0,t1,t2,t6,t7⟩;simp only at hJ t0 t1 t2 t6 t7;have SL:aV prog 242 [bl b.atoms,aH b.Re,bj (x.add (cp b x kept n)).s,vI cut,vI kept,vI (x.add (cp b x kept n)).shift,vI (x.add (cp b x kept n)).body] (.Rf [aH (dF b.atoms b.Re x.s cut kept x.shift x.body).1,aH (dF b.atoms b.Re x.s cut kept x.shift x.body).2]):=
   Fj b.atoms hb.RD b.Re hb.Uf hb.Yk x.s hd cut kept x.shift x.body hk UM
  have Wr:=vM hb hd (to:=cut) (body:=x.body) hk UM;have hyl:(x.add (cp b x kept n)).ls.length<=1000000:=hxl;have hyh:(x.add (cp b x kept n)).high=x.high:=rfl;rw[bj]at SL;generalize dF b.atoms b.Re x.s cut kept x.shift x.body=R at*;generalize x.add (cp b x kept n)=y at*;have a1:=hJ.row;rw[du]at a1;have hflo:=mJ b R.1 Wr.1 y hyl (λf hf=>by
   have:=Wr.2 f hf;rw[hyh];exact ao (by omega) (by omega)) hJ
  have hcb:cut<b.L'.length:=by have:=hb.ZV;omega
  have Q9:=λU=>sc (U:=U) hcb;have V9:b.L'.getD cut ⟨0,0,0⟩=b.L'[cut]:=by simp[hcb]
  rw[V9];generalize b.L'[cut]=bk at*;refine ad.mix 13 ?_;apply sR;simp only[go_sem,seval,t0,t1,t2,t6,t7,a1,UW,gl,Cs];refine Go.bP rfl rfl rfl SL ?_;apply sG;simp only[go_sem,seval,t0];refine ad.call rfl rfl rfl hflo ?_;rintro r Z' ⟨Uz,TE⟩;clear a1;have a1:=TE.row;rw[du]at a1;have a6:=TE.sub _ _ ag;have hs:=aa.refl Z';apply sR;simp only[go_sem,seval,t0,t2,t6,a1,UW,F5,Q9,dX];refine af λSN Z12 WV a12 f12=>?_;have n112:=aq a1 f12;replace a1:=WV _ _ a1;have n612:=aq a6 f12;replace a6:=WV _ _ a6;have z12:=hs.none f12;replace hs:=hs.trans WV;simp only[go_sem,seval,a12,a6,t6,ar,au,ab n112,ab n612];exact⟨_,_,aa.refl _,Wk.refl (aa.refl _) _,U4,Uz,rfl,(TE.mono (hs.aE f12)).drop k6 _⟩
open Go.Proofs Go.Proofs.Tryz
def bJ.rt:bJ->bJ
 |.seq _ b=>b
 |c=>c
def cC{i j:Nat}(h:i≠j):(∀(U:ai) (o:Ob),C' U i o j=U j)/\∀(U:ai) (o:Ob),C' U j o i=U i:=⟨λ_ _=>ab h.symm,λ_ _=>ab h⟩
def Hw(l:List RY)(s:R0)(RJ:Int):(ic l s RJ).y=0:=by
 unfold ic;split<;>rfl
def qg(b:Bk)(x:Wx):Wx:=(x.add [cE x.high (ic b.atoms x.s x.body)]).put (dF b.atoms b.Re x.s (x.s.atom+1) 0 0 x.body).1
def sF(b:Bk)(x:Wx):Sc:=⟨ew b.atoms x.s x.body,(dF b.atoms b.Re x.s (x.s.atom+1) 0 0 x.body).2⟩
def H4(b:Bk)(hb:BkOk b)(x:Wx)(hm:bZ b.atoms x.s)(hd:x.s.done<=1152921504606846976)(hx:x.fs.length<=1000000)(hxl:x.ls.length<=1000000)(hh:0<=x.high/\x.high<=1152921504606846976)(u v:Int)
 {K U:ai}{i1:Nat}{vh vf vl:V}(hJ:Tw b K i1 x U vh vf vl):
 aD prog 180 [.ptr i1 0 0,vI u,vI v] U λr Z'=>∃U4 Uz,r=bY (sF b x)/\Tw b K i1 (qg b x) Z' vh U4 Uz:=by
 refine Qk.r (by simp[FX]) ?_;have UW:bt b=.agg [aK b.nodes,vI b.w,vI b.h,bl b.atoms,aH b.Re,vI b.Ra,bC b.L']:=rfl;have a1:=hJ.row;rw[du]at a1;obtain⟨ch,sh⟩:=hJ.oh.vc;have hlen:=hb.len;refine ad.mix 12 ?_;have hs:=aa.refl U;apply sR;simp only[go_sem,seval,FX];refine af λi6 Z6 s6 a6 f6=>?_;have n16:=aq a1 f6;replace a1:=s6 _ _ a1;have z6:=hs.none f6;replace hs:=hs.trans s6;have k6:K i6=none:=hJ.sub.none f6;have V3:=hJ.nh s6 f6 a6;clear hJ;simp only[go_sem,seval,a1,UW,gl,dj];have Sx:=KS b.atoms hb.RD x.s hd x.body;have hw0:=Hw b.atoms x.s x.body;unfold qg sF;have SL:=Fj b.atoms hb.RD b.Re hb.Uf hb.Yk x.s hd (x.s.atom+1) 0 0 x.body (by omega) (by omega);have Wr:=vM hb hd (to:=x.s.atom+1) (kept:=0) (shift:=0) (body:=x.body) (by omega) (by omega);generalize ic b.atoms x.s x.body=w at*;generalize ew b.atoms x.s x.body=nx at*;generalize dF b.atoms b.Re x.s (x.s.atom+1) 0 0 x.body=R at*;rw[bj]at Sx SL;obtain⟨cf,sf⟩:=V3.of.vc;obtain⟨cl,sl⟩:=V3.ol.vc;have nc:(bj nx).cells=[vI nx.atom,vI nx.done,.bool nx.free]:=rfl;have ns:(bj nx).stays=true:=rfl;have fin:∀(S:Nat->V) (J:ai) (i8 i9:Nat),aa Z6 J->((∀(U:ai) (o:Ob),C' U i8 o i9=U i9)/\∀(U:ai) (o:Ob),C' U i9 o i8=U i8)->Z6 i8=none->Z6 i9=none->J i8=some ⟨63,7,[.agg [vI w.node,vI w.atom,vI w.fr,vI w.x,vI w.y,vI w.w,vI w.h]]⟩->J i9=some ⟨42,3,[.agg [vI nx.atom,vI nx.done,.bool nx.free]]⟩->
  S 0=.ptr i1 0 0->S 6=.ptr i6 0 0->S 7=bl b.atoms->S 8=.ptr i8 0 0->S 9=.ptr i9 0 0->
  ad prog 89 [It.code FX.code.rt.rt.rt] ⟨S,J⟩ λst=>Vr [.cell true 4 (.t 6)] st λr Z'=>∃U4 Uz,r=bY ⟨nx,R.2⟩/\Tw b K i1 ((x.add [cE x.high w]).put R.1) Z' vh U4 Uz:=by
  intro S J i8 i9 hsZ hn z8 z9 a8 a9 t0 t6 t7 t8 t9;have n69:=aq a6 z9;have k9:=V3.sub.none z9;have hJ:=V3.nh hsZ z9 a9;have n18:i1≠i8:=aq a1 z8;have a1:=hJ.row;rw[du]at a1;have r2:Rq .i64 (w.y+x.high):=ao (by omega) (by omega);have r3:Rq .i64 (x.s.atom+1):=ao (by have:=hm.1;omega) (by have:=hm.1;omega);have hs:=aa.refl J;have z8:=z8;refine ad.mix 12 ?_;apply sR;simp only[go_sem,seval,FX,bJ.rt,t0,t6,t7,t8,t9,a8,a1,r2,ab n18,cf,sf];generalize SC:C' J i8 _=Y8;have SF:Tw b (C' K i6 ⟨45,4,[.agg [vI 0,vI 0,.bool false,.aC]]⟩) i1 x Y8 vh vf vl:=V3.mono (SC▸hsZ.aE z8);replace a8:=(congrFun SC i8).symm.trans ag;replace a9:=((congrFun SC i9).symm.trans (hn.1 _ _)).trans a9;replace hJ:=V3.nh (SC▸hsZ.aE z8) z9 a9;clear SC;refine bu λi50 Z50 s50 a50 f50=>?_;have Te:=hJ.mono s50;obtain⟨Rr,SM,XD⟩:=zK Te.sub Te.no Te.row Te.of;have UL:(x.fs.map bo).length<=1000000:=by simpa using hx
  generalize hrw:x.fs.map bo=rows at*;have Sb:(rows.length+1)*57<=140737488355328:=by omega
  simp only[go_sem,seval,SM,dW a50,Sb];refine jM λi51 Z51 s51 a51 f51=>?_;obtain⟨b1,hg⟩:=XD Z51 i51 _ s51 a51 f51;rw[du]at b1;obtain⟨g1,g2,g3⟩:=hg (du b (x.add [cE x.high w]) vh (.own i51 0 (rows.length+1)) vl);have hJa:Tw b (C' (C' K i6 ⟨45,4,[.agg [vI 0,vI 0,.bool false,.aC]]⟩) i9 ⟨42,3,[.agg [vI nx.atom,vI nx.done,.bool nx.free]]⟩) i1 (x.add [cE x.high w]) (C' Z51 i1 (du b (x.add [cE x.high w]) vh (.own i51 0 (rows.length+1)) vl)) vh (.own i51 0 (rows.length+1)) vl:=by
   obtain⟨k1,k2⟩:=g3 _ _ Te.oh Te.hf.symm;obtain⟨k3,k4⟩:=g3 _ _ Te.ol Te.fl;rw[List.length_append]at g2 k2 k4;refine⟨ag,k1,?_,k3,k2.symm,Te.hl,k4,g1,Te.no⟩;show aT _ _ _ _ _ ((x.fs++[cE x.high w]).map bo);rw[List.map_append,hrw];exact g2
  have hya:(x.add [cE x.high w]).high=x.high:=rfl;have hys:(x.add [cE x.high w]).ls=x.ls:=rfl;have hxl':(x.add [cE x.high w]).ls.length<=1000000:=hxl;generalize hY:x.add [cE x.high w]=y at*;simp only[go_sem,seval,b1,t0,t6,t7,t8,t9,ch,sh,cl,sl,UW,gl,Cs,r3];generalize hq1:C' Z51 i1 _=Y1;have hJb:=hJa;rw[show C' Z51 i1 (du b y vh (.own i51 0 (rows.length+1)) vl)=Y1 by rw[<-hq1,du,<-hY];rfl]at hJb;clear hJa hq1;refine Go.bP rfl rfl rfl SL ?_;apply sG;simp only[go_sem,seval,t0];refine ad.call rfl rfl rfl (mJ b R.1 Wr.1 y hxl' (λf hf=>by
   have:=Wr.2 f hf;rw[hya];exact ao (by omega) (by omega)) hJb) ?_
  rintro r Z' ⟨Uz,TE⟩;have c9:=TE.sub _ _ ag;have c6:=TE.sub i6 _ ((ab n69).trans ag);apply sR;simp only[go_sem,seval,t6,t9,c9,c6,ar,au];exact⟨_,_,aa.refl _,Wk.refl (aa.refl _) _,_,Uz,rfl,(TE.narrow k9).drop k6 _⟩
 have a8:True:=trivial;have a9:True:=trivial;have hn:True:=trivial;have RX:=aa.refl Z6;refine ad.CX (by kernel_rfl) 8 (.fork [[],[],[1],[2,1],[3,2,1],[],[5],[6,5],[7,6,5],[8,7,6,5],[0,4,9,3,2,1,8,7,6,5],[10,0,4,9,3,2,1,8,7,6,5],[11,10,0,4,9,3,2,1,8,7,6,5],[11,10,0,4,9,3,2,1,8,7,6,5],[],[],[14,12,10,0,1,2,3,4,5,6,7,8,9,11,15],[15,13,16,0,1,2,3,4,5,6,7,8,9,10,11,12,14]] [0,1,2,3,4,5,6,7,8,9] [10,14,15] [(.fork [[],[],[1],[2,1],[3,2,1],[],[5],[6,5],[7,6,5],[8,7,6,5],[0,4,9,3,2,1,8,7,6,5],[10,0,4,9,3,2,1,8,7,6,5],[11,10,0,4,9,3,2,1,8,7,6,5],[11,10,0,4,9,3,2,1,8,7,6,5],[10,0,4,9,3,2,1,8,7,6,5],[10,0,4,9,3,2,1,8,7,6,5],[10,0,4,9,3,2,1,8,7,6,5,14,12,11,15],[10,0,4,9,3,2,1,8,7,6,5,15,13,16,11,12,14]] [10,11,12,13] [14,15] [(.leaf [[],[],[1],[2,1],[3,2,1],[],[5],[6,5],[7,6,5],[8,7,6,5],[0,4,9,3,2,1,8,7,6,5],[10,0,4,9,3,2,1,8,7,6,5],[11,10,0,4,9,3,2,1,8,7,6,5],[11,10,0,4,9,3,2,1,8,7,6,5],[10,0,4,9,3,2,1,8,7,6,5],[14,10,0,4,9,3,2,1,8,7,6,5],[14,10,0,4,9,3,2,1,8,7,6,5,12,11,15],[14,10,0,4,9,3,2,1,8,7,6,5,15,13,16,11,12]] [14,15,16,17]),(.leaf [[],[],[1],[2,1],[3,2,1],[],[5],[6,5],[7,6,5],[8,7,6,5],[0,4,9,3,2,1,8,7,6,5],[10,0,4,9,3,2,1,8,7,6,5],[11,10,0,4,9,3,2,1,8,7,6,5],[11,10,0,4,9,3,2,1,8,7,6,5],[15,10,0,4,9,3,2,1,8,7,6,5],[10,0,4,9,3,2,1,8,7,6,5],[15,10,0,4,9,3,2,1,8,7,6,5,14,12,11],[15,10,0,4,9,3,2,1,8,7,6,5,13,16,11,12,14]] [15,14,16,17])]),(.fork [[],[],[1],[2,1],[3,2,1],[],[5],[6,5],[7,6,5],[8,7,6,5],[14,0,4,9,3,2,1,8,7,6,5],[14,10,0,4,9,3,2,1,8,7,6,5],[14,11,10,0,4,9,3,2,1,8,7,6,5],[14,11,10,0,4,9,3,2,1,8,7,6,5],[],[14],[14,12,10,0,1,2,3,4,5,6,7,8,9,11,15],[14,15,13,16,0,1,2,3,4,5,6,7,8,9,10,11,12]] [14] [10,15] [(.leaf [[],[],[1],[2,1],[3,2,1],[],[5],[6,5],[7,6,5],[8,7,6,5],[14,0,4,9,3,2,1,8,7,6,5],[14,10,0,4,9,3,2,1,8,7,6,5],[14,11,10,0,4,9,3,2,1,8,7,6,5],[14,11,10,0,4,9,3,2,1,8,7,6,5],[],[10,14,0,4,9,3,2,1,8,7,6,5],[10,14,0,4,9,3,2,1,8,7,6,5,12,11,15],[10,14,0,4,9,3,2,1,8,7,6,5,15,13,16,11,12]] [10,11,12,13,15,16,17]),(.leaf [[],[],[1],[2,1],[3,2,1],[],[5],[6,5],[7,6,5],[8,7,6,5],[15,14,0,4,9,3,2,1,8,7,6,5],[15,14,10,0,4,9,3,2,1,8,7,6,5],[15,14,11,10,0,4,9,3,2,1,8,7,6,5],[15,14,11,10,0,4,9,3,2,1,8,7,6,5],[],[14],[15,14,12,10,0,1,2,3,4,5,6,7,8,9,11],[15,14,13,16,0,1,2,3,4,5,6,7,8,9,10,11,12]] [15,10,11,12,13,16,17])]),(.fork [[],[],[1],[2,1],[3,2,1],[],[5],[6,5],[7,6,5],[8,7,6,5],[15,0,4,9,3,2,1,8,7,6,5],[15,10,0,4,9,3,2,1,8,7,6,5],[15,11,10,0,4,9,3,2,1,8,7,6,5],[15,11,10,0,4,9,3,2,1,8,7,6,5],[15],[],[15,14,12,10,0,1,2,3,4,5,6,7,8,9,11],[15,13,16,0,1,2,3,4,5,6,7,8,9,10,11,12,14]] [15] [10,14] [(.leaf [[],[],[1],[2,1],[3,2,1],[],[5],[6,5],[7,6,5],[8,7,6,5],[15,0,4,9,3,2,1,8,7,6,5],[15,10,0,4,9,3,2,1,8,7,6,5],[15,11,10,0,4,9,3,2,1,8,7,6,5],[15,11,10,0,4,9,3,2,1,8,7,6,5],[10,15,0,4,9,3,2,1,8,7,6,5],[],[10,15,0,4,9,3,2,1,8,7,6,5,14,12,11],[10,15,0,4,9,3,2,1,8,7,6,5,13,16,11,12,14]] [10,11,12,13,14,16,17]),(.leaf [[],[],[1],[2,1],[3,2,1],[],[5],[6,5],[7,6,5],[8,7,6,5],[14,15,0,4,9,3,2,1,8,7,6,5],[14,15,10,0,4,9,3,2,1,8,7,6,5],[14,15,11,10,0,4,9,3,2,1,8,7,6,5],[14,15,11,10,0,4,9,3,2,1,8,7,6,5],[15],[],[14,15,12,10,0,1,2,3,4,5,6,7,8,9,11],[14,15,13,16,0,1,2,3,4,5,6,7,8,9,10,11,12]] [14,10,11,12,13,16,17])])]) (by kernel_rfl) ?_;refine GT.Nh (its:=[0,2,4,6,8,10,12,14,16,18]) (by kernel_rfl) ?_;refine RE.Sg (n:=0) [] [0,2,4,6,8,10,12,14,16,18] [⟨(.some 21),(.Rn (.t 7)),.none⟩,⟨(.some 22),(.Rn (.t 0)),.none⟩,⟨(.some 23),(.nilCheck (.t 22)),.none⟩,⟨(.some 24),(.Rz .true 4 3 (.t 23)),.none⟩,⟨(.some 25),(.load .true 3 (.t 24)),.none⟩,⟨(.some 26),(.Rn (.t 0)),.none⟩,⟨(.some 27),(.nilCheck (.t 26)),.none⟩,⟨(.some 28),(.Rz .true 0 3 (.t 27)),.none⟩,⟨(.some 29),(.Rz .false 2 1 (.t 28)),.none⟩,⟨(.some 30),(.load .false 1 (.t 29)),.none⟩] rfl rfl ?_;apply sG;simp only[go_sem,seval,a1,bo,nc,ns,a8,a9,hn];refine⟨?_,?_,?_⟩
 .refine GT.oX (its:=[20,22,24,26]) (by kernel_rfl) ?_;refine RE.aB rfl rfl rfl rfl rfl (Sx _) ?_;refine RE.Sg (n:=0) [] [22,24,26] [⟨(.some 20),(.Rn (.t 31)),.none⟩,⟨(.some 32),(.ext 0 (.t 20)),.none⟩,⟨(.some 33),(.ext 1 (.t 20)),.none⟩] rfl rfl ?_;apply sG;simp only[go_sem,seval,a1,bo,nc,ns,a8,a9,hn];refine⟨?_,?_⟩
  .refine GT.iO (its:=[28,30,32,34]) (by kernel_rfl) ?_;refine RE.Sg (n:=0) [] [28,30,32,34] [⟨(.some 8),(.alloc 63 7 (.agg [(.int .i64 0),(.int .i64 0),(.int .i64 0),(.int .i64 0),(.int .i64 0),(.int .i64 0),(.int .i64 0)])),.none⟩,⟨(.some 9),(.alloc 42 3 (.agg [(.int .i64 0),(.int .i64 0),(.bool .false)])),.none⟩,⟨.none,(.store 7 (.t 8) (.t 32)),.none⟩,⟨.none,(.store 3 (.t 9) (.t 33)),.none⟩] rfl rfl ?_;apply sG;simp only[go_sem,seval,a1,bo,nc,ns,a8,a9,hn];refine bu λi8 Z8 s8 a8 f8=>?_;replace a1:=s8 _ _ a1
   try replace hn:=cC (aq a9 f8).symm
   try replace a9:=s8 _ _ a9
   have z8:=RX.none f8;replace RX:=RX.trans s8;simp only[go_sem,seval,a1,bo,nc,ns,a8,a9,hn];refine bu λi9 Z9 s9 a9 f9=>?_;replace a1:=s9 _ _ a1
   try replace hn:=cC (aq a8 f9)
   try replace a8:=s9 _ _ a8
   have z9:=RX.none f9;replace RX:=RX.trans s9;simp only[go_sem,seval,a1,bo,nc,ns,a8,a9,hn];exact fin _ _ i8 i9 ((RX.aE z8).aE z9) hn z8 z9 ((hn.2 _ _).trans ag) ag rfl rfl rfl rfl rfl
  .refine GT.iO (its:=[30,28,32,34]) (by kernel_rfl) ?_;refine RE.Sg (n:=0) [] [30,28,32,34] [⟨(.some 9),(.alloc 42 3 (.agg [(.int .i64 0),(.int .i64 0),(.bool .false)])),.none⟩,⟨(.some 8),(.alloc 63 7 (.agg [(.int .i64 0),(.int .i64 0),(.int .i64 0),(.int .i64 0),(.int .i64 0),(.int .i64 0),(.int .i64 0)])),.none⟩,⟨.none,(.store 7 (.t 8) (.t 32)),.none⟩,⟨.none,(.store 3 (.t 9) (.t 33)),.none⟩] rfl rfl ?_;apply sG;simp only[go_sem,seval,a1,bo,nc,ns,a8,a9,hn];refine bu λi9 Z9 s9 a9 f9=>?_;replace a1:=s9 _ _ a1
   try replace hn:=cC (aq a8 f9)
   try replace a8:=s9 _ _ a8
   have z9:=RX.none f9;replace RX:=RX.trans s9;simp only[go_sem,seval,a1,bo,nc,ns,a8,a9,hn];refine bu λi8 Z8 s8 a8 f8=>?_;replace a1:=s8 _ _ a1
   try replace hn:=cC (aq a9 f8).symm
   try replace a9:=s8 _ _ a9
   have z8:=RX.none f8;replace RX:=RX.trans s8;simp only[go_sem,seval,a1,bo,nc,ns,a8,a9,hn];exact fin _ _ i8 i9 ((RX.aE z8).aE z9) hn z8 z9 ((hn.2 _ _).trans ag) ag rfl rfl rfl rfl rfl
 .refine GT.oX (its:=[28,9,19]) (by kernel_rfl) ?_;refine RE.Sg (n:=0) [9,19] [28] [⟨(.some 8),(.alloc 63 7 (.agg [(.int .i64 0),(.int .i64 0),(.int .i64 0),(.int .i64 0),(.int .i64 0),(.int .i64 0),(.int .i64 0)])),.none⟩] rfl rfl ?_;apply sG;simp only[go_sem,seval,a1,bo,nc,ns,a8,a9,hn];refine bu λi8 Z8 s8 a8 f8=>?_;replace a1:=s8 _ _ a1
  try replace hn:=cC (aq a9 f8).symm
  try replace a9:=s8 _ _ a9
  have z8:=RX.none f8;replace RX:=RX.trans s8;simp only[go_sem,seval,a1,bo,nc,ns,a8,a9,hn];refine RE.SB rfl rfl rfl rfl rfl trivial (by simp only[go_sem,seval,a1,bo,nc,ns,a8,a9,hn]) ?_;refine RE.SB rfl rfl rfl rfl rfl trivial (by simp only[go_sem,seval,a1,bo,nc,ns,a8,a9,hn]) ?_;refine⟨?_,?_⟩
  .refine GT.iO (its:=[20,22,24,26,30,32,34]) (by kernel_rfl) ?_;refine RE.aB rfl rfl rfl rfl rfl (Sx _) ?_;refine RE.Sg (n:=0) [] [22,24,26,30,32,34] [⟨(.some 20),(.Rn (.t 31)),.none⟩,⟨(.some 32),(.ext 0 (.t 20)),.none⟩,⟨(.some 33),(.ext 1 (.t 20)),.none⟩,⟨(.some 9),(.alloc 42 3 (.agg [(.int .i64 0),(.int .i64 0),(.bool .false)])),.none⟩,⟨.none,(.store 7 (.t 8) (.t 32)),.none⟩,⟨.none,(.store 3 (.t 9) (.t 33)),.none⟩] rfl rfl ?_;apply sG;simp only[go_sem,seval,a1,bo,nc,ns,a8,a9,hn];refine bu λi9 Z9 s9 a9 f9=>?_;replace a1:=s9 _ _ a1
   try replace hn:=cC (aq a8 f9)
   try replace a8:=s9 _ _ a8
   have z9:=RX.none f9;replace RX:=RX.trans s9;simp only[go_sem,seval,a1,bo,nc,ns,a8,a9,hn];exact fin _ _ i8 i9 ((RX.aE z8).aE z9) hn z8 z9 ((hn.2 _ _).trans ag) ag rfl rfl rfl rfl rfl
  .refine GT.iO (its:=[30,9,19,20,22,24,26,32,34]) (by kernel_rfl) ?_;refine RE.Sg (n:=0) [9,19,20,22,24,26,32,34] [30] [⟨(.some 9),(.alloc 42 3 (.agg [(.int .i64 0),(.int .i64 0),(.bool .false)])),.none⟩] rfl rfl ?_;apply sG;simp only[go_sem,seval,a1,bo,nc,ns,a8,a9,hn];refine bu λi9 Z9 s9 a9 f9=>?_;replace a1:=s9 _ _ a1
   try replace hn:=cC (aq a8 f9)
   try replace a8:=s9 _ _ a8
   have z9:=RX.none f9;replace RX:=RX.trans s9;simp only[go_sem,seval,a1,bo,nc,ns,a8,a9,hn];refine RE.SB rfl rfl rfl rfl rfl trivial (by simp only[go_sem,seval,a1,bo,nc,ns,a8,a9,hn]) ?_;refine RE.SB rfl rfl rfl rfl rfl trivial (by simp only[go_sem,seval,a1,bo,nc,ns,a8,a9,hn]) ?_;refine RE.aB rfl rfl rfl rfl rfl (Sx _) ?_;refine RE.Sg (n:=0) [] [22,24,26,32,34] [⟨(.some 20),(.Rn (.t 31)),.none⟩,⟨(.some 32),(.ext 0 (.t 20)),.none⟩,⟨(.some 33),(.ext 1 (.t 20)),.none⟩,⟨.none,(.store 7 (.t 8) (.t 32)),.none⟩,⟨.none,(.store 3 (.t 9) (.t 33)),.none⟩] rfl rfl ?_;apply sG;simp only[go_sem,seval,a1,bo,nc,ns,a8,a9,hn];exact fin _ _ i8 i9 ((RX.aE z8).aE z9) hn z8 z9 ((hn.2 _ _).trans ag) ag rfl rfl rfl rfl rfl
 .refine GT.oX (its:=[30,9,19]) (by kernel_rfl) ?_;refine RE.Sg (n:=0) [9,19] [30] [⟨(.some 9),(.alloc 42 3 (.agg [(.int .i64 0),(.int .i64 0),(.bool .false)])),.none⟩] rfl rfl ?_;apply sG;simp only[go_sem,seval,a1,bo,nc,ns,a8,a9,hn];refine bu λi9 Z9 s9 a9 f9=>?_;replace a1:=s9 _ _ a1
  try replace hn:=cC (aq a8 f9)
  try replace a8:=s9 _ _ a8
  have z9:=RX.none f9;replace RX:=RX.trans s9;simp only[go_sem,seval,a1,bo,nc,ns,a8,a9,hn];refine RE.SB rfl rfl rfl rfl rfl trivial (by simp only[go_sem,seval,a1,bo,nc,ns,a8,a9,hn]) ?_;refine RE.SB rfl rfl rfl rfl rfl trivial (by simp only[go_sem,seval,a1,bo,nc,ns,a8,a9,hn]) ?_;refine⟨?_,?_⟩
  .refine GT.iO (its:=[20,22,24,26,28,32,34]) (by kernel_rfl) ?_;refine RE.aB rfl rfl rfl rfl rfl (Sx _) ?_;refine RE.Sg (n:=0) [] [22,24,26,28,32,34] [⟨(.some 20),(.Rn (.t 31)),.none⟩,⟨(.some 32),(.ext 0 (.t 20)),.none⟩,⟨(.some 33),(.ext 1 (.t 20)),.none⟩,⟨(.some 8),(.alloc 63 7 (.agg [(.int .i64 0),(.int .i64 0),(.int .i64 0),(.int .i64 0),(.int .i64 0),(.int .i64 0),(.int .i64 0)])),.none⟩,⟨.none,(.store 7 (.t 8) (.t 32)),.none⟩,⟨.none,(.store 3 (.t 9) (.t 33)),.none⟩] rfl rfl ?_;apply sG;simp only[go_sem,seval,a1,bo,nc,ns,a8,a9,hn];refine bu λi8 Z8 s8 a8 f8=>?_;replace a1:=s8 _ _ a1
   try replace hn:=cC (aq a9 f8).symm
   try replace a9:=s8 _ _ a9
   have z8:=RX.none f8;replace RX:=RX.trans s8;simp only[go_sem,seval,a1,bo,nc,ns,a8,a9,hn];exact fin _ _ i8 i9 ((RX.aE z8).aE z9) hn z8 z9 ((hn.2 _ _).trans ag) ag rfl rfl rfl rfl rfl
  .refine GT.iO (its:=[28,9,19,20,22,24,26,32,34]) (by kernel_rfl) ?_;refine RE.Sg (n:=0) [9,19,20,22,24,26,32,34] [28] [⟨(.some 8),(.alloc 63 7 (.agg [(.int .i64 0),(.int .i64 0),(.int .i64 0),(.int .i64 0),(.int .i64 0),(.int .i64 0),(.int .i64 0)])),.none⟩] rfl rfl ?_;apply sG;simp only[go_sem,seval,a1,bo,nc,ns,a8,a9,hn];refine bu λi8 Z8 s8 a8 f8=>?_;replace a1:=s8 _ _ a1
   try replace hn:=cC (aq a9 f8).symm
   try replace a9:=s8 _ _ a9
   have z8:=RX.none f8;replace RX:=RX.trans s8;simp only[go_sem,seval,a1,bo,nc,ns,a8,a9,hn];refine RE.SB rfl rfl rfl rfl rfl trivial (by simp only[go_sem,seval,a1,bo,nc,ns,a8,a9,hn]) ?_;refine RE.SB rfl rfl rfl rfl rfl trivial (by simp only[go_sem,seval,a1,bo,nc,ns,a8,a9,hn]) ?_;refine RE.aB rfl rfl rfl rfl rfl (Sx _) ?_;refine RE.Sg (n:=0) [] [22,24,26,32,34] [⟨(.some 20),(.Rn (.t 31)),.none⟩,⟨(.some 32),(.ext 0 (.t 20)),.none⟩,⟨(.some 33),(.ext 1 (.t 20)),.none⟩,⟨.none,(.store 7 (.t 8) (.t 32)),.none⟩,⟨.none,(.store 3 (.t 9) (.t 33)),.none⟩] rfl rfl ?_;apply sG;simp only[go_sem,seval,a1,bo,nc,ns,a8,a9,hn];exact fin _ _ i8 i9 ((RX.aE z8).aE z9) hn z8 z9 ((hn.2 _ _).trans ag) ag rfl rfl rfl rfl rfl
end Go.Vc
