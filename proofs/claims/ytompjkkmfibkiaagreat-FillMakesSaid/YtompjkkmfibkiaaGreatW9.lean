import Derived.Test.YtompjkkmfibkiaaGreatW8
set_option linter.all false
set_option maxHeartbeats 8000000
set_option maxRecDepth 100000
open Go.Proofs.Tryz
namespace Go.Vc
open Go.Proofs
def tC(l:List Nd)(of:List Int):List Int:=(List.range (of.length+1)).map (mq l of)
def Nl(l:List Nd)(hl:ep l)(hb:Wg l=true)(of:List Int)(Xi:of.length<=1000000)(Wr:∀x∈of,0<=x/\x<l.length)(hm:rX l of=true):
 aL prog 88 [aF l,bb of] (.VG [bb (tC l of),vI 0]):=λU=>by
 refine e88.q ?_;have hs:=aa.refl U;have WL:=dd of;refine mS 11 ?_;simp only[go_sem,seval,c88];refine pR rfl (rk l hl hb of Xi hm _) ?_;have q0:((0:Int)≠0)=False:=H' (λh=>h rfl);have r0:VO .i64 ((of.length:Int)+1):=ae;apply sR;simp only[go_sem,seval,q0,WL,r0];refine ai.gy (λst=>aa U st.U/\ay U st.U 3 1 (st.s 7) ((tC l of).map vI))
  (λm st=>∃j:Nat,j<=of.length+1/\m=of.length+1-j/\aa U st.U/\ay U st.U 3 1 (st.s 7) (((List.range j).map (mq l of)).map vI)/\st.s 0=aF l/\st.s 1=bb of/\st.s 19=vI ((of.length:Int)+1)/\st.s 20=vI j) (of.length+1) ?_ ?_ ?_
 .exact⟨0,by omega,rfl,hs,ay.start,rfl,rfl,rfl,rfl⟩
 .clear hs;rintro m ⟨S,J⟩ ⟨j,hj,rfl,hs,ho,t0,t1,t19,t20⟩;simp only at hs ho t0 t1 t19 t20;generalize Ym:S 7=v7 at ho;refine ai.mix 11 ?_;by_cases B':j<of.length+1
  .have q:((j:Int)<of.length+1)=True:=L';have r1:=rI j;have V8:(((List.range (j+1)).map (mq l of)).map vI)=(((List.range j).map (mq l of)).map vI)++[vI (mq l of j)]:=by
    rw[List.range_succ];simp
   have Xc:(((List.range j).map (mq l of)).map vI).length=j:=by simp
   apply sR;simp only[go_sem,seval,t0,t1,t19,t20,q];refine pR rfl (QU l hl hb of Xi Wr hm j (by omega) _) ?_;generalize ((List.range j).map (mq l of)).map vI=rows at*;apply sR;simp only[go_sem,seval,t0,t1,t19,t20,Ym];refine aA λi32 Z32 s32 a32 f32=>?_;obtain⟨idA,Wi,VL,WM,ZO⟩:=ho.mn s32;have V1:(rows.length+1)*9<=140737488355328:=by omega
   simp only[go_sem,seval,t0,t1,t19,t20,Ym,Wi,bJ a32,V1];refine bt λi33 Z33 s33 a33 f33=>?_;have k33:=(VL U (aa.refl _) Z32 (hs.trans s32)).trans s33;have n33:U i33=none:=(hs.trans s32).none f33;simp only[go_sem,seval,t0,t1,t19,t20,r1];refine⟨_,?_,j+1,by omega,rfl,k33,?_,by simp[t0,t1,t19]⟩
   .omega
   .rw[V8];exact ay.new (by simp) a33 n33
  .have q:((j:Int)<of.length+1)=False:=H';have XS:j=of.length+1:=by omega
   subst XS;apply sR;simp only[go_sem,seval,t0,t1,t19,t20,q];exact⟨hs,Ym▸ho⟩
 .rintro⟨S,J⟩ ⟨hs,ho⟩;simp only at hs ho;generalize Ym:S 7=v7 at ho;refine mS 11 ?_;simp only[go_sem,seval,Ym];exact⟨_,U,hs,Wk.VG (vs':=[bb (tC l of),vI 0]) ⟨ho.wk (aa.refl _) hs,Wk.refl hs _,trivial⟩,rfl,rfl⟩
open Go.Proofs
structure Xt where
 (cls forced V6:Int)
deriving DecidableEq
def bY(x:Xt):V:=.agg [vI x.cls,vI x.forced,vI x.V6]
def bG(l:List Xt):V:=.sl 3 (l.map bY)
def qw(l:List Xt):(bG l).cells=[bG l]:=rfl
def ra(l:List Xt):(bG l).stays=true:=rfl
def uP(l:List Xt):dX false (bG l)=some (.int .i64 l.length):=by simp[bG,dX]
def rR{U:ad}{l:List Xt}{i:Nat}(h:i<l.length):bO U 3 (bG l) (.int .i64 i)=some (.rp (bY l[i])):=by simp[bG,bO,h,bY]
def dx(of:List Int)(k:Nat):Int:=if k=0 then 0 else if k=of.length then 3 else if of.getD k 0=of.getD (k-1) 0 then 2 else 1
def Kg(of:List Int)(Xi:of.length<=1000000)(k:Nat)(hk:k<=of.length):aL prog 89 [bb of,vI k] (vI (dx of k)):=λU=>by
 refine e89.q ?_;have WL:=dd of;refine ai.mix 6 ?_;unfold dx;rcases Nat.eq_zero_or_pos k with rfl|h0
 .have q1:(((0:Nat):Int)=0)=True:=L' rfl;apply sR;simp only[go_sem,seval,c89,q1];exact ak.same rfl
 have q1:((k:Int)=0)=False:=H';rw[aD (by omega)];by_cases W4:k=of.length
 .have q2:((k:Int)=of.length)=True:=L';rw[av W4];apply sR;simp only[go_sem,seval,c89,q1,q2,WL];exact ak.same rfl
 have q2:((k:Int)=of.length)=False:=H';rw[aD W4];have h1:k<of.length:=by omega
 have q5:=ae (m:=((k-1:Nat):Int)) (by omega) (by omega);have q6:((k:Int)-1)=((k-1:Nat):Int):=by omega
 have q7:=λU=>du (U:=U) h1;have q8:=λU=>du (U:=U) (l:=of) (i:=k-1) (by omega);have g1:of.getD k 0=of[k]:=by simp[h1]
 have g2:of.getD (k-1) 0=of[k-1]:=by
  have:k-1<of.length:=by omega
  simp[this]
 rw[g1,g2];by_cases h2:of[k]=of[k-1]
 .have q9:(of[k]=of[k-1])=True:=L' h2;rw[av h2];apply sR;simp only[go_sem,seval,c89,q1,q2,WL,q5,q6,q7,q8,q9];exact ak.same rfl
 .have q9:(of[k]=of[k-1])=False:=H' h2;rw[aD h2];apply sR;simp only[go_sem,seval,c89,q1,q2,WL,q5,q6,q7,q8,q9];exact ak.same rfl
open Go.Proofs
def ZF(l:List Nd)(of:List Int)(k:Nat):Xt:=⟨dx of k,jg l of k,if jg l of k=0 then mq l of k else 0⟩
def p7(l:List Nd)(of:List Int):List Xt:=(List.range (of.length+1)).map (ZF l of)
def D1{U:ad}{f:Nat->Int}{n j:Nat}(h:j<n):bO U 1 (bb ((List.range n).map f)) (.int .i64 j)=some (.rp (vI (f j))):=by
 rw[du (by simpa using h)];simp
def MN(U:ad)(l:List Nd)(hl:ep l)(hb:Wg l=true)(of:List Int)(Xi:of.length<=1000000)(Wr:∀x∈of,0<=x/\x<l.length)(hm:rX l of=true):
 au prog 37 [aF l,bb of] U λr Z'=>aa U Z'/\∃vb,r=.VG [vb,vI 0]/\ay U Z' 102 3 vb ((p7 l of).map bY):=by
 refine e37.q ?_;have hs:=aa.refl U;have WL:=dd of;refine mS 14 ?_;simp only[go_sem,seval,c37];refine pR rfl (rk l hl hb of Xi hm _) ?_;have q0:((0:Int)≠0)=False:=H' (λh=>h rfl);have r0:VO .i64 ((of.length:Int)+1):=ae;apply sR;simp only[go_sem,seval,q0,WL,r0];refine pS rfl (Nb l hl hb of Xi Wr hm _) ?_;simp only[go_sem,seval];refine pS rfl (Nl l hl hb of Xi Wr hm _) ?_;simp only[go_sem,seval,WL,r0];refine ai.gy (λst=>aa U st.U/\ay U st.U 102 3 (st.s 11) ((p7 l of).map bY))
  (λm st=>∃j:Nat,j<=of.length+1/\m=of.length+1-j/\aa U st.U/\ay U st.U 102 3 (st.s 11) (((List.range j).map (ZF l of)).map bY)/\st.s 0=aF l/\st.s 1=bb of/\st.s 7=bb (tL l of)/\st.s 9=bb (tC l of)/\st.s 34=vI ((of.length:Int)+1)/\st.s 35=vI j) (of.length+1) ?_ ?_ ?_
 .exact⟨0,by omega,rfl,hs,ay.start,rfl,rfl,rfl,rfl,rfl,rfl⟩
 .clear hs;rintro m ⟨S,J⟩ ⟨j,hj,rfl,hs,ho,t0,t1,t7,t9,t34,t35⟩;simp only at hs ho t0 t1 t7 t9 t34 t35;generalize hv11:S 11=v11 at ho;refine ai.mix 14 ?_;by_cases B':j<of.length+1
  .have q:((j:Int)<of.length+1)=True:=L';have r1:=rI j;have V8:(((List.range (j+1)).map (ZF l of)).map bY)=(((List.range j).map (ZF l of)).map bY)++[bY (ZF l of j)]:=by
    rw[List.range_succ];simp
   have Xc:(((List.range j).map (ZF l of)).map bY).length=j:=by simp
   have hi7:∀U,bO U 1 (bb (tL l of)) (.int .i64 j)=some (.rp (vI (jg l of j))):=λU=>D1 B';have hi9:∀U,bO U 1 (bb (tC l of)) (.int .i64 j)=some (.rp (vI (mq l of j))):=λU=>D1 B';apply sR;simp only[go_sem,seval,t0,t1,t7,t9,hv11,t34,t35,q];refine pJ rfl (Kg of Xi j (by omega)) ?_;apply sG;simp only[go_sem,seval,t0,t1,t7,t9,hv11,t34,t35,hi7];refine bB λi13 Z13 s13 Xy f13=>?_;by_cases hz:jg l of j=0
   .have q2:(jg l of j=0)=True:=L' hz;have X6:bY (ZF l of j)=.agg [vI (dx of j),vI (jg l of j),vI (mq l of j)]:=by rw[ZF,av hz];rfl
    simp only[go_sem,seval,Xy,t0,t1,t7,t9,hv11,t34,t35,hi7,hi9,q2];generalize hq13:C' _ i13 _=Y13;have s13':aa J Y13:=by rw[<-hq13];exact s13.az f13
    clear hq13;refine aA λi58 Z58 Yd a58 f58=>?_;obtain⟨idA,Wi,VL,WM,ZO⟩:=ho.mn (s13'.trans Yd);generalize ((List.range j).map (ZF l of)).map bY=rows at*;have V1:(rows.length+1)*25<=140737488355328:=by omega
    simp only[go_sem,seval,t0,t1,t7,t9,hv11,t34,t35,Wi,bJ a58,V1];refine bt λi59 Z59 s59 a59 f59=>?_;have k59:=(VL U (aa.refl _) Z58 (hs.trans (s13'.trans Yd))).trans s59;have n59:U i59=none:=(hs.trans (s13'.trans Yd)).none f59;simp only[go_sem,seval,t0,t1,t7,t9,t34,t35,r1];refine⟨_,?_,j+1,by omega,rfl,k59,?_,by simp[t0,t1,t7,t9,t34]⟩
    .omega
    .rw[V8,X6];exact ay.new (by simp) a59 n59
   .have q2:(jg l of j=0)=False:=H' hz;have X6:bY (ZF l of j)=.agg [vI (dx of j),vI (jg l of j),vI 0]:=by rw[ZF,aD hz];rfl
    simp only[go_sem,seval,Xy,t0,t1,t7,t9,hv11,t34,t35,hi7,hi9,q2];generalize hq13:C' _ i13 _=Y13;have s13':aa J Y13:=by rw[<-hq13];exact s13.az f13
    clear hq13;refine aA λi58 Z58 Yd a58 f58=>?_;obtain⟨idA,Wi,VL,WM,ZO⟩:=ho.mn (s13'.trans Yd);generalize ((List.range j).map (ZF l of)).map bY=rows at*;have V1:(rows.length+1)*25<=140737488355328:=by omega
    simp only[go_sem,seval,t0,t1,t7,t9,hv11,t34,t35,Wi,bJ a58,V1];refine bt λi59 Z59 s59 a59 f59=>?_;have k59:=(VL U (aa.refl _) Z58 (hs.trans (s13'.trans Yd))).trans s59;have n59:U i59=none:=(hs.trans (s13'.trans Yd)).none f59;simp only[go_sem,seval,t0,t1,t7,t9,t34,t35,r1];refine⟨_,?_,j+1,by omega,rfl,k59,?_,by simp[t0,t1,t7,t9,t34]⟩
    .omega
    .rw[V8,X6];exact ay.new (by simp) a59 n59
  .have q:((j:Int)<of.length+1)=False:=H';have XS:j=of.length+1:=by omega
   subst XS;apply sR;simp only[go_sem,seval,t0,t1,t7,t9,t34,t35,q];exact⟨hs,hv11▸ho⟩
 .rintro⟨S,J⟩ ⟨hs,ho⟩;simp only at hs ho;generalize hv11:S 11=v11 at ho;refine mS 14 ?_;simp only[go_sem,seval,hv11];exact WZ ⟨hs,v11,rfl,ho⟩
open Go.Proofs
def nJ(x:Xt)(first last:Bool):Prop:=
 (first=true->x.cls=0)/\(first=false->last=true->x.cls=3)/\(first=false->last=false->x.cls=1\/x.cls=2)/\
 (x.forced=0\/(2<=x.forced/\x.forced<=4/\x.cls≠3/\x.cls≠2))/\(x.V6=0\/((x.cls=1\/x.cls=2)/\x.forced=0/\0<x.V6/\x.V6<8))
instance (x:Xt) (a b:Bool):Decidable (nJ x a b):=by unfold nJ;infer_instance
def Jp(x:Xt)(first last:Bool):aL prog 205 [bY x,.bool first,.bool last] (.bool (decide (nJ x first last))):=λU=>by
 refine TM.q ?_;have hs:=aa.refl U;obtain⟨c,f,r⟩:=x;refine mS 9 ?_;simp only[go_sem,seval,RB,bY];refine ar hs λi3 Z3 s3 a3 f3 z3 hs=>?_;unfold nJ;simp only;have C:c=0\/c=1\/c=2\/c=3\/((c=0)=False/\(c=1)=False/\(c=2)=False/\(c=3)=False/\(c≠0)=True/\(c≠3)=True):=by
  by_cases h0:c=0
  .exact .inl h0
  by_cases h1:c=1
  .exact .inr (.inl h1)
  by_cases h2:c=2
  .exact .inr (.inr (.inl h2))
  by_cases h3:c=3
  .exact .inr (.inr (.inr (.inl h3)))
  .exact .inr (.inr (.inr (.inr ⟨H' h0,H' h1,H' h2,H' h3,L' h0,L' h3⟩)))
 have F:f=0\/((f=0)=False/\((f<2)=True/\(2<=f/\f<=4)=False\/(f<2)=False/\((f>4)=True/\(2<=f/\f<=4)=False\/(f>4)=False/\(2<=f)=True/\(f<=4)=True))):=by
  by_cases h0:f=0
  .exact .inl h0
  refine .inr ⟨H' h0,?_⟩;by_cases h1:f<2
  .exact .inl ⟨L' h1,H'⟩
  refine .inr ⟨H' h1,?_⟩;by_cases h2:f>4
  .exact .inl ⟨L' h2,H'⟩
  .exact .inr ⟨H' h2,L',L'⟩
 have R:r=0\/((r=0)=False/\((r>0)=False/\(0<r)=False\/(r>0)=True/\(0<r)=True/\((r<8)=True\/(r<8)=False))):=by
  by_cases h0:r=0
  .exact .inl h0
  refine .inr ⟨H' h0,?_⟩;by_cases h1:r>0
  .refine .inr ⟨L' h1,L' h1,?_⟩;by_cases h2:r<8
   .exact .inl (L' h2)
   .exact .inr (H' h2)
  .exact .inl ⟨H' h1,H'⟩
 rcases C with rfl|rfl|rfl|rfl|⟨c0,c1,c2,c3,c4,c5⟩
 .rcases F with rfl|⟨f0,⟨f1,f2⟩|⟨f1,⟨f2,f3⟩|⟨f2,f3,f4⟩⟩⟩
  .cases first
   .cases last
    .simp only[go_sem,seval,a3];exact ak.pure hs (by simp)
    .simp only[go_sem,seval,a3];exact ak.pure hs (by simp)
   .cases last
    .rcases R with rfl|⟨r0,⟨r1,r2⟩|⟨r1,r2,r3|r3⟩⟩
     .simp only[go_sem,seval,a3];exact ak.pure hs (by simp)
     .simp only[go_sem,seval,a3,r0,r1];exact ak.pure hs (by simp[r0,r2])
     .simp only[go_sem,seval,a3,r0,r1,r3];exact ak.pure hs (by simp[r0,r2,r3])
     .simp only[go_sem,seval,a3,r0,r1,r3];exact ak.pure hs (by simp[r0,r2,r3])
    .rcases R with rfl|⟨r0,⟨r1,r2⟩|⟨r1,r2,r3|r3⟩⟩
     .simp only[go_sem,seval,a3];exact ak.pure hs (by simp)
     .simp only[go_sem,seval,a3,r0,r1];exact ak.pure hs (by simp[r0,r2])
     .simp only[go_sem,seval,a3,r0,r1,r3];exact ak.pure hs (by simp[r0,r2,r3])
     .simp only[go_sem,seval,a3,r0,r1,r3];exact ak.pure hs (by simp[r0,r2,r3])
  .cases first
   .cases last
    .simp only[go_sem,seval,a3,f0,f1];exact ak.pure hs (by simp[f0,f2])
    .simp only[go_sem,seval,a3,f0,f1];exact ak.pure hs (by simp[f0,f2])
   .cases last
    .simp only[go_sem,seval,a3,f0,f1];exact ak.pure hs (by simp[f0,f2])
    .simp only[go_sem,seval,a3,f0,f1];exact ak.pure hs (by simp[f0,f2])
  .cases first
   .cases last
    .simp only[go_sem,seval,a3,f0,f1,f2];exact ak.pure hs (by simp[f0,f3])
    .simp only[go_sem,seval,a3,f0,f1,f2];exact ak.pure hs (by simp[f0,f3])
   .cases last
    .simp only[go_sem,seval,a3,f0,f1,f2];exact ak.pure hs (by simp[f0,f3])
    .simp only[go_sem,seval,a3,f0,f1,f2];exact ak.pure hs (by simp[f0,f3])
  .cases first
   .cases last
    .simp only[go_sem,seval,a3,f0,f1,f2];exact ak.pure hs (by simp[f0,f3,f4])
    .simp only[go_sem,seval,a3,f0,f1,f2];exact ak.pure hs (by simp[f0,f3,f4])
   .cases last
    .rcases R with rfl|⟨r0,⟨r1,r2⟩|⟨r1,r2,r3|r3⟩⟩
     .simp only[go_sem,seval,a3,f0,f1,f2];exact ak.pure hs (by simp[f0,f3,f4])
     .simp only[go_sem,seval,a3,f0,f1,f2,r0,r1];exact ak.pure hs (by simp[f0,f3,f4,r0,r2])
     .simp only[go_sem,seval,a3,f0,f1,f2,r0,r1,r3];exact ak.pure hs (by simp[f0,f3,f4,r0,r2,r3])
     .simp only[go_sem,seval,a3,f0,f1,f2,r0,r1,r3];exact ak.pure hs (by simp[f0,f3,f4,r0,r2,r3])
    .rcases R with rfl|⟨r0,⟨r1,r2⟩|⟨r1,r2,r3|r3⟩⟩
     .simp only[go_sem,seval,a3,f0,f1,f2];exact ak.pure hs (by simp[f0,f3,f4])
     .simp only[go_sem,seval,a3,f0,f1,f2,r0,r1];exact ak.pure hs (by simp[f0,f3,f4,r0,r2])
     .simp only[go_sem,seval,a3,f0,f1,f2,r0,r1,r3];exact ak.pure hs (by simp[f0,f3,f4,r0,r2,r3])
     .simp only[go_sem,seval,a3,f0,f1,f2,r0,r1,r3];exact ak.pure hs (by simp[f0,f3,f4,r0,r2,r3])
 .rcases F with rfl|⟨f0,⟨f1,f2⟩|⟨f1,⟨f2,f3⟩|⟨f2,f3,f4⟩⟩⟩
  .cases first
   .cases last
    .rcases R with rfl|⟨r0,⟨r1,r2⟩|⟨r1,r2,r3|r3⟩⟩
     .simp only[go_sem,seval,a3];exact ak.pure hs (by simp)
     .simp only[go_sem,seval,a3,r0,r1];exact ak.pure hs (by simp[r0,r2])
     .simp only[go_sem,seval,a3,r0,r1,r3];exact ak.pure hs (by simp[r0,r2,r3])
     .simp only[go_sem,seval,a3,r0,r1,r3];exact ak.pure hs (by simp[r0,r2,r3])
    .simp only[go_sem,seval,a3];exact ak.pure hs (by simp)
   .cases last
    .simp only[go_sem,seval,a3];exact ak.pure hs (by simp)
    .simp only[go_sem,seval,a3];exact ak.pure hs (by simp)
  .cases first
   .cases last
    .simp only[go_sem,seval,a3,f0,f1];exact ak.pure hs (by simp[f0,f2])
    .simp only[go_sem,seval,a3,f0,f1];exact ak.pure hs (by simp[f0,f2])
   .cases last
    .simp only[go_sem,seval,a3,f0,f1];exact ak.pure hs (by simp[f0,f2])
    .simp only[go_sem,seval,a3,f0,f1];exact ak.pure hs (by simp[f0,f2])
  .cases first
   .cases last
    .simp only[go_sem,seval,a3,f0,f1,f2];exact ak.pure hs (by simp[f0,f3])
    .simp only[go_sem,seval,a3,f0,f1,f2];exact ak.pure hs (by simp[f0,f3])
   .cases last
    .simp only[go_sem,seval,a3,f0,f1,f2];exact ak.pure hs (by simp[f0,f3])
    .simp only[go_sem,seval,a3,f0,f1,f2];exact ak.pure hs (by simp[f0,f3])
  .cases first
   .cases last
    .rcases R with rfl|⟨r0,⟨r1,r2⟩|⟨r1,r2,r3|r3⟩⟩
     .simp only[go_sem,seval,a3,f0,f1,f2];exact ak.pure hs (by simp[f0,f3,f4])
     .simp only[go_sem,seval,a3,f0,f1,f2,r0,r1];exact ak.pure hs (by simp[f0,f3,f4,r0,r2])
     .simp only[go_sem,seval,a3,f0,f1,f2,r0,r1,r3];exact ak.pure hs (by simp[f0,f3,f4,r0,r2,r3])
     .simp only[go_sem,seval,a3,f0,f1,f2,r0,r1,r3];exact ak.pure hs (by simp[f0,f3,f4,r0,r2,r3])
    .simp only[go_sem,seval,a3,f0,f1,f2];exact ak.pure hs (by simp[f0,f3,f4])
   .cases last
    .simp only[go_sem,seval,a3,f0,f1,f2];exact ak.pure hs (by simp[f0,f3,f4])
    .simp only[go_sem,seval,a3,f0,f1,f2];exact ak.pure hs (by simp[f0,f3,f4])
 .rcases F with rfl|⟨f0,⟨f1,f2⟩|⟨f1,⟨f2,f3⟩|⟨f2,f3,f4⟩⟩⟩
  .cases first
   .cases last
    .rcases R with rfl|⟨r0,⟨r1,r2⟩|⟨r1,r2,r3|r3⟩⟩
     .simp only[go_sem,seval,a3];exact ak.pure hs (by simp)
     .simp only[go_sem,seval,a3,r0,r1];exact ak.pure hs (by simp[r0,r2])
     .simp only[go_sem,seval,a3,r0,r1,r3];exact ak.pure hs (by simp[r0,r2,r3])
     .simp only[go_sem,seval,a3,r0,r1,r3];exact ak.pure hs (by simp[r0,r2,r3])
    .simp only[go_sem,seval,a3];exact ak.pure hs (by simp)
   .cases last
    .simp only[go_sem,seval,a3];exact ak.pure hs (by simp)
    .simp only[go_sem,seval,a3];exact ak.pure hs (by simp)
  .cases first
   .cases last
    .simp only[go_sem,seval,a3,f0,f1];exact ak.pure hs (by simp[f0,f2])
    .simp only[go_sem,seval,a3,f0,f1];exact ak.pure hs (by simp[f0,f2])
   .cases last
    .simp only[go_sem,seval,a3,f0,f1];exact ak.pure hs (by simp[f0,f2])
    .simp only[go_sem,seval,a3,f0,f1];exact ak.pure hs (by simp[f0,f2])
  .cases first
   .cases last
    .simp only[go_sem,seval,a3,f0,f1,f2];exact ak.pure hs (by simp[f0,f3])
    .simp only[go_sem,seval,a3,f0,f1,f2];exact ak.pure hs (by simp[f0,f3])
   .cases last
    .simp only[go_sem,seval,a3,f0,f1,f2];exact ak.pure hs (by simp[f0,f3])
    .simp only[go_sem,seval,a3,f0,f1,f2];exact ak.pure hs (by simp[f0,f3])
  .cases first
   .cases last
    .simp only[go_sem,seval,a3,f0,f1,f2];exact ak.pure hs (by simp[f0,f3,f4])
    .simp only[go_sem,seval,a3,f0,f1,f2];exact ak.pure hs (by simp[f0,f3,f4])
   .cases last
    .simp only[go_sem,seval,a3,f0,f1,f2];exact ak.pure hs (by simp[f0,f3,f4])
    .simp only[go_sem,seval,a3,f0,f1,f2];exact ak.pure hs (by simp[f0,f3,f4])
 .rcases F with rfl|⟨f0,⟨f1,f2⟩|⟨f1,⟨f2,f3⟩|⟨f2,f3,f4⟩⟩⟩
  .cases first
   .cases last
    .simp only[go_sem,seval,a3];exact ak.pure hs (by simp)
    .rcases R with rfl|⟨r0,⟨r1,r2⟩|⟨r1,r2,r3|r3⟩⟩
     .simp only[go_sem,seval,a3];exact ak.pure hs (by simp)
     .simp only[go_sem,seval,a3,r0,r1];exact ak.pure hs (by simp[r0,r2])
     .simp only[go_sem,seval,a3,r0,r1,r3];exact ak.pure hs (by simp[r0,r2,r3])
     .simp only[go_sem,seval,a3,r0,r1,r3];exact ak.pure hs (by simp[r0,r2,r3])
   .cases last
    .simp only[go_sem,seval,a3];exact ak.pure hs (by simp)
    .simp only[go_sem,seval,a3];exact ak.pure hs (by simp)
  .cases first
   .cases last
    .simp only[go_sem,seval,a3,f0,f1];exact ak.pure hs (by simp[f0,f2])
    .simp only[go_sem,seval,a3,f0,f1];exact ak.pure hs (by simp[f0,f2])
   .cases last
    .simp only[go_sem,seval,a3,f0,f1];exact ak.pure hs (by simp[f0,f2])
    .simp only[go_sem,seval,a3,f0,f1];exact ak.pure hs (by simp[f0,f2])
  .cases first
   .cases last
    .simp only[go_sem,seval,a3,f0,f1,f2];exact ak.pure hs (by simp[f0,f3])
    .simp only[go_sem,seval,a3,f0,f1,f2];exact ak.pure hs (by simp[f0,f3])
   .cases last
    .simp only[go_sem,seval,a3,f0,f1,f2];exact ak.pure hs (by simp[f0,f3])
    .simp only[go_sem,seval,a3,f0,f1,f2];exact ak.pure hs (by simp[f0,f3])
  .cases first
   .cases last
    .simp only[go_sem,seval,a3,f0,f1,f2];exact ak.pure hs (by simp[f0,f3,f4])
    .simp only[go_sem,seval,a3,f0,f1,f2];exact ak.pure hs (by simp[f0,f3,f4])
   .cases last
    .simp only[go_sem,seval,a3,f0,f1,f2];exact ak.pure hs (by simp[f0,f3,f4])
    .simp only[go_sem,seval,a3,f0,f1,f2];exact ak.pure hs (by simp[f0,f3,f4])
 .rcases F with rfl|⟨f0,⟨f1,f2⟩|⟨f1,⟨f2,f3⟩|⟨f2,f3,f4⟩⟩⟩
  .cases first
   .cases last
    .simp only[go_sem,seval,a3,c0,c1,c2,c3,c4,c5];exact ak.pure hs (by simp[c0,c1,c2,c3,c4,c5])
    .simp only[go_sem,seval,a3,c0,c1,c2,c3,c4,c5];exact ak.pure hs (by simp[c0,c1,c2,c3,c4,c5])
   .cases last
    .simp only[go_sem,seval,a3,c0,c1,c2,c3,c4,c5];exact ak.pure hs (by simp[c0,c1,c2,c3,c4,c5])
    .simp only[go_sem,seval,a3,c0,c1,c2,c3,c4,c5];exact ak.pure hs (by simp[c0,c1,c2,c3,c4,c5])
  .cases first
   .cases last
    .simp only[go_sem,seval,a3,c0,c1,c2,c3,c4,c5,f0,f1];exact ak.pure hs (by simp[c0,c1,c2,c3,c4,c5,f0,f2])
    .simp only[go_sem,seval,a3,c0,c1,c2,c3,c4,c5,f0,f1];exact ak.pure hs (by simp[c0,c1,c2,c3,c4,c5,f0,f2])
   .cases last
    .simp only[go_sem,seval,a3,c0,c1,c2,c3,c4,c5,f0,f1];exact ak.pure hs (by simp[c0,c1,c2,c3,c4,c5,f0,f2])
    .simp only[go_sem,seval,a3,c0,c1,c2,c3,c4,c5,f0,f1];exact ak.pure hs (by simp[c0,c1,c2,c3,c4,c5,f0,f2])
  .cases first
   .cases last
    .simp only[go_sem,seval,a3,c0,c1,c2,c3,c4,c5,f0,f1,f2];exact ak.pure hs (by simp[c0,c1,c2,c3,c4,c5,f0,f3])
    .simp only[go_sem,seval,a3,c0,c1,c2,c3,c4,c5,f0,f1,f2];exact ak.pure hs (by simp[c0,c1,c2,c3,c4,c5,f0,f3])
   .cases last
    .simp only[go_sem,seval,a3,c0,c1,c2,c3,c4,c5,f0,f1,f2];exact ak.pure hs (by simp[c0,c1,c2,c3,c4,c5,f0,f3])
    .simp only[go_sem,seval,a3,c0,c1,c2,c3,c4,c5,f0,f1,f2];exact ak.pure hs (by simp[c0,c1,c2,c3,c4,c5,f0,f3])
  .cases first
   .cases last
    .simp only[go_sem,seval,a3,c0,c1,c2,c3,c4,c5,f0,f1,f2];exact ak.pure hs (by simp[c0,c1,c2,c3,c4,c5,f0,f3,f4])
    .simp only[go_sem,seval,a3,c0,c1,c2,c3,c4,c5,f0,f1,f2];exact ak.pure hs (by simp[c0,c1,c2,c3,c4,c5,f0,f3,f4])
   .cases last
    .simp only[go_sem,seval,a3,c0,c1,c2,c3,c4,c5,f0,f1,f2];exact ak.pure hs (by simp[c0,c1,c2,c3,c4,c5,f0,f3,f4])
    .simp only[go_sem,seval,a3,c0,c1,c2,c3,c4,c5,f0,f1,f2];exact ak.pure hs (by simp[c0,c1,c2,c3,c4,c5,f0,f3,f4])
open Go.Proofs
def WR(b:List Xt)(i:Nat):Xt:=b.getD i ⟨0,0,0⟩
def ik(b:List Xt)(i:Nat):Bool:=decide (nJ (WR b i) (decide ((i:Int)=0)) (decide ((i:Int)=(b.length:Int)-1)))
def nB(b:List Xt):Bool:=(List.range b.length).all (ik b)&&decide ((b.length:Int)>0)
def Fl{b:List Xt}{j:Nat}(h:(List.range j).all (ik b)=true)(hr:ik b j=true):(List.range (j+1)).all (ik b)=true:=by
 rw[List.range_succ,MI,h];simp[hr]
def NH(b:List Xt)(hb:b.length<=1000000):aL prog 152 [bG b] (.bool (nB b)):=λU=>by
 refine SC.q ?_;have hlb:=uP b;refine mS 5 ?_;simp only[go_sem,seval,Oy,hlb];refine ai.gy (λst=>aa U st.U/\st.s 0=bG b/\(List.range b.length).all (ik b)=true)
  (λm st=>∃j:Nat,j<=b.length/\m=b.length-j/\aa U st.U/\(List.range j).all (ik b)=true/\st.s 0=bG b/\st.s 5=bG b/\st.s 6=vI b.length/\st.s 7=vI j) b.length ?_ ?_ ?_
 .exact⟨0,by omega,rfl,aa.refl _,rfl,rfl,rfl,rfl,rfl⟩
 .rintro m ⟨S,J⟩ ⟨j,hj,rfl,hs,WY,t0,t5,t6,t7⟩;simp only at hs t0 t5 t6 t7;refine ai.mix 5 ?_;by_cases B':j<b.length
  .have q:=qT B';have r1:=rI j;have r2:VO .i64 ((b.length:Int)-1):=ae;have VC:=λU=>rR (U:=U) B';have hg:WR b j=b[j]:=by simp[WR,B']
   have hra:ik b j=decide (nJ b[j] (decide ((j:Int)=0)) (decide ((j:Int)=(b.length:Int)-1))):=by rw[ik,hg]
   apply sR;simp only[go_sem,seval,t0,t5,t6,t7,q,VC,bY];refine aA λi4 Z4 s4 a4 f4=>?_;simp only[go_sem,seval,a4,t0,t5,t6,t7,hlb,r2];generalize hq4:C' Z4 i4 _=Y4;have s4':aa J Y4:=by rw[<-hq4];exact s4.az f4
   clear hq4;refine pR rfl (Jp b[j] (decide ((j:Int)=0)) (decide ((j:Int)=(b.length:Int)-1)) _) ?_;rw[<-hra];cases hv:ik b j
   .apply sR;simp only[go_sem,seval,t0,t5,t6,t7];have hm:nB b=false:=by
     rw[nB];have:(List.range b.length).all (ik b)=false:=by
      rw[List.all_eq_false];exact⟨j,List.mem_range.2 B',by simp[hv]⟩
     rw[this];rfl
    exact ak.pure (hs.trans s4') (by rw[hm])
   .apply sR;simp only[go_sem,seval,t0,t5,t6,t7,r1];refine⟨_,?_,j+1,by omega,rfl,hs.trans s4',Fl WY hv,by simp[t0,t5,t6]⟩;omega
  .have q:=qF B';have XS:j=b.length:=by omega
   subst XS;apply sR;simp only[go_sem,seval,t0,t5,t6,t7,q];exact⟨hs,WY⟩
 .rintro⟨S,J⟩ ⟨hs,t0,WY⟩;simp only at hs t0 WY;refine mS 5 ?_;simp only[go_sem,seval,t0,hlb];exact ak.pure hs (by rw[nB,WY];rfl)
open Go.Proofs
def ki(b:List Xt)(i:Nat):V:=.agg [vI (WR b i).cls,vI (WR b i).forced,vI (WR b i).V6,vI i]
def mv(b:List Xt)(cm to:Int):Nat:=(min to ((b.length:Int)-1)+1-max cm 0).toNat
def btw(b:List Xt)(cm to:Int):List Nat:=List.range' (max cm 0).toNat (mv b cm to)
def QX(U:ad)(b:List Xt):cj U false 1 (.rp (bG b))=some (bG b):=rfl
def range_split:∀(j s n:Nat),j<n->List.range' s n=List.range' s j++(s+j)::List.range' (s+j+1) (n-j-1)
 |0,s,n+1,_=>by simp[List.range']
 |j+1,s,n+1,h=>by
  have:=range_split j (s+1) n (by omega);rw[List.range',this,List.range'];have e1:s+1+j=s+(j+1):=by omega
  have e2:n-j-1=n+1-(j+1)-1:=by omega
  rw[e1,e2];rfl
def tA(s j:Nat):List.range' s (j+1)=List.range' s j++[s+j]:=by
 rw[range_split j s (j+1) (by omega),show j+1-j-1=0 by omega];rfl
def Io(b:List Xt)(hb:b.length<=1000000)(cm to:Int):Iter prog 253 [.rp (vI cm),.rp (vI to),.rp (bG b)] ((btw b cm to).map λi=>[ki b i]):=by
 refine⟨PD.c,λWp τ Jx Z0 hy hJ=>?_⟩;refine(PD.q ?_).2;have hlb:=uP b;refine mS 6 ?_;simp only[go_sem,seval,Ry,ct];obtain⟨s,hsv⟩:∃s:Nat,s=(max cm 0).toNat:=⟨_,rfl⟩
 have Wm:max cm 0=(s:Int):=by omega
 obtain⟨n,hnv⟩:∃n:Nat,n=mv b cm to:=⟨_,rfl⟩
 have hn1:∀j:Nat,(((s+j:Nat):Int)<=min to ((b.length:Int)-1))↔j<n:=λj=>by rw[hnv,mv,Wm];omega
 rw[btw,<-hsv,<-hnv]at hy|-;rw[Wm];refine ai.loop (λm st=>∃(j:Nat) (ZJ:ad),j<=n/\m=n-j/\τ ((List.range' s j).map λi=>[ki b i]) ZJ/\aa ZJ st.U/\st.s 0=.yl Wp/\st.s 1=.rp (vI cm)/\st.s 2=.rp (vI to)/\st.s 3=.rp (bG b)/\st.s 5=vI (s+j:Nat)) n ?_ ?_
 .exact⟨0,Z0,by omega,rfl,by simpa using hJ,aa.refl _,rfl,rfl,rfl,rfl,rfl⟩
 .rintro m ⟨S,J⟩ ⟨j,ZJ,hj,rfl,Yj,G',t0,t1,t2,t3,t5⟩;simp only at G' t0 t1 t2 t3 t5;refine ai.mix 6 ?_;have r2:VO .i64 ((b.length:Int)-1):=ae;by_cases B':j<n
  .have hle:=(hn1 j).2 B';have WX:s+j<b.length:=by omega
   have q:(((s+j:Nat):Int)<=min to ((b.length:Int)-1))=True:=L' hle;have r1:VO .i64 (((s+j:Nat):Int)+1):=ae;have VC:=λU=>rR (U:=U) WX;have hg:WR b (s+j)=b[s+j]:=by simp[WR,WX]
   have hfd:ki b (s+j)=.agg [vI b[s+j].cls,vI b[s+j].forced,vI b[s+j].V6,vI (s+j:Nat)]:=by rw[ki,hg]
   have e:((List.range' s n).map λi=>[ki b i])=((List.range' s j).map λi=>[ki b i])++[ki b (s+j)]::((List.range' (s+j+1) (n-j-1)).map λi=>[ki b i]):=by
    rw[range_split j s n B'];simp
   have V9:((List.range' s (j+1)).map λi=>[ki b i])=((List.range' s j).map λi=>[ki b i])++[[ki b (s+j)]]:=by rw[tA];simp
   have q5:s+(j+1)=s+j+1:=by omega
   generalize s+j=sj at*;apply sR;simp only[go_sem,seval,t0,t1,t2,t3,t5,QX,hlb,r2,dD,q,VC,bY];rw[<-hfd];refine ai.oV (Post:=λb' Z2=>∃Wh,bF ZJ J Wh Z2/\((b'=true/\τ (((List.range' s j).map λi=>[ki b i])++[[ki b sj]]) Wh)\/(b'=false/\Jx (((List.range' s j).map λi=>[ki b i])++[[ki b sj]]) Wh))) rfl rfl rfl (hy _ [ki b sj] _ ZJ J e Yj G') ?_;rintro b' Z2 ⟨Wh,Ya,XL⟩;rcases XL with⟨rfl,XL⟩|⟨rfl,XL⟩
   .apply sR;simp only[go_sem,seval,t0,t1,t2,t3,t5,r1];refine⟨_,?_,j+1,Wh,by omega,rfl,by rw[V9];exact XL,Ya.1,by simp[t0,t1,t2,t3,q5]⟩;omega
   .apply sR;simp only[go_sem,seval,t0,t1,t2,t3,t5];exact⟨_,Wh,Ya.1,Wk.refl Ya.1 _,.inr ⟨_,⟨_,by rw[e,lq];rfl⟩,XL⟩⟩
  .have q:(((s+j:Nat):Int)<=min to ((b.length:Int)-1))=False:=H' (λh=>B' ((hn1 j).1 h));have XS:j=n:=by omega
   subst XS;generalize s+j=sj at*;apply sR;simp only[go_sem,seval,t0,t1,t2,t3,t5,QX,hlb,r2,dD,q];exact⟨_,ZJ,G',Wk.refl G' _,.inl Yj⟩
open Go.Proofs
structure Fd where
 (b:Xt)(i:Int)
def gJ(x:Fd):V:=.agg [vI x.b.cls,vI x.b.forced,vI x.b.V6,vI x.i]
def fQ(ah:Fd->Fd->Bool->Bool)(p:Fd×Bool)(x:Fd):Fd×Bool:=if ah x p.1 p.2 then(x,true)else p
def fb(ah:Fd->Fd->Bool->Bool)(xs:List Fd)(d:Fd):Fd×Bool:=xs.foldl (fQ ah) (d,false)
def pZ(ah:Fd->Fd->Bool->Bool)(xs:List Fd)(x:Fd)(d:Fd):fb ah (xs++[x]) d=fQ ah (fb ah xs d) x:=by simp[fb,kZ]
def Au{g f:FuncId}{caps:List V}{xs:List Fd}(hit:Iter prog g caps (xs.map λx=>[gJ x]))(d:Fd)(ah:Fd->Fd->Bool->Bool)
 (hf:∀x y s,aL prog f [gJ x,gJ y,.bool s] (.bool (ah x y s))):
 aL prog 206 [.fn g caps,gJ d,.fn f []] (gJ (fb ah xs d).1):=λU=>by
 refine To.q ?_;have hs:=aa.refl U;have Zi:(V.fn f []).cells=[.fn f []]:=rfl;have YE:(V.fn f []).stays=true:=rfl;refine mS 10 ?_;simp only[go_sem,seval,PG,gJ,Zi,YE];refine ar hs λi4 Z4 s4 a4 f4 z4 hs=>?_;simp only[go_sem,seval,Zi,YE];refine ar hs λi5 Z5 s5 a5 f5 z5 hs=>?_;obtain⟨XQ,a4⟩:=VB a4 f5 s5;simp only[go_sem,seval,Zi,YE];refine ar hs λi6 Z6 s6 a6 f6 z6 hs=>?_;obtain⟨n46,a4⟩:=VB a4 f6 s6;obtain⟨n56,a5⟩:=VB a5 f6 s6;simp only[go_sem,seval,a4,Zi,YE];have hs6:=aa.refl Z6;refine aA λi7 Z7 s7 a7 f7=>?_;simp only[go_sem,seval,a7,Zi,YE];refine aA λi8 Z8 s8 a8 f8=>?_;have YW:i7≠i8:=aU a7 f8;have b7:=s8 _ _ a7;simp only[go_sem,seval,b7,a8,ab YW,ab YW.symm,Zi,YE];generalize hS:mix 10 _ _=S;have S5:S 5=.ptr i5 0 0:=by rw[<-hS];rfl
 have S6:S 6=.ptr i6 0 0:=by rw[<-hS];rfl
 have S7:S 7=.ptr i7 0 0:=by rw[<-hS];rfl
 have S8:S 8=.ptr i8 0 0:=by rw[<-hS];rfl
 have S11:S 11=.fn g caps:=by rw[<-hS];rfl
 clear hS;refine ai.fk (g:=.t 11) (caps:=caps) S11 hit (λy hy=>?_) [] (λpre ZJ=>ZJ i7=some ⟨278,4,[gJ (fb ah (xs.take pre.length) d).1]⟩/\ZJ i8=some ⟨4,1,[.bool (fb ah (xs.take pre.length) d).2]⟩/\aa Z6 ZJ)
  (λ_ _ _=>False) ?_ ?_ ?_ ?_ ?_
 .obtain⟨t,_,rfl⟩:=gM.1 hy;rfl
 .refine⟨(ab YW).trans ag,ag,?_⟩;have h7:=(s7.trans s8).az (id:=i7) (o:=⟨278,4,[.agg [vI d.b.cls,vI d.b.forced,vI d.b.V6,vI d.i]]⟩) f7;exact h7.az (s7.none f8)
 .rintro pre y post ZJ ZB YV ⟨J7,J8,Js⟩ G';obtain⟨t,hti,rfl⟩:=uG (f:=gJ) YV;have V9:fb ah (xs.take (pre.length+1)) d=fQ ah (fb ah (xs.take pre.length) d) t:=by rw[MR,hti];exact pZ _ _ _ _
  have hlen:(pre++[[gJ t]]).length=pre.length+1:=by simp
  rw[hlen,V9];generalize fb ah (xs.take pre.length) d=p at*;obtain⟨p1,p2⟩:=p;simp only at J7 J8;have c7:=G' _ _ J7;have c8:=G' _ _ J8;have c5:=G' _ _ (Js _ _ a5);generalize Yt:oM S [12] [gJ t]=S0;have T5:S0 5=.ptr i5 0 0:=by rw[<-Yt];exact S5
  have T7:S0 7=.ptr i7 0 0:=by rw[<-Yt];exact S7
  have T8:S0 8=.ptr i8 0 0:=by rw[<-Yt];exact S8
  have T12:S0 12=gJ t:=by rw[<-Yt];rfl
  clear Yt;rw[gJ]at c7 T12;refine mS 10 ?_;simp only[go_sem,seval,T5,T7,T8,T12];rw[ax];intro i9 f9;have m7:i7≠i9:=aU c7 f9;have m8:i8≠i9:=aU c8 f9;have m5:i5≠i9:=aU c5 f9;simp only[go_sem,seval,T5,T7,T8,T12];have hBs:=(bF.refl G').y9 (o:=⟨278,4,[.agg [vI t.b.cls,vI t.b.forced,vI t.b.V6,vI t.i]]⟩) f9;have d7:=(ab (o:=⟨278,4,[.agg [vI t.b.cls,vI t.b.forced,vI t.b.V6,vI t.i]]⟩) m7).trans c7;have d8:=(ab (o:=⟨278,4,[.agg [vI t.b.cls,vI t.b.forced,vI t.b.V6,vI t.i]]⟩) m8).trans c8;have d5:=(ab (o:=⟨278,4,[.agg [vI t.b.cls,vI t.b.forced,vI t.b.V6,vI t.i]]⟩) m5).trans c5;have d9:C' ZB i9 ⟨278,4,[.agg [vI t.b.cls,vI t.b.forced,vI t.b.V6,vI t.i]]⟩ i9=_:=ag;generalize C' ZB i9 ⟨278,4,[.agg [vI t.b.cls,vI t.b.forced,vI t.b.V6,vI t.i]]⟩=Y9 at*;apply sR;simp only[go_sem,seval,T5,T7,T8,d5,d7,d8,d9];refine pR rfl (hf t p1 p2 _) ?_;cases hv:ah t p1 p2
  .apply sR;simp only[go_sem,seval,T5,T7,T8];refine⟨_,hBs,?_,?_,Js⟩
   .rw[fQ,hv];exact J7
   .rw[fQ,hv];exact J8
  .apply sR;simp only[go_sem,seval,T5,T7,T8,d5,d7,d8,d9,ab YW,ab YW.symm];refine⟨_,(hBs.set (id:=i7) J7).set (id:=i8) (by rw[ab YW.symm];exact J8),?_,?_,?_⟩
   .rw[fQ,hv];exact(ab YW).trans ag
   .rw[fQ,hv];exact ag
   .exact(Js.az f7).az (s7.none f8)
 .rintro Z' ⟨J7,J8,Js⟩;rw[cO,eF]at J7 J8;rw[gJ]at J7;have e6:=Js _ _ a6;refine mS 10 ?_;simp only[go_sem,seval,S6,S7,J7,e6];exact ak.pure ((hs.trans Js).az z6) rfl
 .intro id h;cases h
 .rintro pre Z' _ ⟨⟩
open Go.Proofs
def yj(b:List Xt)(cm to:Int):aL prog 207 [bG b,vI cm,vI to] (.fn 253 [.rp (vI cm),.rp (vI to),.rp (bG b)]):=λU=>by
 refine Su.q ?_;refine ai.mix 7 ?_;have q1:=qw b;have q2:=ra b;generalize bG b=x at*;apply sR;simp only[go_sem,seval,Ql,q1,q2];refine aA λid1 Z1 s1 a1 f1=>?_;simp only[go_sem,seval,q1,q2];refine aA λid2 Z2 s2 a2 f2=>?_;simp only[go_sem,seval,q1,q2];refine aA λid3 Z3 s3 a3 f3=>?_;simp only[go_sem,seval,q1,q2];have hs:=(s1.trans s2).trans s3;exact⟨_,U,hs,Wk.fn (vs':=[.rp (vI cm),.rp (vI to),.rp x]) ⟨Wk.ptr hs (s3 _ _ a2) (s1.none f2),Wk.ptr hs a3 ((s1.trans s2).none f3),Wk.ptr hs (s3 _ _ (s2 _ _ a1)) f1,trivial⟩,rfl,rfl⟩
def jr(b:List Xt)(i:Nat):Fd:=⟨WR b i,i⟩
def tX:Fd:=⟨⟨0,0,0⟩,-1⟩
def fI(x _y:Fd)(s:Bool):Bool:=!s&&decide (x.b.forced≠0)
def iF(x y:Fd)(s:Bool):Bool:=!s||decide (x.b.V6<=y.b.V6)
def IK(x y:Fd)(s:Bool):aL prog 208 [gJ x,gJ y,.bool s] (.bool (fI x y s)):=λU=>by
 refine UK.q ?_;have hs:=aa.refl U;obtain⟨⟨c,f,r⟩,i⟩:=x;obtain⟨⟨c',f',r'⟩,i'⟩:=y;refine mS 7 ?_;simp only[go_sem,seval,P4,gJ];refine ar hs λi3 Z3 s3 a3 f3 z3 hs=>?_;simp only[go_sem,seval];refine ar hs λi4 Z4 s4 a4 f4 z4 hs=>?_;obtain⟨n34,a3⟩:=VB a3 f4 s4;cases s
 .by_cases h:f≠0
  .have q:(f≠0)=True:=L' h;simp only[go_sem,seval,a3,a4,q];exact ak.pure hs (by simp[fI,h])
  .have q:(f≠0)=False:=H' h;simp only[go_sem,seval,a3,a4,q];exact ak.pure hs (by simp[fI,h])
 .simp only[go_sem,seval,a3,a4];exact ak.pure hs (by simp[fI])
def LI(x y:Fd)(s:Bool):aL prog 209 [gJ x,gJ y,.bool s] (.bool (iF x y s)):=λU=>by
 refine Ul.q ?_;have hs:=aa.refl U;obtain⟨⟨c,f,r⟩,i⟩:=x;obtain⟨⟨c',f',r'⟩,i'⟩:=y;refine mS 7 ?_;simp only[go_sem,seval,Pc,gJ];refine ar hs λi3 Z3 s3 a3 f3 z3 hs=>?_;simp only[go_sem,seval];refine ar hs λi4 Z4 s4 a4 f4 z4 hs=>?_;obtain⟨n34,a3⟩:=VB a3 f4 s4;cases s
 .simp only[go_sem,seval,a3,a4];exact ak.pure hs (by simp[iF])
 .by_cases h:r<=r'
  .have q:(r<=r')=True:=L' h;simp only[go_sem,seval,a3,a4,q];exact ak.pure hs (by simp[iF,h])
  .have q:(r<=r')=False:=H' h;simp only[go_sem,seval,a3,a4,q];exact ak.pure hs (by simp[iF,h])
def jM(b:List Xt)(cm to:Int):Int:=(fb fI ((btw b cm to).map (jr b)) tX).1.i
def AA(b:List Xt)(cm to:Int):Int:=(fb iF ((btw b cm to).map (jr b)) tX).1.i
def xW(b:List Xt)(hb:b.length<=1000000)(cm to:Int):Iter prog 253 [.rp (vI cm),.rp (vI to),.rp (bG b)] (((btw b cm to).map (jr b)).map λx=>[gJ x]):=by
 have h:=Io b hb cm to;rw[List.map_map];exact h
def KJ(b:List Xt)(hb:b.length<=1000000)(cm to:Int):aL prog 153 [bG b,vI cm,vI to] (vI (jM b cm to)):=λU=>by
 refine Ut.q ?_;have hs:=aa.refl U;refine mS 8 ?_;simp only[go_sem,seval,Pe];refine pS rfl (yj b cm to _) ?_;simp only[go_sem,seval];refine pR rfl (Au (xW b hb cm to) tX fI IK _) ?_;have Xg:∀x,(gJ x).cells=[vI x.b.cls,vI x.b.forced,vI x.b.V6,vI x.i]:=λ_=>rfl;apply sR;simp only[go_sem,seval,gJ];refine ar hs λi7 Z7 s7 a7 f7 z7 hs=>?_;simp only[go_sem,seval,a7];exact ak.pure (hs.az z7) rfl
def NF(b:List Xt)(hb:b.length<=1000000)(cm to:Int):aL prog 154 [bG b,vI cm,vI to] (vI (AA b cm to)):=λU=>by
 refine T9.q ?_;have hs:=aa.refl U;refine mS 8 ?_;simp only[go_sem,seval,QL];refine pS rfl (yj b cm to _) ?_;simp only[go_sem,seval];refine pS rfl (Au (xW b hb cm to) tX iF LI _) ?_;simp only[go_sem,seval,gJ];refine ar hs λi7 Z7 s7 a7 f7 z7 hs=>?_;simp only[go_sem,seval,a7];exact ak.pure (hs.az z7) rfl
open Go.Proofs
structure Kp where
 (VU:List Int)
 (high body:Int)
def ir(l:List Nd)(x:Kp)(a:Int):Kp:=if(XA l a).head<1\/x.body-(XA l a).head<1 then x else⟨x.VU++[a],x.high+(XA l a).head,x.body-(XA l a).head⟩
structure KpJ(Z0:ad)(i7:Nat)(x:Kp)(U:ad):Prop where
 row:∃v,U i7=some ⟨195,3,[.agg [v,vI x.high,vI x.body]]⟩/\ay (bE Z0 i7) U 3 1 v (x.VU.map vI)
 sub:aa Z0 U
 no:Z0 i7=none
def Kb(l:List Nd)(hb:Wg l=true)(x:Kp)(hlen:x.VU.length<=1000000)(h0:0<=x.high)(h1:x.high<=4398046511104)(h2:0<=x.body)(h3:x.body<=4398046511104)(a:Nat)(ha:a<l.length)
 {Z0 ZJ ZB:ad}{i7:Nat}(hJ:KpJ Z0 i7 x ZJ)(G':aa ZJ ZB):
 au prog 127 [.ptr i7 0 0,aF l,vI a] ZB λ_ Z'=>∃Wh,bF ZJ ZB Wh Z'/\KpJ Z0 i7 (ir l x a) Wh:=by
 refine UW.q ?_;have Wb:=(fw hb ha).st.head;have WQ:=λU=>bR (U:=U) (l:=l) (a:=a) ha;obtain⟨⟨v,J7,Jo⟩,Js,Jn⟩:=hJ;obtain⟨hds,high,body⟩:=x;simp only at hlen h0 h1 h2 h3 J7 Jo;have hvc:v.cells=[v]:=by rcases Jo with⟨rfl,_⟩|⟨_,rfl,_⟩<;>rfl
 have c7:=G' _ _ J7;unfold ir;rw[eU ha];simp only;have same:(l[a].st.head<1\/body-l[a].st.head<1)->ak (.VG []) ZB λ_ Z'=>∃Wh,bF ZJ ZB Wh Z'/\KpJ Z0 i7 (if l[a].st.head<1\/body-l[a].st.head<1 then⟨hds,high,body⟩else⟨hds++[(a:Int)],high+l[a].st.head,body-l[a].st.head⟩) Wh:=λh=>by
  rw[av h];exact⟨_,ZB,aa.refl _,Wk.refl (aa.refl _) _,ZJ,bF.refl G',⟨v,J7,Jo⟩,Js,Jn⟩
 refine ai.mix 7 ?_;have r1:VO .i64 (body-l[a].st.head):=ae;have r2:VO .i64 (high+l[a].st.head):=ae;by_cases hn:l[a].st.head<1
 .have q1:(l[a].st.head<1)=True:=L' hn;have fin:=same (.inl hn);generalize hX:(if l[a].st.head<1\/body-l[a].st.head<1 then(⟨hds,high,body⟩:Kp)else⟨hds++[(a:Int)],high+l[a].st.head,body-l[a].st.head⟩)=X at*;apply sR;simp only[go_sem,seval,Lf,WQ,Nd.cells,q1,c7,hvc];exact fin
 have q1:(l[a].st.head<1)=False:=H' hn;by_cases hn2:body-l[a].st.head<1
 .have q2:(body-l[a].st.head<1)=True:=L' hn2;have fin:=same (.inr hn2);generalize hX:(if l[a].st.head<1\/body-l[a].st.head<1 then(⟨hds,high,body⟩:Kp)else⟨hds++[(a:Int)],high+l[a].st.head,body-l[a].st.head⟩)=X at*;apply sR;simp only[go_sem,seval,Lf,WQ,Nd.cells,q1,r1,q2,c7,hvc];exact fin
 have q2:(body-l[a].st.head<1)=False:=H' hn2;rw[aD (by omega)];clear same;apply sR;simp only[go_sem,seval,Lf,WQ,Nd.cells,q1,r1,q2,c7,hvc];rw[ax];intro id28 f28;have ZL:(hds.map vI).length<=1000000:=by simpa using hlen
 have V8:((hds++[(a:Int)]).map vI)=hds.map vI++[vI a]:=by simp
 generalize hds.map vI=rows at*;have hBs:=(bF.refl G').y9 (o:=⟨3,1,[vI (a:Int)]⟩) f28;have y2:C' ZB id28 ⟨3,1,[vI (a:Int)]⟩ i7=_:=(ab (aU c7 f28)).trans c7;have a28:C' ZB id28 ⟨3,1,[vI (a:Int)]⟩ id28=some ⟨3,1,[vI (a:Int)]⟩:=ag;generalize C' ZB id28 ⟨3,1,[vI (a:Int)]⟩=Z8 at*;obtain⟨idA,Wi,hdA⟩:=Jo.K0 hBs.1;have V1:(rows.length+1)*9<=140737488355328:=by omega
 have k2:bE Z0 i7 i7≠none:=λh=>(aQ.1 h).1 rfl;have dne:∀(i:Nat) (Zx:ad),bE Z0 i7 i≠none->Vc.bN Zx idA i=Zx i:=λi Zx hk=>by
  cases idA with
  |none=>rfl
  |some a=>exact cc (λe=>hk (by rw[e];exact(hdA a rfl).1))
 simp only[go_sem,seval,Wi,bJ a28,V1];rw[ax];intro Yb f29;have f29:Z8 Yb=none:=f29;have m29:i7≠Yb:=aU y2 f29;have f29':Vc.bN Z8 idA Yb=none:=by
  cases idA with
  |none=>exact f29
  |some a=>simp only[Vc.bN,del];split<;>first|rfl|exact f29
 have y2':C' (Vc.bN Z8 idA) Yb ⟨3,1,rows++[vI (a:Int)]⟩ i7=some ⟨195,3,[.agg [v,vI high,vI body]]⟩:=by rw[ab m29,dne _ _ k2];exact y2
 have hB9:=((hBs.LJ (e:=idA) λi h=>(hdA i h).2).new (o:=⟨3,1,rows++[vI (a:Int)]⟩) f29').set (id:=i7) (o:=⟨195,3,[.agg [v,vI high,vI body]]⟩) (o':=⟨195,3,[.agg [.own Yb 0 (rows.length+1),vI (high+l[a].st.head),vI (body-l[a].st.head)]]⟩) (by rw[ab m29,dne _ _ k2];exact J7);simp only[go_sem,seval,hvc,y2',r1,r2];refine WZ ⟨_,hB9,⟨.own Yb 0 (rows.length+1),ag,?_⟩,?_,Jn⟩
 .rw[V8];refine ay.new (by simp) (by rw[ab m29.symm,ag]) ?_;rw[aQ];refine⟨m29.symm,?_⟩;cases h:Z0 Yb with
  |none=>rfl
  |some o=>rw[hBs.1 _ _ (Js _ _ h)]at f29;cases f29
 .refine aa.az (λi o h=>?_) Jn;have h1:=Js _ _ h;rw[ab (aU (hBs.1 _ _ h1) f29),dne _ _ (λhk=>by rw[(aQ.1 hk).2]at h;cases h)];exact h1
open Go.Proofs
def bwd(L:List Int):List (List V):=(List.range' 0 L.length).map λq=>[vI ((L.length-1-q:Nat):Int),vI (L.getD (L.length-1-q) 0)]
def Gq(L:List Int)(hL:L.length<=1000000):Iter prog 171 [.rp (bb L)] (bwd L):=by
 refine⟨Ov.c,λWp τ Jx Z0 hy hJ=>?_⟩;refine(Ov.q ?_).2;have hlL:=dd L;have ldI:∀(U:ad) (X:List Int),cj U false 1 (.rp (bb X))=some (bb X):=λU X=>rfl;have r2:VO .i64 ((L.length:Int)-1):=ae;refine mS 4 ?_;simp only[go_sem,seval,Px,ldI,hlL,r2];generalize hT:bwd L=T at hy|-
 let F:Nat->List V:=λq=>[vI ((L.length-1-q:Nat):Int),vI (L.getD (L.length-1-q) 0)]
 have hTF:T=(List.range' 0 L.length).map F:=hT.symm;refine ai.loop (λm st=>∃(j:Nat) (ZJ:ad),j<=L.length/\m=L.length-j/\τ ((List.range' 0 j).map F) ZJ/\aa ZJ st.U/\st.s 0=.yl Wp/\st.s 1=.rp (bb L)/\st.s 3=vI ((L.length:Int)-1-j)) L.length ?_ ?_
 .exact⟨0,Z0,by omega,rfl,by simpa using hJ,aa.refl _,rfl,rfl,by simp[bc,mix]⟩
 .rintro m ⟨S,J⟩ ⟨j,ZJ,hj,rfl,Yj,G',t0,t1,t3⟩;simp only at G' t0 t1 t3;refine ai.mix 4 ?_;by_cases B':j<L.length
  .obtain⟨i,hi⟩:∃i:Nat,i=L.length-1-j:=⟨_,rfl⟩
   have Xx:i<L.length:=by omega
   have t3':S 3=vI (i:Int):=by rw[t3];congr 1;omega
   have q:((i:Int)>=0)=True:=L';have r1:VO .i64 ((i:Int)-1):=ae;have VC:=λU=>du (U:=U) Xx;have hF:F j=[vI (i:Int),vI L[i]]:=by
    show[vI ((L.length-1-j:Nat):Int),vI (L.getD (L.length-1-j) 0)]=_;rw[<-hi];simp[Xx]
   have e:T=((List.range' 0 j).map F)++[vI (i:Int),vI L[i]]::((List.range' (0+j+1) (L.length-j-1)).map F):=by
    rw[hTF,range_split j 0 L.length B',dG,fF,fU,hF]
   have V9:((List.range' 0 (j+1)).map F)=((List.range' 0 j).map F)++[[vI (i:Int),vI L[i]]]:=by rw[tA,dG,fU,fF,hF];rfl
   have q5:(i:Int)-1=(L.length:Int)-1-((j+1:Nat):Int):=by omega
   apply sR;simp only[go_sem,seval,t0,t1,t3',ldI,q,VC];refine ai.oV (Post:=λb' Z2=>∃Wh,bF ZJ J Wh Z2/\((b'=true/\τ (((List.range' 0 j).map F)++[[vI (i:Int),vI L[i]]]) Wh)\/(b'=false/\Jx (((List.range' 0 j).map F)++[[vI (i:Int),vI L[i]]]) Wh))) rfl rfl rfl (hy _ [vI (i:Int),vI L[i]] _ ZJ J e Yj G') ?_;rintro b' Z2 ⟨Wh,Ya,XL⟩;rcases XL with⟨rfl,XL⟩|⟨rfl,XL⟩
   .apply sR;simp only[go_sem,seval,t0,t1,t3',r1];refine⟨_,?_,j+1,Wh,by omega,rfl,by rw[V9];exact XL,Ya.1,by simp[t0,t1,q5]⟩;omega
   .apply sR;simp only[go_sem,seval,t0,t1,t3'];exact⟨_,Wh,Ya.1,Wk.refl Ya.1 _,.inr ⟨_,⟨_,by rw[e,lq];rfl⟩,XL⟩⟩
  .have XS:j=L.length:=by omega
   subst XS;have q:((L.length:Int)-1-(L.length:Int)>=0)=False:=H';apply sR;simp only[go_sem,seval,t0,t1,t3,q];exact⟨_,ZJ,G',Wk.refl G' _,.inl (hTF▸Yj)⟩
def PQ(L:List Int):aL prog 125 [bb L] (.fn 171 [.rp (bb L)]):=λU=>by
 refine TI.q ?_;refine mS 3 ?_;simp only[go_sem,seval,Pt,aj,al];refine aA λid1 Z1 s1 a1 f1=>?_;simp only[go_sem,seval,aj,al];exact⟨_,U,s1,Wk.fn (vs':=[.rp (bb L)]) ⟨Wk.ptr s1 a1 f1,trivial⟩,rfl,rfl⟩
open Go.Proofs
def j7(x:Kp):V:=.agg [bb x.VU,vI x.high,vI x.body]
def ig(l:List Nd)(L:List Int)(h:Int):Nat->Kp
 |0=>⟨[],0,h⟩
 |m+1=>ir l (ig l L h m) (L.getD (L.length-1-m) 0)
def Gi{l:List Nd}{x:Kp}{a:Int}{m:Nat}{h:Int}(h0:0<=(XA l a).head)(hx:x.VU.length<=m/\0<=x.high/\0<=x.body/\x.high+x.body=h):(ir l x a).VU.length<=m+1/\0<=(ir l x a).high/\0<=(ir l x a).body/\(ir l x a).high+(ir l x a).body=h:=by
 obtain⟨h1,h2,h3,h4⟩:=hx;unfold ir;split
 .exact⟨by omega,h2,h3,h4⟩
 .simp only[jm,XU,List.length_nil];omega
def qm{l:List Nd}(hb:Wg l=true){L:List Int}(hL:∀x∈L,∃n:Nat,x=n/\n<l.length){h:Int}(hh:0<=h):∀m,m<=L.length->(ig l L h m).VU.length<=m/\0<=(ig l L h m).high/\0<=(ig l L h m).body/\(ig l L h m).high+(ig l L h m).body=h
 |0,_=>by simp[ig];omega
 |m+1,hm=>by
  have ih:=qm hb hL hh m (by omega);rw[ig];refine Gi ?_ ih;have B':L.length-1-m<L.length:=by omega
  have hg:L.getD (L.length-1-m) 0=L[L.length-1-m]:=by simp[B']
  rw[hg];obtain⟨n,hn,Xe⟩:=hL _ (Ws B');rw[hn,eU Xe];exact(fw hb Xe).st.head.1
def qh(l:List Nd)(a:Nat)(h:Int):Kp:=ig l (abv l a) h (abv l a).length
def HF(l:List Nd)(hl:ep l)(hb:Wg l=true)(hn:l.length<=100000)(a:Nat)(ha:a<l.length)(h:Int)(h0:0<=h)(h1:h<=2199023255552):
 aL prog 82 [aF l,vI a,vI h] (j7 (qh l a h)):=λU=>by
 refine e82.q ?_;have hs:=aa.refl U;refine mS 10 ?_;simp only[go_sem,seval,c82,af,aM];refine ar hs λi3 Z3 s3 a3 f3 z3 hs=>?_;simp only[go_sem,seval];refine ar hs λi6 Z6 s6 a6 f6 z6 hs=>?_;obtain⟨n36,a3⟩:=VB a3 f6 s6;simp only[go_sem,seval,a3,af];refine aA λi7 Z7 s7 a7 f7=>?_;have n37:i3≠i7:=aU a3 f7;have Zw:i6≠i7:=aU a6 f7;have b3:=s7 _ _ a3;simp only[go_sem,seval,a7,b3,ab n37,af,aM];have h7:KpJ Z6 i7 ⟨[],0,h⟩ (C' Z7 i7 ⟨195,3,[.agg [.aO,vI 0,vI h]]⟩):=⟨⟨.aO,ag,ay.start⟩,s7.az f7,f7⟩
 have e3:C' Z7 i7 ⟨195,3,[.agg [.aO,vI 0,vI h]]⟩ i3=_:=(ab n37).trans b3;generalize C' Z7 i7 ⟨195,3,[.agg [.aO,vI 0,vI h]]⟩=Y7 at*;refine pR rfl (Ch l hl hb hn a ha _) ?_;have hrg:∀x∈abv l a,∃n:Nat,x=n/\n<l.length:=λx hx=>by
  obtain⟨n,h1,h2⟩:=qK ha x hx;exact⟨n,h1,by omega⟩
 have hlL:(abv l a).length<=l.length+1:=j6 _ _ _;unfold qh;generalize abv l a=L at*;apply sR;simp only[go_sem,seval];refine pS rfl (PQ L _) ?_;simp only[go_sem,seval];generalize hS:mix 10 _ _=S;have S3:S 3=.ptr i3 0 0:=by rw[<-hS];rfl
 have S6:S 6=.ptr i6 0 0:=by rw[<-hS];rfl
 have S7:S 7=.ptr i7 0 0:=by rw[<-hS];rfl
 have S16:S 16=.fn 171 [.rp (bb L)]:=by rw[<-hS];rfl
 clear hS;refine ai.fk (g:=.t 16) (caps:=[.rp (bb L)]) S16 (Gq L (by omega)) (λy hy=>?_) [] (λpre ZJ=>KpJ Z6 i7 (ig l L h pre.length) ZJ)
  (λ_ _ _=>False) ?_ ?_ ?_ ?_ ?_
 .obtain⟨t,_,rfl⟩:=gM.1 hy;rfl
 .exact h7
 .rintro pre y post ZJ ZB YV hJ G';have Yy:pre.length<L.length:=by
   have:=congrArg List.length YV;simp[bwd]at this;omega
  obtain⟨i,hi⟩:∃i:Nat,i=L.length-1-pre.length:=⟨_,rfl⟩
  have Xx:i<L.length:=by omega
  have hy:y=[vI (i:Int),vI (L.getD i 0)]:=by
   have h1:(bwd L)[pre.length]?=some y:=by rw[YV];simp
   simp[bwd,Yy]at h1;rw[<-h1,hi];simp
  have hlen:(pre++[y]).length=pre.length+1:=by simp
  have hinv:=qm hb hrg h0 pre.length (by omega);have VP:ig l L h (pre.length+1)=ir l (ig l L h pre.length) (L.getD i 0):=by rw[ig,hi]
  have hg:L.getD i 0=L[i]:=by simp[Xx]
  obtain⟨n,V2,Xe⟩:=hrg _ (Ws Xx);rw[hlen,VP,hg,V2];rw[hg,V2]at hy;subst hy;generalize ig l L h pre.length=x at*;have c3:=G' _ _ (hJ.sub _ _ a3);generalize Yt:oM S [17,18] [vI (i:Int),vI (n:Int)]=S0;have T3:S0 3=.ptr i3 0 0:=by rw[<-Yt];exact S3
  have T7:S0 7=.ptr i7 0 0:=by rw[<-Yt];exact S7
  have T18:S0 18=vI (n:Int):=by rw[<-Yt];rfl
  clear Yt;refine mS 10 ?_;simp only[go_sem,seval,T3,T7,T18];apply sR;simp only[go_sem,seval,T3,T7,T18,c3,af];have hc:=Kb l hb x (by omega) (by omega) (by omega) (by omega) (by omega) n Xe hJ G';rw[<-T7]at hc;refine Xv rfl hc ?_;rintro-Z2 ⟨Wh,hB,Yv⟩;apply sR;simp only[go_sem,seval];exact⟨_,hB,Yv⟩
 .rintro Z' hJ;have WX:(bwd L).length=L.length:=by simp[bwd]
  rw[WX]at hJ;obtain⟨⟨v,J7,Jo⟩,Js,Jn⟩:=hJ;have hvc:v.cells=[v]:=by rcases Jo with⟨rfl,_⟩|⟨_,rfl,_⟩<;>rfl
  have e6:=Js _ _ a6;refine mS 10 ?_;simp only[go_sem,seval,S6,S7,J7,e6,hvc];have VP:=(hs.trans Js).az (o:=⟨107,3,[.agg [v,vI (ig l L h L.length).high,vI (ig l L h L.length).body]]⟩) z6;have Jo':ay (bE Z6 i7) (C' Z' i6 ⟨107,3,[.agg [v,vI (ig l L h L.length).high,vI (ig l L h L.length).body]]⟩) 3 1 v ((ig l L h L.length).VU.map vI):=by
   rcases Jo with h|⟨id,g1,g2,g3⟩
   .exact .inl h
   .refine .inr ⟨id,g1,?_,g3⟩;rw[ab (λe=>by rw[e,aQ]at g3;rw[a6]at g3;cases g3.2)];exact g2
  have hK:aa U (bE Z6 i7):=λi o hh=>by
   rw[bE,aD (λe=>by rw[e,hs.none f7]at hh;cases hh)];exact hs _ _ hh
  exact⟨_,U,VP,Wk.agg (vs':=[bb (ig l L h L.length).VU,vI (ig l L h L.length).high,vI (ig l L h L.length).body]) ⟨Jo'.wk hK VP,Wk.refl VP _,Wk.refl VP _,trivial⟩,rfl,rfl⟩
 .intro id h;cases h
 .rintro pre Z' _ ⟨⟩
open Go.Proofs
def gS(l:List Nd)(h:Int):Bool:=decide (1<=h/\h<=1099511627776)&&Wg l
def HM(l:List Nd)(hl:ep l)(h:Int):aL prog 81 [aF l,vI h] (.bool (gS l h)):=λU=>by
 refine e81.q ?_;refine mS 5 ?_;simp only[go_sem,seval,c81];refine pR rfl (rP h _) ?_;unfold gS;cases hd:decide (1<=h/\h<=1099511627776)
 .apply sR;simp only[go_sem,seval];exact ak.same (by simp)
 .apply sR;simp only[go_sem,seval];refine pS rfl (EE l hl _) ?_;simp only[go_sem,seval];exact ak.same (by simp)
def um(l:List Nd)(a h:Int):Kp:=if gS l h=true/\0<=a/\a<l.length then qh l a.toNat h else⟨[],0,0⟩
def QG(l:List Nd)(hl:ep l)(a h:Int):aL prog 98 [aF l,vI a,vI h] (j7 (um l a h)):=λU=>by
 refine e98.q ?_;have hs:=aa.refl U;have Xs:=bU l;have hn:l.length<=100000:=by have:=hl.1;omega
 refine mS 7 ?_;simp only[go_sem,seval,c98];refine ar hs λi6 Z6 s6 a6 f6 z6 hs=>?_;simp only[go_sem,seval];refine pR rfl (HM l hl h _) ?_;have bad:¬(gS l h=true/\0<=a/\a<l.length)->ak (.agg [.aO,vI 0,vI 0]) Z6 λr Z'=>r=j7 (um l a h)/\Z'=U:=λhb=>by
  rw[um,aD hb];exact⟨_,U,hs,Wk.agg (vs':=[bb [],vI 0,vI 0]) ⟨Wk.aO 1,Wk.refl hs _,Wk.refl hs _,trivial⟩,rfl,rfl⟩
 have a6':C' Z6 i6 ⟨107,3,[.agg [.aO,vI 0,vI 0]]⟩=Z6:=by
  funext i;by_cases hi:i=i6
  .rw[hi,ag];exact a6.symm
  .rw[ab hi]
 cases hm:gS l h
 .have fin:=bad (by simp[hm]);apply sR;simp only[go_sem,seval,a6];rw[a6'];exact fin
 by_cases h0:a<0
 .have q0:(a<0)=True:=L' h0;have fin:=bad (by omega);apply sR;simp only[go_sem,seval,a6,q0];rw[a6'];exact fin
 have q0:(a<0)=False:=H' h0;by_cases h1:a>=l.length
 .have q1:(a>=l.length)=True:=L' h1;have fin:=bad (by omega);apply sR;simp only[go_sem,seval,a6,q0,q1,Xs];rw[a6'];exact fin
 have q1:(a>=l.length)=False:=H' h1;clear bad a6';obtain⟨n,rfl⟩:∃n:Nat,a=n:=⟨a.toNat,by omega⟩
 have hb:Wg l=true:=by unfold gS at hm;simp at hm;exact hm.2
 have hh:1<=h/\h<=1099511627776:=by unfold gS at hm;simp at hm;exact hm.1
 have hr:um l n h=qh l n h:=by rw[um,av ⟨hm,by omega,by omega⟩,fp]
 rw[hr];apply sR;simp only[go_sem,seval,a6,q0,q1,Xs];refine pS rfl (HF l hl hb hn n (by omega) h (by omega) (by omega) _) ?_;simp only[go_sem,seval,a6,j7,aj,al];exact ak.pure (hs.az z6) rfl
def ie(l:List Nd)(h:Int):Nat->Int
 |0=>h
 |j+1=>if(Wu l j).kind=2\/(Wu l j).kind=3 then min (ie l h j) (qh l j h).body else ie l h j
def dW(l:List Nd)(h:Int):Int:=if gS l h=true then ie l h l.length else 0
def Ji(l:List Nd)(hl:ep l)(h:Int):aL prog 33 [aF l,vI h] (vI (dW l h)):=λU=>by
 refine e33.q ?_;have hs:=aa.refl U;have Xs:=bU l;have hn:l.length<=100000:=by have:=hl.1;omega
 refine mS 8 ?_;simp only[go_sem,seval,c33];refine pR rfl (HM l hl h _) ?_;unfold dW;cases hm:gS l h
 .apply sR;simp only[go_sem,seval];exact ak.same rfl
 have hb:Wg l=true:=by unfold gS at hm;simp at hm;exact hm.2
 have hh:1<=h/\h<=1099511627776:=by unfold gS at hm;simp at hm;exact hm.1
 rw[av rfl];apply sR;simp only[go_sem,seval,Xs];refine ai.loop (λm st=>∃j:Nat,j<=l.length/\m=l.length-j/\aa U st.U/\st.s 0=aF l/\st.s 1=vI h/\st.s 5=vI (ie l h j)/\st.s 13=aF l/\st.s 14=vI l.length/\st.s 15=vI j) l.length ?_ ?_
 .exact⟨0,by omega,rfl,hs,rfl,rfl,rfl,rfl,rfl,rfl⟩
 .clear hs;rintro m ⟨S,J⟩ ⟨j,hj,rfl,hs,t0,t1,t5,t13,t14,t15⟩;simp only at hs t0 t1 t5 t13 t14 t15;refine ai.mix 8 ?_;by_cases B':j<l.length
  .have q:=qT B';have r1:=rI j;have WQ:=λU=>bR (U:=U) (l:=l) (a:=j) B';have VP:ie l h (j+1)=if l[j].kind=2\/l[j].kind=3 then min (ie l h j) (qh l j h).body else ie l h j:=by rw[ie,jT B']
   apply sR;simp only[go_sem,seval,t0,t1,t5,t13,t14,t15,q,WQ,Nd.cells];refine aA λi7 Z7 s7 a7 f7=>?_;by_cases hk:l[j].kind=2
   .have q1:(l[j].kind=2)=True:=L' hk;simp only[go_sem,seval,a7,q1,t0,t1,t5,t13,t14,t15,aj,al];refine pS rfl (HF l hl hb hn j B' h (by omega) (by omega) _) ?_;simp only[go_sem,seval,t0,t1,t5,t13,t14,t15,j7,r1,dD,aj,al];refine⟨_,?_,j+1,by omega,rfl,hs.trans (s7.az f7),by simp[t0,t1,t13,t14,VP,hk]⟩;omega
   .have q1:(l[j].kind=2)=False:=H' hk;by_cases hk3:l[j].kind=3
    .have q2:(l[j].kind=3)=True:=L' hk3;have hk:=hk3;simp only[go_sem,seval,a7,q1,q2,t0,t1,t5,t13,t14,t15,aj,al];refine pS rfl (HF l hl hb hn j B' h (by omega) (by omega) _) ?_;simp only[go_sem,seval,t0,t1,t5,t13,t14,t15,j7,r1,dD,aj,al];refine⟨_,?_,j+1,by omega,rfl,hs.trans (s7.az f7),by simp[t0,t1,t13,t14,VP,hk]⟩;omega
    .have q2:(l[j].kind=3)=False:=H' hk3;simp only[go_sem,seval,a7,q1,q2,t0,t1,t5,t13,t14,t15,r1,aj,al];refine⟨_,?_,j+1,by omega,rfl,hs.trans (s7.az f7),by simp[t0,t1,t13,t14,VP,hk,hk3]⟩;omega
  .have q:=qF B';have XS:j=l.length:=by omega
   apply sR;simp only[go_sem,seval,t0,t1,t5,t13,t14,t15,q];exact ak.pure hs (by rw[XS])
open Go.Proofs
def aI(l:List WE):(bn l).cells=[bn l]:=rfl
def aH(l:List WE):(bn l).stays=true:=rfl
def gj(l:List WE):dX false (bn l)=some (.int .i64 l.length):=by simp[bn,dX]
def ey{U:ad}{l:List WE}{i:Nat}(h:i<l.length):bO U 8 (bn l) (.int .i64 i)=some (.rp (bC l[i])):=by simp[bn,bO,h,bC]
structure jU(l:List WE):Prop where
 len:l.length<=1000000000
 rng:∀a∈l,-1152921504606846976<=a.y/\a.y<=1152921504606846976/\0<=a.h/\a.h<=1152921504606846976
def zT(l:List WE)(k:Int):aL prog 203 [bn l,vI k] (.bool (decide (0<=k/\k<l.length))):=λU=>by
 refine Ur.q ?_;have hl:=gj l;refine ai.mix 5 ?_;by_cases h0:k>=0
 .have q0:(k>=0)=True:=L' h0;by_cases h1:k<l.length
  .have q1:(k<l.length)=True:=L' h1;apply sR;simp only[go_sem,seval,JJ,q0,q1,hl];exact ak.same (by simp[h0,h1])
  .have q1:(k<l.length)=False:=H' h1;apply sR;simp only[go_sem,seval,JJ,q0,q1,hl];exact ak.same (by simp[h1])
 .have q0:(k>=0)=False:=H' h0;apply sR;simp only[go_sem,seval,JJ,q0,hl];exact ak.same (by simp<;>omega)
def Fs(a:WE)(h:-1152921504606846976<=a.y/\a.y<=1152921504606846976/\0<=a.h/\a.h<=1152921504606846976):aL prog 252 [bC a] (vI (a.y+a.h)):=λU=>by
 refine Sw.q ?_;have hs:=aa.refl U;have r1:VO .i64 (a.y+a.h):=ae;refine mS 3 ?_;simp only[go_sem,seval,Pg,bC];refine ar hs λi1 Z1 s1 a1 f1 z1 hs=>?_;simp only[go_sem,seval,a1,r1];exact ak.pure hs rfl
def Zz(l:List WE)(k:Int):WE:=l.getD k.toNat ⟨0,0,0,0,0,0,0,0⟩
def ga(l:List WE)(k:Int):Int:=if 0<=k/\k<l.length then(Zz l k).y+(Zz l k).h else 0
def lj(l:List WE)(k:Int):Int:=if 0<=k/\k<l.length then(Zz l k).y-ga l (k-1)else 0
def fH(l:List WE)(i k:Int):Int:=if(0<=i/\i<l.length)/\(0<=k/\k<l.length)then(Zz l k).y-(Zz l i).y else 0
def bp{l:List WE}{k:Nat}(h:k<l.length):Zz l k=l[k]:=by simp[Zz,h]
def nm{l:List WE}(hl:jU l)(k:Int):-1152921504606846976<=ga l k/\ga l k<=2305843009213693952:=by
 unfold ga;split
 .rename_i h;obtain⟨n,rfl⟩:∃n:Nat,k=n:=⟨k.toNat,by omega⟩
  have hn:n<l.length:=by omega
  rw[bp hn];have:=hl.rng _ (Ws hn);omega
 .omega
def FZ(l:List WE)(hl:jU l)(k:Int):aL prog 204 [bn l,vI k] (vI (ga l k)):=λU=>by
 refine T0.q ?_;refine mS 5 ?_;simp only[go_sem,seval,OS];refine pR rfl (zT l k _) ?_;unfold ga;by_cases h:0<=k/\k<l.length
 .obtain⟨n,rfl⟩:∃n:Nat,k=n:=⟨k.toNat,by omega⟩
  have hn:n<l.length:=by omega
  have hd:decide (0<=(n:Int)/\(n:Int)<l.length)=true:=by simp;omega
  have VC:=λU=>ey (U:=U) hn;rw[hd,av h,bp hn];apply sR;simp only[go_sem,seval,VC,bC];refine pS rfl (Fs l[n] (hl.rng _ (Ws hn)) _) ?_;simp only[go_sem,seval];exact ak.same rfl
 .have hd:decide (0<=k/\k<l.length)=false:=by simpa using h
  rw[hd,aD h];apply sR;simp only[go_sem,seval];exact ak.same rfl
def MS(l:List WE)(hl:jU l)(k:Int):aL prog 151 [bn l,vI k] (vI (lj l k)):=λU=>by
 refine Tx.q ?_;refine mS 5 ?_;simp only[go_sem,seval,PN];refine pR rfl (zT l k _) ?_;unfold lj;by_cases h:0<=k/\k<l.length
 .obtain⟨n,rfl⟩:∃n:Nat,k=n:=⟨k.toNat,by omega⟩
  have hn:n<l.length:=by omega
  have hd:decide (0<=(n:Int)/\(n:Int)<l.length)=true:=by simp;omega
  have VC:=λU=>ey (U:=U) hn;have hll:=hl.len;have hy:=hl.rng _ (Ws hn);have hbr:=nm hl ((n:Int)-1);have r1:VO .i64 ((n:Int)-1):=ae;have r2:VO .i64 (l[n].y-ga l ((n:Int)-1)):=ae;rw[hd,av h,bp hn];apply sR;simp only[go_sem,seval,VC,bC,r1];refine pJ rfl (FZ l hl ((n:Int)-1)) ?_;apply sG;simp only[go_sem,seval,r2];exact ak.same rfl
 .have hd:decide (0<=k/\k<l.length)=false:=by simpa using h
  rw[hd,aD h];apply sR;simp only[go_sem,seval];exact ak.same rfl
def FA(l:List WE)(hl:jU l)(i k:Int):aL prog 210 [bn l,vI i,vI k] (vI (fH l i k)):=λU=>by
 refine So.q ?_;refine mS 8 ?_;simp only[go_sem,seval,OZ];refine pR rfl (zT l i _) ?_;unfold fH;by_cases h:0<=i/\i<l.length
 .have hd:decide (0<=i/\i<l.length)=true:=by simp;omega
  rw[hd];apply sR;simp only[go_sem,seval];refine pR rfl (zT l k _) ?_;by_cases h2:0<=k/\k<l.length
  .obtain⟨m,rfl⟩:∃m:Nat,i=m:=⟨i.toNat,by omega⟩
   obtain⟨n,rfl⟩:∃n:Nat,k=n:=⟨k.toNat,by omega⟩
   have hm:m<l.length:=by omega
   have hn:n<l.length:=by omega
   have ZO:decide (0<=(n:Int)/\(n:Int)<l.length)=true:=by simp;omega
   have VC:=λU=>ey (U:=U) hn;have hidx2:=λU=>ey (U:=U) hm;have hy:=hl.rng _ (Ws hn);have hy2:=hl.rng _ (Ws hm);have r1:VO .i64 (l[n].y-l[m].y):=ae;rw[ZO,av ⟨h,h2⟩,bp hn,bp hm];apply sR;simp only[go_sem,seval,VC,hidx2,bC,r1];exact ak.same rfl
  .have ZO:decide (0<=k/\k<l.length)=false:=by simpa using h2
   rw[ZO,aD (λh=>h2 h.2)];apply sR;simp only[go_sem,seval];exact ak.same rfl
 .have hd:decide (0<=i/\i<l.length)=false:=by simpa using h
  rw[hd,aD (λh'=>h h'.1)];apply sR;simp only[go_sem,seval];exact ak.same rfl
open Go.Proofs
def eG(b:List Xt)(i fit:Int):Prop:=nB b=true/\0<=i/\i<(b.length:Int)-1/\i<fit
instance (b:List Xt) (i fit:Int):Decidable (eG b i fit):=by unfold eG;infer_instance
def qf(b:List Xt)(i fit:Int):Int:=if jM b (i+1) fit<0 then AA b (i+1) fit else jM b (i+1) fit
def NU(b:List Xt)(hb:b.length<=1000000)(i fit:Int):aL prog 102 [bG b,vI i,vI fit] (.VG [vI (if eG b i fit then qf b i fit else 0),.bool (decide (eG b i fit))]):=λU=>by
 refine Tc.q ?_;have hlb:=uP b;have r0:VO .i64 ((b.length:Int)-1):=ae;refine mS 8 ?_;simp only[go_sem,seval,QH];refine pR rfl (NH b hb _) ?_;have bad:¬eG b i fit->ak (.VG [vI 0,.bool false]) U λr Z'=>r=.VG [vI (if eG b i fit then qf b i fit else 0),.bool (decide (eG b i fit))]/\Z'=U:=λh=>ak.same (by rw[aD h,WW h]);generalize hX:(V.VG [vI (if eG b i fit then qf b i fit else 0),.bool (decide (eG b i fit))])=X at*;cases hm:nB b
 .have fin:=bad (λh=>by rw[h.1]at hm;cases hm);apply sR;simp only[go_sem,seval];exact fin
 by_cases h0:i<0
 .have q0:(i<0)=True:=L' h0;have fin:=bad (λh=>by have:=h.2.1;omega);apply sR;simp only[go_sem,seval,q0];exact fin
 have q0:(i<0)=False:=H' h0;by_cases h1:i>=(b.length:Int)-1
 .have q1:(i>=(b.length:Int)-1)=True:=L' h1;have fin:=bad (λh=>by have:=h.2.2.1;omega);apply sR;simp only[go_sem,seval,q0,hlb,r0,q1];exact fin
 have q1:(i>=(b.length:Int)-1)=False:=H' h1;by_cases h2:fit<=i
 .have q2:(fit<=i)=True:=L' h2;have fin:=bad (λh=>by have:=h.2.2.2;omega);apply sR;simp only[go_sem,seval,q0,hlb,r0,q1,q2];exact fin
 have q2:(fit<=i)=False:=H' h2;clear bad;have VE:eG b i fit:=⟨hm,by omega,by omega,by omega⟩
 have r1:VO .i64 (i+1):=ae;rw[av VE,WJ VE]at hX;subst hX;apply sR;simp only[go_sem,seval,q0,hlb,r0,q1,q2,r1];refine pR rfl (KJ b hb (i+1) fit _) ?_;unfold qf;by_cases h3:jM b (i+1) fit<0
 .have q3:(jM b (i+1) fit<0)=True:=L' h3;rw[av h3];apply sR;simp only[go_sem,seval,q3,r1];refine pS rfl (NF b hb (i+1) fit _) ?_;simp only[go_sem,seval];exact ak.same rfl
 .have q3:(jM b (i+1) fit<0)=False:=H' h3;rw[aD h3];apply sR;simp only[go_sem,seval,q3];exact ak.same rfl
open Go.Proofs
structure W7 where
 (atom done:Int)
 free:Bool
def aZ(s:W7):V:=.agg [vI s.atom,vI s.done,.bool s.free]
def wZ(s:W7)(l:List WE):V:=.agg [vI s.atom,vI s.done,.bool s.free,bn l]
def de(l:List WE)(s:W7):Prop:=(0<=s.atom/\s.atom<l.length)/\0<=s.done/\(s.done=0\/s.done<(Zz l s.atom).h)
instance (l:List WE) (s:W7):Decidable (de l s):=by unfold de;infer_instance
def C1(l:List WE)(s:W7):aL prog 99 [wZ s l] (.bool (decide (de l s))):=λU=>by
 refine e99.q ?_;have hs:=aa.refl U;have hl:=gj l;obtain⟨a,d,fr⟩:=s;refine mS 3 ?_;simp only[go_sem,seval,c99,wZ,aI,aH];refine ar hs λi1 Z1 s1 a1 f1 z1 hs=>?_;by_cases h0:a>=0
 .have q0:(a>=0)=True:=L' h0;by_cases h1:a<l.length
  .have q1:(a<l.length)=True:=L' h1;obtain⟨n,rfl⟩:∃n:Nat,a=n:=⟨a.toNat,by omega⟩
   have hn:n<l.length:=by omega
   have VC:=λU=>ey (U:=U) hn;have hg:=bp hn;by_cases h2:d>=0
   .have q2:(d>=0)=True:=L' h2;by_cases h3:d=0
    .have q3:(d=0)=True:=L' h3;simp only[go_sem,seval,a1,q0,q1,q2,q3,hl,aI,aH];have hh:de l ⟨n,d,fr⟩:=⟨⟨h0,h1⟩,h2,.inl h3⟩
     exact ak.pure hs (by rw[WJ hh])
    .have q3:(d=0)=False:=H' h3;by_cases h4:d<l[n].h
     .have q4:(d<l[n].h)=True:=L' h4;simp only[go_sem,seval,a1,q0,q1,q2,q3,q4,hl,VC,bC,aI,aH];have hh:de l ⟨n,d,fr⟩:=⟨⟨h0,h1⟩,h2,.inr (by rw[hg];exact h4)⟩
      exact ak.pure hs (by rw[WJ hh])
     .have q4:(d<l[n].h)=False:=H' h4;simp only[go_sem,seval,a1,q0,q1,q2,q3,q4,hl,VC,bC,aI,aH];exact ak.pure hs (by rw[WW (λh:de l ⟨n,d,fr⟩=>by rcases h.2.2 with h|h;exact h3 h;rw[hg]at h;exact h4 h)])
   .have q2:(d>=0)=False:=H' h2;simp only[go_sem,seval,a1,q0,q1,q2,hl,aI,aH];exact ak.pure hs (by rw[WW (λh:de l ⟨n,d,fr⟩=>h2 h.2.1)])
  .have q1:(a<l.length)=False:=H' h1;simp only[go_sem,seval,a1,q0,q1,hl,aI,aH];exact ak.pure hs (by rw[WW (λh:de l ⟨a,d,fr⟩=>h1 h.1.2)])
 .have q0:(a>=0)=False:=H' h0;simp only[go_sem,seval,a1,q0,hl,aI,aH];exact ak.pure hs (by rw[WW (λh:de l ⟨a,d,fr⟩=>h0 h.1.1)])
def rG(l:List WE)(s:W7):aL prog 107 [bn l,aZ s] (.bool (decide (de l s))):=λU=>by
 refine TJ.q ?_;have hs:=aa.refl U;have hc:=C1 l s;obtain⟨a,d,fr⟩:=s;rw[wZ]at hc;refine mS 5 ?_;simp only[go_sem,seval,Rt,aZ,aI,aH];refine ar hs λi3 Z3 s3 a3 f3 z3 hs=>?_;simp only[go_sem,seval,a3,aI,aH];refine pS rfl (hc _) ?_;simp only[go_sem,seval];exact ak.pure hs rfl
def DO(l:List WE)(hl:jU l)(s:W7)(h:de l s)(hd:s.done<=1152921504606846976):aL prog 100 [wZ s l] (vI ((Zz l s.atom).h-s.done)):=λU=>by
 refine Uz.q ?_;have hs:=aa.refl U;obtain⟨a,d,fr⟩:=s;obtain⟨⟨h0,h1⟩,h2,h3⟩:=h;simp only at h0 h1 h2 h3 hd|-;obtain⟨n,rfl⟩:∃n:Nat,a=n:=⟨a.toNat,by omega⟩
 have hn:n<l.length:=by omega
 have VC:=λU=>ey (U:=U) hn;have hy:=hl.rng _ (Ws hn);rw[bp hn];have r1:VO .i64 (l[n].h-d):=ae;refine mS 3 ?_;simp only[go_sem,seval,N9,wZ,aI,aH];refine ar hs λi1 Z1 s1 a1 f1 z1 hs=>?_;simp only[go_sem,seval,a1,VC,r1,bC,aI,aH];exact ak.pure hs rfl
def gZ(l:List WE)(s:W7)(VZ:Int):Int:=if de l s/\s.free=true/\s.done=0/\lj l s.atom+((Zz l s.atom).h-s.done)<=VZ then lj l s.atom else 0
def I5{l:List WE}(hl:jU l)(k:Int):-3458764513820540928<=lj l k/\lj l k<=2305843009213693952:=by
 unfold lj;have hb:=nm hl (k-1);split
 .rename_i h;obtain⟨n,rfl⟩:∃n:Nat,k=n:=⟨k.toNat,by omega⟩
  have hn:n<l.length:=by omega
  rw[bp hn];have:=hl.rng _ (Ws hn);omega
 .omega
def LF(l:List WE)(hl:jU l)(s:W7)(VZ:Int):aL prog 101 [bn l,aZ s,vI VZ] (vI (gZ l s VZ)):=λU=>by
 refine Uw.q ?_;have hs:=aa.refl U;have hc:=C1 l s;have hlf:=λh hd=>DO l hl s h hd;have hgr:=I5 hl s.atom;obtain⟨a,d,fr⟩:=s;rw[wZ]at hc hlf;simp only at hgr hlf;refine mS 9 ?_;simp only[go_sem,seval,Py,aZ,aI,aH];refine ar hs λi4 Z4 s4 a4 f4 z4 hs=>?_;simp only[go_sem,seval,a4,aI,aH];refine ar hs λi7 Z7 s7 a7 f7 z7 hs=>?_;obtain⟨n47,a4⟩:=VB a4 f7 s7;simp only[go_sem,seval,a7,a4,aI,aH];refine pR rfl (hc _) ?_;have bad:¬(de l ⟨a,d,fr⟩/\fr=true/\d=0/\lj l a+((Zz l a).h-d)<=VZ)->gZ l ⟨a,d,fr⟩ VZ=0:=λh=>aD h;by_cases hm:de l ⟨a,d,fr⟩
 .rw[WJ hm];cases fr
  .apply sR;simp only[go_sem,seval,a7,aI,aH];exact ak.pure (hs.az z7) (by rw[bad (λh=>by cases h.2.1)])
  have hd0:=hm.2.1;simp only at hd0;by_cases hd:d>0
  .have q:(d>0)=True:=L' hd;apply sR;simp only[go_sem,seval,a7,q,aI,aH];exact ak.pure (hs.az z7) (by rw[bad (λh=>by have:=h.2.2.1;omega)])
  .have q:(d>0)=False:=H' hd;obtain rfl:d=0:=by omega
   apply sR;simp only[go_sem,seval,a7,q,aI,aH];refine pR rfl (MS l hl a _) ?_;have hlf':=hlf hm (by omega);have hy:0<=(Zz l a).h/\(Zz l a).h<=1152921504606846976:=by
    obtain⟨h0,h1⟩:=hm.1;simp only at h0 h1;obtain⟨n,rfl⟩:∃n:Nat,a=n:=⟨a.toNat,by omega⟩
    have hn:n<l.length:=by omega
    rw[bp hn];exact(hl.rng _ (Ws hn)).2.2
   have r1:VO .i64 (lj l a+((Zz l a).h-0)):=ae;apply sR;simp only[go_sem,seval,a7,ag,aI,aH];refine pR rfl (hlf' _) ?_;by_cases h4:lj l a+((Zz l a).h-0)<=VZ
   .have q4:(lj l a+((Zz l a).h-0)<=VZ)=True:=L' h4;have hk:gZ l ⟨a,0,true⟩ VZ=lj l a:=av ⟨hm,rfl,rfl,h4⟩;rw[hk];apply sR;simp only[go_sem,seval,r1,q4];exact ak.pure (hs.az z7) rfl
   .have q4:(lj l a+((Zz l a).h-0)<=VZ)=False:=H' h4;rw[bad (λh=>h4 h.2.2.2)];apply sR;simp only[go_sem,seval,r1,q4];exact ak.pure (hs.az z7) rfl
 .rw[WW hm];apply sR;simp only[go_sem,seval,a7,aI,aH];exact ak.pure (hs.az z7) (by rw[bad (λh=>hm h.1)])
open Go.Proofs
def fO(l:List WE)(s:W7):Int:=if de l s then(Zz l s.atom).h-s.done else 0
def J3(l:List WE)(hl:jU l)(s:W7)(hd:s.done<=1152921504606846976):aL prog 57 [bn l,aZ s] (vI (fO l s)):=λU=>by
 refine e57.q ?_;have hs:=aa.refl U;have hc:=C1 l s;have hlf:=λh=>DO l hl s h hd;unfold fO;obtain⟨a,d,fr⟩:=s;rw[wZ]at hc hlf;refine mS 6 ?_;simp only[go_sem,seval,c57,aZ,aI,aH];refine ar hs λi3 Z3 s3 a3 f3 z3 hs=>?_;simp only[go_sem,seval,a3,aI,aH];refine ar hs λi5 Z5 s5 a5 f5 z5 hs=>?_;obtain⟨n35,a3⟩:=VB a3 f5 s5;simp only[go_sem,seval,a5,a3,aI,aH];refine pR rfl (hc _) ?_;by_cases hm:de l ⟨a,d,fr⟩
 .rw[WJ hm,av hm];apply sR;simp only[go_sem,seval,a5,aI,aH];refine pS rfl (hlf hm _) ?_;simp only[go_sem,seval];exact ak.pure (hs.az z5) rfl
 .rw[WW hm,aD hm];apply sR;simp only[go_sem,seval];exact ak.pure (hs.az z5) rfl
def cD(l:List WE)(s:W7)(kept shift k:Int):Int:=if de l s/\s.atom<=k/\k<l.length then fH l s.atom k-s.done+kept+shift else 0
def sU{l:List WE}(hl:jU l)(i k:Int):-2305843009213693952<=fH l i k/\fH l i k<=2305843009213693952:=by
 unfold fH;split
 .rename_i h;obtain⟨n,rfl⟩:∃n:Nat,k=n:=⟨k.toNat,by omega⟩
  obtain⟨m,rfl⟩:∃m:Nat,i=m:=⟨i.toNat,by omega⟩
  have hn:n<l.length:=by omega
  have hm:m<l.length:=by omega
  rw[bp hn,bp hm];have h1:=hl.rng _ (Ws hn);have h2:=hl.rng _ (Ws hm);omega
 .omega
def Cj(l:List WE)(hl:jU l)(s:W7)(hd:s.done<=1152921504606846976)(kept shift k:Int)(hk:-1152921504606846976<=kept/\kept<=2305843009213693952)(YO:0<=shift/\shift<=1152921504606846976):
 aL prog 157 [bn l,aZ s,vI kept,vI shift,vI k] (vI (cD l s kept shift k)):=λU=>by
 refine TP.q ?_;have hs:=aa.refl U;have hc:=rG l s;have hor:=sU hl s.atom k;have hlen:=gj l;have bad:¬(de l s/\s.atom<=k/\k<l.length)->cD l s kept shift k=0:=λh=>aD h;have good:(de l s/\s.atom<=k/\k<l.length)->cD l s kept shift k=fH l s.atom k-s.done+kept+shift:=λh=>av h;generalize cD l s kept shift k=P at*;obtain⟨a,d,fr⟩:=s;rw[aZ]at hc;simp only at hor hd good bad;refine mS 11 ?_;simp only[go_sem,seval,PA,aZ,aI,aH];refine ar hs λi6 Z6 s6 a6 f6 z6 hs=>?_;simp only[go_sem,seval,a6,aI,aH];refine pR rfl (hc _) ?_;by_cases hm:de l ⟨a,d,fr⟩
 .rw[WJ hm];by_cases h1:k<a
  .have q1:(k<a)=True:=L' h1;apply sR;simp only[go_sem,seval,a6,q1,aI,aH];exact ak.pure hs (by rw[bad (λh=>by omega)])
  have q1:(k<a)=False:=H' h1;by_cases h2:k>=l.length
  .have q2:(k>=l.length)=True:=L' h2;apply sR;simp only[go_sem,seval,a6,q1,q2,hlen,aI,aH];exact ak.pure hs (by rw[bad (λh=>by omega)])
  have q2:(k>=l.length)=False:=H' h2;rw[good ⟨hm,by omega,by omega⟩];have hd0:=hm.2.1;simp only at hd0;have r1:VO .i64 (fH l a k-d):=ae;have r2:VO .i64 (fH l a k-d+kept):=ae;have r3:VO .i64 (fH l a k-d+kept+shift):=ae;apply sR;simp only[go_sem,seval,a6,q1,q2,hlen,aI,aH];refine pJ rfl (FA l hl a k) ?_;apply sG;simp only[go_sem,seval,a6,r1,r2,r3];exact ak.pure hs rfl
 .rw[WW hm];apply sR;simp only[go_sem,seval,a6,aI,aH];exact ak.pure hs (by rw[bad (λh=>hm h.1)])
open Go.Proofs
def J1(l:List WE)(k:Int):aL prog 161 [bn l,vI k] (.bool (decide (0<=k/\k<l.length))):=λU=>by
 refine S1.q ?_;have hl:=gj l;refine ai.mix 5 ?_;by_cases h0:k>=0
 .have q0:(k>=0)=True:=L' h0;by_cases h1:k<l.length
  .have q1:(k<l.length)=True:=L' h1;apply sR;simp only[go_sem,seval,KV,q0,q1,hl];exact ak.same (by simp)
  .have q1:(k<l.length)=False:=H' h1;apply sR;simp only[go_sem,seval,KV,q0,q1,hl];exact ak.same (by simp)
 .have q0:(k>=0)=False:=H' h0;apply sR;simp only[go_sem,seval,KV,q0];exact ak.same (by simp<;>omega)
def Mn(l:List WE)(hl:jU l)(k:Nat)(hk:k<l.length):aL prog 108 [bn l,vI k] (vI (lj l k)):=λU=>by
 refine SK.q ?_;have hs:=aa.refl U;have hh:=J1 l k;rw[WJ (show(0:Int)<=k/\(k:Int)<l.length by omega)]at hh;have WG:=λU=>ey (U:=U) hk;have hy:=hl.rng _ (Ws hk);have Xs:=hl.len;unfold lj;rw[av (show(0:Int)<=k/\(k:Int)<l.length by omega),bp hk];refine mS 5 ?_;simp only[go_sem,seval,Pa];refine pR rfl (hh _) ?_;by_cases h0:k=0
 .subst h0;have hix0:∀U,bO U 8 (bn l) (.int .i64 0)=some (.rp (bC l[0])):=WG;have hb:ga l ((0:Nat)-1:Int)=0:=by unfold ga;rw[aD (by omega)]
  rw[hb];apply sR;simp only[go_sem,seval,hix0,bC];exact ak.pure hs (by simp)
 .have q0:((k:Int)=0)=False:=H';have W4:k-1<l.length:=by omega
  have hix1:=λU=>ey (U:=U) W4;have hy1:=hl.rng _ (Ws W4);have ek:((k:Int)-1)=((k-1:Nat):Int):=by omega
  have hb:ga l ((k:Int)-1)=l[k-1].y+l[k-1].h:=by unfold ga;rw[av (by omega),ek,bp W4]
  rw[hb];generalize l[k]=x at*;generalize l[k-1]=x1 at*;have r1:VO .i64 ((k:Int)-1):=ae;have r2:VO .i64 (x.y-x1.y):=ae;have r3:VO .i64 (x.y-x1.y-x1.h):=ae;have e:x.y-(x1.y+x1.h)=x.y-x1.y-x1.h:=by omega
  rw[e];apply sR;simp only[go_sem,seval,q0,WG,ek,hix1,r2,r3,bC];exact⟨ae,ae,ak.pure hs rfl⟩
def lG(l:List WE)(s:W7):aL prog 97 [bn l,aZ s] (.bool (decide (de l s))):=λU=>by
 refine e97.q ?_;have hs:=aa.refl U;have hl:=gj l;obtain⟨a,d,fr⟩:=s;refine mS 5 ?_;simp only[go_sem,seval,c97,aZ];refine ar hs λi3 Z3 s3 a3 f3 _ hs=>?_;by_cases h0:a<0
 .have q0:(a<0)=True:=L' h0;simp only[go_sem,seval,a3,q0];exact ak.pure hs (by rw[WW (λh:de l ⟨a,d,fr⟩=>by have:=h.1.1;simp only at this;omega)])
 .have q0:(a<0)=False:=H' h0;by_cases h1:a>=l.length
  .have q1:(a>=l.length)=True:=L' h1;simp only[go_sem,seval,a3,q0,q1,hl];exact ak.pure hs (by rw[WW (λh:de l ⟨a,d,fr⟩=>by have:=h.1.2;simp only at this;omega)])
  .have q1:(a>=l.length)=False:=H' h1;obtain⟨n,rfl⟩:∃n:Nat,a=n:=⟨a.toNat,by omega⟩
   have hn:n<l.length:=by omega
   have VC:=λU=>ey (U:=U) hn;have hg:=bp hn;have h00:(0:Int)<=n/\(n:Int)<l.length:=by omega
   by_cases h3:d=0
   .have q3:(d=0)=True:=L' h3;simp only[go_sem,seval,a3,q0,q1,q3,hl];have hh:de l ⟨n,d,fr⟩:=⟨h00,by simp only;omega,.inl h3⟩
    exact ak.pure hs (by rw[WJ hh])
   .have q3:(d=0)=False:=H' h3;by_cases h2:d>0
    .have q2:(d>0)=True:=L' h2;by_cases h4:d<l[n].h
     .have q4:(d<l[n].h)=True:=L' h4;simp only[go_sem,seval,a3,q0,q1,q2,q3,q4,hl,VC,bC];have hh:de l ⟨n,d,fr⟩:=⟨h00,by simp only;omega,.inr (by rw[hg];exact h4)⟩
      exact ak.pure hs (by rw[WJ hh])
     .have q4:(d<l[n].h)=False:=H' h4;simp only[go_sem,seval,a3,q0,q1,q2,q3,q4,hl,VC,bC];exact ak.pure hs (by rw[WW (λh:de l ⟨n,d,fr⟩=>by rcases h.2.2 with h|h;exact h3 h;rw[hg]at h;exact h4 h)])
    .have q2:(d>0)=False:=H' h2;simp only[go_sem,seval,a3,q0,q1,q2,q3,hl];exact ak.pure hs (by rw[WW (λh:de l ⟨n,d,fr⟩=>by have h5:=h.2.1;have h6:=h.2.2;simp only at h5 h6;omega)])
def Ki(l:List WE)(hl:jU l)(s:W7)(hd:s.done<=1152921504606846976):aL prog 66 [bn l,aZ s] (vI (fO l s)):=λU=>by
 refine e66.q ?_;have hs:=aa.refl U;have hc:=lG l s;unfold fO;refine ai.mix 5 ?_;by_cases hm:de l s
 .rw[WJ hm]at hc;rw[av hm];obtain⟨a,d,fr⟩:=s;obtain⟨⟨h0,h1⟩,h2,h3⟩:=hm;simp only at h0 h1 h2 h3 hd|-;obtain⟨n,rfl⟩:∃n:Nat,a=n:=⟨a.toNat,by omega⟩
  have hn:n<l.length:=by omega
  have VC:=λU=>ey (U:=U) hn;have hy:=hl.rng _ (Ws hn);rw[bp hn];have r1:VO .i64 (l[n].h-d):=ae;apply sR;simp only[go_sem,seval,c66,aZ];refine ar hs λi3 Z3 s3 a3 f3 _ hs=>?_;simp only[go_sem,seval,a3];refine pS rfl (hc _) ?_;simp only[go_sem,seval,a3,VC,r1,bC];exact ak.pure hs rfl
 .rw[WW hm]at hc;rw[aD hm];obtain⟨a,d,fr⟩:=s;apply sR;simp only[go_sem,seval,c66,aZ];refine ar hs λi3 Z3 s3 a3 f3 _ hs=>?_;simp only[go_sem,seval,a3];refine pS rfl (hc _) ?_;simp only[go_sem,seval];exact ak.pure hs rfl
open Go.Proofs
def K3(l:List WE)(hl:jU l)(s:W7)(VZ:Int):aL prog 67 [bn l,aZ s,vI VZ] (vI (gZ l s VZ)):=λU=>by
 refine e67.q ?_;have hs:=aa.refl U;have hc:=lG l s;unfold gZ;refine ai.mix 8 ?_;by_cases hm:de l s
 .rw[WJ hm]at hc;obtain⟨a,d,fr⟩:=s;have hm0:=hm;obtain⟨⟨h0,h1⟩,h2,h3⟩:=hm;simp only at h0 h1 h2 h3|-;obtain⟨n,rfl⟩:∃n:Nat,a=n:=⟨a.toNat,by omega⟩
  have hn:n<l.length:=by omega
  cases fr
  .rw[aD (by simp)];apply sR;simp only[go_sem,seval,c67,aZ];refine ar hs λi4 Z4 s4 a4 f4 _ hs=>?_;simp only[go_sem,seval,a4];refine pS rfl (hc _) ?_;simp only[go_sem,seval,a4];exact ak.pure hs rfl
  .by_cases hd:d>0
   .have qd:(d>0)=True:=L' hd;rw[aD (by intro h;have:=h.2.2.1;omega)];apply sR;simp only[go_sem,seval,c67,aZ];refine ar hs λi4 Z4 s4 a4 f4 _ hs=>?_;simp only[go_sem,seval,a4];refine pS rfl (hc _) ?_;simp only[go_sem,seval,a4,qd];exact ak.pure hs rfl
   .have qd:(d>0)=False:=H' hd;obtain rfl:d=0:=by omega
    have VC:=λU=>ey (U:=U) hn;have hy:=hl.rng _ (Ws hn);have hgc:=Mn l hl n hn;have hgr:-1152921504606846976-2305843009213693952<=lj l n/\lj l n<=2305843009213693952:=by
     have:=nm hl ((n:Int)-1);unfold lj;rw[av ⟨h0,h1⟩,bp hn];omega
    rw[bp hn];generalize lj l n=g at*;generalize l[n]=x at*;have r1:VO .i64 (g+x.h):=ae;apply sR;simp only[go_sem,seval,c67,aZ];refine ar hs λi4 Z4 s4 a4 f4 _ hs=>?_;simp only[go_sem,seval,a4];refine pS rfl (hc _) ?_;simp only[go_sem,seval,a4,qd];refine pR rfl (hgc _) ?_;by_cases hg:g+x.h>VZ
    .have qg:(g+x.h>VZ)=True:=L' hg;rw[aD (by intro h;have h:=h.2;simp at h;omega)];apply sR;simp only[go_sem,seval,a4,VC,bC,r1,qg];exact ak.pure hs rfl
    .have qg:(g+x.h>VZ)=False:=H' hg;rw[av (by refine⟨hm0,?_⟩;simp;omega)];apply sR;simp only[go_sem,seval,a4,VC,bC,r1,qg];exact ak.pure hs rfl
 .rw[WW hm]at hc;rw[aD (λh=>hm h.1)];obtain⟨a,d,fr⟩:=s;apply sR;simp only[go_sem,seval,c67,aZ];refine ar hs λi4 Z4 s4 a4 f4 _ hs=>?_;simp only[go_sem,seval,a4];refine pS rfl (hc _) ?_;simp only[go_sem,seval];exact ak.pure hs rfl
def Ce(l:List WE)(hl:jU l)(s:W7)(hm:de l s)(hd:s.done<=1152921504606846976)(kept shift:Int)(k:Nat)(hk:-1152921504606846976<=kept/\kept<=1152921504606846976)(YO:0<=shift/\shift<=1152921504606846976)(W4:s.atom<=k)(Xf:k<l.length):
 aL prog 113 [bn l,aZ s,vI kept,vI shift,vI k] (vI (cD l s kept shift k)):=λU=>by
 refine Sj.q ?_;have hs:=aa.refl U;have hc:=lG l s;have Xs:=gj l;rw[WJ hm]at hc;unfold cD;rw[av ⟨hm,W4,by omega⟩];obtain⟨a,d,fr⟩:=s;obtain⟨⟨h0,h1⟩,h2,h3⟩:=hm;simp only at h0 h1 h2 h3 hd W4|-;obtain⟨n,rfl⟩:∃n:Nat,a=n:=⟨a.toNat,by omega⟩
 have hn:n<l.length:=by omega
 have VC:=λU=>ey (U:=U) hn;have hidx2:=λU=>ey (U:=U) Xf;have hy:=hl.rng _ (Ws hn);have hy2:=hl.rng _ (Ws Xf);unfold fH;rw[av ⟨⟨h0,h1⟩,by omega,by omega⟩,bp hn,bp Xf];generalize l[n]=x at*;generalize l[k]=x2 at*;have q1:((k:Int)<n)=False:=H';have q2:((k:Int)>=l.length)=False:=H';have r1:VO .i64 (x2.y-x.y):=ae;have r2:VO .i64 (x2.y-x.y-d):=ae;have r3:VO .i64 (x2.y-x.y-d+kept):=ae;have r4:VO .i64 (x2.y-x.y-d+kept+shift):=ae;refine mS 11 ?_;simp only[go_sem,seval,Pd,aZ];refine ar hs λi6 Z6 s6 a6 f6 _ hs=>?_;simp only[go_sem,seval,a6];refine pS rfl (hc _) ?_;simp only[go_sem,seval,a6,Xs,q1,q2,VC,hidx2,bC,r1,r2,r3,r4];exact ak.pure hs rfl
def LG(l:List WE)(hl:jU l)(s:W7)(hm:de l s)(hd:s.done<=1152921504606846976)(kept shift body:Int)(k:Nat)(hk:-1152921504606846976<=kept/\kept<=1152921504606846976)(YO:0<=shift/\shift<=1152921504606846976)(W4:s.atom<=k)(Xf:k<l.length):
 aL prog 111 [bn l,aZ s,vI kept,vI shift,vI body,vI k] (.bool (decide (cD l s kept shift k+l[k].h<=body))):=λU=>by
 refine UJ.q ?_;have hs:=aa.refl U;have hc:=Ce l hl s hm hd kept shift k hk YO W4 Xf;have hidx2:=λU=>ey (U:=U) Xf;have hy2:=hl.rng _ (Ws Xf);have hpr:-4611686018427387904<=cD l s kept shift k/\cD l s kept shift k<=6917529027641081856:=by
  have hm0:=hm;obtain⟨⟨h0,h1⟩,h2,h3⟩:=hm;obtain⟨n,hn'⟩:∃n:Nat,s.atom=n:=⟨s.atom.toNat,by omega⟩
  have hn:n<l.length:=by omega
  have hy:=hl.rng _ (Ws hn);rw[cD,av ⟨hm0,W4,by omega⟩,fH,av ⟨⟨h0,h1⟩,by omega,by omega⟩,hn',bp hn,bp Xf];omega
 obtain⟨a,d,fr⟩:=s;generalize cD l ⟨a,d,fr⟩ kept shift k=p at*;generalize l[k]=x2 at*;have r1:VO .i64 (p+x2.h):=ae;refine mS 13 ?_;simp only[go_sem,seval,Q4,aZ];refine ar hs λi7 Z7 s7 a7 f7 _ hs=>?_;simp only[go_sem,seval,a7];refine pJ rfl hc ?_;apply sG;simp only[go_sem,seval,hidx2,bC,r1];exact ak.pure hs rfl
open Go.Proofs
def JL{m:Int}(h1:0<=m)(h2:m<=18446744073709551615):VO .u64 m:=by
 unfold VO IntKind.wrap;simp only[IntKind.signed,IntKind.bits];simp;omega
def lR(p:Nat->Bool):Nat->Nat->Nat->Nat
 |0,i,_=>i
 |f+1,i,j=>if i<j then if p ((i+j)/2)then lR p f i ((i+j)/2)else lR p f ((i+j)/2+1) j else i
def Cs(p:Nat->Bool)(n:Nat):Nat:=lR p n 0 n
def ov(p:Nat->Bool):∀(f g i j:Nat),j-i<=f->j-i<=g->lR p f i j=lR p g i j
 |0,0,_,_,_,_=>rfl
 |0,g+1,i,j,h,_=>by rw[lR,lR,aD (by omega)]
 |f+1,0,i,j,_,h=>by rw[lR,lR,aD (by omega)]
 |f+1,g+1,i,j,h1,h2=>by
  rw[lR,lR];split
  .rename_i B';split
   .exact ov p f g i ((i+j)/2) (by omega) (by omega)
   .exact ov p f g ((i+j)/2+1) j (by omega) (by omega)
  .rfl
def HL{f:FuncId}{caps:List V}(p:Nat->Bool)(n:Nat)(hn:n<=1000000000){U:ad}(hf:∀i:Nat,i<n->au prog f (vI i::caps) U λr Z'=>r=.bool (p i)/\Z'=U):
 au prog 155 [vI n,.fn f caps] U λr Z'=>r=vI (Cs p n)/\Z'=U:=by
 refine Vy.q ?_;refine mS 8 ?_;simp only[go_sem,seval,O0];refine ai.loop (λm st=>∃i j:Nat,i<=j/\j<=n/\m=j-i/\Cs p n=lR p (j-i) i j/\st.U=U/\st.s 1=.fn f caps/\st.s 5=vI i/\st.s 6=vI j) n ?_ ?_
 .exact⟨0,n,by omega,by omega,rfl,rfl,rfl,rfl,rfl,rfl⟩
 .rintro m ⟨S,J⟩ ⟨i,j,hij,hjn,rfl,heq,V7,t1,t5,t6⟩;simp only at V7 t1 t5 t6;subst V7;refine ai.mix 8 ?_;by_cases B':i<j
  .have q:((i:Int)<j)=True:=L';have r1:VO .i64 ((i:Int)+j):=ae;apply sR;simp only[go_sem,seval,t1,t5,t6,q,r1];have hh:((i:Int)+j).fdiv (2^min 1 64)=(((i+j)/2:Nat):Int):=by
    rw[show(2^min 1 64:Int)=2 from rfl,Int.fdiv_eq_ediv_of_nonneg _ (by decide)];omega
   rw[hh];refine⟨JL (by omega) (by omega),ae,?_⟩;obtain⟨k,hk⟩:∃k:Nat,k=(i+j)/2:=⟨_,rfl⟩
   rw[<-hk];obtain⟨w,hw⟩:∃w:Nat,j-i=w+1:=⟨j-i-1,by omega⟩
   rw[hw,lR,av B',<-hk]at heq;refine pR rfl (hf k (by omega)) ?_;have r2:=rI k;cases hp:p k
   .rw[hp]at heq;apply sR;simp only[go_sem,seval,t1,t5,t6,r2];refine⟨_,?_,k+1,j,by omega,hjn,rfl,?_,by simp[t1,t6]⟩
    .omega
    .rw[heq];exact ov p _ _ _ _ (by omega) (by omega)
   .rw[hp]at heq;apply sR;simp only[go_sem,seval,t1,t5,t6];refine⟨_,?_,i,k,by omega,by omega,rfl,?_,by simp[t1,t5]⟩
    .omega
    .rw[heq];exact ov p _ _ _ _ (by omega) (by omega)
  .have q:((i:Int)<j)=False:=H';have Yh:i=j:=by omega
   subst Yh;apply sR;simp only[go_sem,seval,t1,t5,t6,q];refine ak.same ?_;rw[heq,Nat.sub_self];rfl
open Go.Proofs
def gG(l:List WE)(s:W7)(kept shift body:Int)(n:Nat):Bool:=decide (cD l s kept shift (s.atom+n)+(Zz l (s.atom+n)).h>body)
def iT(l:List WE)(s:W7)(kept shift body:Int):Int:=if de l s then s.atom+Cs (gG l s kept shift body) (l.length-s.atom.toNat)else 0
def zx(p:Nat->Bool):∀(f i j:Nat),i<=j->lR p f i j<=j
 |0,i,j,h=>h
 |f+1,i,j,h=>by
  rw[lR];split
  .split
   .exact j2 (zx p f _ _ (by omega)) (by omega)
   .exact zx p f _ _ (by omega)
  .exact h
def D9(p:Nat->Bool)(n:Nat):Cs p n<=n:=zx p n 0 n (Nat.zero_le n)
def pW{l:List WE}(hl:jU l){s:W7}(hd:s.done<=1152921504606846976){kept shift:Int}(hk:-1152921504606846976<=kept/\kept<=2305843009213693952)(YO:0<=shift/\shift<=1152921504606846976)(k:Int):
 -4611686018427387904<=cD l s kept shift k/\cD l s kept shift k<=5764607523034234880:=by
 unfold cD;have h1:=sU hl s.atom k;split
 .rename_i h;have:=h.1.2.1;omega
 .omega
def G5(l:List WE)(hl:jU l)(s:W7)(hm:de l s)(hd:s.done<=1152921504606846976)(kept shift body:Int)(hk:-1152921504606846976<=kept/\kept<=2305843009213693952)(YO:0<=shift/\shift<=1152921504606846976)
 {U:ad}{i5 i6 i7 i8 i9:Nat}(a5:U i5=some ⟨35,1,[bn l]⟩)(a6:U i6=some ⟨24,3,[aZ s]⟩)(a7:U i7=some ⟨3,1,[vI kept]⟩)(a8:U i8=some ⟨3,1,[vI shift]⟩)(a9:U i9=some ⟨3,1,[vI body]⟩)
 (n:Nat)(hn:n<l.length-s.atom.toNat):
 au prog 156 [vI n,.ptr i6 0 0,.ptr i5 0 0,.ptr i7 0 0,.ptr i8 0 0,.ptr i9 0 0] U λr Z'=>r=.bool (gG l s kept shift body n)/\Z'=U:=by
 refine U3.q ?_;have hpr:=pW hl hd hk YO (s.atom+n);have hpc:=Cj l hl s hd kept shift (s.atom+n) hk YO;unfold gG;have hll:=hl.len;obtain⟨a,d,fr⟩:=s;obtain⟨h0,h1⟩:=hm.1;rw[aZ]at a6 hpc;simp only at h0 h1 hn hpr hpc|-;obtain⟨m,rfl⟩:∃m:Nat,a=m:=⟨a.toNat,by omega⟩
 have e1:(m:Int)+(n:Int)=((m+n:Nat):Int):=by omega
 rw[e1]at hpr hpc|-;have hmn:m+n<l.length:=by omega
 have VC:=λU=>ey (U:=U) hmn;have hy:=hl.rng _ (Ws hmn);rw[bp hmn];have r1:VO .i64 ((m+n:Nat):Int):=ae;generalize cD l ⟨m,d,fr⟩ kept shift ((m+n:Nat):Int)=P at*;have r2:VO .i64 (P+l[m+n].h):=ae;generalize m+n=q at*;refine ai.mix 9 ?_;by_cases hb:P+l[q].h>body
 .have q1:(P+l[q].h>body)=True:=L' hb;apply sR;simp only[go_sem,seval,Nw,a5,a6,a7,a8,a9,e1,r1,aI,aH];refine pJ rfl hpc ?_;apply sG;simp only[go_sem,seval,a5,a6,a7,a8,a9,r2,VC,bC,q1,aI,aH];exact ak.same rfl
 .have q1:(P+l[q].h>body)=False:=H' hb;apply sR;simp only[go_sem,seval,Nw,a5,a6,a7,a8,a9,e1,r1,aI,aH];refine pJ rfl hpc ?_;apply sG;simp only[go_sem,seval,a5,a6,a7,a8,a9,r2,VC,bC,q1,aI,aH];exact ak.same rfl
def II(l:List WE)(hl:jU l)(s:W7)(hd:s.done<=1152921504606846976)(kept shift body:Int)(hk:-1152921504606846976<=kept/\kept<=2305843009213693952)(YO:0<=shift/\shift<=1152921504606846976):
 aL prog 103 [bn l,aZ s,vI kept,vI shift,vI body] (vI (iT l s kept shift body)):=λU=>by
 refine Vj.q ?_;have hs:=aa.refl U;have hc:=rG l s;have hlen:=gj l;have hll:=hl.len;refine ai.mix 12 ?_;have XF:(aZ s).cells=[vI s.atom,vI s.done,.bool s.free]:=rfl;have hss:(aZ s).stays=true:=rfl;apply sR;simp only[go_sem,seval,R7,XF,hss,aI,aH];refine ar hs λi5 Z5 s5 a5 f5 z5 hs=>?_;simp only[go_sem,seval,XF,hss,aI,aH];refine ar hs λi6 Z6 s6 a6 f6 z6 hs=>?_;obtain⟨n56,a5⟩:=VB a5 f6 s6;simp only[go_sem,seval,XF,hss,aI,aH];refine ar hs λi7 Z7 s7 a7 f7 z7 hs=>?_;obtain⟨n57,a5⟩:=VB a5 f7 s7;obtain⟨Zw,a6⟩:=VB a6 f7 s7;simp only[go_sem,seval,XF,hss,aI,aH];refine ar hs λi8 Z8 s8 a8 f8 z8 hs=>?_;obtain⟨n58,a5⟩:=VB a5 f8 s8;obtain⟨n68,a6⟩:=VB a6 f8 s8;obtain⟨YW,a7⟩:=VB a7 f8 s8;simp only[go_sem,seval,XF,hss,aI,aH];refine ar hs λi9 Z9 s9 a9 f9 z9 hs=>?_;obtain⟨n59,a5⟩:=VB a5 f9 s9;obtain⟨n69,a6⟩:=VB a6 f9 s9;obtain⟨n79,a7⟩:=VB a7 f9 s9;obtain⟨n89,a8⟩:=VB a8 f9 s9;have b6:=a6;rw[aZ]at b6;simp only[go_sem,seval,a5,b6,aI,aH];refine pR rfl (hc _) ?_;unfold iT;by_cases hm:de l s
 .obtain⟨h0,h1⟩:=hm.1;obtain⟨m,hmm⟩:∃m:Nat,s.atom=m:=⟨s.atom.toNat,by omega⟩
  have hn:((l.length:Int)-s.atom)=((l.length-s.atom.toNat:Nat):Int):=by omega
  have r1:VO .i64 ((l.length-s.atom.toNat:Nat):Int):=ae;rw[WJ hm,av hm];apply sR;simp only[go_sem,seval,a5,b6,hlen,hn,r1,aI,aH];refine pR rfl (HL (gG l s kept shift body) (l.length-s.atom.toNat) (by omega) (λi hi=>G5 l hl s hm hd kept shift body hk YO a5 a6 a7 a8 a9 i hi)) ?_;have hse:=D9 (gG l s kept shift body) (l.length-s.atom.toNat);have r2:VO .i64 (s.atom+(Cs (gG l s kept shift body) (l.length-s.atom.toNat):Nat)):=ae;apply sR;simp only[go_sem,seval,b6,r2];exact ak.pure hs rfl
 .rw[WW hm,aD hm];apply sR;simp only[go_sem,seval];exact ak.pure hs rfl
open Go.Proofs
structure XR where
 (node atom fr x y w h:Int)
deriving DecidableEq
def aP(f:XR):V:=.agg [vI f.node,vI f.atom,vI f.fr,vI f.x,vI f.y,vI f.w,vI f.h]
def iM(l:List WE)(k:Int):XR:=⟨(Zz l k).node,k,0,(Zz l k).x,0,(Zz l k).w,(Zz l k).h⟩
def XR.cm(f:XR)(d:Int):XR:={ f with fr:=d,h:=f.h-d }
def XR.cut(f:XR)(a:Int):XR:={ f with h:=min f.h a }
def jY(l:List WE)(f:XR):W7:=if f.fr+f.h<(Zz l f.atom).h then⟨f.atom,f.fr+f.h,false⟩else⟨f.atom+1,0,false⟩
def HY(l:List WE)(k:Nat)(hk:k<l.length):aL prog 211 [bn l,vI k] (aP (iM l k)):=λU=>by
 refine Tu.q ?_;have hs:=aa.refl U;have VC:=λU=>ey (U:=U) hk;rw[iM,bp hk];refine mS 6 ?_;simp only[go_sem,seval,OQ];refine ar hs λi4 Z4 s4 a4 f4 z4 hs=>?_;simp only[go_sem,seval,VC,bC,aI,aH];refine ar hs λi5 Z5 s5 a5 f5 z5 hs=>?_;obtain⟨XQ,a4⟩:=VB a4 f5 s5;simp only[go_sem,seval,a5,a4,ab XQ,aI,aH];exact ak.pure ((hs.az z5).az z4) rfl
def AP(f:XR)(d:Int)(hr:VO .i64 (f.h-d)){U:ad}{i:Nat}(h:U i=some ⟨287,7,[aP f]⟩):
 au prog 212 [.ptr i 0 0,vI d] U λ_ Z'=>Z'=C' U i ⟨287,7,[aP (f.cm d)]⟩:=by
 refine Tk.q ?_;rw[aP]at h;refine ai.mix 4 ?_;generalize hX:(C' U i ⟨287,7,[aP (f.cm d)]⟩)=X;apply sR;simp only[go_sem,seval,OJ,h,hr];exact WZ hX
def KL(f:XR)(a:Int){U:ad}{i:Nat}(h:U i=some ⟨287,7,[aP f]⟩):
 au prog 213 [.ptr i 0 0,vI a] U λ_ Z'=>Z'=C' U i ⟨287,7,[aP (f.cut a)]⟩:=by
 refine Vv.q ?_;rw[aP]at h;refine ai.mix 4 ?_;generalize hX:(C' U i ⟨287,7,[aP (f.cut a)]⟩)=X;apply sR;simp only[go_sem,seval,PW,h,dD];exact WZ hX
def De(l:List WE)(f:XR)(k:Nat)(hf:f.atom=k)(hk:k<l.length)(hl:l.length<=1000000000)(hr:VO .i64 (f.fr+f.h)){U:ad}{i:Nat}(h:U i=some ⟨287,7,[aP f]⟩):
 au prog 214 [.ptr i 0 0,bn l] U λr Z'=>r=aZ (jY l f)/\Z'=U:=by
 refine US.q ?_;have hs:=aa.refl U;have VC:=λU=>ey (U:=U) hk;obtain⟨nd,V3,fr,x,y,w,hh⟩:=f;simp only at hf hr;subst hf;rw[aP]at h;unfold jY;simp only;rw[bp hk];have r1:=rI k;refine mS 6 ?_;simp only[go_sem,seval,OT];refine ar hs λi4 Z4 s4 a4 f4 z4 hs=>?_;have b:=s4 _ _ h;have n4:i≠i4:=aU h f4;by_cases hc:fr+hh<l[k].h
 .have q:(fr+hh<l[k].h)=True:=L' hc;rw[av hc];simp only[go_sem,seval,a4,b,hr,r1,q,VC,bC];exact ak.pure (hs.az z4) rfl
 .have q:(fr+hh<l[k].h)=False:=H' hc;rw[aD hc];simp only[go_sem,seval,a4,b,hr,r1,q,VC,bC];exact ak.pure (hs.az z4) rfl
open Go.Proofs
def cz{s:Nat->V}{U:ad}{a1 a2:Bool}{n1 n2 d e:Nat}{Post:V->ad->Prop}:
 Ret [.cell a1 n1 (.t d),.cell a2 n2 (.t e)] ⟨s,U⟩ Post=ez (cj U a1 n1 (s d)) λv=>ez (cj U a2 n2 (s e)) λw=>ak (.VG [v,w]) U Post:=by
 unfold Ret ak oL;simp only[fL,iV,VX.ev];cases cj U a1 n1 (s d)<;>cases cj U a2 n2 (s e)<;>simp[ez]
def fo(l:List WE)(s:W7)(VZ:Int):XR:=((iM l s.atom).cm s.done).cut VZ
def uj(l:List WE)(s:W7)(VZ:Int):Prop:=de l s/\1<=VZ
instance (l:List WE) (s:W7) (VZ:Int):Decidable (uj l s VZ):=by unfold uj;infer_instance
def j3(l:List WE)(s:W7)(VZ:Int):XR:=if uj l s VZ then fo l s VZ else⟨0,0,0,0,0,0,0⟩
def fG(l:List WE)(s:W7)(VZ:Int):W7:=if uj l s VZ then jY l (fo l s VZ)else⟨0,0,false⟩
def MG(l:List WE)(hl:jU l)(s:W7)(hd:s.done<=1152921504606846976)(VZ:Int):aL prog 158 [bn l,aZ s,vI VZ] (.VG [aP (j3 l s VZ),aZ (fG l s VZ)]):=λU=>by
 refine Uc.q ?_;have hs:=aa.refl U;have hll:=hl.len;have XF:(aZ s).cells=[vI s.atom,vI s.done,.bool s.free]:=rfl;have hss:(aZ s).stays=true:=rfl;refine mS 9 ?_;simp only[go_sem,seval,Rl,XF,hss,aI,aH];refine ar hs λi4 Z4 s4 a4 f4 z4 hs=>?_;simp only[go_sem,seval];refine ar hs λi6 Z6 s6 a6 f6 z6 hs=>?_;obtain⟨n46,a4⟩:=VB a4 f6 s6;simp only[go_sem,seval];refine ar hs λi7 Z7 s7 a7 f7 z7 hs=>?_;obtain⟨n47,a4⟩:=VB a4 f7 s7;obtain⟨Zw,a6⟩:=VB a6 f7 s7;have b4:=a4;rw[aZ]at b4;simp only[go_sem,seval,b4,aI,aH];refine pR rfl (rG l s _) ?_;have bad:¬uj l s VZ->(aP (j3 l s VZ)=.agg [vI 0,vI 0,vI 0,vI 0,vI 0,vI 0,vI 0]/\aZ (fG l s VZ)=.agg [vI 0,vI 0,.bool false]):=λh=>by
  rw[j3,fG,aD h,aD h];exact⟨rfl,rfl⟩
 have good:uj l s VZ->(j3 l s VZ=fo l s VZ/\fG l s VZ=jY l (fo l s VZ)):=λh=>⟨av h,av h⟩
 generalize j3 l s VZ=X at*;generalize fG l s VZ=Y at*;by_cases hm:de l s
 .rw[WJ hm];by_cases h1:VZ<1
  .have q1:(VZ<1)=True:=L' h1;obtain⟨e1,e2⟩:=bad (λh=>by have:=h.2;omega);rw[e1,e2];apply sR;simp only[go_sem,seval,a6,a7,ab Zw,ab Zw.symm,q1,cz];exact ak.pure ((hs.az z6).az z7) rfl
  have q1:(VZ<1)=False:=H' h1;obtain⟨rfl,rfl⟩:=good ⟨hm,by omega⟩;clear good bad;obtain⟨h0,h2⟩:=hm.1;obtain⟨k,hk⟩:∃k:Nat,s.atom=k:=⟨s.atom.toNat,by omega⟩
  have YP:k<l.length:=by omega
  apply sR;simp only[go_sem,seval,b4,hk,q1,aI,aH];refine pR rfl (HY l k YP _) ?_;have Zi:∀f,(aP f).cells=[vI f.node,vI f.atom,vI f.fr,vI f.x,vI f.y,vI f.w,vI f.h]:=λ_=>rfl;apply sR;simp only[go_sem,seval];refine ar hs λi8 Z8 s8 a8 f8 z8 hs=>?_;obtain⟨YQ,a4⟩:=VB a4 f8 s8;obtain⟨n68,a6⟩:=VB a6 f8 s8;obtain⟨YW,a7⟩:=VB a7 f8 s8;have hd0:=hm.2.1;have hy:=hl.rng _ (Ws YP);have hdh:s.done=0\/s.done<l[k].h:=by have:=hm.2.2;rw[hk,bp YP]at this;exact this
  have hph:(iM l k).h=l[k].h:=by rw[iM,bp YP]
  have YE:∀f,(aP f).stays=true:=λ_=>rfl;rw[aZ]at a4;simp only[go_sem,seval,a8,a4,ab YQ,Zi,YE];generalize Xm:C' _ i8 _=Y8;replace a8:=WC Xm;replace a4:=VN Xm YQ a4;replace a6:=VN Xm n68 a6;replace a7:=VN Xm YW a7;replace hs:=WD Xm hs z8;have h8:Y8 i8=some ⟨287,7,[aP (iM l k)]⟩:=a8;refine Xv rfl (AP (iM l k) s.done (ae) h8) ?_;rintro-Z9 rfl;generalize Xm:C' _ i8 _=Y8;replace a8:=WC Xm;replace a4:=VN Xm YQ a4;replace a6:=VN Xm n68 a6;replace a7:=VN Xm YW a7;replace hs:=WD Xm hs z8;apply sR;simp only[go_sem,seval];refine Xv rfl (KL ((iM l k).cm s.done) VZ a8) ?_;rintro-Z9 rfl;generalize Xm:C' _ i8 _=Y8;replace a8:=WC Xm;replace a4:=VN Xm YQ a4;replace a6:=VN Xm n68 a6;replace a7:=VN Xm YW a7;replace hs:=WD Xm hs z8;have Zr:((iM l k).cm s.done).cut VZ=fo l s VZ:=by rw[fo,hk]
  rw[Zr]at a8;have ha:(fo l s VZ).atom=k:=by rw[<-Zr];rfl
  have hfr:(fo l s VZ).fr=s.done:=by rw[<-Zr];rfl
  have hhh:(fo l s VZ).h=min (l[k].h-s.done) VZ:=by rw[<-Zr,<-hph];rfl
  have hbe:=λ(Z1:ad) (h1:aa Y8 Z1)=>De l (fo l s VZ) k ha YP hll (ae) (h1 _ _ a8);generalize jY l (fo l s VZ)=Y at*;generalize fo l s VZ=X at*;have b8:=a8;rw[aP]at b8;apply sR;simp only[go_sem,seval,b8];refine Go.zC rfl rfl rfl (λZ1 h1=>hbe Z1 h1) ?_;have hyc:(aZ Y).cells=[vI Y.atom,vI Y.done,.bool Y.free]:=rfl;have hys:(aZ Y).stays=true:=rfl;apply sG;simp only[go_sem,seval,a6,a7,ab Zw,ab Zw.symm,hyc,hys,cz];exact ak.pure ((hs.az z6).az z7) rfl
 .rw[WW hm];obtain⟨e1,e2⟩:=bad (λh=>hm h.1);rw[e1,e2];apply sR;simp only[go_sem,seval,a6,a7,ab Zw,ab Zw.symm,cz];exact ak.pure ((hs.az z6).az z7) rfl
open Go.Proofs
def nP(l:List WE)(k:Int)(y:Int):XR:={ iM l k with y:=y }
def dU(l:List WE)(s:W7)(kept shift k:Int):XR:=
 if de l s/\s.atom<=k/\k<l.length then
  (if k=s.atom then{ (nP l k (cD l s kept shift k)).cm s.done with y:=cD l s kept shift k+s.done }else nP l k (cD l s kept shift k))
 else⟨0,0,0,0,0,0,0⟩
def FC(l:List WE)(hl:jU l)(s:W7)(hd:s.done<=1152921504606846976)(kept shift k:Int)(hk:-1152921504606846976<=kept/\kept<=2305843009213693952)(YO:0<=shift/\shift<=1152921504606846976):
 aL prog 160 [bn l,aZ s,vI kept,vI shift,vI k] (aP (dU l s kept shift k)):=λU=>by
 refine Tj.q ?_;have hs:=aa.refl U;have hlen:=gj l;have XF:(aZ s).cells=[vI s.atom,vI s.done,.bool s.free]:=rfl;have hss:(aZ s).stays=true:=rfl;have hpc:=Cj l hl s hd kept shift k hk YO;have hpr:=pW hl hd hk YO k;refine mS 12 ?_;simp only[go_sem,seval,OE,XF,hss,aI,aH];refine ar hs λi6 Z6 s6 a6 f6 z6 hs=>?_;simp only[go_sem,seval];refine ar hs λi10 Z10 XV Wn f10 YK hs=>?_;obtain⟨n610,a6⟩:=VB a6 f10 XV;rw[aZ]at a6 hpc;simp only[go_sem,seval,a6,aI,aH];refine pR rfl (rG l s _) ?_;have bad:¬(de l s/\s.atom<=k/\k<l.length)->aP (dU l s kept shift k)=.agg [vI 0,vI 0,vI 0,vI 0,vI 0,vI 0,vI 0]:=λh=>by
  rw[dU,aD h];rfl
 have good:(de l s/\s.atom<=k/\k<l.length)->dU l s kept shift k=(if k=s.atom then{ (nP l k (cD l s kept shift k)).cm s.done with y:=cD l s kept shift k+s.done }else nP l k (cD l s kept shift k)):=λh=>av h;generalize dU l s kept shift k=X at*;by_cases hm:de l s
 .rw[WJ hm];by_cases h1:k<s.atom
  .have q1:(k<s.atom)=True:=L' h1;rw[bad (λh=>by omega)];apply sR;simp only[go_sem,seval,a6,Wn,q1,aI,aH];exact ak.pure (hs.az YK) rfl
  have q1:(k<s.atom)=False:=H' h1;by_cases h2:k>=l.length
  .have q2:(k>=l.length)=True:=L' h2;rw[bad (λh=>by omega)];apply sR;simp only[go_sem,seval,a6,Wn,q1,q2,hlen,aI,aH];exact ak.pure (hs.az YK) rfl
  have q2:(k>=l.length)=False:=H' h2;obtain rfl:=good ⟨hm,by omega,by omega⟩;clear good bad;obtain⟨h0,h3⟩:=hm.1;obtain⟨n,rfl⟩:∃n:Nat,k=n:=⟨k.toNat,by omega⟩
  have Xe:n<l.length:=by omega
  apply sR;simp only[go_sem,seval,a6,q1,q2,hlen,aI,aH];refine pR rfl (HY l n Xe _) ?_;have Zi:∀f,(aP f).cells=[vI f.node,vI f.atom,vI f.fr,vI f.x,vI f.y,vI f.w,vI f.h]:=λ_=>rfl;have YE:∀f,(aP f).stays=true:=λ_=>rfl;generalize cD l s kept shift (n:Int)=P at*;apply sR;simp only[go_sem,seval,Zi,YE];refine ar hs λi11 Z11 Zu X2 f11 z11 hs=>?_;obtain⟨Yw,a6⟩:=VB a6 f11 Zu;obtain⟨WV,Wn⟩:=VB Wn f11 Zu;simp only[go_sem,seval,X2,a6,ab (Ne.symm Yw),ab Yw,Zi,YE,aI,aH];generalize WA:C' _ i11 _=Y11;replace X2:=WC WA;replace a6:=VN WA Yw a6;replace Wn:=VN WA WV Wn;replace hs:=WD WA hs z11;refine pR rfl (hpc _) ?_;rw[aP]at X2;have hd0:=hm.2.1;have hy:=hl.rng _ (Ws Xe);have hph:(iM l n).h=l[n].h:=by rw[iM,bp Xe]
  by_cases he:(n:Int)=s.atom
  .have q3:((n:Int)=s.atom)=True:=L' he;rw[av he];have r2:VO .i64 (P+s.done):=ae;apply sR;simp only[go_sem,seval,X2,a6,q3,aI,aH,ab Yw];generalize WA:C' _ i11 _=Y11;replace X2:=WC WA;replace a6:=VN WA Yw a6;replace Wn:=VN WA WV Wn;replace hs:=WD WA hs z11;have h11:Y11 i11=some ⟨287,7,[aP (nP l n P)]⟩:=X2;refine Xv rfl (AP (nP l n P) s.done (ae (by show _<=(iM l n).h-s.done;omega) (by show(iM l n).h-s.done<=_;omega)) h11) ?_;rintro-Z9 rfl;generalize WA:C' _ i11 _=Y11;replace X2:=WC WA;replace a6:=VN WA Yw a6;replace Wn:=VN WA WV Wn;replace hs:=WD WA hs z11;rw[aP]at X2;have r3:VO .i64 (((nP l n P).cm s.done).y+s.done):=r2;apply sR;simp only[go_sem,seval,X2,a6,Wn,r3,ab Yw,ab WV];exact ak.pure ((hs.az z11).az YK) rfl
  .have q3:((n:Int)=s.atom)=False:=H' he;rw[aD he];apply sR;simp only[go_sem,seval,X2,a6,Wn,q3,aI,aH,ab Yw,ab WV];exact ak.pure ((hs.az z11).az YK) rfl
 .rw[WW hm];rw[bad (λh=>hm h.1)];apply sR;simp only[go_sem,seval,Wn];exact ak.pure (hs.az YK) rfl
open Go.Proofs
def mulR(a n:Int):Int:=
 if eA n≠0/\(eA a>(1099511627776:Int).tdiv (max (eA n) (-eA n))\/eA a<(-1099511627776:Int).tdiv (max (eA n) (-eA n)))then
  (if decide (eA a<0)=decide (eA n<0)then 1099511627776 else -1099511627776)
 else eA a*eA n
def Ka{A B:Int}(h1:A<=(1099511627776:Int).tdiv (max B (-B)))(h2:(-1099511627776:Int).tdiv (max B (-B))<=A)(hB:B≠0):-1099511627776<=A*B/\A*B<=1099511627776:=by
 obtain⟨M,hM⟩:∃M,M=max B (-B):=⟨_,rfl⟩
 rw[<-hM]at h1 h2;have hM1:1<=M:=by omega
 rw[Int.neg_tdiv]at h2;rw[Int.tdiv_eq_ediv_of_nonneg (by omega)]at h1 h2;have h3:(1099511627776:Int)/M*M<=1099511627776:=Int.ediv_mul_le _ (by omega);have h4:=Int.mul_le_mul_of_nonneg_right h1 (by omega:0<=M);have h5:=Int.mul_le_mul_of_nonneg_right h2 (by omega:0<=M);rw[Int.neg_mul]at h5;rcases(by omega:M=B\/M=-B)with e|e
 .rw[e]at h4 h5 h3;omega
 .have hb:B=-M:=by omega
  rw[hb,Int.mul_neg];omega
def Ru(a n:Int):aL prog 32 [vI a,vI n] (vI (mulR a n)):=λU=>by
 refine e32.q ?_;refine mS 5 ?_;simp only[go_sem,seval,c32];refine pS rfl (BV a _) ?_;simp only[go_sem,seval];refine pR rfl (BV n _) ?_;unfold mulR;have hA:-1099511627776<=eA a/\eA a<=1099511627776:=by unfold eA;omega
 have hB:-1099511627776<=eA n/\eA n<=1099511627776:=by unfold eA;omega
 generalize eA a=A at*;generalize eA n=B at*;have b1:(true==true)=true:=rfl;have b2:(true==false)=false:=rfl;have b3:(false==true)=false:=rfl;have b4:(false==false)=true:=rfl;by_cases h0:B=0
 .subst h0;have q0:((0:Int)≠0)=False:=H' (λh=>h rfl);have r1:VO .i64 (A*0):=ae;apply sR;simp only[go_sem,seval,q0,r1];exact ak.same (by rw[aD (by simp)])
 have q0:(B≠0)=True:=L' h0;have hM1:1<=max B (-B)/\max B (-B)<=1099511627776:=by omega
 have qM:(max B (-B)=0)=False:=H';have rn:VO .i64 (-B):=ae;have t1:0<=(1099511627776:Int).tdiv (max B (-B))/\(1099511627776:Int).tdiv (max B (-B))<=1099511627776:=by
  rw[Int.tdiv_eq_ediv_of_nonneg (by omega)];exact⟨Int.ediv_nonneg (by omega) (by omega),Int.ediv_le_self _ (by omega)⟩
 have t2:(-1099511627776:Int).tdiv (max B (-B))=-((1099511627776:Int).tdiv (max B (-B))):=Int.neg_tdiv ..;have hr:=Ka (A:=A) (B:=B);have rq1:VO .i64 ((1099511627776:Int).tdiv (max B (-B))):=ae;have rq2:VO .i64 ((-1099511627776:Int).tdiv (max B (-B))):=ae;by_cases h1:A>(1099511627776:Int).tdiv (max B (-B))
 .have q1:(A>(1099511627776:Int).tdiv (max B (-B)))=True:=L' h1;rw[av ⟨h0,.inl h1⟩];by_cases sA:A<0
  .have qA:(A<0)=True:=L' sA;by_cases sB:B<0
   .have qB:(B<0)=True:=L' sB;apply sR;simp only[go_sem,seval,q0,Int.zero_sub,rn,ct,qM,rq1,q1,qA,qB,b1,b2,b3,b4];exact ak.same (by first|rfl|simp[sA,sB])
   .have qB:(B<0)=False:=H' sB;apply sR;simp only[go_sem,seval,q0,Int.zero_sub,rn,ct,qM,rq1,q1,qA,qB,b1,b2,b3,b4];exact ak.same (by first|rfl|simp[sA,sB])
  .have qA:(A<0)=False:=H' sA;by_cases sB:B<0
   .have qB:(B<0)=True:=L' sB;apply sR;simp only[go_sem,seval,q0,Int.zero_sub,rn,ct,qM,rq1,q1,qA,qB,b1,b2,b3,b4];exact ak.same (by first|rfl|simp[sA,sB])
   .have qB:(B<0)=False:=H' sB;apply sR;simp only[go_sem,seval,q0,Int.zero_sub,rn,ct,qM,rq1,q1,qA,qB,b1,b2,b3,b4];exact ak.same (by first|rfl|simp[sA,sB])
 have q1:(A>(1099511627776:Int).tdiv (max B (-B)))=False:=H' h1;by_cases h2:A<(-1099511627776:Int).tdiv (max B (-B))
 .have q2:(A<(-1099511627776:Int).tdiv (max B (-B)))=True:=L' h2;rw[av ⟨h0,.inr h2⟩];by_cases sA:A<0
  .have qA:(A<0)=True:=L' sA;by_cases sB:B<0
   .have qB:(B<0)=True:=L' sB;apply sR;simp only[go_sem,seval,q0,Int.zero_sub,rn,ct,qM,rq1,q1,rq2,q2,qA,qB,b1,b2,b3,b4];exact ak.same (by first|rfl|simp[sA,sB])
   .have qB:(B<0)=False:=H' sB;apply sR;simp only[go_sem,seval,q0,Int.zero_sub,rn,ct,qM,rq1,q1,rq2,q2,qA,qB,b1,b2,b3,b4];exact ak.same (by first|rfl|simp[sA,sB])
  .have qA:(A<0)=False:=H' sA;by_cases sB:B<0
   .have qB:(B<0)=True:=L' sB;apply sR;simp only[go_sem,seval,q0,Int.zero_sub,rn,ct,qM,rq1,q1,rq2,q2,qA,qB,b1,b2,b3,b4];exact ak.same (by first|rfl|simp[sA,sB])
   .have qB:(B<0)=False:=H' sB;apply sR;simp only[go_sem,seval,q0,Int.zero_sub,rn,ct,qM,rq1,q1,rq2,q2,qA,qB,b1,b2,b3,b4];exact ak.same (by first|rfl|simp[sA,sB])
 have q2:(A<(-1099511627776:Int).tdiv (max B (-B)))=False:=H' h2;have hr':=hr (by omega) (by omega) h0;have r3:VO .i64 (A*B):=ae;rw[aD (λh=>by rcases h.2 with h|h;exact h1 h;exact h2 h)]
 apply sR;simp only[go_sem,seval,q0,Int.zero_sub,rn,ct,qM,rq1,q1,rq2,q2,r3];exact ak.same rfl
open Go.Proofs
def E8(l:List O')(hl:l.length<=1000000):Iter prog 254 [.rp (aC l)] (l.map λf=>[aG f]):=by
 refine⟨RT.c,λWp τ Jx Z0 hy hJ=>?_⟩;refine(RT.q ?_).2;have ldF:∀U:ad,cj U false 1 (.rp (aC l))=some (aC l):=λU=>rfl;have Xs:=cQ l;refine mS 5 ?_;simp only[go_sem,seval,OL,ldF,Xs];refine ai.loop (λm st=>∃(j:Nat) (ZJ:ad),j<=l.length/\m=l.length-j/\τ ((l.take j).map λf=>[aG f]) ZJ/\aa ZJ st.U/\st.s 0=.yl Wp/\st.s 5=aC l/\st.s 6=vI l.length/\st.s 7=vI j) l.length ?_ ?_
 .exact⟨0,Z0,by omega,rfl,by simpa using hJ,aa.refl _,rfl,rfl,rfl,rfl⟩
 .rintro m ⟨S,J⟩ ⟨j,ZJ,hj,rfl,Yj,G',t0,t5,t6,t7⟩;simp only at G' t0 t5 t6 t7;refine ai.mix 5 ?_;by_cases B':j<l.length
  .have q:=qT B';have r1:=rI j;have VC:=λU=>ed (U:=U) B';have e0':l=l.take j++l[j]::l.drop (j+1):=by rw[<-ju B',ua]
   have e:(l.map λf=>[aG f])=((l.take j).map λf=>[aG f])++[aG l[j]]::((l.drop (j+1)).map λf=>[aG f]):=by
    have:=congrArg (List.map λf=>[aG f]) e0'
    rwa [dG,fF]at this
   have V9:((l.take (j+1)).map λf=>[aG f])=((l.take j).map λf=>[aG f])++[[aG l[j]]]:=by rw[XH B',dG];rfl
   have YG:aG l[j]=.agg [vI l[j].node,vI l[j].side,vI l[j].anchor,vI l[j].x,vI l[j].y,vI l[j].w,vI l[j].h]:=rfl;generalize l[j]=x at*;apply sR;simp only[go_sem,seval,t0,t5,t6,t7,q,VC,YG];refine aA λi4 Z4 s4 a4 f4=>?_;simp only[go_sem,seval,a4,t0,t5,t6,t7];generalize hq4:C' Z4 i4 _=Y4;have hs4:aa J Y4:=by rw[<-hq4];exact s4.az f4
   clear hq4;refine ai.oV (Post:=λb' Z2=>∃Wh,bF ZJ Y4 Wh Z2/\((b'=true/\τ (((l.take j).map λf=>[aG f])++[[aG x]]) Wh)\/(b'=false/\Jx (((l.take j).map λf=>[aG f])++[[aG x]]) Wh))) rfl rfl rfl (hy _ [aG x] _ ZJ Y4 e Yj (G'.trans hs4)) ?_;rintro b' Z2 ⟨Wh,Ya,XL⟩;rcases XL with⟨rfl,XL⟩|⟨rfl,XL⟩
   .apply sR;simp only[go_sem,seval,t0,t5,t6,t7,r1];refine⟨_,?_,j+1,Wh,by omega,rfl,by rw[V9];exact XL,Ya.1,by simp[t0,t5,t6]⟩;omega
   .apply sR;simp only[go_sem,seval,t0,t5,t6,t7];exact⟨_,Wh,Ya.1,Wk.refl Ya.1 _,.inr ⟨_,⟨_,by rw[e,lq];rfl⟩,XL⟩⟩
  .have q:=qF B';rw[nq (by omega)]at Yj;apply sR;simp only[go_sem,seval,t0,t5,t6,t7,q];exact⟨_,ZJ,G',Wk.refl G' _,.inl Yj⟩
def MU(l:List O'):aL prog 215 [aC l] (.fn 254 [.rp (aC l)]):=λU=>by
 refine TR.q ?_;refine ai.mix 3 ?_;have q1:=aX l;have q2:=aY l;generalize aC l=x at*;apply sR;simp only[go_sem,seval,QK,q1,q2];refine aA λid1 Z1 s1 a1 f1=>?_;simp only[go_sem,seval,q1,q2];exact⟨_,U,s1,Wk.fn (vs':=[.rp x]) ⟨Wk.ptr s1 a1 f1,trivial⟩,rfl,rfl⟩
def sH(cm to:Int)(f:O'):Bool:=decide (f.anchor<cm\/f.anchor>=to)
def MC(cm to:Int)(f:O'){U:ad}{i4 i5:Nat}(a4:U i4=some ⟨3,1,[vI cm]⟩)(a5:U i5=some ⟨3,1,[vI to]⟩):
 au prog 282 [aG f,.ptr i4 0 0,.ptr i5 0 0] U λr Z'=>r=.bool (sH cm to f)/\Z'=U:=by
 refine TQ.q ?_;have hs:=aa.refl U;refine mS 5 ?_;simp only[go_sem,seval,Pu,aG];refine ar hs λi3 Z3 s3 a3 f3 z3 hs=>?_;have b4:=s3 _ _ a4;have b5:=s3 _ _ a5;by_cases h0:f.anchor<cm
 .have q0:(f.anchor<cm)=True:=L' h0;simp only[go_sem,seval,a3,b4,b5,q0];exact ak.pure hs (by simp[sH,h0])
 .have q0:(f.anchor<cm)=False:=H' h0;by_cases h1:f.anchor>=to
  .have q1:(f.anchor>=to)=True:=L' h1;simp only[go_sem,seval,a3,b4,b5,q0,q1];exact ak.pure hs (by simp[sH,h1])
  .have q1:(f.anchor>=to)=False:=H' h1;simp only[go_sem,seval,a3,b4,b5,q0,q1];exact ak.pure hs (by simp only[sH];rw[WW (by omega)])
open Go.Proofs
def gP(p:O'->Bool):List O'->Nat->Int
 |[],_=>-1
 |f::r,i=>if p f then i else gP p r (i+1)
def Ag{p:O'->Bool}{l:List O'}{i:Nat}(h:i<l.length):gP p (l.drop i) i=if p l[i]then(i:Int)else gP p (l.drop (i+1)) (i+1):=by
 rw[ju h,gP]
def GL{U:ad}{v:V}(l:List O')(hl:l.length<=1000000)(hr:Reads U 7 true v (l.map aG)){f:FuncId}{caps:List V}(p:O'->Bool)
 (hf:∀x∈l,au prog f (aG x::caps) U λr Z'=>r=.bool (p x)/\Z'=U):
 au prog 292 [v,.fn f caps] U λr Z'=>r=vI (gP p l 0)/\Z'=U:=by
 refine SH.q ?_;have hlv:dX false v=some (.int .i64 l.length):=by rw[hr.1,cO]
 refine mS 6 ?_;simp only[go_sem,seval,Q0,hlv];refine ai.loop (λm st=>∃i:Nat,i<=l.length/\m=l.length-i/\gP p l 0=gP p (l.drop i) i/\st.U=U/\st.s 0=v/\st.s 1=.fn f caps/\st.s 7=vI l.length/\st.s 8=vI i) l.length ?_ ?_
 .exact⟨0,by omega,rfl,rfl,rfl,rfl,rfl,rfl,rfl⟩
 .rintro m ⟨s,Z'⟩ ⟨i,hi,rfl,heq,V7,h0,h1,h7,h8⟩;simp only at V7 h0 h1 h7 h8;subst V7;refine ai.mix 6 ?_;by_cases B':i<l.length
  .have q:=qT B';have hd:=Ag (p:=p) B';obtain⟨a,ha,XD⟩:=hr.2 i (aG l[i]) (by simp[B']);have hfx:=hf l[i] (Ws B');have r1:=rI i;generalize l[i]=x at*;apply sR;simp only[go_sem,seval,h0,h1,h7,h8,q,ha,XD];refine pR rfl hfx ?_;cases hp:p x
   .rw[hp]at hd;apply sR;simp only[go_sem,seval,h0,h1,h7,h8,r1];refine⟨_,?_,i+1,by omega,rfl,?_,by simp[h0,h1,h7]⟩
    .omega
    .rw[heq,hd];rfl
   .rw[hp]at hd;apply sR;simp only[go_sem,seval,h0,h1,h7,h8];refine ak.same ?_;rw[heq,hd];rfl
  .have q:=qF B';have Yh:i=l.length:=by omega
   apply sR;simp only[go_sem,seval,h0,h1,h7,h8,q];refine ak.same ?_;rw[heq,Yh,xp];rfl
open Go.Proofs
def Hp(l:List WE)(hl:l.length<=1000000000):aL prog 48 [bn l] (bn l):=
 AJ func48 (e48.b.trans rfl) e48.c (l.map bC) (by simp;omega)
def AO(l:List O')(hl:l.length<=1000000000):aL prog 49 [aC l] (aC l):=
 AJ func49 (e49.b.trans rfl) e49.c (l.map aG) (by simp;omega)
open Go.Proofs
def ky(a:O'):List O'->Nat->Int
 |[],_=>-1
 |q::r,i=>if a=q then i else ky a r (i+1)
def FM{a:O'}{p:List O'}{i:Nat}(h:i<p.length):ky a (p.drop i) i=if a=p[i]then(i:Int)else ky a (p.drop (i+1)) (i+1):=by
 rw[ju h,ky]
def Iv(p:List O')(hp:p.length<=1000000000)(a:O'):aL prog 106 [aC p,aG a] (vI (ky a p 0)):=λU=>by
 refine TS.q ?_;have hs:=aa.refl U;have hlp:=cQ p;have hac:(aG a).cells=[vI a.node,vI a.side,vI a.anchor,vI a.x,vI a.y,vI a.w,vI a.h]:=rfl;have has:(aG a).stays=true:=rfl;have he:∀b:O',jV false [0,0,0,0,0,0,0] (.agg [vI a.node,vI a.side,vI a.anchor,vI a.x,vI a.y,vI a.w,vI a.h]) (.agg [vI b.node,vI b.side,vI b.anchor,vI b.x,vI b.y,vI b.w,vI b.h])=some (.bool (decide (a=b))):=λb=>by
  have:(a=b)↔(a.node=b.node/\a.side=b.side/\a.anchor=b.anchor/\a.x=b.x/\a.y=b.y/\a.w=b.w/\a.h=b.h):=by
   cases a;cases b;simp
  simp only[jV,ef,cX,dV,this];simp
 refine mS 9 ?_;simp only[go_sem,seval,PE,hac,has];refine ar hs λi3 Z3 s3 a3 f3 z3 hs=>?_;simp only[go_sem,seval,hlp,hac,has];rw[aG]at a3;refine ai.loop (λm st=>∃(i:Nat),i<=p.length/\m=p.length-i/\ky a p 0=ky a (p.drop i) i/\st.U=Z3/\st.s 0=aC p/\st.s 3=.ptr i3 0 0/\st.s 7=vI p.length/\st.s 8=vI i) p.length ?_ ?_
 .exact⟨0,by omega,rfl,rfl,rfl,rfl,rfl,rfl,rfl⟩
 .rintro m ⟨s,Z'⟩ ⟨i,hi,rfl,heq,V7,h0,h3,h7,h8⟩;simp only at V7 h0 h3 h7 h8;subst V7;refine ai.mix 9 ?_;by_cases B':i<p.length
  .have q:=qT B';have hd:=FM (a:=a) B';have VC:=λU=>ed (U:=U) B';have r1:=rI i;have hee:=he p[i];have YG:aG p[i]=.agg [vI p[i].node,vI p[i].side,vI p[i].anchor,vI p[i].x,vI p[i].y,vI p[i].w,vI p[i].h]:=rfl;by_cases hc:a=p[i]
   .rw[WJ hc]at hee;apply sR;simp only[BB,seval,<-decide_not,br,eL,aJ,cY,eN,fm,gk,eP,cS,mZ,gn,bP,jy,gA,gV,eI,eT,cP,lu,dJ,dn,cF,Xl,mj,dT,cE,ef,cX,dV,dP,nN,binBV,dk,ei,V.cells,V.stays,Xu.nothing,h0,h3,h7,h8,q,a3,VC,YG,hee];refine ak.pure hs ?_;rw[heq,hd,av hc]
   .rw[WW hc]at hee;apply sR;simp only[BB,seval,<-decide_not,br,eL,aJ,cY,eN,fm,gk,eP,cS,mZ,gn,bP,jy,gA,gV,eI,eT,cP,lu,dJ,dn,cF,Xl,mj,dT,cE,ef,cX,dV,dP,nN,binBV,dk,ei,V.cells,V.stays,Xu.nothing,h0,h3,h7,h8,q,a3,VC,YG,hee,r1];refine⟨_,?_,i+1,by omega,rfl,?_,by simp[h0,h3,h7]⟩
    .omega
    .rw[heq,hd,aD hc]
  .have q:=qF B';have Yh:i=p.length:=by omega
   apply sR;simp only[go_sem,seval,h0,h3,h7,h8,q];refine ak.pure hs ?_;rw[heq,Yh,xp];rfl
open Go
def XK.same{U:ad}{N:Nat->Prop}:∀(vs:List V),jx vs=true->XK U N vs vs
 |[],_=>.nil
 |v::vs,h=>by
  simp only[jx,Ba]at h;exact .cons _ _ _ _ (.same v h.1) (XK.same vs h.2)
def XK.app{U:ad}{N:Nat->Prop}:∀{a b c d:List V},XK U N a b->XK U N c d->XK U N (a++c) (b++d)
 |_,_,_,_,.nil,h=>h
 |_,_,_,_,.cons v u vs us h h',h2=>.cons v u _ _ h (XK.app h' h2)
def XK.one{U:ad}{N:Nat->Prop}{v u:V}(h:Fz U N v u):XK U N [v] [u]:=.cons _ _ _ _ h .nil
def ay.fz{K U:ad}{N:Nat->Prop}{e sz:Nat}{v:V}{rows:List V}(h:ay K U e sz v rows)(hN:∀id,K id=none->N id)(hr:jx rows=true):Fz U N v (.sl sz rows):=by
 rcases h with⟨rfl,rfl⟩|⟨id,rfl,ho,hk⟩
 .exact .nil sz
 .exact .own id 0 rows.length ⟨e,sz,rows⟩ rows ho (hN id hk) (by simp) (by rw[CB,eF];exact XK.same rows hr)
def ay.ab{K U:ad}{e sz:Nat}{v:V}{rows:List V}(h:ay K U e sz v rows){id:Nat}{o:Ob}(hK:K id≠none):ay K (C' U id o) e sz v rows:=by
 rcases h with h|⟨q,h1,h2,h3⟩
 .exact .inl h
 .have:q≠id:=λe=>hK (by rw[<-e];exact h3);exact .inr ⟨q,h1,by rw[Vc.ab this];exact h2,h3⟩
def ay.src{K U:ad}{e sz:Nat}{v:V}{rows:List V}(h:ay K U e sz v rows){Z1:ad}(hs:aa U Z1):bM Z1 sz v=some rows:=by
 rcases h with⟨rfl,rfl⟩|⟨id,rfl,ho,hk⟩
 .rfl
 .simp only[bM,hs _ _ ho];rw[av (by simp)];simp
def yi(l:List Int):jx (l.map vI)=true:=by
 induction l with
 |nil=>rfl
 |cons x l ih=>rw[fF,jx,ih];rfl
abbrev RI(x:Nd):List V:=[vI x.kind,vI x.size,vI x.st.top,vI x.st.V0,vI x.st.VJ,vI x.st.T',vI x.st.Wf,vI x.st.VK,vI x.st.VY,vI x.st.head,vI x.st.before,vI x.st.after,vI x.st.inside,vI x.st.clear,vI x.line,vI x.space]
def ndW(x:Nd)(v:V):V:=.agg [vI x.kind,vI x.size,vI x.st.top,vI x.st.V0,vI x.st.VJ,vI x.st.T',vI x.st.Wf,vI x.st.VK,vI x.st.VY,vI x.st.head,vI x.st.before,vI x.st.after,vI x.st.inside,vI x.st.clear,vI x.line,vI x.space,v,vI x.side,vI x.w,vI x.h]
def Md{U:ad}{N:Nat->Prop}{x:Nd}{v:V}(h:Fz U N v (bb x.words)):Fz U N (ndW x v) (gm x):=by
 refine .agg _ _ ?_;exact(XK.same (RI x) rfl).app ((XK.one h).app (XK.same [vI x.side,vI x.w,vI x.h] rfl))
def dz(K U:ad):List Nd->List V->Prop
 |[],[]=>True
 |x::l,r::rows=>(∃w,r=ndW x w/\ay K U 3 1 w (x.words.map vI))/\dz K U l rows
 |_,_=>False
def dz.len{K U:ad}:∀{l:List Nd} {rows:List V},dz K U l rows->rows.length=l.length
 |[],[],_=>rfl
 |_::_,_::_,h=>by simp[dz.len h.2]
 |[],_::_,h=>h.elim
 |_::_,[],h=>h.elim
def ay.kept{K U Z':ad}{id e:Nat}{w:V}{rows rows0:List V}(h:ay K U 3 1 w rows)(ho:U id=some ⟨e,20,rows0⟩)(hs:∀i,i≠id->∀o,U i=some o->Z' i=some o):ay K Z' 3 1 w rows:=by
 rcases h with h|⟨i,h1,h2,h3⟩
 .exact .inl h
 .have V2:i≠id:=λe=>by subst e;rw[ho]at h2;simp at h2
  exact .inr ⟨i,h1,hs i V2 _ h2,h3⟩
def dz.kept{K U Z':ad}{id e:Nat}{rows0:List V}(ho:U id=some ⟨e,20,rows0⟩)(hs:∀i,i≠id->∀o,U i=some o->Z' i=some o):∀{l:List Nd} {rows:List V},dz K U l rows->dz K Z' l rows
 |[],[],_=>trivial
 |_::_,_::_,⟨⟨w,h1,h2⟩,h⟩=>⟨⟨w,h1,h2.kept ho hs⟩,dz.kept ho hs h⟩
 |[],_::_,h=>h.elim
 |_::_,[],h=>h.elim
def dz.mono{K U Z':ad}(hs:aa U Z'):∀{l:List Nd} {rows:List V},dz K U l rows->dz K Z' l rows
 |[],[],_=>trivial
 |_::_,_::_,⟨⟨w,h1,h2⟩,h⟩=>⟨⟨w,h1,h2.mono hs⟩,dz.mono hs h⟩
 |[],_::_,h=>h.elim
 |_::_,[],h=>h.elim
def ay.o9{K K' U:ad}{e sz:Nat}{v:V}{rows:List V}(h:ay K U e sz v rows)(hk:aa K' K):ay K' U e sz v rows:=by
 rcases h with h|⟨i,h1,h2,h3⟩
 .exact .inl h
 .exact .inr ⟨i,h1,h2,hk.none h3⟩
def dz.app{K U:ad}:∀{l l2:List Nd} {rows rows2:List V},dz K U l rows->dz K U l2 rows2->dz K U (l++l2) (rows++rows2)
 |[],_,[],_,_,h2=>h2
 |_::_,_,_::_,_,⟨h1,h⟩,h2=>⟨h1,dz.app h h2⟩
 |[],_,_::_,_,h,_=>h.elim
 |_::_,_,[],_,h,_=>h.elim
def dz.get{K U:ad}:∀(i:Nat) {l:List Nd} {rows:List V} {x:Nd},dz K U l rows->l[i]?=some x->∃w,rows[i]?=some (ndW x w)/\ay K U 3 1 w (x.words.map vI)
 |0,y::_,_::_,x,⟨⟨w,h1,h2⟩,_⟩,hx=>by
  simp only[IY,aS]at hx;subst hx;exact⟨w,by simp[h1],h2⟩
 |i+1,_::_,_::_,x,⟨_,h⟩,hx=>by
  rw[Dq]at hx|-;exact dz.get i h hx
 |_,[],_,_,_,hx=>by simp at hx
 |_,_::_,[],_,h,_=>h.elim
def dz.fz{K U:ad}{N:Nat->Prop}(hN:∀id,K id=none->N id):∀{l:List Nd} {rows:List V},dz K U l rows->XK U N rows (l.map gm)
 |[],[],_=>.nil
 |_::_,_::_,⟨⟨w,h1,h2⟩,h⟩=>by
  rw[h1];exact .cons _ _ _ _ (Md (h2.fz hN (yi _))) (dz.fz hN h)
 |[],_::_,h=>h.elim
 |_::_,[],h=>h.elim
def dz.bN{K U Z':ad}{idA:Option Nat}(hA:∀i,idA=some i->∃e rows0,U i=some ⟨e,20,rows0⟩)(hs:aa (Vc.bN U idA) Z'){l:List Nd}{rows:List V}(h:dz K U l rows):dz K Z' l rows:=by
 cases idA with
 |none=>exact h.mono hs
 |some i=>
  obtain⟨e,rows0,hi⟩:=hA i rfl;exact h.kept hi λj hj o hjo=>hs _ _ (by simp only[Vc.bN];rw[cc hj];exact hjo)
def ln(K U:ad)(v:V)(l:List Nd):Prop:=∃rows,ay K U 48 20 v rows/\dz K U l rows
def ln.fz{K U:ad}{N:Nat->Prop}{v:V}{l:List Nd}(h:ln K U v l)(hN:∀id,K id=none->N id):Fz U N v (aF l):=by
 obtain⟨rows,ho,hr⟩:=h;have hf:=hr.fz hN;rcases ho with⟨rfl,rfl⟩|⟨id,rfl,ho,hk⟩
 .cases l with
  |nil=>exact .nil 20
  |cons x l=>exact hr.elim
 .exact .own id 0 rows.length ⟨_,20,rows⟩ _ ho (hN id hk) (by simp) (by rw[CB,eF];exact hf)
def ln.wk{K U:ad}{v:V}{l:List Nd}(h:ln K U v l){K':ad}(hK:aa K' K)(hs:aa K' U):Wk U K' v (aF l):=
 (h.fz (N:=λid=>K' id=none) (λ_ hk=>hK.none hk)).wk hs (λ_ h=>h)
def ln.mono{K U Z':ad}{v:V}{l:List Nd}(h:ln K U v l)(hs:aa U Z'):ln K Z' v l:=by
 obtain⟨rows,ho,hr⟩:=h;exact⟨rows,ho.mono hs,hr.mono hs⟩
def ln.nil{K U:ad}:ln K U .aO []:=⟨[],.inl ⟨rfl,rfl⟩,trivial⟩
open Go.Proofs
def LB(l:List Nd)(hl:l.length<=10000)(U:ad):au prog 34 [aF l] U λr Z'=>aa U Z'/\ay U Z' 48 20 r (l.map gm):=by
 refine e34.q ?_;refine ai.mix 3 ?_
 (refine ai.bH Xu.nothing 8 ?_;simp only[go_sem,seval,rB,c34])
 refine ai.Fq rfl rfl rfl λb hb=>?_;cases b
 .apply sR;simp only[go_sem,seval];refine aA λid1 Z1 s1 a1 f1=>?_;obtain⟨idA,hd,VL⟩:=(ay.new (K:=U) (e:=48) (sz:=20) (n:=0) (rows:=[]) rfl a1 f1).dst (aa.refl _);have hsrc:∀U,bM U 20 (aF l)=some (l.map gm):=λU=>by simp[aF,bM]
  have V1:l.length*177<=140737488355328:=by omega
  simp only[go_sem,seval,hd,hsrc,cO,V1];refine bt λid2 Z2 s2 a2 f2=>?_;have Yr:=(VL U (aa.refl _) Z1 s1).trans s2;simp only[go_sem,seval];refine WZ ⟨Yr,ay.new (by simp) a2 (s1.none f2)⟩
 .apply sR;simp only[go_sem,seval];refine WZ ⟨aa.refl _,?_⟩;have:l.map gm=[]:=hb rfl;rw[this];exact ay.start
def I0(l:List Int)(hl:l.length<=1000000000)(U:ad):au prog 35 [bb l] U λr Z'=>aa U Z'/\ay U Z' 3 1 r (l.map vI):=by
 refine e35.q ?_;refine ai.mix 3 ?_
 (refine ai.bH Xu.nothing 8 ?_;simp only[go_sem,seval,rB,c35])
 refine ai.Fq rfl rfl rfl λb hb=>?_;cases b
 .apply sR;simp only[go_sem,seval];refine aA λid1 Z1 s1 a1 f1=>?_;obtain⟨idA,hd,VL⟩:=(ay.new (K:=U) (e:=3) (sz:=1) (n:=0) (rows:=[]) rfl a1 f1).dst (aa.refl _);have V1:l.length*9<=140737488355328:=by omega
  simp only[go_sem,seval,hd,qp,cO,V1];refine bt λid2 Z2 s2 a2 f2=>?_;have Yr:=(VL U (aa.refl _) Z1 s1).trans s2;simp only[go_sem,seval];exact WZ ⟨Yr,ay.new (by simp) a2 (s1.none f2)⟩
 .apply sR;simp only[go_sem,seval];have:l.map vI=[]:=hb rfl;refine WZ ⟨aa.refl _,?_⟩;rw[this];exact ay.start
open Go.Proofs
def Kj(K U:ad)(e sz:Nat)(v:V)(rows:List V):Prop:=(v=.aO/\rows=[])\/∃id all,v=.own id 0 rows.length/\U id=some ⟨e,sz,all⟩/\all.take rows.length=rows/\K id=none
def ay.SI{K U:ad}{e sz:Nat}{v:V}{rows:List V}(h:ay K U e sz v rows):Kj K U e sz v rows:=by
 rcases h with h|⟨id,h1,h2,h3⟩
 .exact .inl h
 .exact .inr ⟨id,rows,h1,h2,eF,h3⟩
def Kj.wk{K U:ad}{e sz:Nat}{v:V}{rows:List V}(h:Kj K U e sz v rows){K':ad}(hK:aa K' K)(hs:aa K' U):Wk U K' v (.sl sz rows):=by
 rcases h with⟨rfl,rfl⟩|⟨id,all,rfl,ho,ht,hk⟩
 .exact Wk.aO sz
 .have hl:rows.length<=all.length:=by
   have:=congrArg List.length ht;simp at this;omega
  have:=Wk.own hs ho (hK.none hk) (off:=0) (len:=rows.length) (by simpa using hl);rw[CB,ht]at this;exact this
open Go.Proofs
def te{p:O'->Bool}:∀(l:List O') (i:Nat),gP p l i<0->l.filter (λf=>!p f)=l
 |[],_,_=>rfl
 |x::l,i,h=>by
  rw[gP]at h;split at h
  .omega
  .rename_i hp;have hp':p x=false:=by simpa using hp
   simp only[List.filter_cons,hp',Bool.not_false,if_true,te l _ h]
def sP{p:O'->Bool}:∀(l:List O') (i:Nat),¬gP p l i<0->∃w:Nat,gP p l i=((i+w:Nat):Int)/\w<l.length/\(l.take w).filter (λf=>!p f)=l.take w/\∀x,l[w]?=some x->p x=true
 |[],i,h=>by simp[gP]at h
 |x::l,i,h=>by
  rw[gP]at h|-;split
  .rename_i hp;exact⟨0,by simp,by simp,by simp,λy hy=>by simp at hy;subst hy;exact hp⟩
  .rename_i hp;rw[aD hp]at h;have hp':p x=false:=by simpa using hp
   obtain⟨w,h1,h2,h3,h4⟩:=sP l (i+1) h;refine⟨w+1,by rw[h1];congr 1;omega,by simp;omega,?_,by simpa using h4⟩;simp only[Gc,List.filter_cons,hp',Bool.not_false,if_true,h3]
def vG{p:O'->Bool}:∀(l:List O') (i:Nat),gP p l i<0->gP p l i=-1
 |[],_,_=>rfl
 |x::l,i,h=>by
  rw[gP]at h|-;split
  .rename_i hp;rw[av hp]at h;omega
  .rename_i hp;rw[aD hp]at h;exact vG l _ h
abbrev ph(p:O'->Bool)(l:List O'):List O':=l.filter λf=>!p f
def FB{K U:ad}{v:V}(l:List O')(hl:l.length<=1000000)(hK:aa K U)(ho:ay K U 100 7 v (l.map aG)){f:FuncId}{caps:List V}(p:O'->Bool)
 (hf:∀x∈l,∀J,aa K J->au prog f (aG x::caps) J λr Z'=>r=.bool (p x)/\Z'=J):
 au prog 281 [v,.fn f caps] U λr Z'=>Kj K Z' 100 7 r ((ph p l).map aG)/\aa K Z':=by
 have hr:Reads U 7 true v (l.map aG):=by
  rcases ho with⟨rfl,h0⟩|⟨id,rfl,h2,h3⟩
  .rw[h0];exact⟨rfl,λi v h=>by simp at h⟩
  .refine⟨by simp[dX],λi r hi=>⟨_,jX h2 (by have:=pq.1 hi;exact this.1),?_⟩⟩;have hx:∃x,r=aG x:=by
    have:=zE hi;simp only[gM]at this;obtain⟨n,_,rfl⟩:=this;exact⟨n,rfl⟩
   obtain⟨x,rfl⟩:=hx;simp only[cj,h2,hi,if_true];rw[av ⟨trivial,rfl⟩];rfl
 refine UA.q ?_;refine mS 8 ?_;simp only[go_sem,seval,PO];refine pR rfl (GL l hl hr p (λx hx=>hf x hx U hK)) ?_;generalize hw:gP p l 0=w;by_cases hn:w<0
 .have hw1:w=-1:=by rw[<-hw];exact vG _ _ (by rw[hw];exact hn)
  have hk:ph p l=l:=te l 0 (by rw[hw];exact hn);have q:(w=-1)=True:=L' hw1;apply sR;simp only[go_sem,seval,q];rw[hk];exact⟨_,U,aa.refl _,Wk.refl (aa.refl _) _,ho.SI,hK⟩
 .obtain⟨u0,g0,g1,g2,g3⟩:=sP l 0 (by rw[hw];exact hn);rw[hw,fU]at g0;subst g0;have q:((u0:Int)=-1)=False:=H';have r1:=rI u0;obtain⟨i1,rfl,h2,h3⟩:∃id,v=.own id 0 (l.map aG).length/\U id=some ⟨100,7,l.map aG⟩/\K id=none:=by
   rcases ho with⟨_,h0⟩|h
   .have:l=[]:=by simpa using h0
    subst this;simp at g1
   .exact h
  rw[cO]at*;apply sR;simp only[go_sem,seval,q,r1];refine ai.loop (λm st=>∃(u j:Nat) (cur:List O'),u<j/\j<=l.length/\m=l.length-j/\cur.length=l.length/\cur.take u=ph p (l.take j)/\(∀q,j<=q->cur[q]?=l[q]?)/\aa K st.U/\st.U i1=some ⟨100,7,cur.map aG⟩/\
   st.s 0=.own i1 0 l.length/\st.s 1=.fn f caps/\st.s 5=vI u/\∃z:Int,st.s 6=vI z/\z=j) (l.length-(u0+1)) ?_ ?_
  .refine⟨u0,u0+1,l,by omega,by omega,rfl,rfl,?_,λ_ _=>rfl,hK,h2,rfl,rfl,rfl,_,rfl,by omega⟩;have hp:=g3 l[u0] (by simp[g1]);rw[XH g1];have g2':ph p (l.take u0)=l.take u0:=g2;simp only[ph,List.filter_append]at g2'|-;rw[g2'];simp[hp]
  .rintro m ⟨s,J⟩ ⟨u,j,cur,huj,hjk,rfl,Xg,hct,hcr,hs,a1,h0,h1,h5,z,h6,rfl⟩;simp only at hs a1 h0 h1 h5 h6;refine ai.mix 8 ?_;have Xc:(cur.map aG).length=l.length:=by rw[cO,Xg]
   by_cases B':j<l.length
   .have q1:=qT B';have hjc:j<cur.length:=by omega
    have huc:u<cur.length:=by omega
    have hfj:l[j]?=some cur[j]:=by rw[<-hcr j (Wa _)];simp[hjc]
    have aaa:cur[j]∈l:=zE hfj;have htj:l.take (j+1)=l.take j++[cur[j]]:=by
     rw[XH B'];congr 2;rw[Zq6 B']at hfj;simpa using hfj
    have iX:∀(J:ad) (rows:List V) (k n:Nat),J i1=some ⟨100,7,rows⟩->rows.length=l.length->n=l.length->k<l.length->bO J 7 (.own i1 0 n) (.int .i64 k)=some (.ptr i1 k 0):=λJ rows k n h e hn hk=>by subst hn;rw[<-e];exact jX h (by omega)
    have e1:=iX _ _ j _ a1 Xc rfl B';have v1:(cur.map aG)[j]?=some (aG cur[j]):=by simp[hjc]
    have vu:(cur.map aG)[u]?=some (aG cur[u]):=by simp[huc]
    have hset:(cur.set u cur[j]).map aG=(cur.map aG).set u (aG cur[j]):=List.map_set;have Zi:=hf cur[j] aaa;have hfc7:∀f:O',(aG f).cells=[vI f.node,vI f.side,vI f.anchor,vI f.x,vI f.y,vI f.w,vI f.h]:=λ_=>rfl;have hsu:(cur.set u cur[j]).take (u+1)=cur.take u++[cur[j]]:=by
     rw[XH (by simpa using huc),List.take_set,List.set_eq_of_length_le (by simp;omega)];simp
    have r2:=rI u;have r3:=rI j;generalize cur[j]=x at*;generalize cur[u]=y at*;apply sR;simp only[go_sem,seval,h0,h1,h5,h6,q1,a1,e1,v1,hfc7];refine ar hs λi7 Z7 s7 a7 f7 z7 hs=>?_;obtain⟨n17,a1⟩:=VB a1 f7 s7;simp only[go_sem,seval,a7,h0,h1,h5,h6];generalize Xb:C' _ i7 _=Y7;replace a7:=WC Xb;replace a1:=VN Xb n17 a1;replace hs:=WD Xb hs z7;refine pR rfl (Zi _ hs) ?_;have e2:=iX _ _ u _ a1 Xc rfl (by omega);cases hp:p x
    .apply sR;simp only[go_sem,seval,h0,h1,h5,h6,a7,a1,e2,vu,hfc7,r2,r3];refine⟨_,?_,u+1,j+1,cur.set u x,by omega,by omega,rfl,by simpa using Xg,?_,λq hq=>?_,hs.az h3,?_,by simp,_,rfl,by omega⟩
     .omega
     .rw[hsu,htj,hct];simp[ph,List.filter_append,hp]
     .rw[List.getElem?_set_ne (by omega)];exact hcr q (by omega)
     .rw[hset];rfl
    .apply sR;simp only[go_sem,seval,h0,h1,h5,h6,r3];refine⟨_,?_,u,j+1,cur,by omega,by omega,rfl,Xg,?_,λq hq=>hcr q (by omega),hs,a1,by simp,_,rfl,by omega⟩
     .omega
     .rw[htj,hct];simp[ph,List.filter_append,hp]
   .have q1:=qF B';have hjk':j=l.length:=by omega
    subst hjk';rw[eF]at hct;have b3:(0:Int)<=u:=by omega
    have b4:(u:Int)<=l.length:=by omega
    apply sR;simp only[go_sem,seval,h0,h1,h5,h6,q1,a1,b3,b4,Int.le_refl,fp];refine ai.clear (id:=i1) (off:=u) (len:=l.length-u) (ob:=⟨100,7,cur.map aG⟩) rfl rfl rfl a1 rfl (by simp;omega) ?_;apply sR;simp only[go_sem,seval,h0,h1,h5,h6,b3,b4,Int.le_refl,fp,Nat.sub_zero];have hlu:((ph p l).map aG).length=u:=by rw[cO,<-hct,jN];omega
    refine WZ ⟨.inr ⟨i1,_,by rw[hlu],ag,?_,h3⟩,hs.az h3⟩;rw[hlu,lq,NI (by simp;omega),List.take_take,Nat.min_self,<-List.map_take,hct]
open Go.Proofs
def AV(l:List O')(fr to:Int):List O':=ph (sH fr to) l
def kG(l:List O')(fr to:Int):(AV l fr to).length<=l.length:=List.length_filter_le _ _
def IB(l:List O')(hl:l.length<=1000000)(fr to:Int):aL prog 255 [aC l,vI fr,vI to] (aC (AV l fr to)):=λU=>by
 refine TW.q ?_;have hs:=aa.refl U;refine mS 7 ?_;simp only[go_sem,seval,RK];refine ar hs λi4 Z4 s4 a4 f4 z4 hs=>?_;simp only[go_sem,seval];refine ar hs λi5 Z5 s5 a5 f5 z5 hs=>?_;obtain⟨XQ,a4⟩:=VB a4 f5 s5;simp only[go_sem,seval];refine Xv rfl (we func49 (e49.b.trans rfl) e49.c (l.map aG) (by simp;omega) _) ?_;rintro r Z9 ⟨h9,ho9⟩;apply sR;simp only[go_sem,seval];refine Xv rfl (FB l hl h9 ho9 (sH fr to) (λx _ J hτ=>MC fr to x (hτ _ _ a4) (hτ _ _ a5))) ?_;rintro r2 Z10 ⟨hp,h10⟩;apply sR;simp only[go_sem,seval];exact⟨_,U,hs.trans h10,hp.wk hs (hs.trans h10),rfl,rfl⟩
def cW(l:List O')(s:W7)(to:Int):List O':=AV l (if s.done>0 then s.atom+1 else s.atom) to
def HQ(l:List O')(hl:l.length<=1000000)(s:W7)(ha:VO .i64 (s.atom+1))(to:Int):aL prog 216 [aC l,aZ s,vI to] (aC (cW l s to)):=λU=>by
 refine Vg.q ?_;have hs:=aa.refl U;have XF:(aZ s).cells=[vI s.atom,vI s.done,.bool s.free]:=rfl;have hss:(aZ s).stays=true:=rfl;refine mS 7 ?_;simp only[go_sem,seval,RD,XF,hss];refine ar hs λi4 Z4 s4 a4 f4 z4 hs=>?_;rw[aZ]at a4;by_cases hd:s.done>0
 .have q:(s.done>0)=True:=L' hd;simp only[go_sem,seval,a4,q,ha];refine pS rfl (IB l hl _ _ _) ?_;simp only[go_sem,seval];exact ak.pure hs (by rw[cW,av hd])
 .have q:(s.done>0)=False:=H' hd;simp only[go_sem,seval,a4,q];refine pS rfl (IB l hl _ _ _) ?_;simp only[go_sem,seval];exact ak.pure hs (by rw[cW,aD hd])
open Go.Proofs
def bX(v u:V):Prop:=∀a n b m,v=.own a 0 n->u=.own b 0 m->a≠b
def bX.symm{v u:V}(h:bX v u):bX u v:=λa n b m h1 h2 e=>h b m a n h2 h1 e.symm
def bX.aO(u:V):bX .aO u:=λ_ _ _ _ h _=>by cases h
def ay.Rw{K ZJ Z1:ad}{e sz:Nat}{v:V}{rows:List V}(h:ay K ZJ e sz v rows)(hs:aa ZJ Z1):
 ∃idA,bL Z1 e sz v=some (rows,idA)/\∀i,idA=some i->K i=none/\(∃o,ZJ i=some o)/\v=.own i 0 rows.length:=by
 rcases h with⟨rfl,rfl⟩|⟨id,rfl,ho,hk⟩
 .exact⟨none,rfl,λ_ h=>by cases h⟩
 .refine⟨some id,?_,λi h=>by cases h;exact⟨hk,⟨_,ho⟩,rfl⟩⟩;simp only[bL,hs _ _ ho];rw[av ⟨trivial,trivial,trivial,Wa _⟩,eF]
def ay.Sl{K U:ad}{e sz:Nat}{v:V}{rows:List V}(h:ay K U e sz v rows){idA:Option Nat}(h1:∀i,idA=some i->∀n,v≠.own i 0 n){id:Nat}{o:Ob}(h2:U id=none):ay K (C' (Vc.bN U idA) id o) e sz v rows:=by
 rcases h with h|⟨a,rfl,ho,hk⟩
 .exact .inl h
 .refine .inr ⟨a,rfl,?_,hk⟩;have hai:a≠id:=λe=>by subst e;rw[ho]at h2;cases h2
  rw[Vc.ab hai];cases idA with
  |none=>exact ho
  |some i=>
   have:a≠i:=λe=>h1 i rfl _ (by rw[e]);simp only[Vc.bN];rw[cc this];exact ho
def bX.new{U K:ad}{e sz id n:Nat}{u:V}{rows:List V}(hu:ay K U e sz u rows)(h:U id=none):bX (.own id 0 n) u:=by
 rintro a k b m h1 rfl e;cases h1;subst e;rcases hu with⟨h,_⟩|⟨i,h,h2,_⟩
 .cases h
 .cases h;rw[h]at h2;cases h2
structure SoJ(Z0:ad)(ix:Nat)(p q:List O')(U:ad):Prop where
 row:∃v u,U ix=some ⟨291,2,[.agg [v,u]]⟩/\ay (bE Z0 ix) U 100 7 v (p.map aG)/\ay (bE Z0 ix) U 100 7 u (q.map aG)/\bX v u
 sub:aa Z0 U
 no:Z0 ix=none
def GV{Z0 ZJ ZB Z8:ad}{ix e sz:Nat}{v u:V}{rows rowsU:List V}(hBs:bF ZJ ZB ZJ Z8)(Js:aa Z0 ZJ)(Jn:Z0 ix=none){ox:Ob}(Jx:ZJ ix=some ox)
 (Jv:ay (bE Z0 ix) ZJ e sz v rows)(Ju:ay (bE Z0 ix) ZJ e sz u rowsU)(hap:bX v u):
 ∃idA,bL Z8 e sz v=some (rows,idA)/\∀(id:Nat) (rows':List V) (o':Ob),Z8 id=none->
  ix≠id/\Vc.bN Z8 idA ix=some ox/\aa Z0 (C' (C' (Vc.bN ZJ idA) id ⟨e,sz,rows'⟩) ix o')/\bF ZJ ZB (C' (C' (Vc.bN ZJ idA) id ⟨e,sz,rows'⟩) ix o') (C' (C' (Vc.bN Z8 idA) id ⟨e,sz,rows'⟩) ix o')/\
  ay (bE Z0 ix) (C' (C' (Vc.bN ZJ idA) id ⟨e,sz,rows'⟩) ix o') e sz (.own id 0 rows'.length) rows'/\ay (bE Z0 ix) (C' (C' (Vc.bN ZJ idA) id ⟨e,sz,rows'⟩) ix o') e sz u rowsU/\bX (.own id 0 rows'.length) u:=by
 obtain⟨idA,Wi,hdA⟩:=Jv.Rw hBs.1;refine⟨idA,Wi,λid rows' o' f=>?_⟩;have k2:bE Z0 ix ix≠none:=λh=>(aQ.1 h).1 rfl;have dne:∀(i:Nat) (Zx:ad),bE Z0 ix i≠none->Vc.bN Zx idA i=Zx i:=λi Zx hk=>by
  cases idA with
  |none=>rfl
  |some a=>exact cc (λe=>hk (by rw[e];exact(hdA a rfl).1))
 have c8:=hBs.1 _ _ Jx;have m:ix≠id:=aU c8 f;have fJ:ZJ id=none:=by
  cases h:ZJ id with
  |none=>rfl
  |some o=>rw[hBs.1 _ _ h]at f;cases f
 have f':Vc.bN Z8 idA id=none:=by
  cases idA with
  |none=>exact f
  |some a=>simp only[Vc.bN,del];split<;>first|rfl|exact f
 have hk:bE Z0 ix id=none:=by
  rw[aQ];refine⟨m.symm,?_⟩;cases h:Z0 id with
  |none=>rfl
  |some o=>rw[Js _ _ h]at fJ;cases fJ
 refine⟨m,by rw[dne _ _ k2];exact c8,?_,((hBs.LJ (e:=idA) λi h=>(hdA i h).2.1).new f').set (id:=ix) (o:=ox) (by rw[ab m,dne _ _ k2];exact Jx),?_,?_,bX.new Ju fJ⟩
 .refine aa.az (λi o h=>?_) Jn;have h1:=Js _ _ h;rw[ab (λe=>by subst e;rw[h1]at fJ;cases fJ),dne _ _ (λhk=>by rw[(aQ.1 hk).2]at h;cases h)];exact h1
 .exact ay.new rfl (by rw[ab m.symm,ag]) hk
 .exact(Ju.Sl (λi h n e=>hap _ _ _ _ (hdA i h).2.2 e rfl) fJ).ab k2
def mM(q:List O')(m:O')(body:Int):Bool:=decide (q≠[]\/m.y+m.h>body)
def KA(p q:List O')(hp:p.length<=1000000)(hq:q.length<=1000000)(f m:O')(body:Int)(hr:VO .i64 (m.y+m.h)){Z0 ZJ ZB:ad}{ix:Nat}(hJ:SoJ Z0 ix p q ZJ)(G':aa ZJ ZB):
 au prog 217 [.ptr ix 0 0,aG f,aG m,vI body] ZB λ_ Z'=>∃Wh,bF ZJ ZB Wh Z'/\SoJ Z0 ix (if mM q m body then p else p++[m]) (if mM q m body then q++[f]else q) Wh:=by
 refine SL.q ?_;obtain⟨⟨v,u,Jx,Jv,Ju,hap⟩,Js,Jn⟩:=hJ;obtain⟨vc,vs⟩:=Jv.vc;obtain⟨uc,us⟩:=Ju.vc;have Zi:∀f:O',(aG f).cells=[vI f.node,vI f.side,vI f.anchor,vI f.x,vI f.y,vI f.w,vI f.h]:=λ_=>rfl;have YE:∀f:O',(aG f).stays=true:=λ_=>rfl;refine mS 5 ?_;simp only[go_sem,seval,Qa,Zi,YE];rw[ax];intro i5 f5;have hB5:=(bF.refl G').y9 (o:=⟨100,7,[aG f]⟩) f5;have a5:C' ZB i5 ⟨100,7,[aG f]⟩ i5=some ⟨100,7,[aG f]⟩:=ag;have YL:∀f:O',V.agg [vI f.node,vI f.side,vI f.anchor,vI f.x,vI f.y,vI f.w,vI f.h]=aG f:=λ_=>rfl;generalize Ys:C' ZB i5 ⟨100,7,[aG f]⟩=Z5 at*;simp only[go_sem,seval,Zi,YE];rw[ax];intro i6 f6;have hB6:=hB5.y9 (o:=⟨100,7,[aG m]⟩) f6;have a6:C' Z5 i6 ⟨100,7,[aG m]⟩ i6=some ⟨100,7,[aG m]⟩:=ag;replace a5:=(ab (o:=⟨100,7,[aG m]⟩) (aU a5 f6)).trans a5;generalize hq6:C' Z5 i6 ⟨100,7,[aG m]⟩=Z6 at*;have cx:=hB6.1 _ _ Jx;have hlq:dX false u=some (.int .i64 q.length):=by have:=Ju.len;rwa [cO]at this
 have hrq:((q++[f]).map aG)=q.map aG++[aG f]:=by simp
 have hrp:((p++[m]).map aG)=p.map aG++[aG m]:=by simp
 have hql:(q.map aG).length<=1000000:=by simpa using hq
 have Yy:(p.map aG).length<=1000000:=by simpa using hp
 have hql0:(q.map aG).length=q.length:=cO _;rw[aG]at a5 a6;by_cases hl:mM q m body=true
 .rw[av hl,av hl];by_cases hq0:q=[]
  .have q13:((q.length:Int)>0)=False:=by subst hq0;simp
   have qy:(m.y+m.h>body)=True:=by
    simp only[mM,hq0,X7]at hl;exact L' (hl.resolve_left (by simp))
   simp only[go_sem,seval,cx,vc,uc,hlq,q13,qy,hr,a5,a6];rw[aB];intro i29 f29;have hB7:=hB6.y9 (o:=⟨100,7,[(V.agg [vI f.node,vI f.side,vI f.anchor,vI f.x,vI f.y,vI f.w,vI f.h])]⟩) f29;have a29:C' Z6 i29 ⟨100,7,[(V.agg [vI f.node,vI f.side,vI f.anchor,vI f.x,vI f.y,vI f.w,vI f.h])]⟩ i29=some ⟨100,7,[(V.agg [vI f.node,vI f.side,vI f.anchor,vI f.x,vI f.y,vI f.w,vI f.h])]⟩:=ag;generalize Xb:C' Z6 i29 ⟨100,7,[(V.agg [vI f.node,vI f.side,vI f.anchor,vI f.x,vI f.y,vI f.w,vI f.h])]⟩=Z7 at*;obtain⟨idA,Wi,hgr⟩:=GV hB7 Js Jn Jx Ju Jv hap.symm;generalize q.map aG=rows at*;have V1:(rows.length+1)*57<=140737488355328:=by omega
   simp only[go_sem,seval,Wi,bJ a29,V1];rw[aB];intro i30 f30;obtain⟨m30,hx,g1,g2,g3,g4,g5⟩:=hgr i30 (rows++[(V.agg [vI f.node,vI f.side,vI f.anchor,vI f.x,vI f.y,vI f.w,vI f.h])]) ⟨291,2,[.agg [v,.own i30 0 (rows++[(V.agg [vI f.node,vI f.side,vI f.anchor,vI f.x,vI f.y,vI f.w,vI f.h])]).length]]⟩ f30;have y2:C' (Vc.bN Z7 idA) i30 ⟨100,7,rows++[(V.agg [vI f.node,vI f.side,vI f.anchor,vI f.x,vI f.y,vI f.w,vI f.h])]⟩ ix=_:=(ab m30).trans hx;have hll:(rows++[(V.agg [vI f.node,vI f.side,vI f.anchor,vI f.x,vI f.y,vI f.w,vI f.h])]).length=rows.length+1:=by simp
   rw[hll]at g1 g2 g3 g4 g5;simp only[go_sem,seval,y2,vc,uc,vs,us];refine WZ ⟨_,g2,⟨v,_,ag,g4,?_,g5.symm⟩,g1,Jn⟩;rw[hrq];exact g3
  .have q13:((q.length:Int)>0)=True:=L' (by have:=ud.2 hq0;omega);simp only[go_sem,seval,cx,vc,uc,hlq,q13,a5,a6];rw[aB];intro i29 f29;have hB7:=hB6.y9 (o:=⟨100,7,[(V.agg [vI f.node,vI f.side,vI f.anchor,vI f.x,vI f.y,vI f.w,vI f.h])]⟩) f29;have a29:C' Z6 i29 ⟨100,7,[(V.agg [vI f.node,vI f.side,vI f.anchor,vI f.x,vI f.y,vI f.w,vI f.h])]⟩ i29=some ⟨100,7,[(V.agg [vI f.node,vI f.side,vI f.anchor,vI f.x,vI f.y,vI f.w,vI f.h])]⟩:=ag;generalize Xb:C' Z6 i29 ⟨100,7,[(V.agg [vI f.node,vI f.side,vI f.anchor,vI f.x,vI f.y,vI f.w,vI f.h])]⟩=Z7 at*;obtain⟨idA,Wi,hgr⟩:=GV hB7 Js Jn Jx Ju Jv hap.symm;generalize q.map aG=rows at*;have V1:(rows.length+1)*57<=140737488355328:=by omega
   simp only[go_sem,seval,Wi,bJ a29,V1];rw[aB];intro i30 f30;obtain⟨m30,hx,g1,g2,g3,g4,g5⟩:=hgr i30 (rows++[(V.agg [vI f.node,vI f.side,vI f.anchor,vI f.x,vI f.y,vI f.w,vI f.h])]) ⟨291,2,[.agg [v,.own i30 0 (rows++[(V.agg [vI f.node,vI f.side,vI f.anchor,vI f.x,vI f.y,vI f.w,vI f.h])]).length]]⟩ f30;have y2:C' (Vc.bN Z7 idA) i30 ⟨100,7,rows++[(V.agg [vI f.node,vI f.side,vI f.anchor,vI f.x,vI f.y,vI f.w,vI f.h])]⟩ ix=_:=(ab m30).trans hx;have hll:(rows++[(V.agg [vI f.node,vI f.side,vI f.anchor,vI f.x,vI f.y,vI f.w,vI f.h])]).length=rows.length+1:=by simp
   rw[hll]at g1 g2 g3 g4 g5;simp only[go_sem,seval,y2,vc,uc,vs,us];refine WZ ⟨_,g2,⟨v,_,ag,g4,?_,g5.symm⟩,g1,Jn⟩;rw[hrq];exact g3
 .rw[aD hl,aD hl];simp only[mM,X7,not_or,Decidable.not_not]at hl;have q13:((q.length:Int)>0)=False:=by rw[hl.1];simp
  have qy:(m.y+m.h>body)=False:=H' hl.2;simp only[go_sem,seval,cx,vc,uc,hlq,q13,qy,hr,a5,a6];rw[aB];intro i29 f29;have hB7:=hB6.y9 (o:=⟨100,7,[(V.agg [vI m.node,vI m.side,vI m.anchor,vI m.x,vI m.y,vI m.w,vI m.h])]⟩) f29;have a29:C' Z6 i29 ⟨100,7,[(V.agg [vI m.node,vI m.side,vI m.anchor,vI m.x,vI m.y,vI m.w,vI m.h])]⟩ i29=some ⟨100,7,[(V.agg [vI m.node,vI m.side,vI m.anchor,vI m.x,vI m.y,vI m.w,vI m.h])]⟩:=ag;generalize Xb:C' Z6 i29 ⟨100,7,[(V.agg [vI m.node,vI m.side,vI m.anchor,vI m.x,vI m.y,vI m.w,vI m.h])]⟩=Z7 at*;obtain⟨idA,Wi,hgr⟩:=GV hB7 Js Jn Jx Jv Ju hap;generalize p.map aG=rows at*;have V1:(rows.length+1)*57<=140737488355328:=by omega
  simp only[go_sem,seval,Wi,bJ a29,V1];rw[aB];intro i30 f30;obtain⟨m30,hx,g1,g2,g3,g4,g5⟩:=hgr i30 (rows++[(V.agg [vI m.node,vI m.side,vI m.anchor,vI m.x,vI m.y,vI m.w,vI m.h])]) ⟨291,2,[.agg [.own i30 0 (rows++[(V.agg [vI m.node,vI m.side,vI m.anchor,vI m.x,vI m.y,vI m.w,vI m.h])]).length,u]]⟩ f30;have y2:C' (Vc.bN Z7 idA) i30 ⟨100,7,rows++[(V.agg [vI m.node,vI m.side,vI m.anchor,vI m.x,vI m.y,vI m.w,vI m.h])]⟩ ix=_:=(ab m30).trans hx;have hll:(rows++[(V.agg [vI m.node,vI m.side,vI m.anchor,vI m.x,vI m.y,vI m.w,vI m.h])]).length=rows.length+1:=by simp
  rw[hll]at g1 g2 g3 g4 g5;simp only[go_sem,seval,y2,vc,uc,vs,us];refine WZ ⟨_,g2,⟨_,u,ag,?_,g4,g5⟩,g1,Jn⟩;rw[hrp];exact g3
open Go.Proofs
def bF.from{ZJ U J Wh Z':ad}(h:bF ZJ J Wh Z')(hs:aa U J):bF ZJ U Wh Z':=⟨h.1,λi o h1 h2=>h.2 i o h1 (hs _ _ h2)⟩
def jw(body:Int)(x:List O'×List O')(f m:O'):List O'×List O':=(if mM x.2 m body then x.1 else x.1++[m],if mM x.2 m body then x.2++[f]else x.2)
def bV(top shift:Int)(f:O'):O':={ f with y:=max 0 (f.y-top)+shift }
def jB(top shift body:Int)(L:List O'):List O'×List O':=L.foldl (λx f=>jw body x f (bV top shift f)) ([],[])
def CY(top shift body:Int)(L:List O')(f:O'):jB top shift body (L++[f])=jw body (jB top shift body L) f (bV top shift f):=by
 unfold jB;rw[kZ];rfl
def n7(top shift body:Int)(L:List O'):(jB top shift body L).1.length+(jB top shift body L).2.length=L.length:=by
 have key:∀(L:List O') (x:List O'×List O'),(L.foldl (λx f=>jw body x f (bV top shift f)) x).1.length+(L.foldl (λx f=>jw body x f (bV top shift f)) x).2.length=x.1.length+x.2.length+L.length:=by
  intro L
  induction L with
  |nil=>intro x;rfl
  |cons f L ih=>
   intro x;rw[gC,ih];unfold jw;split<;>simp<;>omega
 have:=key L ([],[]);simpa[jB]using this
def uk(l:List WE)(s:W7)(kept:Int):Int:=(Zz l s.atom).y+s.done-kept
def dS(l:List WE)(fl:List O')(s:W7)(to kept shift body:Int):List O'×List O':=if de l s then jB (uk l s kept) shift body (cW fl s to)else([],[])
def Jj(x:Int):(if x>0 then x else 0)=max 0 x:=by split<;>omega
def Hs(l:List WE)(hl:jU l)(fl:List O')(YG:fl.length<=1000000)(ZI:∀f∈fl,f.ok)(s:W7)(hd:s.done<=1152921504606846976)(to kept shift body:Int)(hk:-1152921504606846976<=kept/\kept<=2305843009213693952)(YO:0<=shift/\shift<=1152921504606846976):
 aL prog 159 [bn l,aC fl,aZ s,vI to,vI kept,vI shift,vI body] (.VG [aC (dS l fl s to kept shift body).1,aC (dS l fl s to kept shift body).2]):=λU=>by
 refine SJ.q ?_;have hs:=aa.refl U;have hll:=hl.len;have XF:(aZ s).cells=[vI s.atom,vI s.done,.bool s.free]:=rfl;have hss:(aZ s).stays=true:=rfl;refine mS 20 ?_;simp only[go_sem,seval,Rr,XF,hss];refine ar hs λi9 Z9 s9 a9 f9 z9 hs=>?_;simp only[go_sem,seval];refine ar hs λi12 Y12 s12 a12 f12 z12 hs=>?_;obtain⟨n912,a9⟩:=VB a9 f12 s12;simp only[go_sem,seval];refine ar hs λi13 Z13 s13 Xy f13 z13 hs=>?_;obtain⟨n913,a9⟩:=VB a9 f13 s13;obtain⟨n1213,a12⟩:=VB a12 f13 s13;rw[aZ]at a9;simp only[go_sem,seval,a9,aI,aH];refine pR rfl (rG l s _) ?_;unfold dS;by_cases hm:de l s
 .rw[WJ hm,av hm];obtain⟨h0,h2⟩:=hm.1;obtain⟨k,hkk⟩:∃k:Nat,s.atom=k:=⟨s.atom.toNat,by omega⟩
  have YP:k<l.length:=by omega
  have VC:=λU=>ey (U:=U) YP;have hy:=hl.rng _ (Ws YP);have hd0:=hm.2.1;have htop:uk l s kept=l[k].y+s.done-kept:=by rw[uk,hkk,bp YP]
  have r1:VO .i64 (l[k].y+s.done):=ae;have r2:VO .i64 (l[k].y+s.done-kept):=ae;have htr:-4611686018427387904<=uk l s kept/\uk l s kept<=4611686018427387904:=by rw[htop];omega
  have Xg:=kG fl (if s.done>0 then s.atom+1 else s.atom) to;have hcm:∀f∈cW fl s to,f.ok:=λf hf=>ZI f ((rC.1 hf).1);have hca:=HQ fl YG s (ae) to;have hcl':(cW fl s to).length<=1000000:=j2 Xg YG;generalize cW fl s to=L at*;rw[hkk]at a9;apply sR;simp only[go_sem,seval,hkk];refine ar hs λi16 Z16 s16 ZG f16 z16 hs=>?_;obtain⟨n916,a9⟩:=VB a9 f16 s16;obtain⟨n1216,a12⟩:=VB a12 f16 s16;obtain⟨n1316,Xy⟩:=VB Xy f16 s16;simp only[go_sem,seval,ZG,a9,VC,bC,r1,r2,aI,aH];refine wN hs λi17 Z17 s17 ZA f17 z17 hs=>?_;obtain⟨n917,a9⟩:=VB a9 f17 s17;obtain⟨n1217,a12⟩:=VB a12 f17 s17;obtain⟨n1317,Xy⟩:=VB Xy f17 s17;obtain⟨n1617,ZG⟩:=VB ZG f17 s17;simp only[go_sem,seval,ZA,a9,ab n917,ab n1217,ab n1317,ab n1617];generalize hq17:C' _ i17 _=Y17;replace ZA:=WC hq17;replace a9:=VN hq17 n917 a9;replace a12:=VN hq17 n1217 a12;replace Xy:=VN hq17 n1317 Xy;replace ZG:=VN hq17 n1617 ZG;replace hs:=WD hq17 hs z17;rw[aZ,hkk]at hca;refine pS rfl (hca _) ?_;simp only[go_sem,seval];refine pS rfl (MU L _) ?_;simp only[go_sem,seval];rw[<-htop]at ZA;generalize uk l s kept=top at*;generalize hS:mix 20 _ _=S;have S12:S 12=.ptr i12 0 0:=by rw[<-hS];rfl
  have S13:S 13=.ptr i13 0 0:=by rw[<-hS];rfl
  have S16:S 16=.ptr i16 0 0:=by rw[<-hS];rfl
  have S17:S 17=.ptr i17 0 0:=by rw[<-hS];rfl
  have S39:S 39=.fn 254 [.rp (aC L)]:=by rw[<-hS];rfl
  clear hS;obtain⟨Z0,hY0⟩:∃Z0,Z0=del Y17 i16:=⟨_,rfl⟩
  have d0:∀i,i≠i16->Z0 i=Y17 i:=λi hi=>by rw[hY0];exact cc hi
  have b12:Z0 i12=_:=(d0 _ n1216).trans a12;have b13:Z0 i13=_:=(d0 _ n1316).trans Xy;have b17:Z0 i17=_:=(d0 _ n1617.symm).trans ZA;have b16:Z0 i16=none:=by rw[hY0];simp[del]
  have Wm:aa U Z0:=λi o h=>by
   rw[d0 i (λe=>by rw[e,z16]at h;cases h)];exact hs _ _ h
  have h16:SoJ Z0 i16 [] [] Y17:=⟨⟨.aO,.aO,ZG,ay.start,ay.start,bX.aO _⟩,hY0▸aa.vK _ _,b16⟩
  refine ai.fk (g:=.t 39) (caps:=[.rp (aC L)]) S39 (E8 L hcl') (λy hy=>?_) [] (λpre ZJ=>SoJ Z0 i16 (jB top shift body (L.take pre.length)).1 (jB top shift body (L.take pre.length)).2 ZJ)
   (λ_ _ _=>False) ?_ ?_ ?_ ?_ ?_
  .obtain⟨t,_,rfl⟩:=gM.1 hy;rfl
  .exact h16
  .rintro pre y post ZJ ZB YV hJ G';obtain⟨f,hf,rfl⟩:=uG YV;obtain⟨B',hfe⟩:=pq.1 hf;have hlen:(pre++[[aG f]]).length=pre.length+1:=by simp
   have V9:L.take (pre.length+1)=L.take pre.length++[f]:=by rw[XH B',hfe]
   have YP:=n7 top shift body (L.take pre.length);have Yy:(L.take pre.length).length<=1000000:=by rw[jN];omega
   rw[hlen,V9,CY];generalize jB top shift body (L.take pre.length)=x at*;have hfo':=hcm f (zE hf);have a12:=G' _ _ (hJ.sub _ _ b12);have Xy:=G' _ _ (hJ.sub _ _ b13);have ZA:=G' _ _ (hJ.sub _ _ b17);obtain⟨o1,o2,o3,o4⟩:=hfo';unfold Bq at o1 o2 o3 o4;have q1:VO .i64 (f.y-top):=ae;have q2:VO .i64 (max 0 (f.y-top)+shift):=ae;generalize Yt:oM S [40] [aG f]=S0;have T12:S0 12=.ptr i12 0 0:=by rw[<-Yt];exact S12
   have T13:S0 13=.ptr i13 0 0:=by rw[<-Yt];exact S13
   have T16:S0 16=.ptr i16 0 0:=by rw[<-Yt];exact S16
   have T17:S0 17=.ptr i17 0 0:=by rw[<-Yt];exact S17
   have T40:S0 40=.agg [vI f.node,vI f.side,vI f.anchor,vI f.x,vI f.y,vI f.w,vI f.h]:=by rw[<-Yt];rfl
   clear Yt;have hs:=aa.refl ZB;refine mS 20 ?_;simp only[go_sem,seval];refine ar hs λi18 Z18 s18 a18 f18 z18 hs=>?_;obtain⟨n1218,a12⟩:=VB a12 f18 s18;obtain⟨n1318,Xy⟩:=VB Xy f18 s18;obtain⟨n1718,ZA⟩:=VB ZA f18 s18;simp only[go_sem,seval,a18,T40];generalize hq18:C' _ i18 _=Y18;replace a18:=WC hq18;replace a12:=VN hq18 n1218 a12;replace Xy:=VN hq18 n1318 Xy;replace ZA:=VN hq18 n1718 ZA;replace hs:=WD hq18 hs z18;apply sR;simp only[go_sem,seval,a18];refine ar hs λi19 Y19 s19 ZC f19 z19 hs=>?_;obtain⟨n1819,a18⟩:=VB a18 f19 s19;obtain⟨n1219,a12⟩:=VB a12 f19 s19;obtain⟨n1319,Xy⟩:=VB Xy f19 s19;obtain⟨n1719,ZA⟩:=VB ZA f19 s19;simp only[go_sem,seval,ZC,a18,ZA,a12,Xy,T12,T13,T16,T17,ab n1819,ab n1719,ab n1219,ab n1319,q1,q2,Jj];generalize XB:C' _ i19 _=Z19;replace ZC:=WC XB;replace a18:=VN XB n1819 a18;replace a12:=VN XB n1219 a12;replace Xy:=VN XB n1319 Xy;replace ZA:=VN XB n1719 ZA;replace hs:=WD XB hs z19;have hc:=KA x.1 x.2 (by omega) (by omega) f (bV top shift f) body (ae (by simp only[bV];omega) (by simp only[bV];omega)) hJ (G'.trans hs);rw[<-T16]at hc;refine Xv rfl hc ?_;rintro-Z2 ⟨Wh,hB,Yv⟩;apply sR;simp only[go_sem,seval];exact⟨_,hB.from hs,Yv⟩
  .rintro Z' hJ;have WX:(L.map λf=>[aG f]).length=L.length:=by simp
   rw[WX,eF]at hJ;obtain⟨⟨v,u,Jx,Jv,Ju,_⟩,Js,Jn⟩:=hJ;obtain⟨vc,vs⟩:=Jv.vc;obtain⟨uc,us⟩:=Ju.vc;refine mS 20 ?_;simp only[go_sem,seval,S16,Jx,vc,uc,vs,us];have VP:=Wm.trans Js;have hK:aa U (bE Z0 i16):=λi o hh=>by
    rw[bE,aD (λe=>by rw[e,z16]at hh;cases hh)];exact Wm _ _ hh
   exact⟨_,U,VP,Wk.VG (vs':=[aC (jB top shift body L).1,aC (jB top shift body L).2]) ⟨Jv.wk hK VP,Ju.wk hK VP,trivial⟩,rfl,rfl⟩
  .intro id h;cases h
  .rintro pre Z' _ ⟨⟩
 .rw[WW hm,aD hm];apply sR;simp only[go_sem,seval];exact⟨_,U,hs,Wk.VG (vs':=[aC [],aC []]) ⟨Wk.aO 7,Wk.aO 7,trivial⟩,rfl,rfl⟩
variable {P:Program} {n:Nat} {st:St} {Q:St->Prop} {k:List It} {I:Mu} {w:World}
def Lq{o:Op}{sz:Nat}{xs:List VX}(h:Wj P n o=.more (.cpy sz) xs):∃x y t e args argTypes,o=.call { callee:=.builtin .copy,args:=args,argTypes:=argTypes }/\
 args=#[x,y]/\argTypes[0]?=some t/\P.underlying t=some (.slice e)/\cg P e=true/\P.cellsOf e=sz/\xs=[cx n x,cx n y]:=by
 cases o
 case call c=>
  obtain⟨callee,args,argTypes⟩:=c;cases callee
  case builtin b=>
   cases b
   case copy=>
    simp only[Wj,cV]at h;split at h
    .rename_i x y t h1 h2;split at h
     .rename_i e he;split at h
      .rename_i hz;simp only[Wd.more.injEq,MOp.cpy.injEq]at h;exact⟨x,y,t,e,args,argTypes,rfl,by apply Array.ext';simpa using h1,h2,he,hz,h.1,h.2.symm⟩
      .cases h
     .cases h
    .cases h
   all_goals (simp only[Wj,cV]at h;(repeat' split at h)<;>cases h)
  all_goals (simp only[Wj,cV]at h;(repeat' split at h)<;>cases h)
 case unOp op t x=>cases op<;>simp only[Wj,cV]at h<;>cases h
 case makeFunc f a b=>cases f<;>simp only[Wj,cV]at h<;>(repeat' split at h)<;>cases h
 all_goals (simp only[Wj,cV]at h;(repeat' split at h)<;>cases h)
def F0{F:Fr}{a:Act}(hs:dB F I st a w){o:Oper}{x y:Operand}{t e:TypeId}{args:Array Operand}{argTypes:Array TypeId}
 (hoo:o.op=.call { callee:=.builtin .copy,args:=args,argTypes:=argTypes })(harg:args=#[x,y])(Zq:argTypes[0]?=some t)
 (ht:P.underlying t=some (.slice e))(hk:cg P e=true){id off len:Nat}(h1:(cx F.n x).ev st.s=.own id off len){ob:Ob}(h2:st.U id=some ob)
 (h3:ob.sz=P.cellsOf e)(h4:off+len<=ob.rows.length){rows:List V}(h5:bM st.U (P.cellsOf e) ((cx F.n y).ev st.s)=some rows)(h6:rows.length=len):
 ∃y w',(execOp a.eval o).run P w=.ok (.value y) w'/\
  dB F I ⟨bc st.s (o.dst.filter (·<F.n)) (.int .i64 len),C' st.U id { ob with rows:=ob.rows.take off++rows++ob.rows.drop (off+len) }⟩ (a.put o.dst y) w':=by
 have Xd:=(eh hk).2.2;have R:=dr hs;have hx:=R x;rw[h1]at hx;simp only[E']at hx;obtain⟨news,hY,n1,n2,n3,n4,n5⟩:=pc (P:=P) hs.sat Xd h5 (R y);have Wv:∀v w',(Builtin.copy_ argTypes o.type #[a.eval x,a.eval y]).run P w=.ok v w'->(execOp a.eval o).run P w=.ok (.value v) w':=by
  intro v w' hw';unfold execOp;rw[hoo];simp[resolve,invoke,Go.builtin,harg,hw']
 have XJ:E' I (aE I st.U) w (.int .i64 len) (goInt len):=by simp only[E'];rfl
 have hcopy:∀b c,a.eval x=.slice b len c->(Builtin.copy_ argTypes o.type #[a.eval x,a.eval y]).run P w=((match b with|some q=>storeCells q news 0|none=>pure ()).run P w).andThen λ_ w'=>.ok (goInt len) w':=by
  intro b c hX;have hlen:=hY w;have Zi:=n5 w (λ_ _ _ h=>h);rw[h6]at hlen Zi;rw[hX];have hm:Nat.min len len=len:=Nat.min_self len;cases b
  .simp[Builtin.copy_,Zq,run_underlying ht,hlen,hm,cG hk,Zi]
  .simp[Builtin.copy_,Zq,run_underlying ht,hlen,hm,cG hk,Zi]
 have hzero:len=0->∃y w',(execOp a.eval o).run P w=.ok (.value y) w'/\
  dB F I ⟨bc st.s (o.dst.filter (·<F.n)) (.int .i64 len),C' st.U id { ob with rows:=ob.rows.take off++rows++ob.rows.drop (off+len) }⟩ (a.put o.dst y) w':=by
  intro h0;subst h0;have hX:∃b c,a.eval x=.slice b 0 c:=by
   split at hx
   .exact hx.elim
   .exact⟨_,_,hx.1⟩
   .obtain⟨o',c,h,_⟩:=hx;exact⟨_,_,h⟩
  obtain⟨b,c,hX⟩:=hX;obtain rfl:rows=[]:=pV h6;obtain rfl:news=[]:=pV (by simpa using n4);have VP:C' st.U id { ob with rows:=ob.rows.take off++[]++ob.rows.drop (off+0) }=st.U:=by
   funext j;simp only[C',jt,Nat.add_zero,ua];split
   .rename_i e';rw[e',h2]
   .rfl
  rw[VP];refine⟨goInt 0,w,Wv _ w ?_,hs.pure XJ⟩;rw[hcopy b c hX];cases b<;>simp[storeCells]
 split at hx
 .exact hx.elim
 .exact hzero hx.2.2
 .rename_i b szb cap M';obtain⟨o',c,hX,c1,c2,c3,hz0⟩:=hx;by_cases h0:len=0
  .exact hzero h0
  have WO:=hs.sat.obj id ob h2;rw[M']at WO;obtain⟨cur,e1,e2,e3,e4,e5,e6,e7⟩:=WO.plain hz0;obtain⟨g1,xs,g2,g3,g4,g5⟩:=e7.cur e1;have hoff:o'=off*szb:=by
   rcases c3 with c3|c3
   .exact c3
   .omega
  subst hoff;have VW:szb=P.cellsOf e:=by omega
  subst VW;have hbound:off*P.cellsOf e+len*P.cellsOf e<=ob.rows.length*P.cellsOf e:=by rw[<-Nat.add_mul];exact Nat.mul_le_mul_right _ h4
  have hbound2:ob.rows.length*P.cellsOf e<=cap*P.cellsOf e:=Nat.mul_le_mul_right _ e5;rw[h6]at n4;have VP:=run_storeCells_at P b (off*P.cellsOf e) ob.elem news 0 cur w e1 (by rw[n4];omega) n3;simp only[Nat.add_zero]at VP;refine⟨goInt len,w.setRow b (cur.toList.take (off*P.cellsOf e)++news++cur.toList.drop (off*P.cellsOf e+news.length)).toArray,Wv _ _ ?_,?_⟩
  .rw[hcopy _ c hX];simp only[VP,Result.andThen_ok]
  .have hgrow:w.grownBy (w.setRow b (cur.toList.take (off*P.cellsOf e)++news++cur.toList.drop (off*P.cellsOf e+news.length)).toArray) (some b):=
    ⟨rfl,rfl,rfl,by simp,λkk _ hkk=>setRow_other w b kk _ (λe=>hkk (by rw[e]))⟩
   have hrows':∀q∈ob.rows.take off++rows++ob.rows.drop (off+len),q.cells.length=P.cellsOf e:=by
    intro q hq;simp only[ec]at hq;rcases hq with(hq|hq)|hq
    .exact g1 q (rQ hq)
    .exact n1 q hq
    .exact g1 q (List.mem_of_mem_drop hq)
   have hflat:flat (ob.rows.take off++rows++ob.rows.drop (off+len))=
    (flat ob.rows).take (off*P.cellsOf e)++flat rows++(flat ob.rows).drop (off*P.cellsOf e+len*P.cellsOf e):=by
    rw[jb,jb,rE g1];congr 1;rw[xY g1,Nat.add_mul]
   have hch:=hs.sat.change h2 M' (by omega) hgrow _ (ob.rows.take off++rows++ob.rows.drop (off+len)) (xs.take (off*P.cellsOf e)++news++xs.drop (off*P.cellsOf e+news.length))
    (setRow_heap w b cur _ ob.elem _ e1) (by simp only[List.size_toArray,jm,jN,ri,n4];rw[Array.length_toList];omega) (by simp;omega) hrows'
    (by rw[hflat,n4];exact((g2.take _).append n2).append (g2.drop _))
    (by intro u hu
        simp only[ec]at hu;rcases hu with(hu|hu)|hu
        .exact g3 u (rQ hu)
        .exact n3 u hu
        .exact g3 u (List.mem_of_mem_drop hu))
    (by intro j u hu
        have:=lQ cur.toList xs _ g5 (off*P.cellsOf e) (by rw[n4,g4];omega) j u hu;simpa using this)
   exact hs.step hch.1 (dL.refl _) hch.2 (by simp) (by simp only[E'];rfl)
def ai.cpy{i:aK}{l:List aK}{sz:Nat}{xa xb:VX}(hw:bz st.s i.g=some true)(ho:i.op=.more (.cpy sz) [xa,xb])
 {id off len:Nat}(h1:xa.ev st.s=.own id off len){ob:Ob}(h2:st.U id=some ob)(h3:ob.sz=sz)(h4:off+len<=ob.rows.length){rows:List V}(h5:bM st.U sz (xb.ev st.s)=some rows)(h6:rows.length=len)
 (h:ai P n (.ops l::k) ⟨bc st.s i.dst (.int .i64 len),C' st.U id { ob with rows:=ob.rows.take off++rows++ob.rows.drop (off+len) }⟩ Q):ai P n (.ops (i::l)::k) st Q:=by
 refine ai.ins (by rw[ho];simp) hw λF hn I a w o all hi hs next Q' VT=>?_
 subst hn;obtain⟨VS,hd⟩:=ff hi;rw[ho]at VS;obtain⟨x,y,t,e,args,argTypes,g1,g2,g3,g4,g5,rfl,YV⟩:=Lq VS;simp only[List.cons.injEq,and_true]at YV;obtain⟨rfl,rfl⟩:=YV;obtain⟨y,w',hx,VW⟩:=F0 hs g1 g2 g3 g4 g5 h1 h2 h3 h4 h5 h6;unfold Oper.wp;rw[hx];refine VT _ _ _ ⟨I,?_⟩ h;rw[<-hd];exact VW
open Go.Proofs
def cC(body:Int):List O'->Int->List O'×List O'×Int
 |[],sh=>([],[],sh)
 |f::r,sh=>if sh+min f.h body>body then([],f::r,sh)else({ f with y:=sh,h:=min f.h body }::(cC body r (sh+min f.h body)).1,(cC body r (sh+min f.h body)).2)
def jS{P:List O'}{j:Nat}(h:j<=P.length):∀U,eI U 7 (aC P) (some (.int .i64 j)) none none=some (aC (P.drop j)):=λU=>by
 have h1:(j:Int)<=P.length:=by omega
 simp only[aC,eI,cP,cO];rw[av ⟨by omega,h1,Int.le_refl _,Int.le_refl _,trivial⟩,fp,fp,<-List.map_drop,nq (by simp)]
def ME(P:List O')(hP:P.length<=1000000)(body:Int)(hb0:1<=body)(hb1:body<=1099511627776)(hh:∀f∈P,0<=f.h):
 aL prog 55 [aC P,vI body] (.VG [aC (cC body P 0).1,aC (cC body P 0).2.1,vI (cC body P 0).2.2]):=λU=>by
 refine e55.q ?_;have hs:=aa.refl U;have hlp:=cQ P;refine mS 13 ?_;simp only[go_sem,seval,c55,hlp];refine ai.gy (λst=>∃p q sh,cC body P 0=(p,q,sh)/\aa U st.U/\ay U st.U 100 7 (st.s 4) (p.map aG)/\ay U st.U 100 7 (st.s 5) (q.map aG)/\st.s 6=vI sh)
  (λm st=>∃(j:Nat) (acc:List O') (sh:Int),j<=P.length/\m=P.length-j/\acc.length=j/\cC body P 0=(acc++(cC body (P.drop j) sh).1,(cC body (P.drop j) sh).2)/\0<=sh/\sh<=body/\aa U st.U/\ay U st.U 100 7 (st.s 4) (acc.map aG)/\st.s 5=.aO/\st.s 6=vI sh/\st.s 0=aC P/\st.s 1=vI body/\st.s 10=aC P/\st.s 11=vI P.length/\st.s 12=vI j) P.length ?_ ?_ ?_
 .exact⟨0,[],0,by omega,rfl,rfl,rfl,by omega,by omega,hs,ay.start,rfl,rfl,rfl,rfl,rfl,rfl,rfl⟩
 .clear hs;rintro m ⟨S,J⟩ ⟨j,acc,sh,hj,rfl,YX,heq,h0,h1,hs,ho,t5,t6,t0,t1,t10,t11,t12⟩;simp only at hs ho t5 t6 t0 t1 t10 t11 t12;generalize hv4:S 4=v4 at ho;refine ai.mix 13 ?_;by_cases B':j<P.length
  .have q:=qT B';have VC:=λU=>ed (U:=U) B';have hf0:=hh _ (Ws B');have hd:P.drop j=P[j]::P.drop (j+1):=ju B';have YG:aG P[j]=.agg [vI P[j].node,vI P[j].side,vI P[j].anchor,vI P[j].x,vI P[j].y,vI P[j].w,vI P[j].h]:=rfl;rw[hd,cC]at heq;generalize P[j]=f at*;have hsZ:=hs;replace hs:=aa.refl J;have r1:=rI j;have r2:VO .i64 (sh+min f.h body):=ae;apply sR;simp only[go_sem,seval,t0,t1,t5,t6,t10,t11,t12,hv4,q,VC,YG];refine ar hs λi8 Z8 s8 a8 f8 z8 hs=>?_;simp only[go_sem,seval,a8,t0,t1,t5,t6,t10,t11,t12,hv4];generalize Xm:C' _ i8 _=Y8;replace a8:=WC Xm;replace hs:=WD Xm hs z8;refine ar hs λi9 Z9 s9 a9 f9 z9 hs=>?_;obtain⟨n89,a8⟩:=VB a8 f9 s9;simp only[go_sem,seval,a9,a8,t0,t1,t5,t6,t10,t11,t12,hv4,cp,ab n89,ab n89];generalize Wz:C' _ i9 _=Y9;replace a9:=WC Wz;replace a8:=VN Wz n89 a8;replace hs:=WD Wz hs z9;refine ai.rY (by kernel_rfl) [0,1,2,3,4,5,6,7,8] [[],[],[1],[],[1,2,3],[0],[0,5],[0,1,2,3,4,5,6],[0,1,2,3,4,5,6,7]] [0,2,4,6,8,10,12,5,14,16] (by kernel_rfl) (by kernel_rfl) ?_;refine cd (n:=0) [5,14,16] [0,2,4,6,8,10,12] [_,_,_,_,_,_,_] rfl rfl ?_;simp only[go_sem,seval,a9,a8,t6,t1,dD];refine cT rfl (by simp only[go_sem,seval,a9,a8,t6,t1,dD,ab n89,ab n89]) ?_;refine cd (n:=0) [] [14,16] [_,_] rfl rfl ?_;simp only[go_sem,seval,a9,a8,t6,t1,dD,ab n89,ab n89];generalize Wz:C' _ i9 _=Y9;replace a9:=WC Wz;replace a8:=VN Wz n89 a8;replace hs:=WD Wz hs z9;by_cases hgt:sh+min f.h body>body
   .have q1:(sh+min f.h body>body)=True:=L' hgt;rw[av hgt]at heq;have r3:VO .i64 ((P.length:Int)-j):=ae;apply sR;simp only[go_sem,seval,a9,a8,t0,t1,t5,t6,t10,t11,t12,hv4,hlp,r2,q1,r3];obtain⟨n,hn⟩:∃n:Nat,n=P.length-j:=⟨_,rfl⟩
    have hnj:(P.length:Int)-j=(n:Int):=by omega
    rw[hnj];have hbm:(0:Int)<=n/\(n:Int).toNat*57<=140737488355328:=by omega
    simp only[go_sem,seval,hbm];refine aA λi36 Z36 s36 a36 f36=>?_;have Zr:=jS hj;simp only[BB,seval,<-decide_not,br,eL,aJ,cY,eN,fm,gk,eP,cS,mZ,gn,bP,jy,gA,gV,eT,cP,lu,dJ,dn,cF,Xl,mj,dT,cE,jV,ef,cX,dV,dP,nN,binBV,dk,ei,V.cells,V.stays,t0,t5,Zr,fp];have Xe:(P.drop j).length=n:=by rw[ri,hn]
    refine ai.cpy (id:=i36) (off:=0) (len:=n) (rows:=(P.drop j).map aG) rfl rfl rfl a36 rfl (by simp) rfl (by rw[cO,Xe]) ?_;have hrw:(List.replicate (n:Int).toNat (V.agg [vI 0,vI 0,vI 0,vI 0,vI 0,vI 0,vI 0])).take 0++(P.drop j).map aG++(List.replicate (n:Int).toNat (V.agg [vI 0,vI 0,vI 0,vI 0,vI 0,vI 0,vI 0])).drop (0+n)=(P.drop j).map aG:=by
     generalize (P.drop j).map aG=X;simp
    rw[hrw];apply sR;simp only[go_sem,seval,t0,t1,t6,t10,t11,t12,hv4];have VP:=(hsZ.trans (hs.trans s36)).az (o:=⟨100,7,(P.drop j).map aG⟩) ((hsZ.trans hs).none f36);refine⟨acc,P.drop j,sh,?_,VP,?_,?_,rfl⟩
    .rw[heq,jt,hd]
    .exact ho.mono ((hs.trans s36).az (hs.none f36))
    .exact ay.new (by rw[cO,Xe]) ag ((hsZ.trans hs).none f36)
   .have q1:(sh+min f.h body>body)=False:=H' hgt;rw[aD hgt]at heq;apply sR;simp only[go_sem,seval,a9,a8,t0,t1,t5,t6,t10,t11,t12,hv4,r2,q1];refine aA λi44 Z44 s44 a44 f44=>?_;obtain⟨idA,Wi,VL,WM,ZO⟩:=ho.mn (hs.trans s44);have Xc:(acc.map aG).length=j:=by rw[cO,YX]
    have V1:(j+1)*57<=140737488355328:=by omega
    simp only[go_sem,seval,Wi,bJ a44,Xc,V1];refine bt λi45 Z45 s45 a45 f45=>?_;have b9:=s45 _ _ ((ZO i9 z9 Z44).trans (s44 _ _ a9));have k45:=(VL U (aa.refl _) Z44 (hsZ.trans (hs.trans s44))).trans s45;have XQ:U i45=none:=(hsZ.trans (hs.trans s44)).none f45;simp only[go_sem,seval,t0,t1,t5,t6,t10,t11,t12,b9,r1,r2];refine⟨_,?_,j+1,acc++[{ f with y:=sh,h:=min f.h body }],sh+min f.h body,by omega,rfl,by simp[YX],?_,by omega,by omega,k45,?_,by simp⟩
    .omega
    .rw[heq,lq];rfl
    .rw[dG];exact ay.new (by simp[YX]) a45 XQ
  .have q:=qF B';have XS:j=P.length:=by omega
   rw[XS,xp,cC,jt]at heq;apply sR;simp only[go_sem,seval,t0,t1,t5,t6,t10,t11,t12,hv4,q];exact⟨acc,[],sh,heq,hs,hv4▸ho,ay.start,rfl⟩
 .rintro⟨S,J⟩ ⟨p,q,sh,heq,hs,ho,hu,t6⟩;simp only at hs ho hu t6;generalize hv4:S 4=v4 at ho;generalize hv5:S 5=v5 at hu;refine mS 13 ?_;simp only[go_sem,seval,hv4,hv5,t6];rw[heq];exact⟨_,U,hs,Wk.VG (vs':=[aC p,aC q,vI sh]) ⟨ho.wk (aa.refl _) hs,hu.wk (aa.refl _) hs,Wk.refl hs _,trivial⟩,rfl,rfl⟩
open Go.Proofs
structure Bk where
 nodes:List Nd
 (w h:Int)
 atoms:List WE
 VH:List O'
 VA:Int
 V4:List Xt
def bu(b:Bk):V:=.agg [aF b.nodes,vI b.w,vI b.h,bn b.atoms,aC b.VH,vI b.VA,bG b.V4]
structure Wx where
 VU:V
 (high body:Int)
 s:W7
 kind:Int
 (hs fs ls:List XR)
 shift:Int
def dO(b:Bk)(x:Wx)(vh vf vl:V):Ob:=⟨109,13,[.agg [x.VU,vI x.high,vI x.body,.rp (bu b),vI x.s.atom,vI x.s.done,.bool x.s.free,vI 0,vI x.kind,vh,vf,vl,vI x.shift]]⟩
structure Yn(b:Bk)(K:ad)(ix:Nat)(x:Wx)(U:ad)(vh vf vl:V):Prop where
 row:U ix=some (dO b x vh vf vl)
 oh:ay (bE K ix) U 123 7 vh (x.hs.map aP)
 of:ay (bE K ix) U 123 7 vf (x.fs.map aP)
 ol:ay (bE K ix) U 123 7 vl (x.ls.map aP)
 hf:bX vh vf
 hl:bX vh vl
 fl:bX vf vl
 sub:aa K U
 no:K ix=none
def Yn.mono{b:Bk}{K:ad}{ix:Nat}{x:Wx}{U J:ad}{vh vf vl:V}(h:Yn b K ix x U vh vf vl)(hs:aa U J):Yn b K ix x J vh vf vl:=
 ⟨hs _ _ h.row,h.oh.mono hs,h.of.mono hs,h.ol.mono hs,h.hf,h.hl,h.fl,h.sub.trans hs,h.no⟩
def AY{K Z8:ad}{ix e sz:Nat}{v:V}{rows:List V}(Js:aa K Z8)(Jn:K ix=none){ox:Ob}(Jx:Z8 ix=some ox)(Jv:ay (bE K ix) Z8 e sz v rows):
 ∃idA,bL Z8 e sz v=some (rows,idA)/\∀(Z9:ad) (id:Nat) (rows':List V),aa (Vc.bN Z8 idA) Z9->Z9 id=some ⟨e,sz,rows'⟩->Z8 id=none->
  Z9 ix=some ox/\∀o',aa K (C' Z9 ix o')/\ay (bE K ix) (C' Z9 ix o') e sz (.own id 0 rows'.length) rows'/\
  ∀u rowsU,ay (bE K ix) Z8 e sz u rowsU->bX v u->ay (bE K ix) (C' Z9 ix o') e sz u rowsU/\bX (.own id 0 rows'.length) u:=by
 obtain⟨idA,Wi,hdA⟩:=Jv.Rw (aa.refl Z8);have k2:bE K ix ix≠none:=λh=>(aQ.1 h).1 rfl;have dne:∀(i:Nat),bE K ix i≠none->Vc.bN Z8 idA i=Z8 i:=λi hk=>by
  cases idA with
  |none=>rfl
  |some a=>exact cc (λe=>hk (by rw[e];exact(hdA a rfl).1))
 refine⟨idA,Wi,λZ9 id rows' hs9 h9 f=>⟨hs9 _ _ ((dne _ k2).trans Jx),λo'=>⟨?_,?_,λu rowsU hu hap=>⟨?_,bX.new hu f⟩⟩⟩⟩
 .refine aa.az (λi o h=>hs9 _ _ ((dne _ (λhk=>?_)).trans (Js _ _ h))) Jn;rw[(aQ.1 hk).2]at h;cases h
 .have m:id≠ix:=λe=>by rw[e,Jx]at f;cases f
  refine ay.new rfl ((ab m).trans h9) (aQ.2 ⟨m,?_⟩);exact Js.none f
 .rcases hu with h|⟨a,rfl,h1,h2⟩
  .exact .inl h
  .refine .inr ⟨a,rfl,(ab (aQ.1 h2).1).trans (hs9 _ _ ?_),h2⟩;cases hA:idA with
   |none=>exact h1
   |some i=>
    have:a≠i:=λe=>hap _ _ _ _ (hdA i hA).2.2 rfl e.symm;simp only[Vc.bN];rw[cc this];exact h1
def db(high:Int)(f:O'):XR:=⟨f.node,-1,0,f.x,f.y+high,f.w,f.h⟩
def Wx.put(x:Wx)(l:List O'):Wx:={ x with ls:=x.ls++l.map (db x.high) }
def ou(b:Bk)(l:List O')(hl:l.length<=1000000)(x:Wx)(hx:x.ls.length<=1000000)(hr:∀f∈l,VO .i64 (f.y+x.high)){K U:ad}{i1:Nat}{vh vf vl:V}(hJ:Yn b K i1 x U vh vf vl):
 au prog 56 [.ptr i1 0 0,aC l] U λ_ Z'=>∃ZR,Yn b K i1 (x.put l) Z' vh vf ZR:=by
 refine e56.q ?_;have Xs:=cQ l;obtain⟨ch,sh⟩:=hJ.oh.vc;obtain⟨cf,sf⟩:=hJ.of.vc;refine mS 9 ?_;simp only[go_sem,seval,c56,Xs];refine ai.loop (λm st=>∃(j:Nat) (ZR:V),j<=l.length/\m=l.length-j/\Yn b K i1 (x.put (l.take j)) st.U vh vf ZR/\st.s 0=.ptr i1 0 0/\st.s 6=aC l/\st.s 7=vI l.length/\st.s 8=vI j) l.length ?_ ?_
 .exact⟨0,vl,by omega,rfl,by simpa[Wx.put]using hJ,rfl,rfl,rfl,rfl⟩
 .rintro m ⟨S,J⟩ ⟨j,ZR,hj,rfl,hJ,t0,t6,t7,t8⟩;simp only at hJ t0 t6 t7 t8;refine ai.mix 9 ?_;by_cases B':j<l.length
  .have q:=qT B';have VC:=λU=>ed (U:=U) B';have YG:aG l[j]=.agg [vI l[j].node,vI l[j].side,vI l[j].anchor,vI l[j].x,vI l[j].y,vI l[j].w,vI l[j].h]:=rfl;have V9:l.take (j+1)=l.take j++[l[j]]:=XH B';have hput:x.put (l.take (j+1))={ x.put (l.take j)with ls:=(x.put (l.take j)).ls++[db x.high l[j]] }:=by
    rw[V9];simp only[Wx.put,dG,fF,List.map_nil,lq]
   have r0:=hr _ (Ws B');have r1:=rI j;have hyl:((x.put (l.take j)).ls.map aP).length<=2000000:=by simp[Wx.put];omega
   have hyh:(x.put (l.take j)).high=x.high:=rfl;rw[<-hyh]at hput r0;generalize l[j]=f at*;generalize x.put (l.take j)=y at*;have hs:=aa.refl J;have a1:=hJ.row;rw[dO]at a1;obtain⟨cl,sl⟩:=hJ.ol.vc;apply sR;simp only[go_sem,seval,t0,t6,t7,t8,q,VC,YG];refine ar hs λi5 Z5 s5 a5 f5 z5 hs=>?_;obtain⟨n15,a1⟩:=VB a1 f5 s5;simp only[go_sem,seval,a5,a1,t0,t6,t7,t8,ab n15,ab n15,r0,ch,sh,cf,sf,cl,sl];generalize Ys:C' _ i5 _=Y5;replace a5:=WC Ys;replace a1:=VN Ys n15 a1;replace hs:=WD Ys hs z5;refine bB λi35 Z35 s35 a35 f35=>?_;have hJ5:=hJ.mono (hs.trans s35);obtain⟨idA,Wi,hgr⟩:=AY hJ5.sub hJ5.no hJ5.row hJ5.ol;generalize hrw:y.ls.map aP=rows at*;have V1:(rows.length+1)*57<=140737488355328:=by omega
   simp only[go_sem,seval,Wi,bJ a35,V1];refine eQ λi36 Z36 s36 a36 f36=>?_;obtain⟨b1,hg⟩:=hgr Z36 i36 _ s36 a36 f36;rw[dO]at b1;obtain⟨g1,g2,g3⟩:=hg (dO b { y with ls:=y.ls++[db y.high f] } vh vf (.own i36 0 (rows.length+1)));simp only[go_sem,seval,b1,t0,t6,t7,t8,ch,sh,cf,sf,cl,sl,r1];refine⟨_,?_,j+1,.own i36 0 (rows.length+1),by omega,rfl,?_,by simp⟩
   .omega
   .rw[hput];obtain⟨k1,k2⟩:=g3 _ _ hJ5.oh hJ5.hl.symm;obtain⟨k3,k4⟩:=g3 _ _ hJ5.of hJ5.fl.symm;rw[jm]at g2 k2 k4;refine⟨ag,k1,k3,?_,hJ.hf,k2.symm,k4.symm,g1,hJ.no⟩;show ay _ _ _ _ _ ((y.ls++[db y.high f]).map aP);rw[dG,hrw];exact g2
  .have q:=qF B';have XS:j=l.length:=by omega
   rw[XS,eF]at hJ;apply sR;simp only[go_sem,seval,t0,t6,t7,t8,q];exact WZ ⟨ZR,hJ⟩
open Go.Proofs
structure BkOk(b:Bk):Prop where
 V3:jU b.atoms
 tight:∀a∈b.atoms,-18014398509481984<=a.y/\a.y<=18014398509481984/\0<=a.h/\a.h<=18014398509481984
 len:b.atoms.length<=900000
 ZH:b.VH.length<=1000000
 flo:∀f∈b.VH,f.ok
 brk:b.V4.length=b.atoms.length+1
structure XY where
 s:W7
 bw:List O'
def bl(x:XY):V:=.agg [vI x.s.atom,vI x.s.done,.bool x.s.free,aC x.bw]
def Fk{top shift body:Int}:∀{L:List O'} {m:O'},m∈(jB top shift body L).1->∃f∈L,m=bV top shift f:=by
 have key:∀(L L0:List O') (x:List O'×List O'),(∀m∈x.1,∃f∈L0,m=bV top shift f)->∀m∈(L.foldl (λx f=>jw body x f (bV top shift f)) x).1,∃f∈L0++L,m=bV top shift f:=by
  intro L
  induction L with
  |nil=>intro L0 x h m hm;simpa using h m hm
  |cons f L ih=>
   intro L0 x h m hm;rw[gC]at hm;have:=ih (L0++[f]) _ (λm hm=>?_) m hm
   .simpa using this
   .unfold jw at hm;simp only at hm;split at hm
    .obtain⟨g,hg,e⟩:=h m hm;exact⟨g,by simp[hg],e⟩
    .rcases ec.1 hm with hm|hm
     .obtain⟨g,hg,e⟩:=h m hm;exact⟨g,by simp[hg],e⟩
     .simp at hm;exact⟨f,by simp,hm⟩
 intro L m hm;have:=key L [] ([],[]) (by simp) m hm;simpa using this
def oI{b:Bk}(hb:BkOk b){s:W7}(hd:s.done<=1152921504606846976){to kept shift body:Int}(hk:-1152921504606846976<=kept/\kept<=2305843009213693952)(YO:0<=shift/\shift<=1152921504606846976):
 (dS b.atoms b.VH s to kept shift body).1.length<=1000000/\∀m∈(dS b.atoms b.VH s to kept shift body).1,0<=m.y/\m.y<=6917529027641081856:=by
 unfold dS;split
 .rename_i hm;have h1:=n7 (uk b.atoms s kept) shift body (cW b.VH s to);have h2:(cW b.VH s to).length<=b.VH.length:=kG _ _ _;have h3:=hb.ZH;refine⟨by omega,λm hmm=>?_⟩;obtain⟨f,hf,rfl⟩:=Fk hmm;have ZI:=hb.flo f (rC.1 hf).1;obtain⟨_,⟨o1,o2⟩,_⟩:=ZI;obtain⟨h0,h4⟩:=hm.1;have htop:-4611686018427387904<=uk b.atoms s kept:=by
   unfold uk;have:=hm.2.1;obtain⟨k,hkk⟩:∃k:Nat,s.atom=k:=⟨s.atom.toNat,by omega⟩
   have YP:k<b.atoms.length:=by omega
   have hy:=hb.V3.rng _ (Ws YP);rw[hkk,bp YP];omega
  simp only[bV];omega
 .simp
def cU(high:Int)(f:XR):XR:={ f with y:=f.y+high }
def cN(b:Bk)(x:Wx)(kept:Int)(n:Nat):List XR:=(List.range n).map λi:Nat=>cU x.high (dU b.atoms x.s kept x.shift (x.s.atom+(i:Nat)))
def Wx.add(x:Wx)(l:List XR):Wx:={ x with fs:=x.fs++l }
def vy{l:List WE}(hl:jU l){s:W7}(hd0:0<=s.done)(hd:s.done<=1152921504606846976){kept shift:Int}(hk:-1152921504606846976<=kept/\kept<=2305843009213693952)(YO:0<=shift/\shift<=1152921504606846976)(k:Int):
 -4611686018427387904<=(dU l s kept shift k).y/\(dU l s kept shift k).y<=6917529027641081856:=by
 have h:=pW hl hd hk YO k;unfold dU;split
 .split
  .simp only;omega
  .simp only[nP];omega
 .simp
def iu(l:List WE)(U:ad):cj U false 1 (.rp (bn l))=some (bn l):=rfl
def EO(l:List O')(U:ad):cj U false 1 (.rp (aC l))=some (aC l):=rfl
def G4(l:List Xt)(U:ad):cj U false 1 (.rp (bG l))=some (bG l):=rfl
def Po(l:List Nd)(U:ad):cj U false 1 (.rp (aF l))=some (aF l):=rfl
def Yn.pf{b:Bk}{K:ad}{ix:Nat}{x:Wx}{U J:ad}{vh vf vl:V}(h:Yn b K ix x U vh vf vl)(hs:aa U J){i:Nat}{o:Ob}(h1:U i=none)(h2:J i=some o):Yn b (C' K i o) ix x J vh vf vl:=by
 have key:∀{v rows},ay (bE K ix) U 123 7 v rows->ay (bE (C' K i o) ix) J 123 7 v rows:=λhv=>by
  rcases hv with h|⟨a,e,h3,h4⟩
  .exact .inl h
  .refine .inr ⟨a,e,hs _ _ h3,aQ.2 ⟨(aQ.1 h4).1,?_⟩⟩;rw[ab (λe=>by subst e;rw[h1]at h3;cases h3)];exact(aQ.1 h4).2
 refine⟨hs _ _ h.row,key h.oh,key h.of,key h.ol,h.hf,h.hl,h.fl,λa q ha=>?_,?_⟩
 .by_cases e:a=i
  .subst e;rw[Vc.ag]at ha;cases ha;exact h2
  .rw[Vc.ab e]at ha;exact hs _ _ (h.sub _ _ ha)
 .rw[Vc.ab (λe=>by subst e;rw[h.row]at h1;cases h1)];exact h.no
def Yn.narrow{b:Bk}{K:ad}{ix i:Nat}{o:Ob}{x:Wx}{U:ad}{vh vf vl:V}(h:Yn b (C' K i o) ix x U vh vf vl)(hK:K i=none):Yn b K ix x U vh vf vl:=by
 have hk:∀a,C' K i o a=none->K a=none:=λa ha=>by
  by_cases e:a=i
  .subst e;exact hK
  .rwa [Vc.ab e]at ha
 have key:∀{v rows},ay (bE (C' K i o) ix) U 123 7 v rows->ay (bE K ix) U 123 7 v rows:=λhv=>by
  rcases hv with h|⟨a,e,h3,h4⟩
  .exact .inl h
  .exact .inr ⟨a,e,h3,aQ.2 ⟨(aQ.1 h4).1,hk _ (aQ.1 h4).2⟩⟩
 refine⟨h.row,key h.oh,key h.of,key h.ol,h.hf,h.hl,h.fl,λa q ha=>h.sub _ _ ?_,hk _ h.no⟩;rw[Vc.ab (λe=>by subst e;rw[hK]at ha;cases ha)];exact ha
def Yn.drop{b:Bk}{K:ad}{ix i:Nat}{o:Ob}{x:Wx}{U:ad}{vh vf vl:V}(h:Yn b (C' K i o) ix x U vh vf vl)(hK:K i=none)(o':Ob):Yn b K ix x (C' U i o') vh vf vl:=by
 have hn:ix≠i:=λe=>by have:=h.no;subst e;rw[Vc.ag]at this;cases this
 have key:∀{v rows},ay (bE K ix) U 123 7 v rows->ay (bE (C' K i o) ix) U 123 7 v rows->ay (bE K ix) (C' U i o') 123 7 v rows:=λhv hw=>by
  rcases hv with h|⟨a,rfl,h3,h4⟩
  .exact .inl h
  .refine .inr ⟨a,rfl,?_,h4⟩;rcases hw with⟨h,_⟩|⟨c,h,h5,h6⟩
   .cases h
   .cases h;have:a≠i:=λe=>by subst e;have:=(aQ.1 h6).2;rw[Vc.ag]at this;cases this
    rw[Vc.ab this];exact h3
 have g:=h.narrow hK;refine⟨(Vc.ab hn).trans h.row,key g.oh h.oh,key g.of h.of,key g.ol h.ol,h.hf,h.hl,h.fl,g.sub.az hK,g.no⟩
def tD3:List (List Nat):=[[],[],[1],[2,1],[3,2,1],[],[],[6],[7,6],[8,7,6],[],[0,4,5,9,10,3,2,1,8,7,6],[],[12,11,0,1,2,3,4,5,6,7,8,9,10]]
def Ja(b:Bk)(hb:BkOk b)(x:Wx)(hm:de b.atoms x.s)(hd:x.s.done<=1152921504606846976)(hx:x.fs.length<=1000000)(hxl:x.ls.length<=1000000)(hh:0<=x.high/\x.high<=1152921504606846976)(kept:Int)(hk:-1152921504606846976<=kept/\kept<=2305843009213693952)
 (YO:0<=x.shift/\x.shift<=1152921504606846976)(cut:Nat)(hc:x.s.atom<=cut)(Xg:cut<=b.atoms.length){K U:ad}{i1:Nat}{vh vf vl:V}(hJ:Yn b K i1 x U vh vf vl):
 au prog 105 [.ptr i1 0 0,vI kept,vI cut] U λr Z'=>∃vf' ZR,r=bl ⟨⟨cut,0,decide ((b.V4.getD cut ⟨0,0,0⟩).forced≠0)⟩,(dS b.atoms b.VH x.s cut kept x.shift x.body).2⟩/\
  Yn b K i1 ((x.add (cN b x kept (cut-x.s.atom.toNat))).put (dS b.atoms b.VH x.s cut kept x.shift x.body).1) Z' vh vf' ZR:=by
 refine UP.q ?_;have hs:=aa.refl U;have X6:bu b=.agg [aF b.nodes,vI b.w,vI b.h,bn b.atoms,aC b.VH,vI b.VA,bG b.V4]:=rfl;have a1:=hJ.row;rw[dO]at a1;obtain⟨ch,sh⟩:=hJ.oh.vc;obtain⟨a,haa⟩:∃a:Nat,x.s.atom=a:=⟨x.s.atom.toNat,by have:=hm.1;omega⟩
 obtain⟨n,hn⟩:∃n,n=cut-x.s.atom.toNat:=⟨_,rfl⟩
 have hnc:a+n=cut:=by omega
 rw[<-hn];have hlen:=hb.len;refine mS 13 ?_;simp only[go_sem,seval,QV];refine ar hs λi6 Z6 s6 a6 f6 z6 hs=>?_;obtain⟨n16,a1⟩:=VB a1 f6 s6;have hJ6:=hJ.pf s6 f6 a6;have k6:K i6=none:=hJ.sub.none f6;simp only[go_sem,seval,a1,X6,haa,iu];refine ai.gy (λst=>∃vf',Yn b (C' K i6 ⟨27,4,[.agg [vI 0,vI 0,.bool false,.aO]]⟩) i1 (x.add (cN b x kept n)) st.U vh vf' vl/\st.s 0=.ptr i1 0 0/\st.s 1=vI kept/\st.s 2=vI cut/\st.s 6=.ptr i6 0 0/\st.s 7=bn b.atoms)
  (λm st=>∃(j:Nat) (vf':V),j<=n/\m=n-j/\Yn b (C' K i6 ⟨27,4,[.agg [vI 0,vI 0,.bool false,.aO]]⟩) i1 (x.add (cN b x kept j)) st.U vh vf' vl/\st.s 0=.ptr i1 0 0/\st.s 1=vI kept/\st.s 2=vI cut/\st.s 6=.ptr i6 0 0/\st.s 7=bn b.atoms/\∃z:Int,st.s 8=vI z/\z=(a:Int)+j) n ?_ ?_ ?_
 .exact⟨0,vf,by omega,rfl,by simpa[Wx.add,cN]using hJ6,rfl,rfl,rfl,rfl,rfl,_,rfl,by omega⟩
 .clear hs hJ6 a1 hJ a6;rintro m ⟨S,J⟩ ⟨j,vf',hj,rfl,hJ,t0,t1,t2,t6,t7,z,t8,hz⟩;simp only at hJ t0 t1 t2 t6 t7 t8;refine ai.mix 13 ?_;by_cases B':j<n
  .have q:(z<(cut:Int))=True:=L';have hsw:x.add (cN b x kept (j+1))={ x.add (cN b x kept j)with fs:=(x.add (cN b x kept j)).fs++[cU x.high (dU b.atoms x.s kept x.shift z)] }:=by
    simp only[Wx.add,cN,List.range_succ,dG,fF,List.map_nil,lq];rw[hz,haa]
   have W5:aL prog 160 [bn b.atoms,aZ (x.add (cN b x kept j)).s,vI kept,vI (x.add (cN b x kept j)).shift,vI z] (aP (dU b.atoms x.s kept x.shift z)):=FC b.atoms hb.V3 x.s hd kept x.shift z hk YO;have hrg:=vy hb.V3 hm.2.1 hd hk YO z;have hyl:((x.add (cN b x kept j)).fs.map aP).length<=2000000:=by simp[Wx.add,cN];omega
   have hyh:(x.add (cN b x kept j)).high=x.high:=rfl;rw[<-hyh]at hsw;generalize dU b.atoms x.s kept x.shift z=w at*;generalize x.add (cN b x kept j)=y at*;have hs:=aa.refl J;have a1:=hJ.row;rw[dO]at a1;rw[aZ]at W5;have r1:VO .i64 (z+1):=ae;have r2:VO .i64 (w.y+y.high):=ae;obtain⟨cf,sf⟩:=hJ.of.vc;obtain⟨cl,sl⟩:=hJ.ol.vc;apply sR;simp only[go_sem,seval,t0,t1,t2,t6,t7,t8,q,cp];refine ai.ug (by kernel_rfl) 8 (.fork tD3 [0,1,2,3,4,5,6,7,8,9,10] [11,12] [(.leaf (sX tD3 [(12,[11,0,4,5,9,10,3,2,1,8,7,6]),(13,[11,0,4,5,9,10,3,2,1,8,7,6,12])]) [11,12,13]),(.leaf (sX tD3 [(11,[12,0,4,5,9,10,3,2,1,8,7,6])]) [12,11,13])]) (by kernel_rfl) ?_;refine GT.pk (its:=[0,2,4,6,8,10,12,14,16,18,20]) (by kernel_rfl) ?_;refine cd (n:=0) [] [0,2,4,6,8,10,12,14,16,18,20] [_,_,_,_,_,_,_,_,_,_,_] rfl rfl ?_;simp only[go_sem,seval,a1,t0,t1,t7,t8,aP];refine⟨?_,?_⟩
   .refine GT.gH (its:=[22,24,26]) (by kernel_rfl) ?_;refine reP rfl (W5 _) ?_;refine cd (n:=0) [] [24,26] [_,_] rfl rfl ?_;simp only[go_sem,seval,a1,t0,t1,t7,t8,aP];refine wN hs λi9 Z9 s9 a9 f9 z9 hs=>?_;obtain⟨n19,a1⟩:=VB a1 f9 s9;simp only[go_sem,seval,a1,t0,t1,t7,t8,aP,a9];generalize Wz:C' _ i9 _=Y9;replace a9:=WC Wz;replace a1:=VN Wz n19 a1;replace hs:=WD Wz hs z9;apply sR;simp only[go_sem,seval,a9,a1,t0,r2,ab n19,ab n19,cf,sf];generalize Wz:C' _ i9 _=Y9;replace a9:=WC Wz;replace a1:=VN Wz n19 a1;replace hs:=WD Wz hs z9;refine bB λi59 Z59 s59 a59 f59=>?_;have ZE:=(hJ.mono hs).mono s59;obtain⟨idA,Wi,hgr⟩:=AY ZE.sub ZE.no ZE.row ZE.of;generalize hrw:y.fs.map aP=rows at*;have V1:(rows.length+1)*57<=140737488355328:=by omega
    simp only[go_sem,seval,Wi,bJ a59,V1];refine eQ λi60 Z60 s60 a60 f60=>?_;obtain⟨b1,hg⟩:=hgr Z60 i60 _ s60 a60 f60;rw[dO]at b1;obtain⟨g1,g2,g3⟩:=hg (dO b { y with fs:=y.fs++[cU y.high w] } vh (.own i60 0 (rows.length+1)) vl);simp only[go_sem,seval,b1,t0,t1,t2,t6,t7,t8,ch,sh,cf,sf,cl,sl,r1];refine⟨_,?_,j+1,.own i60 0 (rows.length+1),by omega,rfl,?_,_,rfl,by omega⟩
    .omega
    .rw[hsw];obtain⟨k1,k2⟩:=g3 _ _ ZE.oh ZE.hf.symm;obtain⟨k3,k4⟩:=g3 _ _ ZE.ol ZE.fl;rw[jm]at g2 k2 k4;refine⟨?_,k1,?_,k3,k2.symm,hJ.hl,k4,g1,hJ.no⟩
     .exact ag
     .show ay _ _ _ _ _ ((y.fs++[cU y.high w]).map aP);rw[dG,hrw];exact g2
   .refine GT.gH (its:=[24,9,19,22,26]) (by kernel_rfl) ?_;refine cd (n:=0) [9,19,22,26] [24] [_] rfl rfl ?_;simp only[go_sem,seval,a1,t0,t1,t7,t8,aP];refine wN hs λi9 Z9 s9 a9 f9 z9 hs=>?_;obtain⟨n19,a1⟩:=VB a1 f9 s9;simp only[go_sem,seval,a1,t0,t1,t7,t8,aP,a9];refine cT rfl (by simp only[go_sem,seval,a1,t0,t1,t7,t8,aP,a9]) ?_;refine cT rfl (by simp only[go_sem,seval,a1,t0,t1,t7,t8,aP,a9]) ?_;refine reP rfl (W5 _) ?_;refine cd (n:=0) [] [26] [_] rfl rfl ?_;simp only[go_sem,seval,a1,t0,t1,t7,t8,aP,a9];generalize Wz:C' _ i9 _=Y9;replace a9:=WC Wz;replace a1:=VN Wz n19 a1;replace hs:=WD Wz hs z9;apply sR;simp only[go_sem,seval,a9,a1,t0,r2,ab n19,ab n19,cf,sf];generalize Wz:C' _ i9 _=Y9;replace a9:=WC Wz;replace a1:=VN Wz n19 a1;replace hs:=WD Wz hs z9;refine bB λi59 Z59 s59 a59 f59=>?_;have ZE:=(hJ.mono hs).mono s59;obtain⟨idA,Wi,hgr⟩:=AY ZE.sub ZE.no ZE.row ZE.of;generalize hrw:y.fs.map aP=rows at*;have V1:(rows.length+1)*57<=140737488355328:=by omega
    simp only[go_sem,seval,Wi,bJ a59,V1];refine eQ λi60 Z60 s60 a60 f60=>?_;obtain⟨b1,hg⟩:=hgr Z60 i60 _ s60 a60 f60;rw[dO]at b1;obtain⟨g1,g2,g3⟩:=hg (dO b { y with fs:=y.fs++[cU y.high w] } vh (.own i60 0 (rows.length+1)) vl);simp only[go_sem,seval,b1,t0,t1,t2,t6,t7,t8,ch,sh,cf,sf,cl,sl,r1];refine⟨_,?_,j+1,.own i60 0 (rows.length+1),by omega,rfl,?_,_,rfl,by omega⟩
    .omega
    .rw[hsw];obtain⟨k1,k2⟩:=g3 _ _ ZE.oh ZE.hf.symm;obtain⟨k3,k4⟩:=g3 _ _ ZE.ol ZE.fl;rw[jm]at g2 k2 k4;refine⟨?_,k1,?_,k3,k2.symm,hJ.hl,k4,g1,hJ.no⟩
     .exact ag
     .show ay _ _ _ _ _ ((y.fs++[cU y.high w]).map aP);rw[dG,hrw];exact g2
  .have q:(z<(cut:Int))=False:=H';have XS:j=n:=by omega
   subst XS;apply sR;simp only[go_sem,seval,t0,t1,t2,t6,t7,t8,q];exact⟨vf',hJ⟩
 .clear hs hJ6 a1 hJ a6;rintro⟨S,J⟩ ⟨vf',hJ,t0,t1,t2,t6,t7⟩;simp only at hJ t0 t1 t2 t6 t7;have W5:aL prog 159 [bn b.atoms,aC b.VH,aZ (x.add (cN b x kept n)).s,vI cut,vI kept,vI (x.add (cN b x kept n)).shift,vI (x.add (cN b x kept n)).body] (.VG [aC (dS b.atoms b.VH x.s cut kept x.shift x.body).1,aC (dS b.atoms b.VH x.s cut kept x.shift x.body).2]):=
   Hs b.atoms hb.V3 b.VH hb.ZH hb.flo x.s hd cut kept x.shift x.body hk YO
  have hrg:=oI hb hd (to:=cut) (body:=x.body) hk YO;have hyl:(x.add (cN b x kept n)).ls.length<=1000000:=hxl;have hyh:(x.add (cN b x kept n)).high=x.high:=rfl;rw[aZ]at W5;generalize dS b.atoms b.VH x.s cut kept x.shift x.body=R at*;generalize x.add (cN b x kept n)=y at*;have a1:=hJ.row;rw[dO]at a1;have hflo:=ou b R.1 hrg.1 y hyl (λf hf=>by
   have:=hrg.2 f hf;rw[hyh];exact ae) hJ
  have hcb:cut<b.V4.length:=by have:=hb.brk;omega
  have VC:=λU=>rR (U:=U) hcb;have ZK:b.V4.getD cut ⟨0,0,0⟩=b.V4[cut]:=by simp[hcb]
  rw[ZK];generalize b.V4[cut]=bk at*;refine mS 13 ?_;simp only[go_sem,seval,t0,t1,t2,t6,t7,a1,X6,iu,EO];refine pJ rfl W5 ?_;apply sG;simp only[go_sem,seval,t0];refine Xv rfl hflo ?_;rintro r Z' ⟨ZR,Yv⟩;clear a1;have a1:=Yv.row;rw[dO]at a1;have a6:=Yv.sub _ _ ag;have hs:=aa.refl Z';apply sR;simp only[go_sem,seval,t0,t2,t6,a1,X6,G4,VC,bY];refine ar hs λi12 Y12 s12 a12 f12 z12 hs=>?_;obtain⟨n112,a1⟩:=VB a1 f12 s12;obtain⟨n612,a6⟩:=VB a6 f12 s12;simp only[go_sem,seval,a12,a6,t6,aX,aY,ab n112,ab n612];exact WZ ⟨vf',ZR,rfl,(Yv.mono (hs.az f12)).drop k6 _⟩
end Go.Vc
