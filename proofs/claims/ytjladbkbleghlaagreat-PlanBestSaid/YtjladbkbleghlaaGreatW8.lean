/- Part 8 of the library of this proof. -/
import Derived.Test.YtjladbkbleghlaaGreatW7
set_option linter.all false
set_option maxHeartbeats 8000000
set_option maxRecDepth 100000
namespace Go.Vc
open Go.Proofs Go.Proofs.Tryz
def yq(l:List Nd)(of:List Int):List Int:=(List.range (of.length+1)).map (pf l of)
def H3(l:List Nd)(hl:dV l)(hb:Mj l=true)(of:List Int)(Mx:of.length<=1000000)(MY:∀x∈of,0<=x/\x<l.length)(hm:oS l of=true):
 bc prog 96 [aM l,bj of] (.LI [bj (yq l of),vI 0]):=λU=>by
 refine e96.r (by simp[c96]) ?_;have hs:=aa.refl U;have Ok:=fC of;refine ab.mix 11 ?_;apply sR;simp only[go_sem,seval,c96];refine ab.aC rfl rfl rfl (og l hl hb of Mx hm _) ?_;have q0:((0:Int)≠0)=False:=Ly (λh=>h rfl);have r0:LP .i64 ((of.length:Int)+1):=au;apply sR;simp only[go_sem,seval,q0,Ok,r0];refine ab.kW (λst=>aa U st.U/\aQ U st.U 3 1 (st.s 7) ((yq l of).map vI))
  (λm st=>∃j:Nat,j<=of.length+1/\m=of.length+1-j/\aa U st.U/\aQ U st.U 3 1 (st.s 7) (((List.range j).map (pf l of)).map vI)/\st.s 0=aM l/\st.s 1=bj of/\st.s 19=vI ((of.length:Int)+1)/\st.s 20=vI j) (of.length+1) ?_ ?_ ?_
 .exact⟨0,by omega,rfl,hs,aQ.start,rfl,rfl,rfl,rfl⟩
 .clear hs;rintro m ⟨S,J⟩ ⟨j,hj,rfl,hs,ho,t0,t1,t19,t20⟩;simp only at hs ho t0 t1 t19 t20;generalize TF:S 7=v7 at ho;refine ab.mix 11 ?_;by_cases Lr:j<of.length+1
  .have q:((j:Int)<of.length+1)=True:=LH;have r1:LP .i64 ((j:Int)+1):=au;have Mh:(((List.range (j+1)).map (pf l of)).map vI)=(((List.range j).map (pf l of)).map vI)++[vI (pf l of j)]:=by
    rw[List.range_succ];simp
   have Rv:(((List.range j).map (pf l of)).map vI).length=j:=by simp
   apply sR;simp only[go_sem,seval,t0,t1,t19,t20,q];refine ab.aC rfl rfl rfl (Jp l hl hb of Mx MY hm j (by omega) _) ?_;generalize ((List.range j).map (pf l of)).map vI=rows at*;apply sR;simp only[go_sem,seval,t0,t1,t19,t20,TF];refine ae λi32 Z32 Xa a32 f32=>?_;obtain⟨LQ,NF,Mn,RW,RB⟩:=ho.AM Xa;have MR:(rows.length+1)*9<=140737488355328:=by omega
   simp only[go_sem,seval,t0,t1,t19,t20,TF,NF,fm a32,MR];refine er λi33 Z33 s33 a33 f33=>?_;have k33:=(Mn U (aa.refl _) Z32 (hs.trans Xa)).trans s33;have n33:U i33=none:=(hs.trans Xa).none f33;simp only[go_sem,seval,t0,t1,t19,t20,r1];refine⟨_,?_,j+1,by omega,rfl,k33,?_,by simp[t0,t1,t19]⟩
   .omega
   .rw[Mh];exact aQ.new (by simp) a33 n33
  .have q:((j:Int)<of.length+1)=False:=Ly;have Nj:j=of.length+1:=by omega
   subst Nj;apply sR;simp only[go_sem,seval,t0,t1,t19,t20,q];exact⟨hs,TF▸ho⟩
 .rintro⟨S,J⟩ ⟨hs,ho⟩;simp only at hs ho;generalize TF:S 7=v7 at ho;refine ab.mix 11 ?_;apply sR;simp only[go_sem,seval,TF];exact⟨_,U,hs,Wk.LI (vs':=[bj (yq l of),vI 0]) ⟨ho.wk (aa.refl _) hs,Wk.refl hs _,trivial⟩,rfl,rfl⟩
open Go.Proofs Go.Proofs.Tryz
structure On where
 (cls forced rank:Int)
deriving DecidableEq
def gE(x:On):V:=.agg [vI x.cls,vI x.forced,vI x.rank]
def dc(l:List On):V:=.sl 3 (l.map gE)
def bx(l:List On):(dc l).cells=[dc l]:=rfl
def bw(l:List On):(dc l).stays=true:=rfl
def Hu(l:List On):eK false (dc l)=some (.int .i64 l.length):=by simp[dc,eK]
def CK{U:ag}{l:List On}{i:Nat}(h:i<l.length):bN U 3 (dc l) (.int .i64 i)=some (.rp (gE l[i])):=by simp[dc,bN,h,gE]
def o3(of:List Int)(k:Nat):Int:=if k=0 then 0 else if k=of.length then 3 else if of.getD k 0=of.getD (k-1) 0 then 2 else 1
def EH(of:List Int)(Mx:of.length<=1000000)(k:Nat)(hk:k<=of.length):bc prog 97 [bj of,vI k] (vI (o3 of k)):=λU=>by
 refine e97.r (by simp[XB]) ?_;have Ok:=fC of;refine ab.mix 6 ?_;unfold o3;rcases Nat.eq_zero_or_pos k with rfl|h0
 .have q1:(((0:Nat):Int)=0)=True:=LH rfl;apply sR;simp only[go_sem,seval,XB,q1];exact aE.same rfl
 have q1:((k:Int)=0)=False:=Ly;rw[aJ (by omega)];by_cases Nf:k=of.length
 .have q2:((k:Int)=of.length)=True:=LH;rw[aI Nf];apply sR;simp only[go_sem,seval,XB,q1,q2,Ok];exact aE.same rfl
 have q2:((k:Int)=of.length)=False:=Ly;rw[aJ Nf];have h1:k<of.length:=by omega
 have q5:=au (m:=((k-1:Nat):Int)) (by omega) (by omega);have q6:((k:Int)-1)=((k-1:Nat):Int):=by omega
 have q7:=λU=>iH (U:=U) h1;have q8:=λU=>iH (U:=U) (l:=of) (i:=k-1) (by omega);have g1:of.getD k 0=of[k]:=by simp[h1]
 have g2:of.getD (k-1) 0=of[k-1]:=by
  have:k-1<of.length:=by omega
  simp[this]
 rw[g1,g2];by_cases h2:of[k]=of[k-1]
 .have q9:(of[k]=of[k-1])=True:=LH h2;rw[aI h2];apply sR;simp only[go_sem,seval,XB,q1,q2,Ok,q5,q6,q7,q8,q9];exact aE.same rfl
 .have q9:(of[k]=of[k-1])=False:=Ly h2;rw[aJ h2];apply sR;simp only[go_sem,seval,XB,q1,q2,Ok,q5,q6,q7,q8,q9];exact aE.same rfl
open Go.Proofs Go.Proofs.Tryz
def R8(l:List Nd)(of:List Int)(k:Nat):On:=⟨o3 of k,ja l of k,if ja l of k=0 then pf l of k else 0⟩
def qu(l:List Nd)(of:List Int):List On:=(List.range (of.length+1)).map (R8 l of)
def FH{U:ag}{f:Nat->Int}{n j:Nat}(h:j<n):bN U 1 (bj ((List.range n).map f)) (.int .i64 j)=some (.rp (vI (f j))):=by
 rw[iH (by simpa using h)];simp
def IC(l:List Nd)(hl:dV l)(hb:Mj l=true)(of:List Int)(Mx:of.length<=1000000)(MY:∀x∈of,0<=x/\x<l.length)(hm:oS l of=true):
 bc prog 58 [aM l,bj of] (.LI [dc (qu l of),vI 0]):=λU=>by
 refine e58.r (by simp[c58]) ?_;have hs:=aa.refl U;have Ok:=fC of;refine ab.mix 14 ?_;apply sR;simp only[go_sem,seval,c58];refine ab.aC rfl rfl rfl (og l hl hb of Mx hm _) ?_;have q0:((0:Int)≠0)=False:=Ly (λh=>h rfl);have r0:LP .i64 ((of.length:Int)+1):=au;apply sR;simp only[go_sem,seval,q0,Ok,r0];refine ab.aC rfl rfl rfl (GZ l hl hb of Mx MY hm _) ?_;apply sR;simp only[go_sem,seval];refine ab.aC rfl rfl rfl (H3 l hl hb of Mx MY hm _) ?_;apply sR;simp only[go_sem,seval,Ok,r0];refine ab.kW (λst=>aa U st.U/\aQ U st.U 120 3 (st.s 11) ((qu l of).map gE))
  (λm st=>∃j:Nat,j<=of.length+1/\m=of.length+1-j/\aa U st.U/\aQ U st.U 120 3 (st.s 11) (((List.range j).map (R8 l of)).map gE)/\st.s 0=aM l/\st.s 1=bj of/\st.s 7=bj (wm l of)/\st.s 9=bj (yq l of)/\st.s 34=vI ((of.length:Int)+1)/\st.s 35=vI j) (of.length+1) ?_ ?_ ?_
 .exact⟨0,by omega,rfl,hs,aQ.start,rfl,rfl,rfl,rfl,rfl,rfl⟩
 .clear hs;rintro m ⟨S,J⟩ ⟨j,hj,rfl,hs,ho,t0,t1,t7,t9,t34,t35⟩;simp only at hs ho t0 t1 t7 t9 t34 t35;generalize Qg:S 11=v11 at ho;refine ab.mix 14 ?_;by_cases Lr:j<of.length+1
  .have q:((j:Int)<of.length+1)=True:=LH;have r1:LP .i64 ((j:Int)+1):=au;have Mh:(((List.range (j+1)).map (R8 l of)).map gE)=(((List.range j).map (R8 l of)).map gE)++[gE (R8 l of j)]:=by
    rw[List.range_succ];simp
   have Rv:(((List.range j).map (R8 l of)).map gE).length=j:=by simp
   have hi7:∀U,bN U 1 (bj (wm l of)) (.int .i64 j)=some (.rp (vI (ja l of j))):=λU=>FH Lr;have hi9:∀U,bN U 1 (bj (yq l of)) (.int .i64 j)=some (.rp (vI (pf l of j))):=λU=>FH Lr;apply sR;simp only[go_sem,seval,t0,t1,t7,t9,Qg,t34,t35,q];refine Go.cN rfl rfl rfl (EH of Mx j (by omega)) ?_;apply sG;simp only[go_sem,seval,t0,t1,t7,t9,Qg,t34,t35,hi7];refine bG λSE Y13 Ui NJ f13=>?_;by_cases hz:ja l of j=0
   .have q2:(ja l of j=0)=True:=LH hz;have VM:gE (R8 l of j)=.agg [vI (o3 of j),vI (ja l of j),vI (pf l of j)]:=by rw[R8,aI hz];rfl
    simp only[go_sem,seval,NJ,t0,t1,t7,t9,Qg,t34,t35,hi7,hi9,q2];generalize Oe:E' _ SE _=ZO;have RL:aa J ZO:=by rw[<-Oe];exact Ui.aG f13
    clear Oe;refine ae λi58 Z58 Xb a58 f58=>?_;obtain⟨LQ,NF,Mn,RW,RB⟩:=ho.AM (RL.trans Xb);generalize ((List.range j).map (R8 l of)).map gE=rows at*;have MR:(rows.length+1)*25<=140737488355328:=by omega
    simp only[go_sem,seval,t0,t1,t7,t9,Qg,t34,t35,NF,fm a58,MR];refine er λi59 Z59 s59 a59 f59=>?_;have k59:=(Mn U (aa.refl _) Z58 (hs.trans (RL.trans Xb))).trans s59;have X6:U i59=none:=(hs.trans (RL.trans Xb)).none f59;simp only[go_sem,seval,t0,t1,t7,t9,t34,t35,r1];refine⟨_,?_,j+1,by omega,rfl,k59,?_,by simp[t0,t1,t7,t9,t34]⟩
    .omega
    .rw[Mh,VM];exact aQ.new (by simp) a59 X6
   .have q2:(ja l of j=0)=False:=Ly hz;have VM:gE (R8 l of j)=.agg [vI (o3 of j),vI (ja l of j),vI 0]:=by rw[R8,aJ hz];rfl
    simp only[go_sem,seval,NJ,t0,t1,t7,t9,Qg,t34,t35,hi7,hi9,q2];generalize Oe:E' _ SE _=ZO;have RL:aa J ZO:=by rw[<-Oe];exact Ui.aG f13
    clear Oe;refine ae λi58 Z58 Xb a58 f58=>?_;obtain⟨LQ,NF,Mn,RW,RB⟩:=ho.AM (RL.trans Xb);generalize ((List.range j).map (R8 l of)).map gE=rows at*;have MR:(rows.length+1)*25<=140737488355328:=by omega
    simp only[go_sem,seval,t0,t1,t7,t9,Qg,t34,t35,NF,fm a58,MR];refine er λi59 Z59 s59 a59 f59=>?_;have k59:=(Mn U (aa.refl _) Z58 (hs.trans (RL.trans Xb))).trans s59;have X6:U i59=none:=(hs.trans (RL.trans Xb)).none f59;simp only[go_sem,seval,t0,t1,t7,t9,t34,t35,r1];refine⟨_,?_,j+1,by omega,rfl,k59,?_,by simp[t0,t1,t7,t9,t34]⟩
    .omega
    .rw[Mh,VM];exact aQ.new (by simp) a59 X6
  .have q:((j:Int)<of.length+1)=False:=Ly;have Nj:j=of.length+1:=by omega
   subst Nj;apply sR;simp only[go_sem,seval,t0,t1,t7,t9,t34,t35,q];exact⟨hs,Qg▸ho⟩
 .rintro⟨S,J⟩ ⟨hs,ho⟩;simp only at hs ho;generalize Qg:S 11=v11 at ho;refine ab.mix 14 ?_;apply sR;simp only[go_sem,seval,Qg];exact⟨_,U,hs,Wk.LI (vs':=[dc (qu l of),vI 0]) ⟨ho.wk (aa.refl _) hs,Wk.refl hs _,trivial⟩,rfl,rfl⟩
open Go.Proofs Go.Proofs.Tryz
def o5(x:On)(first last:Bool):Prop:=
 (first=true->x.cls=0)/\(first=false->last=true->x.cls=3)/\(first=false->last=false->x.cls=1\/x.cls=2)/\
 (x.forced=0\/(2<=x.forced/\x.forced<=4/\x.cls≠3/\x.cls≠2))/\(x.rank=0\/((x.cls=1\/x.cls=2)/\x.forced=0/\0<x.rank/\x.rank<8))
instance (x:On) (a b:Bool):Decidable (o5 x a b):=by unfold o5;infer_instance
open Go.Proofs Go.Proofs.Tryz
def Pf(b:List On)(i:Nat):On:=b.getD i ⟨0,0,0⟩
def qD(b:List On)(i:Nat):Bool:=decide (o5 (Pf b i) (decide ((i:Int)=0)) (decide ((i:Int)=(b.length:Int)-1)))
def Bu(b:List On):Bool:=(List.range b.length).all (qD b)&&decide ((b.length:Int)>0)
open Go.Proofs Go.Proofs.Tryz
def iU(b:List On)(i:Nat):V:=.agg [vI (Pf b i).cls,vI (Pf b i).forced,vI (Pf b i).rank,vI i]
def Ft(b:List On)(dZ to:Int):Nat:=(min to ((b.length:Int)-1)+1-max dZ 0).toNat
def Xc(b:List On)(dZ to:Int):List Nat:=List.range' (max dZ 0).toNat (Ft b dZ to)
def Jh(U:ag)(b:List On):cJ U false 1 (.rp (dc b))=some (dc b):=rfl
def range_split:∀(j s n:Nat),j<n->List.range' s n=List.range' s j++(s+j)::List.range' (s+j+1) (n-j-1)
 |0,s,n+1,_=>by simp[List.range']
 |j+1,s,n+1,h=>by
  have:=range_split j (s+1) n (by omega);rw[List.range',this,List.range'];have e1:s+1+j=s+(j+1):=by omega
  have e2:n-j-1=n+1-(j+1)-1:=by omega
  rw[e1,e2];rfl
def qk(s j:Nat):List.range' s (j+1)=List.range' s j++[s+j]:=by
 rw[range_split j s (j+1) (by omega),show j+1-j-1=0 by omega];rfl
def Cb(b:List On)(hb:b.length<=1000000)(dZ to:Int):Iter prog 115 [.rp (vI dZ),.rp (vI to),.rp (dc b)] ((Xc b dZ to).map λi=>[iU b i]):=by
 refine⟨II.c,λL9 τ Jx Z0 hy hJ=>?_⟩;refine(II.r (by simp[F9]) ?_).2;have R6:=Hu b;refine ab.mix 6 ?_;apply sR;simp only[go_sem,seval,F9,dd];obtain⟨s,hsv⟩:∃s:Nat,s=(max dZ 0).toNat:=⟨_,rfl⟩
 have OM:max dZ 0=(s:Int):=by omega
 obtain⟨n,hnv⟩:∃n:Nat,n=Ft b dZ to:=⟨_,rfl⟩
 have hn1:∀j:Nat,(((s+j:Nat):Int)<=min to ((b.length:Int)-1))↔j<n:=λj=>by rw[hnv,Ft,OM];omega
 rw[Xc,<-hsv,<-hnv]at hy|-;rw[OM];refine ab.loop (λm st=>∃(j:Nat) (ZJ:ag),j<=n/\m=n-j/\τ ((List.range' s j).map λi=>[iU b i]) ZJ/\aa ZJ st.U/\st.s 0=.yl L9/\st.s 1=.rp (vI dZ)/\st.s 2=.rp (vI to)/\st.s 3=.rp (dc b)/\st.s 5=vI (s+j:Nat)) n ?_ ?_
 .exact⟨0,Z0,by omega,rfl,by simpa using hJ,aa.refl _,rfl,rfl,rfl,rfl,rfl⟩
 .rintro m ⟨S,J⟩ ⟨j,ZJ,hj,rfl,Nu,G',t0,t1,t2,t3,t5⟩;simp only at G' t0 t1 t2 t3 t5;refine ab.mix 6 ?_;have r2:LP .i64 ((b.length:Int)-1):=au;by_cases Lr:j<n
  .have hle:=(hn1 j).2 Lr;have ME:s+j<b.length:=by omega
   have q:(((s+j:Nat):Int)<=min to ((b.length:Int)-1))=True:=LH hle;have r1:LP .i64 (((s+j:Nat):Int)+1):=au;have Lv:=λU=>CK (U:=U) ME;have hg:Pf b (s+j)=b[s+j]:=by simp[Pf,ME]
   have Vg:iU b (s+j)=.agg [vI b[s+j].cls,vI b[s+j].forced,vI b[s+j].rank,vI (s+j:Nat)]:=by rw[iU,hg]
   have e:((List.range' s n).map λi=>[iU b i])=((List.range' s j).map λi=>[iU b i])++[iU b (s+j)]::((List.range' (s+j+1) (n-j-1)).map λi=>[iU b i]):=by
    rw[range_split j s n Lr];simp
   have Mv:((List.range' s (j+1)).map λi=>[iU b i])=((List.range' s j).map λi=>[iU b i])++[[iU b (s+j)]]:=by rw[qk];simp
   have q5:s+(j+1)=s+j+1:=by omega
   generalize s+j=sj at*;apply sR;simp only[go_sem,seval,t0,t1,t2,t3,t5,Jh,R6,r2,gB,q,Lv,gE];rw[<-Vg];refine ab.oK (Post:=λb' Z2=>∃L',bB ZJ J L' Z2/\((b'=true/\τ (((List.range' s j).map λi=>[iU b i])++[[iU b sj]]) L')\/(b'=false/\Jx (((List.range' s j).map λi=>[iU b i])++[[iU b sj]]) L'))) rfl rfl rfl (hy _ [iU b sj] _ ZJ J e Nu G') ?_;rintro b' Z2 ⟨L',Nv,Nh⟩;rcases Nh with⟨rfl,Nh⟩|⟨rfl,Nh⟩
   .apply sR;simp only[go_sem,seval,t0,t1,t2,t3,t5,r1];refine⟨_,?_,j+1,L',by omega,rfl,by rw[Mv];exact Nh,Nv.1,by simp[t0,t1,t2,t3,q5]⟩;omega
   .apply sR;simp only[go_sem,seval,t0,t1,t2,t3,t5];exact⟨_,L',Nv.1,Wk.refl Nv.1 _,.inr ⟨_,⟨_,by rw[e,lU];rfl⟩,Nh⟩⟩
  .have q:(((s+j:Nat):Int)<=min to ((b.length:Int)-1))=False:=Ly (λh=>Lr ((hn1 j).1 h));have Nj:j=n:=by omega
   subst Nj;generalize s+j=sj at*;apply sR;simp only[go_sem,seval,t0,t1,t2,t3,t5,Jh,R6,r2,gB,q];exact⟨_,ZJ,G',Wk.refl G' _,.inl Nu⟩
open Go.Proofs Go.Proofs.Tryz
structure Fd where
 (b:On)(i:Int)
def gx(x:Fd):V:=.agg [vI x.b.cls,vI x.b.forced,vI x.b.rank,vI x.i]
def mP(ah:Fd->Fd->Bool->Bool)(p:Fd×Bool)(x:Fd):Fd×Bool:=if ah x p.1 p.2 then(x,true)else p
def iR(ah:Fd->Fd->Bool->Bool)(xs:List Fd)(d:Fd):Fd×Bool:=xs.foldl (mP ah) (d,false)
def zt(ah:Fd->Fd->Bool->Bool)(xs:List Fd)(x:Fd)(d:Fd):iR ah (xs++[x]) d=mP ah (iR ah xs d) x:=by simp[iR,yQ]
def DJ{g f:FuncId}{caps:List V}{xs:List Fd}(Ql:Iter prog g caps (xs.map λx=>[gx x]))(d:Fd)(ah:Fd->Fd->Bool->Bool)
 (hf:∀x y s,bc prog f [gx x,gx y,.bool s] (.bool (ah x y s))):
 bc prog 87 [.fn g caps,gx d,.fn f []] (gx (iR ah xs d).1):=λU=>by
 refine e87.r (by simp[c87]) ?_;have hs:=aa.refl U;have VN:(V.fn f []).cells=[.fn f []]:=rfl;have Oh:(V.fn f []).stays=true:=rfl;refine ab.mix 10 ?_;apply sR;simp only[go_sem,seval,c87,gx,VN,Oh];refine ae λi4 Z4 s4 a4 f4=>?_;have z4:=hs.none f4;replace hs:=hs.trans s4;simp only[go_sem,seval,VN,Oh];refine ae λi5 Z5 s5 a5 f5=>?_;have ON:=ao a4 f5;replace a4:=s5 _ _ a4;have z5:=hs.none f5;replace hs:=hs.trans s5;simp only[go_sem,seval,VN,Oh];refine ae λi6 Z6 s6 a6 f6=>?_;have XM:=ao a4 f6;replace a4:=s6 _ _ a4;have n56:=ao a5 f6;replace a5:=s6 _ _ a5;have z6:=hs.none f6;replace hs:=hs.trans s6;simp only[go_sem,seval,a4,VN,Oh];have hs6:=aa.refl Z6;refine ae λi7 Z7 s7 a7 f7=>?_;simp only[go_sem,seval,a7,VN,Oh];refine ae λi8 Z8 s8 a8 f8=>?_;have RY:i7≠i8:=ao a7 f8;have b7:=s8 _ _ a7;simp only[go_sem,seval,b7,a8,ad RY,ad RY.symm,VN,Oh];generalize hS:mix 10 _ _=S;have S5:S 5=.ptr i5 0 0:=by rw[<-hS];rfl
 have S6:S 6=.ptr i6 0 0:=by rw[<-hS];rfl
 have S7:S 7=.ptr i7 0 0:=by rw[<-hS];rfl
 have S8:S 8=.ptr i8 0 0:=by rw[<-hS];rfl
 have S11:S 11=.fn g caps:=by rw[<-hS];rfl
 clear hS;refine ab.fK (g:=.t 11) (caps:=caps) S11 Ql (λy hy=>?_) [] (λpre ZJ=>ZJ i7=some ⟨168,4,[gx (iR ah (xs.take pre.length) d).1]⟩/\ZJ i8=some ⟨4,1,[.bool (iR ah (xs.take pre.length) d).2]⟩/\aa Z6 ZJ)
  (λ_ _ _=>False) ?_ ?_ ?_ ?_ ?_
 .obtain⟨t,_,rfl⟩:=gO.1 hy;rfl
 .refine⟨(ad RY).trans ak,ak,?_⟩;have h7:=(s7.trans s8).aG (id:=i7) (o:=⟨168,4,[.agg [vI d.b.cls,vI d.b.forced,vI d.b.rank,vI d.i]]⟩) f7;exact h7.aG (s7.none f8)
 .rintro pre y post ZJ ZB N1 ⟨J7,J8,Js⟩ G';obtain⟨t,VF,rfl⟩:=vm (f:=gx) N1;have Mv:iR ah (xs.take (pre.length+1)) d=mP ah (iR ah (xs.take pre.length) d) t:=by rw[GG,VF];exact zt _ _ _ _
  have hlen:(pre++[[gx t]]).length=pre.length+1:=by simp
  rw[hlen,Mv];generalize iR ah (xs.take pre.length) d=p at*;obtain⟨p1,p2⟩:=p;simp only at J7 J8;have c7:=G' _ _ J7;have c8:=G' _ _ J8;have c5:=G' _ _ (Js _ _ a5);generalize NN:nj S [12] [gx t]=S0;have T5:S0 5=.ptr i5 0 0:=by rw[<-NN];exact S5
  have T7:S0 7=.ptr i7 0 0:=by rw[<-NN];exact S7
  have T8:S0 8=.ptr i8 0 0:=by rw[<-NN];exact S8
  have T12:S0 12=gx t:=by rw[<-NN];rfl
  clear NN;rw[gx]at c7 T12;refine ab.mix 10 ?_;apply sR;simp only[go_sem,seval,T5,T7,T8,T12];rw[aN];intro i9 f9;have m7:i7≠i9:=ao c7 f9;have m8:i8≠i9:=ao c8 f9;have m5:i5≠i9:=ao c5 f9;simp only[go_sem,seval,T5,T7,T8,T12];have QL:=(bB.refl G').Er (o:=⟨168,4,[.agg [vI t.b.cls,vI t.b.forced,vI t.b.rank,vI t.i]]⟩) f9;have d7:=(ad (o:=⟨168,4,[.agg [vI t.b.cls,vI t.b.forced,vI t.b.rank,vI t.i]]⟩) m7).trans c7;have d8:=(ad (o:=⟨168,4,[.agg [vI t.b.cls,vI t.b.forced,vI t.b.rank,vI t.i]]⟩) m8).trans c8;have d5:=(ad (o:=⟨168,4,[.agg [vI t.b.cls,vI t.b.forced,vI t.b.rank,vI t.i]]⟩) m5).trans c5;have d9:E' ZB i9 ⟨168,4,[.agg [vI t.b.cls,vI t.b.forced,vI t.b.rank,vI t.i]]⟩ i9=_:=ak;generalize E' ZB i9 ⟨168,4,[.agg [vI t.b.cls,vI t.b.forced,vI t.b.rank,vI t.i]]⟩=Y9 at*;apply sR;simp only[go_sem,seval,T5,T7,T8,d5,d7,d8,d9];refine ab.aC rfl rfl rfl (hf t p1 p2 _) ?_;cases hv:ah t p1 p2
  .apply sR;simp only[go_sem,seval,T5,T7,T8];refine⟨_,QL,?_,?_,Js⟩
   .rw[mP,hv];exact J7
   .rw[mP,hv];exact J8
  .apply sR;simp only[go_sem,seval,T5,T7,T8,d5,d7,d8,d9,ad RY,ad RY.symm];refine⟨_,(QL.set (id:=i7) J7).set (id:=i8) (by rw[ad RY.symm];exact J8),?_,?_,?_⟩
   .rw[mP,hv];exact(ad RY).trans ak
   .rw[mP,hv];exact ak
   .exact(Js.aG f7).aG (s7.none f8)
 .rintro Z' ⟨J7,J8,Js⟩;rw[eU,kP]at J7 J8;rw[gx]at J7;have e6:=Js _ _ a6;refine ab.mix 10 ?_;apply sR;simp only[go_sem,seval,S6,S7,J7,e6];exact aE.pure ((hs.trans Js).aG z6) rfl
 .intro id h;cases h
 .rintro pre Z' _ ⟨⟩
open Go.Proofs Go.Proofs.Tryz
def AQ(b:List On)(dZ to:Int):bc prog 88 [dc b,vI dZ,vI to] (.fn 115 [.rp (vI dZ),.rp (vI to),.rp (dc b)]):=λU=>by
 refine e88.r (by simp[c88]) ?_;refine ab.mix 7 ?_;have q1:=bx b;have q2:=bw b;generalize dc b=x at*;apply sR;simp only[go_sem,seval,c88,q1,q2];refine ae λOv Z1 s1 a1 f1=>?_;simp only[go_sem,seval,q1,q2];refine ae λPC Z2 s2 a2 f2=>?_;simp only[go_sem,seval,q1,q2];refine ae λUG Z3 s3 a3 f3=>?_;simp only[go_sem,seval,q1,q2];have hs:=(s1.trans s2).trans s3;exact⟨_,U,hs,Wk.fn (vs':=[.rp (vI dZ),.rp (vI to),.rp x]) ⟨Wk.ptr hs (s3 _ _ a2) (s1.none f2),Wk.ptr hs a3 ((s1.trans s2).none f3),Wk.ptr hs (s3 _ _ (s2 _ _ a1)) f1,trivial⟩,rfl,rfl⟩
def Eg(b:List On)(i:Nat):Fd:=⟨Pf b i,i⟩
def Eo:Fd:=⟨⟨0,0,0⟩,-1⟩
def iu(x _y:Fd)(s:Bool):Bool:=!s&&decide (x.b.forced≠0)
def DO(x y:Fd)(s:Bool):bc prog 89 [gx x,gx y,.bool s] (.bool (iu x y s)):=λU=>by
 refine e89.r (by simp[c89]) ?_;have hs:=aa.refl U;obtain⟨⟨c,f,r⟩,i⟩:=x;obtain⟨⟨c',f',r'⟩,i'⟩:=y;refine ab.mix 7 ?_;apply sR;simp only[go_sem,seval,c89,gx];refine ae λi3 Z3 s3 a3 f3=>?_;have z3:=hs.none f3;replace hs:=hs.trans s3;simp only[go_sem,seval];refine ae λi4 Z4 s4 a4 f4=>?_;have Tf:=ao a3 f4;replace a3:=s4 _ _ a3;have z4:=hs.none f4;replace hs:=hs.trans s4;cases s
 .by_cases h:f≠0
  .have q:(f≠0)=True:=LH h;simp only[go_sem,seval,a3,a4,q];exact aE.pure hs (by simp[iu,h])
  .have q:(f≠0)=False:=Ly h;simp only[go_sem,seval,a3,a4,q];exact aE.pure hs (by simp[iu,h])
 .simp only[go_sem,seval,a3,a4];exact aE.pure hs (by simp[iu])
def j1(b:List On)(dZ to:Int):Int:=(iR iu ((Xc b dZ to).map (Eg b)) Eo).1.i
def Bj(b:List On)(hb:b.length<=1000000)(dZ to:Int):Iter prog 115 [.rp (vI dZ),.rp (vI to),.rp (dc b)] (((Xc b dZ to).map (Eg b)).map λx=>[gx x]):=by
 have h:=Cb b hb dZ to;rw[List.map_map];exact h
def EZ(b:List On)(hb:b.length<=1000000)(dZ to:Int):bc prog 47 [dc b,vI dZ,vI to] (vI (j1 b dZ to)):=λU=>by
 refine e47.r (by simp[c47]) ?_;have hs:=aa.refl U;refine ab.mix 8 ?_;apply sR;simp only[go_sem,seval,c47];refine ab.aC rfl rfl rfl (AQ b dZ to _) ?_;apply sR;simp only[go_sem,seval];refine ab.aC rfl rfl rfl (DJ (Bj b hb dZ to) Eo iu DO _) ?_;have Mt:∀x,(gx x).cells=[vI x.b.cls,vI x.b.forced,vI x.b.rank,vI x.i]:=λ_=>rfl;apply sR;simp only[go_sem,seval,gx];refine ae λi7 Z7 s7 a7 f7=>?_;have z7:=hs.none f7;replace hs:=hs.trans s7;simp only[go_sem,seval,a7];exact aE.pure (hs.aG z7) rfl
open Go.Proofs Go.Proofs.Tryz
structure Kp where
 (Ou:List Int)
 (high body:Int)
def lp(l:List Nd)(x:Kp)(a:Int):Kp:=if(Pq l a).head<1\/x.body-(Pq l a).head<1 then x else⟨x.Ou++[a],x.high+(Pq l a).head,x.body-(Pq l a).head⟩
structure ZP(Z0:ag)(i7:Nat)(x:Kp)(U:ag):Prop where
 row:∃v,U i7=some ⟨149,3,[.agg [v,vI x.high,vI x.body]]⟩/\aQ (bW Z0 i7) U 3 1 v (x.Ou.map vI)
 sub:aa Z0 U
 no:Z0 i7=none
def El(l:List Nd)(hb:Mj l=true)(x:Kp)(hlen:x.Ou.length<=1000000)(h0:0<=x.high)(h1:x.high<=4398046511104)(h2:0<=x.body)(h3:x.body<=4398046511104)(a:Nat)(ha:a<l.length)
 {Z0 ZJ ZB:ag}{i7:Nat}(hJ:ZP Z0 i7 x ZJ)(G':aa ZJ ZB):
 aA prog 74 [.ptr i7 0 0,aM l,vI a] ZB λ_ Z'=>∃L',bB ZJ ZB L' Z'/\ZP Z0 i7 (lp l x a) L':=by
 refine e74.r (by simp[YW]) ?_;have L7:=(gm hb ha).st.head;have MS:=λU=>dT (U:=U) (l:=l) (a:=a) ha;obtain⟨⟨v,J7,Jo⟩,Js,Jn⟩:=hJ;obtain⟨Up,high,body⟩:=x;simp only at hlen h0 h1 h2 h3 J7 Jo;have PG:v.cells=[v]:=by rcases Jo with⟨rfl,_⟩|⟨_,rfl,_⟩<;>rfl
 have c7:=G' _ _ J7;unfold lp;rw[kU ha];simp only;have same:(l[a].st.head<1\/body-l[a].st.head<1)->aE (.LI []) ZB λ_ Z'=>∃L',bB ZJ ZB L' Z'/\ZP Z0 i7 (if l[a].st.head<1\/body-l[a].st.head<1 then⟨Up,high,body⟩else⟨Up++[(a:Int)],high+l[a].st.head,body-l[a].st.head⟩) L':=λh=>by
  rw[aI h];exact⟨_,ZB,aa.refl _,Wk.refl (aa.refl _) _,ZJ,bB.refl G',⟨v,J7,Jo⟩,Js,Jn⟩
 refine ab.mix 7 ?_;have r1:LP .i64 (body-l[a].st.head):=au;have r2:LP .i64 (high+l[a].st.head):=au;by_cases hn:l[a].st.head<1
 .have q1:(l[a].st.head<1)=True:=LH hn;have fin:=same (.inl hn);generalize hX:(if l[a].st.head<1\/body-l[a].st.head<1 then(⟨Up,high,body⟩:Kp)else⟨Up++[(a:Int)],high+l[a].st.head,body-l[a].st.head⟩)=X at*;apply sR;simp only[go_sem,seval,YW,MS,Nd.cells,q1,c7,PG];exact fin
 have q1:(l[a].st.head<1)=False:=Ly hn;by_cases UE:body-l[a].st.head<1
 .have q2:(body-l[a].st.head<1)=True:=LH UE;have fin:=same (.inr UE);generalize hX:(if l[a].st.head<1\/body-l[a].st.head<1 then(⟨Up,high,body⟩:Kp)else⟨Up++[(a:Int)],high+l[a].st.head,body-l[a].st.head⟩)=X at*;apply sR;simp only[go_sem,seval,YW,MS,Nd.cells,q1,r1,q2,c7,PG];exact fin
 have q2:(body-l[a].st.head<1)=False:=Ly UE;rw[aJ (by omega)];clear same;apply sR;simp only[go_sem,seval,YW,MS,Nd.cells,q1,r1,q2,c7,PG];rw[aN];intro Ot f28;have QZ:(Up.map vI).length<=1000000:=by simpa using hlen
 have Mh:((Up++[(a:Int)]).map vI)=Up.map vI++[vI a]:=by simp
 generalize Up.map vI=rows at*;have QL:=(bB.refl G').Er (o:=⟨3,1,[vI (a:Int)]⟩) f28;have y2:E' ZB Ot ⟨3,1,[vI (a:Int)]⟩ i7=_:=(ad (ao c7 f28)).trans c7;have a28:E' ZB Ot ⟨3,1,[vI (a:Int)]⟩ Ot=some ⟨3,1,[vI (a:Int)]⟩:=ak;generalize E' ZB Ot ⟨3,1,[vI (a:Int)]⟩=Z8 at*;obtain⟨LQ,NF,Qk⟩:=Jo.D7 QL.1;have MR:(rows.length+1)*9<=140737488355328:=by omega
 have k2:bW Z0 i7 i7≠none:=λh=>(aW.1 h).1 rfl;have Q6:∀(i:Nat) (Zx:ag),bW Z0 i7 i≠none->Vc.bT Zx LQ i=Zx i:=λi Zx hk=>by
  cases LQ with
  |none=>rfl
  |some a=>exact eT (λe=>hk (by rw[e];exact(Qk a rfl).1))
 simp only[go_sem,seval,NF,fm a28,MR];rw[aN];intro M6 f29;have f29:Z8 M6=none:=f29;have R3:i7≠M6:=ao y2 f29;have Tw:Vc.bT Z8 LQ M6=none:=by
  cases LQ with
  |none=>exact f29
  |some a=>simp only[Vc.bT,del];split<;>first|rfl|exact f29
 have Zt:E' (Vc.bT Z8 LQ) M6 ⟨3,1,rows++[vI (a:Int)]⟩ i7=some ⟨149,3,[.agg [v,vI high,vI body]]⟩:=by rw[ad R3,Q6 _ _ k2];exact y2
 have Zu:=((QL.Gc (e:=LQ) λi h=>(Qk i h).2).new (o:=⟨3,1,rows++[vI (a:Int)]⟩) Tw).set (id:=i7) (o:=⟨149,3,[.agg [v,vI high,vI body]]⟩) (o':=⟨149,3,[.agg [.own M6 0 (rows.length+1),vI (high+l[a].st.head),vI (body-l[a].st.head)]]⟩) (by rw[ad R3,Q6 _ _ k2];exact J7);simp only[go_sem,seval,PG,Zt,r1,r2];refine⟨_,_,aa.refl _,Wk.refl (aa.refl _) _,_,Zu,⟨.own M6 0 (rows.length+1),ak,?_⟩,?_,Jn⟩
 .rw[Mh];refine aQ.new (by simp) (by rw[ad R3.symm,ak]) ?_;rw[aW];refine⟨R3.symm,?_⟩;cases h:Z0 M6 with
  |none=>rfl
  |some o=>rw[QL.1 _ _ (Js _ _ h)]at f29;cases f29
 .refine aa.aG (λi o h=>?_) Jn;have h1:=Js _ _ h;rw[ad (ao (QL.1 _ _ h1) f29),Q6 _ _ (λhk=>by rw[(aW.1 hk).2]at h;cases h)];exact h1
open Go.Proofs Go.Proofs.Tryz
def bwd(L:List Int):List (List V):=(List.range' 0 L.length).map λq=>[vI ((L.length-1-q:Nat):Int),vI (L.getD (L.length-1-q) 0)]
def C7(L:List Int)(hL:L.length<=1000000):Iter prog 108 [.rp (bj L)] (bwd L):=by
 refine⟨I9.c,λL9 τ Jx Z0 hy hJ=>?_⟩;refine(I9.r (by simp[ID]) ?_).2;have hlL:=fC L;have UT:∀(U:ag) (X:List Int),cJ U false 1 (.rp (bj X))=some (bj X):=λU X=>rfl;have r2:LP .i64 ((L.length:Int)-1):=au;refine ab.mix 4 ?_;apply sR;simp only[go_sem,seval,ID,UT,hlL,r2];generalize hT:bwd L=T at hy|-
 let F:Nat->List V:=λq=>[vI ((L.length-1-q:Nat):Int),vI (L.getD (L.length-1-q) 0)]
 have hTF:T=(List.range' 0 L.length).map F:=hT.symm;refine ab.loop (λm st=>∃(j:Nat) (ZJ:ag),j<=L.length/\m=L.length-j/\τ ((List.range' 0 j).map F) ZJ/\aa ZJ st.U/\st.s 0=.yl L9/\st.s 1=.rp (bj L)/\st.s 3=vI ((L.length:Int)-1-j)) L.length ?_ ?_
 .exact⟨0,Z0,by omega,rfl,by simpa using hJ,aa.refl _,rfl,rfl,by simp[aU,mix]⟩
 .rintro m ⟨S,J⟩ ⟨j,ZJ,hj,rfl,Nu,G',t0,t1,t3⟩;simp only at G' t0 t1 t3;refine ab.mix 4 ?_;by_cases Lr:j<L.length
  .obtain⟨i,hi⟩:∃i:Nat,i=L.length-1-j:=⟨_,rfl⟩
   have NS:i<L.length:=by omega
   have t3':S 3=vI (i:Int):=by rw[t3];congr 1;omega
   have q:((i:Int)>=0)=True:=LH;have r1:LP .i64 ((i:Int)-1):=au;have Lv:=λU=>iH (U:=U) NS;have hF:F j=[vI (i:Int),vI L[i]]:=by
    show[vI ((L.length-1-j:Nat):Int),vI (L.getD (L.length-1-j) 0)]=_;rw[<-hi];simp[NS]
   have e:T=((List.range' 0 j).map F)++[vI (i:Int),vI L[i]]::((List.range' (0+j+1) (L.length-j-1)).map F):=by
    rw[hTF,range_split j 0 L.length Lr,gM,fb,ky,hF]
   have Mv:((List.range' 0 (j+1)).map F)=((List.range' 0 j).map F)++[[vI (i:Int),vI L[i]]]:=by rw[qk,gM,ky,fb,hF];rfl
   have q5:(i:Int)-1=(L.length:Int)-1-((j+1:Nat):Int):=by omega
   apply sR;simp only[go_sem,seval,t0,t1,t3',UT,q,Lv];refine ab.oK (Post:=λb' Z2=>∃L',bB ZJ J L' Z2/\((b'=true/\τ (((List.range' 0 j).map F)++[[vI (i:Int),vI L[i]]]) L')\/(b'=false/\Jx (((List.range' 0 j).map F)++[[vI (i:Int),vI L[i]]]) L'))) rfl rfl rfl (hy _ [vI (i:Int),vI L[i]] _ ZJ J e Nu G') ?_;rintro b' Z2 ⟨L',Nv,Nh⟩;rcases Nh with⟨rfl,Nh⟩|⟨rfl,Nh⟩
   .apply sR;simp only[go_sem,seval,t0,t1,t3',r1];refine⟨_,?_,j+1,L',by omega,rfl,by rw[Mv];exact Nh,Nv.1,by simp[t0,t1,q5]⟩;omega
   .apply sR;simp only[go_sem,seval,t0,t1,t3'];exact⟨_,L',Nv.1,Wk.refl Nv.1 _,.inr ⟨_,⟨_,by rw[e,lU];rfl⟩,Nh⟩⟩
  .have Nj:j=L.length:=by omega
   subst Nj;have q:((L.length:Int)-1-(L.length:Int)>=0)=False:=Ly;apply sR;simp only[go_sem,seval,t0,t1,t3,q];exact⟨_,ZJ,G',Wk.refl G' _,.inl (hTF▸Nu)⟩
def I5(L:List Int):bc prog 72 [bj L] (.fn 108 [.rp (bj L)]):=λU=>by
 refine e72.r (by simp[c72]) ?_;refine ab.mix 3 ?_;apply sR;simp only[go_sem,seval,c72,ai,al];refine ae λOv Z1 s1 a1 f1=>?_;simp only[go_sem,seval,ai,al];exact⟨_,U,s1,Wk.fn (vs':=[.rp (bj L)]) ⟨Wk.ptr s1 a1 f1,trivial⟩,rfl,rfl⟩
open Go.Proofs Go.Proofs.Tryz
def sU(x:Kp):V:=.agg [bj x.Ou,vI x.high,vI x.body]
def jl(l:List Nd)(L:List Int)(h:Int):Nat->Kp
 |0=>⟨[],0,h⟩
 |m+1=>lp l (jl l L h m) (L.getD (L.length-1-m) 0)
def AL{l:List Nd}{x:Kp}{a:Int}{m:Nat}{h:Int}(h0:0<=(Pq l a).head)(hx:x.Ou.length<=m/\0<=x.high/\0<=x.body/\x.high+x.body=h):(lp l x a).Ou.length<=m+1/\0<=(lp l x a).high/\0<=(lp l x a).body/\(lp l x a).high+(lp l x a).body=h:=by
 obtain⟨h1,h2,h3,h4⟩:=hx;unfold lp;split
 .exact⟨by omega,h2,h3,h4⟩
 .simp only[kf,MM,List.length_nil];omega
def xh{l:List Nd}(hb:Mj l=true){L:List Int}(hL:∀x∈L,∃n:Nat,x=n/\n<l.length){h:Int}(hh:0<=h):∀m,m<=L.length->(jl l L h m).Ou.length<=m/\0<=(jl l L h m).high/\0<=(jl l L h m).body/\(jl l L h m).high+(jl l L h m).body=h
 |0,_=>by simp[jl];omega
 |m+1,hm=>by
  have ih:=xh hb hL hh m (by omega);rw[jl];refine AL ?_ ih;have Lr:L.length-1-m<L.length:=by omega
  have hg:L.getD (L.length-1-m) 0=L[L.length-1-m]:=by simp[Lr]
  rw[hg];obtain⟨n,hn,OC⟩:=hL _ (ML Lr);rw[hn,kU OC];exact(gm hb OC).st.head.1
def yg(l:List Nd)(a:Nat)(h:Int):Kp:=jl l (PH l a) h (PH l a).length
def CY(l:List Nd)(hl:dV l)(hb:Mj l=true)(hn:l.length<=100000)(a:Nat)(ha:a<l.length)(h:Int)(h0:0<=h)(h1:h<=2199023255552):
 bc prog 39 [aM l,vI a,vI h] (sU (yg l a h)):=λU=>by
 refine e39.r (by simp[c39]) ?_;have hs:=aa.refl U;refine ab.mix 10 ?_;apply sR;simp only[go_sem,seval,c39,af,aF];refine ae λi3 Z3 s3 a3 f3=>?_;have z3:=hs.none f3;replace hs:=hs.trans s3;simp only[go_sem,seval];refine ae λi6 Z6 s6 a6 f6=>?_;have n36:=ao a3 f6;replace a3:=s6 _ _ a3;have z6:=hs.none f6;replace hs:=hs.trans s6;simp only[go_sem,seval,a3,af];refine ae λi7 Z7 s7 a7 f7=>?_;have Ts:i3≠i7:=ao a3 f7;have Pc:i6≠i7:=ao a6 f7;have b3:=s7 _ _ a3;simp only[go_sem,seval,a7,b3,ad Ts,af,aF];have h7:ZP Z6 i7 ⟨[],0,h⟩ (E' Z7 i7 ⟨149,3,[.agg [.bz,vI 0,vI h]]⟩):=⟨⟨.bz,ak,aQ.start⟩,s7.aG f7,f7⟩
 have e3:E' Z7 i7 ⟨149,3,[.agg [.bz,vI 0,vI h]]⟩ i3=_:=(ad Ts).trans b3;generalize E' Z7 i7 ⟨149,3,[.agg [.bz,vI 0,vI h]]⟩=Y7 at*;refine ab.aC rfl rfl rfl (vT l hl hb hn a ha _) ?_;have T':∀x∈PH l a,∃n:Nat,x=n/\n<l.length:=λx hx=>by
  obtain⟨n,h1,h2⟩:=vx ha x hx;exact⟨n,h1,by omega⟩
 have hlL:(PH l a).length<=l.length+1:=jh _ _ _;unfold yg;generalize PH l a=L at*;apply sR;simp only[go_sem,seval];refine ab.aC rfl rfl rfl (I5 L _) ?_;apply sR;simp only[go_sem,seval];generalize hS:mix 10 _ _=S;have S3:S 3=.ptr i3 0 0:=by rw[<-hS];rfl
 have S6:S 6=.ptr i6 0 0:=by rw[<-hS];rfl
 have S7:S 7=.ptr i7 0 0:=by rw[<-hS];rfl
 have S16:S 16=.fn 108 [.rp (bj L)]:=by rw[<-hS];rfl
 clear hS;refine ab.fK (g:=.t 16) (caps:=[.rp (bj L)]) S16 (C7 L (by omega)) (λy hy=>?_) [] (λpre ZJ=>ZP Z6 i7 (jl l L h pre.length) ZJ)
  (λ_ _ _=>False) ?_ ?_ ?_ ?_ ?_
 .obtain⟨t,_,rfl⟩:=gO.1 hy;rfl
 .exact h7
 .rintro pre y post ZJ ZB N1 hJ G';have Qi:pre.length<L.length:=by
   have:=congrArg List.length N1;simp[bwd]at this;omega
  obtain⟨i,hi⟩:∃i:Nat,i=L.length-1-pre.length:=⟨_,rfl⟩
  have NS:i<L.length:=by omega
  have hy:y=[vI (i:Int),vI (L.getD i 0)]:=by
   have h1:(bwd L)[pre.length]?=some y:=by rw[N1];simp
   simp[bwd,Qi]at h1;rw[<-h1,hi];simp
  have hlen:(pre++[y]).length=pre.length+1:=by simp
  have hinv:=xh hb T' h0 pre.length (by omega);have L8:jl l L h (pre.length+1)=lp l (jl l L h pre.length) (L.getD i 0):=by rw[jl,hi]
  have hg:L.getD i 0=L[i]:=by simp[NS]
  obtain⟨n,LR,OC⟩:=T' _ (ML NS);rw[hlen,L8,hg,LR];rw[hg,LR]at hy;subst hy;generalize jl l L h pre.length=x at*;have c3:=G' _ _ (hJ.sub _ _ a3);generalize NN:nj S [17,18] [vI (i:Int),vI (n:Int)]=S0;have T3:S0 3=.ptr i3 0 0:=by rw[<-NN];exact S3
  have T7:S0 7=.ptr i7 0 0:=by rw[<-NN];exact S7
  have T18:S0 18=vI (n:Int):=by rw[<-NN];rfl
  clear NN;refine ab.mix 10 ?_;apply sR;simp only[go_sem,seval,T3,T7,T18];apply sR;simp only[go_sem,seval,T3,T7,T18,c3,af];have hc:=El l hb x (by omega) (by omega) (by omega) (by omega) (by omega) n OC hJ G';rw[<-T7]at hc;refine ab.call rfl rfl rfl hc ?_;rintro-Z2 ⟨L',hB,OH⟩;apply sR;simp only[go_sem,seval];exact⟨_,hB,OH⟩
 .rintro Z' hJ;have ME:(bwd L).length=L.length:=by simp[bwd]
  rw[ME]at hJ;obtain⟨⟨v,J7,Jo⟩,Js,Jn⟩:=hJ;have PG:v.cells=[v]:=by rcases Jo with⟨rfl,_⟩|⟨_,rfl,_⟩<;>rfl
  have e6:=Js _ _ a6;refine ab.mix 10 ?_;apply sR;simp only[go_sem,seval,S6,S7,J7,e6,PG];have L8:=(hs.trans Js).aG (o:=⟨105,3,[.agg [v,vI (jl l L h L.length).high,vI (jl l L h L.length).body]]⟩) z6;have Jo':aQ (bW Z6 i7) (E' Z' i6 ⟨105,3,[.agg [v,vI (jl l L h L.length).high,vI (jl l L h L.length).body]]⟩) 3 1 v ((jl l L h L.length).Ou.map vI):=by
   rcases Jo with h|⟨id,g1,g2,g3⟩
   .exact .inl h
   .refine .inr ⟨id,g1,?_,g3⟩;rw[ad (λe=>by rw[e,aW]at g3;rw[a6]at g3;cases g3.2)];exact g2
  have hK:aa U (bW Z6 i7):=λi o hh=>by
   rw[bW,aJ (λe=>by rw[e,hs.none f7]at hh;cases hh)];exact hs _ _ hh
  exact⟨_,U,L8,Wk.agg (vs':=[bj (jl l L h L.length).Ou,vI (jl l L h L.length).high,vI (jl l L h L.length).body]) ⟨Jo'.wk hK L8,Wk.refl L8 _,Wk.refl L8 _,trivial⟩,rfl,rfl⟩
 .intro id h;cases h
 .rintro pre Z' _ ⟨⟩
open Go.Proofs Go.Proofs.Tryz
def iS(l:List Nd)(h:Int):Bool:=decide (1<=h/\h<=1099511627776)&&Mj l
def CU(l:List Nd)(hl:dV l)(h:Int):bc prog 38 [aM l,vI h] (.bool (iS l h)):=λU=>by
 refine e38.r (by simp[c38]) ?_;refine ab.mix 5 ?_;apply sR;simp only[go_sem,seval,c38];refine ab.aC rfl rfl rfl (pz h _) ?_;unfold iS;cases hd:decide (1<=h/\h<=1099511627776)
 .apply sR;simp only[go_sem,seval];exact aE.same (by simp)
 .apply sR;simp only[go_sem,seval];refine ab.aC rfl rfl rfl (Av l hl _) ?_;apply sR;simp only[go_sem,seval];exact aE.same (by simp)
def uH(l:List Nd)(a h:Int):Kp:=if iS l h=true/\0<=a/\a<l.length then yg l a.toNat h else⟨[],0,0⟩
def Jl(l:List Nd)(hl:dV l)(a h:Int):bc prog 43 [aM l,vI a,vI h] (sU (uH l a h)):=λU=>by
 refine e43.r (by simp[c43]) ?_;have hs:=aa.refl U;have QK:=eX l;have hn:l.length<=100000:=by have:=hl.1;omega
 refine ab.mix 7 ?_;apply sR;simp only[go_sem,seval,c43];refine ae λi6 Z6 s6 a6 f6=>?_;have z6:=hs.none f6;replace hs:=hs.trans s6;simp only[go_sem,seval];refine ab.aC rfl rfl rfl (CU l hl h _) ?_;have bad:¬(iS l h=true/\0<=a/\a<l.length)->aE (.agg [.bz,vI 0,vI 0]) Z6 λr Z'=>r=sU (uH l a h)/\Z'=U:=λhb=>by
  rw[uH,aJ hb];exact⟨_,U,hs,Wk.agg (vs':=[bj [],vI 0,vI 0]) ⟨Wk.bz 1,Wk.refl hs _,Wk.refl hs _,trivial⟩,rfl,rfl⟩
 have US:E' Z6 i6 ⟨105,3,[.agg [.bz,vI 0,vI 0]]⟩=Z6:=by
  funext i;by_cases hi:i=i6
  .rw[hi,ak];exact a6.symm
  .rw[ad hi]
 cases hm:iS l h
 .have fin:=bad (by simp[hm]);apply sR;simp only[go_sem,seval,a6];rw[US];exact fin
 by_cases h0:a<0
 .have q0:(a<0)=True:=LH h0;have fin:=bad (by omega);apply sR;simp only[go_sem,seval,a6,q0];rw[US];exact fin
 have q0:(a<0)=False:=Ly h0;by_cases h1:a>=l.length
 .have q1:(a>=l.length)=True:=LH h1;have fin:=bad (by omega);apply sR;simp only[go_sem,seval,a6,q0,q1,QK];rw[US];exact fin
 have q1:(a>=l.length)=False:=Ly h1;clear bad US;obtain⟨n,rfl⟩:∃n:Nat,a=n:=⟨a.toNat,by omega⟩
 have hb:Mj l=true:=by unfold iS at hm;simp at hm;exact hm.2
 have hh:1<=h/\h<=1099511627776:=by unfold iS at hm;simp at hm;exact hm.1
 have hr:uH l n h=yg l n h:=by rw[uH,aI ⟨hm,by omega,by omega⟩,gX]
 rw[hr];apply sR;simp only[go_sem,seval,a6,q0,q1,QK];refine ab.aC rfl rfl rfl (CY l hl hb hn n (by omega) h (by omega) (by omega) _) ?_;apply sR;simp only[go_sem,seval,a6,sU,ai,al];exact aE.pure (hs.aG z6) rfl
def ia(l:List Nd)(h:Int):Nat->Int
 |0=>h
 |j+1=>if(LW l j).kind=2\/(LW l j).kind=3 then min (ia l h j) (yg l j h).body else ia l h j
def cY(l:List Nd)(h:Int):Int:=if iS l h=true then ia l h l.length else 0
def yy(l:List Nd)(hl:dV l)(h:Int):bc prog 14 [aM l,vI h] (vI (cY l h)):=λU=>by
 refine e14.r (by simp[c14]) ?_;have hs:=aa.refl U;have QK:=eX l;have hn:l.length<=100000:=by have:=hl.1;omega
 refine ab.mix 8 ?_;apply sR;simp only[go_sem,seval,c14];refine ab.aC rfl rfl rfl (CU l hl h _) ?_;unfold cY;cases hm:iS l h
 .apply sR;simp only[go_sem,seval];exact aE.same rfl
 have hb:Mj l=true:=by unfold iS at hm;simp at hm;exact hm.2
 have hh:1<=h/\h<=1099511627776:=by unfold iS at hm;simp at hm;exact hm.1
 rw[aI rfl];apply sR;simp only[go_sem,seval,QK];refine ab.loop (λm st=>∃j:Nat,j<=l.length/\m=l.length-j/\aa U st.U/\st.s 0=aM l/\st.s 1=vI h/\st.s 5=vI (ia l h j)/\st.s 13=aM l/\st.s 14=vI l.length/\st.s 15=vI j) l.length ?_ ?_
 .exact⟨0,by omega,rfl,hs,rfl,rfl,rfl,rfl,rfl,rfl⟩
 .clear hs;rintro m ⟨S,J⟩ ⟨j,hj,rfl,hs,t0,t1,t5,t13,t14,t15⟩;simp only at hs t0 t1 t5 t13 t14 t15;refine ab.mix 8 ?_;by_cases Lr:j<l.length
  .have q:((j:Int)<l.length)=True:=LH;have r1:LP .i64 ((j:Int)+1):=au;have MS:=λU=>dT (U:=U) (l:=l) (a:=j) Lr;have L8:ia l h (j+1)=if l[j].kind=2\/l[j].kind=3 then min (ia l h j) (yg l j h).body else ia l h j:=by rw[ia,iQ Lr]
   apply sR;simp only[go_sem,seval,t0,t1,t5,t13,t14,t15,q,MS,Nd.cells];refine ae λi7 Z7 s7 a7 f7=>?_;by_cases hk:l[j].kind=2
   .have q1:(l[j].kind=2)=True:=LH hk;simp only[go_sem,seval,a7,q1,t0,t1,t5,t13,t14,t15,ai,al];refine ab.aC rfl rfl rfl (CY l hl hb hn j Lr h (by omega) (by omega) _) ?_;apply sR;simp only[go_sem,seval,t0,t1,t5,t13,t14,t15,sU,r1,gB,ai,al];refine⟨_,?_,j+1,by omega,rfl,hs.trans (s7.aG f7),by simp[t0,t1,t13,t14,L8,hk]⟩;omega
   .have q1:(l[j].kind=2)=False:=Ly hk;by_cases PQ:l[j].kind=3
    .have q2:(l[j].kind=3)=True:=LH PQ;have hk:=PQ;simp only[go_sem,seval,a7,q1,q2,t0,t1,t5,t13,t14,t15,ai,al];refine ab.aC rfl rfl rfl (CY l hl hb hn j Lr h (by omega) (by omega) _) ?_;apply sR;simp only[go_sem,seval,t0,t1,t5,t13,t14,t15,sU,r1,gB,ai,al];refine⟨_,?_,j+1,by omega,rfl,hs.trans (s7.aG f7),by simp[t0,t1,t13,t14,L8,hk]⟩;omega
    .have q2:(l[j].kind=3)=False:=Ly PQ;simp only[go_sem,seval,a7,q1,q2,t0,t1,t5,t13,t14,t15,r1,ai,al];refine⟨_,?_,j+1,by omega,rfl,hs.trans (s7.aG f7),by simp[t0,t1,t13,t14,L8,hk,PQ]⟩;omega
  .have q:((j:Int)<l.length)=False:=Ly;have Nj:j=l.length:=by omega
   apply sR;simp only[go_sem,seval,t0,t1,t5,t13,t14,t15,q];exact aE.pure hs (by rw[Nj])
open Go.Proofs Go.Proofs.Tryz
def ar(l:List My):(bX l).cells=[bX l]:=rfl
def aq(l:List My):(bX l).stays=true:=rfl
def ny(l:List My):eK false (bX l)=some (.int .i64 l.length):=by simp[bX,eK]
def jC{U:ag}{l:List My}{i:Nat}(h:i<l.length):bN U 8 (bX l) (.int .i64 i)=some (.rp (dH l[i])):=by simp[bX,bN,h,dH]
structure oz(l:List My):Prop where
 len:l.length<=1000000000
 R1:∀a∈l,-1152921504606846976<=a.y/\a.y<=1152921504606846976/\0<=a.h/\a.h<=1152921504606846976
def vH(l:List My)(k:Int):bc prog 112 [bX l,vI k] (.bool (decide (0<=k/\k<l.length))):=λU=>by
 refine JO.r (by simp[BY]) ?_;have hl:=ny l;refine ab.mix 5 ?_;by_cases h0:k>=0
 .have q0:(k>=0)=True:=LH h0;by_cases h1:k<l.length
  .have q1:(k<l.length)=True:=LH h1;apply sR;simp only[go_sem,seval,BY,q0,q1,hl];exact aE.same (by simp[h0,h1])
  .have q1:(k<l.length)=False:=Ly h1;apply sR;simp only[go_sem,seval,BY,q0,q1,hl];exact aE.same (by simp[h1])
 .have q0:(k>=0)=False:=Ly h0;apply sR;simp only[go_sem,seval,BY,q0,hl];exact aE.same (by simp<;>omega)
def BH(a:My)(h:-1152921504606846976<=a.y/\a.y<=1152921504606846976/\0<=a.h/\a.h<=1152921504606846976):bc prog 136 [dH a] (vI (a.y+a.h)):=λU=>by
 refine JC.r (by simp[Gl]) ?_;have hs:=aa.refl U;have r1:LP .i64 (a.y+a.h):=au;refine ab.mix 3 ?_;apply sR;simp only[go_sem,seval,Gl,dH];refine ae λi1 Z1 s1 a1 f1=>?_;have z1:=hs.none f1;replace hs:=hs.trans s1;simp only[go_sem,seval,a1,r1];exact aE.pure hs rfl
def N4(l:List My)(k:Int):My:=l.getD k.toNat ⟨0,0,0,0,0,0,0,0⟩
def iC(l:List My)(k:Int):Int:=if 0<=k/\k<l.length then(N4 l k).y+(N4 l k).h else 0
def oq(l:List My)(k:Int):Int:=if 0<=k/\k<l.length then(N4 l k).y-iC l (k-1)else 0
def gC(l:List My)(i k:Int):Int:=if(0<=i/\i<l.length)/\(0<=k/\k<l.length)then(N4 l k).y-(N4 l i).y else 0
def cc{l:List My}{k:Nat}(h:k<l.length):N4 l k=l[k]:=by simp[N4,h]
def qg{l:List My}(hl:oz l)(k:Int):-1152921504606846976<=iC l k/\iC l k<=2305843009213693952:=by
 unfold iC;split
 .rename_i h;obtain⟨n,rfl⟩:∃n:Nat,k=n:=⟨k.toNat,by omega⟩
  have hn:n<l.length:=by omega
  rw[cc hn];have:=hl.R1 _ (ML hn);omega
 .omega
def A7(l:List My)(hl:oz l)(k:Int):bc prog 113 [bX l,vI k] (vI (iC l k)):=λU=>by
 refine JR.r (by simp[F8]) ?_;refine ab.mix 5 ?_;apply sR;simp only[go_sem,seval,F8];refine ab.aC rfl rfl rfl (vH l k _) ?_;unfold iC;by_cases h:0<=k/\k<l.length
 .obtain⟨n,rfl⟩:∃n:Nat,k=n:=⟨k.toNat,by omega⟩
  have hn:n<l.length:=by omega
  have hd:decide (0<=(n:Int)/\(n:Int)<l.length)=true:=by simp;omega
  have Lv:=λU=>jC (U:=U) hn;rw[hd,aI h,cc hn];apply sR;simp only[go_sem,seval,Lv,dH];refine ab.aC rfl rfl rfl (BH l[n] (hl.R1 _ (ML hn)) _) ?_;apply sR;simp only[go_sem,seval];exact aE.same rfl
 .have hd:decide (0<=k/\k<l.length)=false:=by simpa using h
  rw[hd,aJ h];apply sR;simp only[go_sem,seval];exact aE.same rfl
def Hy(l:List My)(hl:oz l)(k:Int):bc prog 78 [bX l,vI k] (vI (oq l k)):=λU=>by
 refine e78.r (by simp[c78]) ?_;refine ab.mix 5 ?_;apply sR;simp only[go_sem,seval,c78];refine ab.aC rfl rfl rfl (vH l k _) ?_;unfold oq;by_cases h:0<=k/\k<l.length
 .obtain⟨n,rfl⟩:∃n:Nat,k=n:=⟨k.toNat,by omega⟩
  have hn:n<l.length:=by omega
  have hd:decide (0<=(n:Int)/\(n:Int)<l.length)=true:=by simp;omega
  have Lv:=λU=>jC (U:=U) hn;have XZ:=hl.len;have hy:=hl.R1 _ (ML hn);have VO:=qg hl ((n:Int)-1);have r1:LP .i64 ((n:Int)-1):=au;have r2:LP .i64 (l[n].y-iC l ((n:Int)-1)):=au;rw[hd,aI h,cc hn];apply sR;simp only[go_sem,seval,Lv,dH,r1];refine Go.cN rfl rfl rfl (A7 l hl ((n:Int)-1)) ?_;apply sG;simp only[go_sem,seval,r2];exact aE.same rfl
 .have hd:decide (0<=k/\k<l.length)=false:=by simpa using h
  rw[hd,aJ h];apply sR;simp only[go_sem,seval];exact aE.same rfl
def AI(l:List My)(hl:oz l)(i k:Int):bc prog 114 [bX l,vI i,vI k] (vI (gC l i k)):=λU=>by
 refine Lm.r (by simp[Ho]) ?_;refine ab.mix 8 ?_;apply sR;simp only[go_sem,seval,Ho];refine ab.aC rfl rfl rfl (vH l i _) ?_;unfold gC;by_cases h:0<=i/\i<l.length
 .have hd:decide (0<=i/\i<l.length)=true:=by simp;omega
  rw[hd];apply sR;simp only[go_sem,seval];refine ab.aC rfl rfl rfl (vH l k _) ?_;by_cases h2:0<=k/\k<l.length
  .obtain⟨m,rfl⟩:∃m:Nat,i=m:=⟨i.toNat,by omega⟩
   obtain⟨n,rfl⟩:∃n:Nat,k=n:=⟨k.toNat,by omega⟩
   have hm:m<l.length:=by omega
   have hn:n<l.length:=by omega
   have RB:decide (0<=(n:Int)/\(n:Int)<l.length)=true:=by simp;omega
   have Lv:=λU=>jC (U:=U) hn;have ZQ:=λU=>jC (U:=U) hm;have hy:=hl.R1 _ (ML hn);have hy2:=hl.R1 _ (ML hm);have r1:LP .i64 (l[n].y-l[m].y):=au;rw[RB,aI ⟨h,h2⟩,cc hn,cc hm];apply sR;simp only[go_sem,seval,Lv,ZQ,dH,r1];exact aE.same rfl
  .have RB:decide (0<=k/\k<l.length)=false:=by simpa using h2
   rw[RB,aJ (λh=>h2 h.2)];apply sR;simp only[go_sem,seval];exact aE.same rfl
 .have hd:decide (0<=i/\i<l.length)=false:=by simpa using h
  rw[hd,aJ (λh'=>h h'.1)];apply sR;simp only[go_sem,seval];exact aE.same rfl
open Go.Proofs Go.Proofs.Tryz
structure Lu where
 (atom done:Int)
 free:Bool
def aH(s:Lu):V:=.agg [vI s.atom,vI s.done,.bool s.free]
def tK(s:Lu)(l:List My):V:=.agg [vI s.atom,vI s.done,.bool s.free,bX l]
def et(l:List My)(s:Lu):Prop:=(0<=s.atom/\s.atom<l.length)/\0<=s.done/\(s.done=0\/s.done<(N4 l s.atom).h)
instance (l:List My) (s:Lu):Decidable (et l s):=by unfold et;infer_instance
def DC(l:List My)(s:Lu):bc prog 77 [tK s l] (.bool (decide (et l s))):=λU=>by
 refine e77.r (by simp[c77]) ?_;have hs:=aa.refl U;have hl:=ny l;obtain⟨a,d,fr⟩:=s;refine ab.mix 3 ?_;apply sR;simp only[go_sem,seval,c77,tK,ar,aq];refine ae λi1 Z1 s1 a1 f1=>?_;have z1:=hs.none f1;replace hs:=hs.trans s1;by_cases h0:a>=0
 .have q0:(a>=0)=True:=LH h0;by_cases h1:a<l.length
  .have q1:(a<l.length)=True:=LH h1;obtain⟨n,rfl⟩:∃n:Nat,a=n:=⟨a.toNat,by omega⟩
   have hn:n<l.length:=by omega
   have Lv:=λU=>jC (U:=U) hn;have hg:=cc hn;by_cases h2:d>=0
   .have q2:(d>=0)=True:=LH h2;by_cases h3:d=0
    .have q3:(d=0)=True:=LH h3;simp only[go_sem,seval,a1,q0,q1,q2,q3,hl,ar,aq];have hh:et l ⟨n,d,fr⟩:=⟨⟨h0,h1⟩,h2,.inl h3⟩
     exact aE.pure hs (by rw[NA hh])
    .have q3:(d=0)=False:=Ly h3;by_cases h4:d<l[n].h
     .have q4:(d<l[n].h)=True:=LH h4;simp only[go_sem,seval,a1,q0,q1,q2,q3,q4,hl,Lv,dH,ar,aq];have hh:et l ⟨n,d,fr⟩:=⟨⟨h0,h1⟩,h2,.inr (by rw[hg];exact h4)⟩
      exact aE.pure hs (by rw[NA hh])
     .have q4:(d<l[n].h)=False:=Ly h4;simp only[go_sem,seval,a1,q0,q1,q2,q3,q4,hl,Lv,dH,ar,aq];exact aE.pure hs (by rw[Nz (λh:et l ⟨n,d,fr⟩=>by rcases h.2.2 with h|h;exact h3 h;rw[hg]at h;exact h4 h)])
   .have q2:(d>=0)=False:=Ly h2;simp only[go_sem,seval,a1,q0,q1,q2,hl,ar,aq];exact aE.pure hs (by rw[Nz (λh:et l ⟨n,d,fr⟩=>h2 h.2.1)])
  .have q1:(a<l.length)=False:=Ly h1;simp only[go_sem,seval,a1,q0,q1,hl,ar,aq];exact aE.pure hs (by rw[Nz (λh:et l ⟨a,d,fr⟩=>h1 h.1.2)])
 .have q0:(a>=0)=False:=Ly h0;simp only[go_sem,seval,a1,q0,hl,ar,aq];exact aE.pure hs (by rw[Nz (λh:et l ⟨a,d,fr⟩=>h0 h.1.1)])
def uT(l:List My)(s:Lu):bc prog 75 [bX l,aH s] (.bool (decide (et l s))):=λU=>by
 refine e75.r (by simp[c75]) ?_;have hs:=aa.refl U;have hc:=DC l s;obtain⟨a,d,fr⟩:=s;rw[tK]at hc;refine ab.mix 5 ?_;apply sR;simp only[go_sem,seval,c75,aH,ar,aq];refine ae λi3 Z3 s3 a3 f3=>?_;have z3:=hs.none f3;replace hs:=hs.trans s3;simp only[go_sem,seval,a3,ar,aq];refine ab.aC rfl rfl rfl (hc _) ?_;apply sR;simp only[go_sem,seval];exact aE.pure hs rfl
def D8(l:List My)(hl:oz l)(s:Lu)(h:et l s)(hd:s.done<=1152921504606846976):bc prog 79 [tK s l] (vI ((N4 l s.atom).h-s.done)):=λU=>by
 refine e79.r (by simp[c79]) ?_;have hs:=aa.refl U;obtain⟨a,d,fr⟩:=s;obtain⟨⟨h0,h1⟩,h2,h3⟩:=h;simp only at h0 h1 h2 h3 hd|-;obtain⟨n,rfl⟩:∃n:Nat,a=n:=⟨a.toNat,by omega⟩
 have hn:n<l.length:=by omega
 have Lv:=λU=>jC (U:=U) hn;have hy:=hl.R1 _ (ML hn);rw[cc hn];have r1:LP .i64 (l[n].h-d):=au;refine ab.mix 3 ?_;apply sR;simp only[go_sem,seval,c79,tK,ar,aq];refine ae λi1 Z1 s1 a1 f1=>?_;have z1:=hs.none f1;replace hs:=hs.trans s1;simp only[go_sem,seval,a1,Lv,r1,dH,ar,aq];exact aE.pure hs rfl
def kA(l:List My)(s:Lu)(L4:Int):Int:=if et l s/\s.free=true/\s.done=0/\oq l s.atom+((N4 l s.atom).h-s.done)<=L4 then oq l s.atom else 0
def DV{l:List My}(hl:oz l)(k:Int):-3458764513820540928<=oq l k/\oq l k<=2305843009213693952:=by
 unfold oq;have hb:=qg hl (k-1);split
 .rename_i h;obtain⟨n,rfl⟩:∃n:Nat,k=n:=⟨k.toNat,by omega⟩
  have hn:n<l.length:=by omega
  rw[cc hn];have:=hl.R1 _ (ML hn);omega
 .omega
def Ff(l:List My)(hl:oz l)(s:Lu)(L4:Int):bc prog 44 [bX l,aH s,vI L4] (vI (kA l s L4)):=λU=>by
 refine e44.r (by simp[c44]) ?_;have hs:=aa.refl U;have hc:=DC l s;have Un:=λh hd=>D8 l hl s h hd;have hgr:=DV hl s.atom;obtain⟨a,d,fr⟩:=s;rw[tK]at hc Un;simp only at hgr Un;refine ab.mix 9 ?_;apply sR;simp only[go_sem,seval,c44,aH,ar,aq];refine ae λi4 Z4 s4 a4 f4=>?_;have z4:=hs.none f4;replace hs:=hs.trans s4;simp only[go_sem,seval,a4,ar,aq];refine ae λi7 Z7 s7 a7 f7=>?_;have n47:=ao a4 f7;replace a4:=s7 _ _ a4;have z7:=hs.none f7;replace hs:=hs.trans s7;simp only[go_sem,seval,a7,a4,ar,aq];refine ab.aC rfl rfl rfl (hc _) ?_;have bad:¬(et l ⟨a,d,fr⟩/\fr=true/\d=0/\oq l a+((N4 l a).h-d)<=L4)->kA l ⟨a,d,fr⟩ L4=0:=λh=>aJ h;by_cases hm:et l ⟨a,d,fr⟩
 .rw[NA hm];cases fr
  .apply sR;simp only[go_sem,seval,a7,ar,aq];exact aE.pure (hs.aG z7) (by rw[bad (λh=>by cases h.2.1)])
  have PB:=hm.2.1;simp only at PB;by_cases hd:d>0
  .have q:(d>0)=True:=LH hd;apply sR;simp only[go_sem,seval,a7,q,ar,aq];exact aE.pure (hs.aG z7) (by rw[bad (λh=>by have:=h.2.2.1;omega)])
  .have q:(d>0)=False:=Ly hd;obtain rfl:d=0:=by omega
   apply sR;simp only[go_sem,seval,a7,q,ar,aq];refine ab.aC rfl rfl rfl (Hy l hl a _) ?_;have hlf':=Un hm (by omega);have hy:0<=(N4 l a).h/\(N4 l a).h<=1152921504606846976:=by
    obtain⟨h0,h1⟩:=hm.1;simp only at h0 h1;obtain⟨n,rfl⟩:∃n:Nat,a=n:=⟨a.toNat,by omega⟩
    have hn:n<l.length:=by omega
    rw[cc hn];exact(hl.R1 _ (ML hn)).2.2
   have r1:LP .i64 (oq l a+((N4 l a).h-0)):=au;apply sR;simp only[go_sem,seval,a7,ak,ar,aq];refine ab.aC rfl rfl rfl (hlf' _) ?_;by_cases h4:oq l a+((N4 l a).h-0)<=L4
   .have q4:(oq l a+((N4 l a).h-0)<=L4)=True:=LH h4;have hk:kA l ⟨a,0,true⟩ L4=oq l a:=aI ⟨hm,rfl,rfl,h4⟩;rw[hk];apply sR;simp only[go_sem,seval,r1,q4];exact aE.pure (hs.aG z7) rfl
   .have q4:(oq l a+((N4 l a).h-0)<=L4)=False:=Ly h4;rw[bad (λh=>h4 h.2.2.2)];apply sR;simp only[go_sem,seval,r1,q4];exact aE.pure (hs.aG z7) rfl
 .rw[Nz hm];apply sR;simp only[go_sem,seval,a7,ar,aq];exact aE.pure (hs.aG z7) (by rw[bad (λh=>hm h.1)])
open Go.Proofs Go.Proofs.Tryz
def ic(l:List My)(s:Lu)(kept shift k:Int):Int:=if et l s/\s.atom<=k/\k<l.length then gC l s.atom k-s.done+kept+shift else 0
def pX{l:List My}(hl:oz l)(i k:Int):-2305843009213693952<=gC l i k/\gC l i k<=2305843009213693952:=by
 unfold gC;split
 .rename_i h;obtain⟨n,rfl⟩:∃n:Nat,k=n:=⟨k.toNat,by omega⟩
  obtain⟨m,rfl⟩:∃m:Nat,i=m:=⟨i.toNat,by omega⟩
  have hn:n<l.length:=by omega
  have hm:m<l.length:=by omega
  rw[cc hn,cc hm];have h1:=hl.R1 _ (ML hn);have h2:=hl.R1 _ (ML hm);omega
 .omega
def B4(l:List My)(hl:oz l)(s:Lu)(hd:s.done<=1152921504606846976)(kept shift k:Int)(hk:-1152921504606846976<=kept/\kept<=2305843009213693952)(UO:0<=shift/\shift<=1152921504606846976):
 bc prog 82 [bX l,aH s,vI kept,vI shift,vI k] (vI (ic l s kept shift k)):=λU=>by
 refine e82.r (by simp[c82]) ?_;have hs:=aa.refl U;have hc:=uT l s;have hor:=pX hl s.atom k;have hlen:=ny l;have bad:¬(et l s/\s.atom<=k/\k<l.length)->ic l s kept shift k=0:=λh=>aJ h;have TG:(et l s/\s.atom<=k/\k<l.length)->ic l s kept shift k=gC l s.atom k-s.done+kept+shift:=λh=>aI h;generalize ic l s kept shift k=P at*;obtain⟨a,d,fr⟩:=s;rw[aH]at hc;simp only at hor hd TG bad;refine ab.mix 11 ?_;apply sR;simp only[go_sem,seval,c82,aH,ar,aq];refine ae λi6 Z6 s6 a6 f6=>?_;have z6:=hs.none f6;replace hs:=hs.trans s6;simp only[go_sem,seval,a6,ar,aq];refine ab.aC rfl rfl rfl (hc _) ?_;by_cases hm:et l ⟨a,d,fr⟩
 .rw[NA hm];by_cases h1:k<a
  .have q1:(k<a)=True:=LH h1;apply sR;simp only[go_sem,seval,a6,q1,ar,aq];exact aE.pure hs (by rw[bad (λh=>by omega)])
  have q1:(k<a)=False:=Ly h1;by_cases h2:k>=l.length
  .have q2:(k>=l.length)=True:=LH h2;apply sR;simp only[go_sem,seval,a6,q1,q2,hlen,ar,aq];exact aE.pure hs (by rw[bad (λh=>by omega)])
  have q2:(k>=l.length)=False:=Ly h2;rw[TG ⟨hm,by omega,by omega⟩];have PB:=hm.2.1;simp only at PB;have r1:LP .i64 (gC l a k-d):=au;have r2:LP .i64 (gC l a k-d+kept):=au;have r3:LP .i64 (gC l a k-d+kept+shift):=au;apply sR;simp only[go_sem,seval,a6,q1,q2,hlen,ar,aq];refine Go.cN rfl rfl rfl (AI l hl a k) ?_;apply sG;simp only[go_sem,seval,a6,r1,r2,r3];exact aE.pure hs rfl
 .rw[Nz hm];apply sR;simp only[go_sem,seval,a6,ar,aq];exact aE.pure hs (by rw[bad (λh=>hm h.1)])
open Go.Proofs Go.Proofs.Tryz
def EK{m:Int}(h1:0<=m)(h2:m<=18446744073709551615):LP .u64 m:=by
 unfold LP IntKind.wrap;simp only[IntKind.signed,IntKind.bits];simp;omega
def kc(p:Nat->Bool):Nat->Nat->Nat->Nat
 |0,i,_=>i
 |f+1,i,j=>if i<j then if p ((i+j)/2)then kc p f i ((i+j)/2)else kc p f ((i+j)/2+1) j else i
def zA(p:Nat->Bool)(n:Nat):Nat:=kc p n 0 n
def ml(p:Nat->Bool):∀(f g i j:Nat),j-i<=f->j-i<=g->kc p f i j=kc p g i j
 |0,0,_,_,_,_=>rfl
 |0,g+1,i,j,h,_=>by rw[kc,kc,aJ (by omega)]
 |f+1,0,i,j,_,h=>by rw[kc,kc,aJ (by omega)]
 |f+1,g+1,i,j,h1,h2=>by
  rw[kc,kc];split
  .rename_i Lr;split
   .exact ml p f g i ((i+j)/2) (by omega) (by omega)
   .exact ml p f g ((i+j)/2+1) j (by omega) (by omega)
  .rfl
def Dq{f:FuncId}{caps:List V}(p:Nat->Bool)(n:Nat)(hn:n<=1000000000){U:ag}(hf:∀i:Nat,i<n->aA prog f (vI i::caps) U λr Z'=>r=.bool (p i)/\Z'=U):
 aA prog 80 [vI n,.fn f caps] U λr Z'=>r=vI (zA p n)/\Z'=U:=by
 refine e80.r (by simp[c80]) ?_;refine ab.mix 8 ?_;apply sR;simp only[go_sem,seval,c80];refine ab.loop (λm st=>∃i j:Nat,i<=j/\j<=n/\m=j-i/\zA p n=kc p (j-i) i j/\st.U=U/\st.s 1=.fn f caps/\st.s 5=vI i/\st.s 6=vI j) n ?_ ?_
 .exact⟨0,n,by omega,by omega,rfl,rfl,rfl,rfl,rfl,rfl⟩
 .rintro m ⟨S,J⟩ ⟨i,j,Tr,ZR,rfl,heq,L6,t1,t5,t6⟩;simp only at L6 t1 t5 t6;subst L6;refine ab.mix 8 ?_;by_cases Lr:i<j
  .have q:((i:Int)<j)=True:=LH;have r1:LP .i64 ((i:Int)+j):=au;apply sR;simp only[go_sem,seval,t1,t5,t6,q,r1];have hh:((i:Int)+j).fdiv (2^min 1 64)=(((i+j)/2:Nat):Int):=by
    rw[show(2^min 1 64:Int)=2 from rfl,Int.fdiv_eq_ediv_of_nonneg _ (by decide)];omega
   rw[hh];refine⟨EK (by omega) (by omega),au,?_⟩;obtain⟨k,hk⟩:∃k:Nat,k=(i+j)/2:=⟨_,rfl⟩
   rw[<-hk];obtain⟨w,hw⟩:∃w:Nat,j-i=w+1:=⟨j-i-1,by omega⟩
   rw[hw,kc,aI Lr,<-hk]at heq;refine ab.aC rfl rfl rfl (hf k (by omega)) ?_;have r2:LP .i64 ((k:Int)+1):=au;cases hp:p k
   .rw[hp]at heq;apply sR;simp only[go_sem,seval,t1,t5,t6,r2];refine⟨_,?_,k+1,j,by omega,ZR,rfl,?_,by simp[t1,t6]⟩
    .omega
    .rw[heq];exact ml p _ _ _ _ (by omega) (by omega)
   .rw[hp]at heq;apply sR;simp only[go_sem,seval,t1,t5,t6];refine⟨_,?_,i,k,by omega,by omega,rfl,?_,by simp[t1,t5]⟩
    .omega
    .rw[heq];exact ml p _ _ _ _ (by omega) (by omega)
  .have q:((i:Int)<j)=False:=Ly;have Ni:i=j:=by omega
   subst Ni;apply sR;simp only[go_sem,seval,t1,t5,t6,q];refine aE.same ?_;rw[heq,Nat.sub_self];rfl
open Go.Proofs Go.Proofs.Tryz
def fP(l:List My)(s:Lu)(kept shift body:Int)(n:Nat):Bool:=decide (ic l s kept shift (s.atom+n)+(N4 l (s.atom+n)).h>body)
def o7(l:List My)(s:Lu)(kept shift body:Int):Int:=if et l s then s.atom+zA (fP l s kept shift body) (l.length-s.atom.toNat)else 0
def vr(p:Nat->Bool):∀(f i j:Nat),i<=j->kc p f i j<=j
 |0,i,j,h=>h
 |f+1,i,j,h=>by
  rw[kc];split
  .split
   .exact ly (vr p f _ _ (by omega)) (by omega)
   .exact vr p f _ _ (by omega)
  .exact h
def EG(p:Nat->Bool)(n:Nat):zA p n<=n:=vr p n 0 n (Nat.zero_le n)
def yJ{l:List My}(hl:oz l){s:Lu}(hd:s.done<=1152921504606846976){kept shift:Int}(hk:-1152921504606846976<=kept/\kept<=2305843009213693952)(UO:0<=shift/\shift<=1152921504606846976)(k:Int):
 -4611686018427387904<=ic l s kept shift k/\ic l s kept shift k<=5764607523034234880:=by
 unfold ic;have h1:=pX hl s.atom k;split
 .rename_i h;have:=h.1.2.1;omega
 .omega
def Df(l:List My)(hl:oz l)(s:Lu)(hm:et l s)(hd:s.done<=1152921504606846976)(kept shift body:Int)(hk:-1152921504606846976<=kept/\kept<=2305843009213693952)(UO:0<=shift/\shift<=1152921504606846976)
 {U:ag}{i5 i6 i7 i8 i9:Nat}(a5:U i5=some ⟨77,1,[bX l]⟩)(a6:U i6=some ⟨37,3,[aH s]⟩)(a7:U i7=some ⟨3,1,[vI kept]⟩)(a8:U i8=some ⟨3,1,[vI shift]⟩)(a9:U i9=some ⟨3,1,[vI body]⟩)
 (n:Nat)(hn:n<l.length-s.atom.toNat):
 aA prog 81 [vI n,.ptr i6 0 0,.ptr i5 0 0,.ptr i7 0 0,.ptr i8 0 0,.ptr i9 0 0] U λr Z'=>r=.bool (fP l s kept shift body n)/\Z'=U:=by
 refine e81.r (by simp[c81]) ?_;have XU:=yJ hl hd hk UO (s.atom+n);have SN:=B4 l hl s hd kept shift (s.atom+n) hk UO;unfold fP;have XZ:=hl.len;obtain⟨a,d,fr⟩:=s;obtain⟨h0,h1⟩:=hm.1;rw[aH]at a6 SN;simp only at h0 h1 hn XU SN|-;obtain⟨m,rfl⟩:∃m:Nat,a=m:=⟨a.toNat,by omega⟩
 have e1:(m:Int)+(n:Int)=((m+n:Nat):Int):=by omega
 rw[e1]at XU SN|-;have hmn:m+n<l.length:=by omega
 have Lv:=λU=>jC (U:=U) hmn;have hy:=hl.R1 _ (ML hmn);rw[cc hmn];have r1:LP .i64 ((m+n:Nat):Int):=au;generalize ic l ⟨m,d,fr⟩ kept shift ((m+n:Nat):Int)=P at*;have r2:LP .i64 (P+l[m+n].h):=au;generalize m+n=q at*;refine ab.mix 9 ?_;by_cases hb:P+l[q].h>body
 .have q1:(P+l[q].h>body)=True:=LH hb;apply sR;simp only[go_sem,seval,c81,a5,a6,a7,a8,a9,e1,r1,ar,aq];refine Go.cN rfl rfl rfl SN ?_;apply sG;simp only[go_sem,seval,a5,a6,a7,a8,a9,r2,Lv,dH,q1,ar,aq];exact aE.same rfl
 .have q1:(P+l[q].h>body)=False:=Ly hb;apply sR;simp only[go_sem,seval,c81,a5,a6,a7,a8,a9,e1,r1,ar,aq];refine Go.cN rfl rfl rfl SN ?_;apply sG;simp only[go_sem,seval,a5,a6,a7,a8,a9,r2,Lv,dH,q1,ar,aq];exact aE.same rfl
def DS(l:List My)(hl:oz l)(s:Lu)(hd:s.done<=1152921504606846976)(kept shift body:Int)(hk:-1152921504606846976<=kept/\kept<=2305843009213693952)(UO:0<=shift/\shift<=1152921504606846976):
 bc prog 45 [bX l,aH s,vI kept,vI shift,vI body] (vI (o7 l s kept shift body)):=λU=>by
 refine e45.r (by simp[c45]) ?_;have hs:=aa.refl U;have hc:=uT l s;have hlen:=ny l;have XZ:=hl.len;refine ab.mix 12 ?_;have Xd:(aH s).cells=[vI s.atom,vI s.done,.bool s.free]:=rfl;have TH:(aH s).stays=true:=rfl;apply sR;simp only[go_sem,seval,c45,Xd,TH,ar,aq];refine ae λi5 Z5 s5 a5 f5=>?_;have z5:=hs.none f5;replace hs:=hs.trans s5;simp only[go_sem,seval,Xd,TH,ar,aq];refine ae λi6 Z6 s6 a6 f6=>?_;have n56:=ao a5 f6;replace a5:=s6 _ _ a5;have z6:=hs.none f6;replace hs:=hs.trans s6;simp only[go_sem,seval,Xd,TH,ar,aq];refine ae λi7 Z7 s7 a7 f7=>?_;have XS:=ao a5 f7;replace a5:=s7 _ _ a5;have Pc:=ao a6 f7;replace a6:=s7 _ _ a6;have z7:=hs.none f7;replace hs:=hs.trans s7;simp only[go_sem,seval,Xd,TH,ar,aq];refine ae λi8 Z8 s8 a8 f8=>?_;have n58:=ao a5 f8;replace a5:=s8 _ _ a5;have WK:=ao a6 f8;replace a6:=s8 _ _ a6;have RY:=ao a7 f8;replace a7:=s8 _ _ a7;have z8:=hs.none f8;replace hs:=hs.trans s8;simp only[go_sem,seval,Xd,TH,ar,aq];refine ae λi9 Z9 s9 a9 f9=>?_;have X6:=ao a5 f9;replace a5:=s9 _ _ a5;have UN:=ao a6 f9;replace a6:=s9 _ _ a6;have Qm:=ao a7 f9;replace a7:=s9 _ _ a7;have WD:=ao a8 f9;replace a8:=s9 _ _ a8;have z9:=hs.none f9;replace hs:=hs.trans s9;have b6:=a6;rw[aH]at b6;simp only[go_sem,seval,a5,b6,ar,aq];refine ab.aC rfl rfl rfl (hc _) ?_;unfold o7;by_cases hm:et l s
 .obtain⟨h0,h1⟩:=hm.1;obtain⟨m,hmm⟩:∃m:Nat,s.atom=m:=⟨s.atom.toNat,by omega⟩
  have hn:((l.length:Int)-s.atom)=((l.length-s.atom.toNat:Nat):Int):=by omega
  have r1:LP .i64 ((l.length-s.atom.toNat:Nat):Int):=au;rw[NA hm,aI hm];apply sR;simp only[go_sem,seval,a5,b6,hlen,hn,r1,ar,aq];refine ab.aC rfl rfl rfl (Dq (fP l s kept shift body) (l.length-s.atom.toNat) (by omega) (λi hi=>Df l hl s hm hd kept shift body hk UO a5 a6 a7 a8 a9 i hi)) ?_;have hse:=EG (fP l s kept shift body) (l.length-s.atom.toNat);have r2:LP .i64 (s.atom+(zA (fP l s kept shift body) (l.length-s.atom.toNat):Nat)):=au;apply sR;simp only[go_sem,seval,b6,r2];exact aE.pure hs rfl
 .rw[Nz hm,aJ hm];apply sR;simp only[go_sem,seval];exact aE.pure hs rfl
open Go.Proofs Go.Proofs.Tryz
structure R9 where
 (node atom fr x y w h:Int)
deriving DecidableEq
def cd(f:R9):V:=.agg [vI f.node,vI f.atom,vI f.fr,vI f.x,vI f.y,vI f.w,vI f.h]
def oH(l:List My)(k:Int):R9:=⟨(N4 l k).node,k,0,(N4 l k).x,0,(N4 l k).w,(N4 l k).h⟩
def R9.dZ(f:R9)(d:Int):R9:={ f with fr:=d,h:=f.h-d }
def R9.cut(f:R9)(a:Int):R9:={ f with h:=min f.h a }
def jS(l:List My)(f:R9):Lu:=if f.fr+f.h<(N4 l f.atom).h then⟨f.atom,f.fr+f.h,false⟩else⟨f.atom+1,0,false⟩
def G4(l:List My)(k:Nat)(hk:k<l.length):bc prog 83 [bX l,vI k] (cd (oH l k)):=λU=>by
 refine e83.r (by simp[c83]) ?_;have hs:=aa.refl U;have Lv:=λU=>jC (U:=U) hk;rw[oH,cc hk];refine ab.mix 6 ?_;apply sR;simp only[go_sem,seval,c83];refine ae λi4 Z4 s4 a4 f4=>?_;have z4:=hs.none f4;replace hs:=hs.trans s4;simp only[go_sem,seval,Lv,dH,ar,aq];refine ae λi5 Z5 s5 a5 f5=>?_;have ON:=ao a4 f5;replace a4:=s5 _ _ a4;have z5:=hs.none f5;replace hs:=hs.trans s5;simp only[go_sem,seval,a5,a4,ad ON,ar,aq];exact aE.pure ((hs.aG z5).aG z4) rfl
def Cl(f:R9)(d:Int)(hr:LP .i64 (f.h-d)){U:ag}{i:Nat}(h:U i=some ⟨163,7,[cd f]⟩):
 aA prog 84 [.ptr i 0 0,vI d] U λ_ Z'=>Z'=E' U i ⟨163,7,[cd (f.dZ d)]⟩:=by
 refine e84.r (by simp[c84]) ?_;rw[cd]at h;refine ab.mix 4 ?_;generalize hX:(E' U i ⟨163,7,[cd (f.dZ d)]⟩)=X;apply sR;simp only[go_sem,seval,c84,h,hr];exact⟨_,_,aa.refl _,Wk.refl (aa.refl _) _,hX⟩
def Fb(f:R9)(a:Int){U:ag}{i:Nat}(h:U i=some ⟨163,7,[cd f]⟩):
 aA prog 85 [.ptr i 0 0,vI a] U λ_ Z'=>Z'=E' U i ⟨163,7,[cd (f.cut a)]⟩:=by
 refine e85.r (by simp[c85]) ?_;rw[cd]at h;refine ab.mix 4 ?_;generalize hX:(E' U i ⟨163,7,[cd (f.cut a)]⟩)=X;apply sR;simp only[go_sem,seval,c85,h,gB];exact⟨_,_,aa.refl _,Wk.refl (aa.refl _) _,hX⟩
def y6(l:List My)(f:R9)(k:Nat)(hf:f.atom=k)(hk:k<l.length)(hl:l.length<=1000000000)(hr:LP .i64 (f.fr+f.h)){U:ag}{i:Nat}(h:U i=some ⟨163,7,[cd f]⟩):
 aA prog 86 [.ptr i 0 0,bX l] U λr Z'=>r=aH (jS l f)/\Z'=U:=by
 refine e86.r (by simp[c86]) ?_;have hs:=aa.refl U;have Lv:=λU=>jC (U:=U) hk;obtain⟨nd,Mf,fr,x,y,w,hh⟩:=f;simp only at hf hr;subst hf;rw[cd]at h;unfold jS;simp only;rw[cc hk];have r1:LP .i64 ((k:Int)+1):=au;refine ab.mix 6 ?_;apply sR;simp only[go_sem,seval,c86];refine ae λi4 Z4 s4 a4 f4=>?_;have z4:=hs.none f4;replace hs:=hs.trans s4;have b:=s4 _ _ h;have n4:i≠i4:=ao h f4;by_cases hc:fr+hh<l[k].h
 .have q:(fr+hh<l[k].h)=True:=LH hc;rw[aI hc];simp only[go_sem,seval,a4,b,hr,r1,q,Lv,dH];exact aE.pure (hs.aG z4) rfl
 .have q:(fr+hh<l[k].h)=False:=Ly hc;rw[aJ hc];simp only[go_sem,seval,a4,b,hr,r1,q,Lv,dH];exact aE.pure (hs.aG z4) rfl
open Go.Proofs Go.Proofs.Tryz
def j9{s:Nat->V}{U:ag}{a1 a2:Bool}{n1 n2 d e:Nat}{Post:V->ag->Prop}:
 O8 [.cell a1 n1 (.t d),.cell a2 n2 (.t e)] ⟨s,U⟩ Post=dL (cJ U a1 n1 (s d)) λv=>dL (cJ U a2 n2 (s e)) λw=>aE (.LI [v,w]) U Post:=by
 unfold O8 aE qm;simp only[gk,iq,VX.ev];cases cJ U a1 n1 (s d)<;>cases cJ U a2 n2 (s e)<;>simp[dL]
def fp(l:List My)(s:Lu)(L4:Int):R9:=((oH l s.atom).dZ s.done).cut L4
def wO(l:List My)(s:Lu)(L4:Int):Prop:=et l s/\1<=L4
instance (l:List My) (s:Lu) (L4:Int):Decidable (wO l s L4):=by unfold wO;infer_instance
def ue(l:List My)(s:Lu)(L4:Int):R9:=if wO l s L4 then fp l s L4 else⟨0,0,0,0,0,0,0⟩
def fO(l:List My)(s:Lu)(L4:Int):Lu:=if wO l s L4 then jS l (fp l s L4)else⟨0,0,false⟩
def Gi(l:List My)(hl:oz l)(s:Lu)(hd:s.done<=1152921504606846976)(L4:Int):bc prog 46 [bX l,aH s,vI L4] (.LI [cd (ue l s L4),aH (fO l s L4)]):=λU=>by
 refine e46.r (by simp[c46]) ?_;have hs:=aa.refl U;have XZ:=hl.len;have Xd:(aH s).cells=[vI s.atom,vI s.done,.bool s.free]:=rfl;have TH:(aH s).stays=true:=rfl;refine ab.mix 9 ?_;apply sR;simp only[go_sem,seval,c46,Xd,TH,ar,aq];refine ae λi4 Z4 s4 a4 f4=>?_;have z4:=hs.none f4;replace hs:=hs.trans s4;simp only[go_sem,seval];refine ae λi6 Z6 s6 a6 f6=>?_;have XM:=ao a4 f6;replace a4:=s6 _ _ a4;have z6:=hs.none f6;replace hs:=hs.trans s6;simp only[go_sem,seval];refine ae λi7 Z7 s7 a7 f7=>?_;have n47:=ao a4 f7;replace a4:=s7 _ _ a4;have Pc:=ao a6 f7;replace a6:=s7 _ _ a6;have z7:=hs.none f7;replace hs:=hs.trans s7;have b4:=a4;rw[aH]at b4;simp only[go_sem,seval,b4,ar,aq];refine ab.aC rfl rfl rfl (uT l s _) ?_;have bad:¬wO l s L4->(cd (ue l s L4)=.agg [vI 0,vI 0,vI 0,vI 0,vI 0,vI 0,vI 0]/\aH (fO l s L4)=.agg [vI 0,vI 0,.bool false]):=λh=>by
  rw[ue,fO,aJ h,aJ h];exact⟨rfl,rfl⟩
 have TG:wO l s L4->(ue l s L4=fp l s L4/\fO l s L4=jS l (fp l s L4)):=λh=>⟨aI h,aI h⟩
 generalize ue l s L4=X at*;generalize fO l s L4=Y at*;by_cases hm:et l s
 .rw[NA hm];by_cases h1:L4<1
  .have q1:(L4<1)=True:=LH h1;obtain⟨e1,e2⟩:=bad (λh=>by have:=h.2;omega);rw[e1,e2];apply sR;simp only[go_sem,seval,a6,a7,ad Pc,ad Pc.symm,q1,j9];exact aE.pure ((hs.aG z6).aG z7) rfl
  have q1:(L4<1)=False:=Ly h1;obtain⟨rfl,rfl⟩:=TG ⟨hm,by omega⟩;clear TG bad;obtain⟨h0,h2⟩:=hm.1;obtain⟨k,hk⟩:∃k:Nat,s.atom=k:=⟨s.atom.toNat,by omega⟩
  have NO:k<l.length:=by omega
  apply sR;simp only[go_sem,seval,b4,hk,q1,ar,aq];refine ab.aC rfl rfl rfl (G4 l k NO _) ?_;have VN:∀f,(cd f).cells=[vI f.node,vI f.atom,vI f.fr,vI f.x,vI f.y,vI f.w,vI f.h]:=λ_=>rfl;apply sR;simp only[go_sem,seval];refine ae λi8 Z8 s8 a8 f8=>?_;have n48:=ao a4 f8;replace a4:=s8 _ _ a4;have WK:=ao a6 f8;replace a6:=s8 _ _ a6;have RY:=ao a7 f8;replace a7:=s8 _ _ a7;have z8:=hs.none f8;replace hs:=hs.trans s8;have PB:=hm.2.1;have hy:=hl.R1 _ (ML NO);have hdh:s.done=0\/s.done<l[k].h:=by have:=hm.2.2;rw[hk,cc NO]at this;exact this
  have ZS:(oH l k).h=l[k].h:=by rw[oH,cc NO]
  have Oh:∀f,(cd f).stays=true:=λ_=>rfl;rw[aH]at a4;simp only[go_sem,seval,a8,a4,ad n48,VN,Oh];generalize Ox:E' _ i8 _=Y8;replace a8:=(congrFun Ox i8).symm.trans ak;replace a4:=((congrFun Ox i4).symm.trans (ad n48)).trans a4;replace a6:=((congrFun Ox i6).symm.trans (ad WK)).trans a6;replace a7:=((congrFun Ox i7).symm.trans (ad RY)).trans a7;replace hs:=Eq.subst (motive:=aa _) Ox (hs.aG z8);clear Ox;have h8:Y8 i8=some ⟨163,7,[cd (oH l k)]⟩:=a8;refine ab.call rfl rfl rfl (Cl (oH l k) s.done (au) h8) ?_;rintro-Z9 rfl;generalize Ox:E' _ i8 _=Y8;replace a8:=(congrFun Ox i8).symm.trans ak;replace a4:=((congrFun Ox i4).symm.trans (ad n48)).trans a4;replace a6:=((congrFun Ox i6).symm.trans (ad WK)).trans a6;replace a7:=((congrFun Ox i7).symm.trans (ad RY)).trans a7;replace hs:=Eq.subst (motive:=aa _) Ox (hs.aG z8);clear Ox;apply sR;simp only[go_sem,seval];refine ab.call rfl rfl rfl (Fb ((oH l k).dZ s.done) L4 a8) ?_;rintro-Z9 rfl;generalize Ox:E' _ i8 _=Y8;replace a8:=(congrFun Ox i8).symm.trans ak;replace a4:=((congrFun Ox i4).symm.trans (ad n48)).trans a4;replace a6:=((congrFun Ox i6).symm.trans (ad WK)).trans a6;replace a7:=((congrFun Ox i7).symm.trans (ad RY)).trans a7;replace hs:=Eq.subst (motive:=aa _) Ox (hs.aG z8);clear Ox;have Qw:((oH l k).dZ s.done).cut L4=fp l s L4:=by rw[fp,hk]
  rw[Qw]at a8;have ha:(fp l s L4).atom=k:=by rw[<-Qw];rfl
  have Pw:(fp l s L4).fr=s.done:=by rw[<-Qw];rfl
  have hhh:(fp l s L4).h=min (l[k].h-s.done) L4:=by rw[<-Qw,<-ZS];rfl
  have RZ:=λ(Z1:ag) (h1:aa Y8 Z1)=>y6 l (fp l s L4) k ha NO XZ (au) (h1 _ _ a8);generalize jS l (fp l s L4)=Y at*;generalize fp l s L4=X at*;have b8:=a8;rw[cd]at b8;apply sR;simp only[go_sem,seval,b8];refine Go.uM rfl rfl rfl (λZ1 h1=>RZ Z1 h1) ?_;have hyc:(aH Y).cells=[vI Y.atom,vI Y.done,.bool Y.free]:=rfl;have hys:(aH Y).stays=true:=rfl;apply sG;simp only[go_sem,seval,a6,a7,ad Pc,ad Pc.symm,hyc,hys,j9];exact aE.pure ((hs.aG z6).aG z7) rfl
 .rw[Nz hm];obtain⟨e1,e2⟩:=bad (λh=>hm h.1);rw[e1,e2];apply sR;simp only[go_sem,seval,a6,a7,ad Pc,ad Pc.symm,j9];exact aE.pure ((hs.aG z6).aG z7) rfl
open Go.Proofs Go.Proofs.Tryz
def mulR(a n:Int):Int:=
 if dK n≠0/\(dK a>(1099511627776:Int).tdiv (max (dK n) (-dK n))\/dK a<(-1099511627776:Int).tdiv (max (dK n) (-dK n)))then
  (if decide (dK a<0)=decide (dK n<0)then 1099511627776 else -1099511627776)
 else dK a*dK n
def Es{A B:Int}(h1:A<=(1099511627776:Int).tdiv (max B (-B)))(h2:(-1099511627776:Int).tdiv (max B (-B))<=A)(hB:B≠0):-1099511627776<=A*B/\A*B<=1099511627776:=by
 obtain⟨M,hM⟩:∃M,M=max B (-B):=⟨_,rfl⟩
 rw[<-hM]at h1 h2;have hM1:1<=M:=by omega
 rw[Int.neg_tdiv]at h2;rw[Int.tdiv_eq_ediv_of_nonneg (by omega)]at h1 h2;have h3:(1099511627776:Int)/M*M<=1099511627776:=Int.ediv_mul_le _ (by omega);have h4:=Int.mul_le_mul_of_nonneg_right h1 (by omega:0<=M);have h5:=Int.mul_le_mul_of_nonneg_right h2 (by omega:0<=M);rw[Int.neg_mul]at h5;rcases(by omega:M=B\/M=-B)with e|e
 .rw[e]at h4 h5 h3;omega
 .have hb:B=-M:=by omega
  rw[hb,Int.mul_neg];omega
def IV(a n:Int):bc prog 54 [vI a,vI n] (vI (mulR a n)):=λU=>by
 refine e54.r (by simp[c54]) ?_;refine ab.mix 5 ?_;apply sR;simp only[go_sem,seval,c54];refine ab.aC rfl rfl rfl (wq a _) ?_;apply sR;simp only[go_sem,seval];refine ab.aC rfl rfl rfl (wq n _) ?_;unfold mulR;have hA:-1099511627776<=dK a/\dK a<=1099511627776:=by unfold dK;omega
 have hB:-1099511627776<=dK n/\dK n<=1099511627776:=by unfold dK;omega
 generalize dK a=A at*;generalize dK n=B at*;have b1:(true==true)=true:=rfl;have b2:(true==false)=false:=rfl;have b3:(false==true)=false:=rfl;have b4:(false==false)=true:=rfl;by_cases h0:B=0
 .subst h0;have q0:((0:Int)≠0)=False:=Ly (λh=>h rfl);have r1:LP .i64 (A*0):=au;apply sR;simp only[go_sem,seval,q0,r1];exact aE.same (by rw[aJ (by simp)])
 have q0:(B≠0)=True:=LH h0;have hM1:1<=max B (-B)/\max B (-B)<=1099511627776:=by omega
 have qM:(max B (-B)=0)=False:=Ly;have rn:LP .i64 (-B):=au;have t1:0<=(1099511627776:Int).tdiv (max B (-B))/\(1099511627776:Int).tdiv (max B (-B))<=1099511627776:=by
  rw[Int.tdiv_eq_ediv_of_nonneg (by omega)];exact⟨Int.ediv_nonneg (by omega) (by omega),Int.ediv_le_self _ (by omega)⟩
 have t2:(-1099511627776:Int).tdiv (max B (-B))=-((1099511627776:Int).tdiv (max B (-B))):=Int.neg_tdiv ..;have hr:=Es (A:=A) (B:=B);have U4:LP .i64 ((1099511627776:Int).tdiv (max B (-B))):=au;have ZT:LP .i64 ((-1099511627776:Int).tdiv (max B (-B))):=au;by_cases h1:A>(1099511627776:Int).tdiv (max B (-B))
 .have q1:(A>(1099511627776:Int).tdiv (max B (-B)))=True:=LH h1;rw[aI ⟨h0,.inl h1⟩];by_cases sA:A<0
  .have qA:(A<0)=True:=LH sA;by_cases sB:B<0
   .have qB:(B<0)=True:=LH sB;apply sR;simp only[go_sem,seval,q0,Int.zero_sub,rn,dd,qM,U4,q1,qA,qB,b1,b2,b3,b4];exact aE.same (by first|rfl|simp[sA,sB])
   .have qB:(B<0)=False:=Ly sB;apply sR;simp only[go_sem,seval,q0,Int.zero_sub,rn,dd,qM,U4,q1,qA,qB,b1,b2,b3,b4];exact aE.same (by first|rfl|simp[sA,sB])
  .have qA:(A<0)=False:=Ly sA;by_cases sB:B<0
   .have qB:(B<0)=True:=LH sB;apply sR;simp only[go_sem,seval,q0,Int.zero_sub,rn,dd,qM,U4,q1,qA,qB,b1,b2,b3,b4];exact aE.same (by first|rfl|simp[sA,sB])
   .have qB:(B<0)=False:=Ly sB;apply sR;simp only[go_sem,seval,q0,Int.zero_sub,rn,dd,qM,U4,q1,qA,qB,b1,b2,b3,b4];exact aE.same (by first|rfl|simp[sA,sB])
 have q1:(A>(1099511627776:Int).tdiv (max B (-B)))=False:=Ly h1;by_cases h2:A<(-1099511627776:Int).tdiv (max B (-B))
 .have q2:(A<(-1099511627776:Int).tdiv (max B (-B)))=True:=LH h2;rw[aI ⟨h0,.inr h2⟩];by_cases sA:A<0
  .have qA:(A<0)=True:=LH sA;by_cases sB:B<0
   .have qB:(B<0)=True:=LH sB;apply sR;simp only[go_sem,seval,q0,Int.zero_sub,rn,dd,qM,U4,q1,ZT,q2,qA,qB,b1,b2,b3,b4];exact aE.same (by first|rfl|simp[sA,sB])
   .have qB:(B<0)=False:=Ly sB;apply sR;simp only[go_sem,seval,q0,Int.zero_sub,rn,dd,qM,U4,q1,ZT,q2,qA,qB,b1,b2,b3,b4];exact aE.same (by first|rfl|simp[sA,sB])
  .have qA:(A<0)=False:=Ly sA;by_cases sB:B<0
   .have qB:(B<0)=True:=LH sB;apply sR;simp only[go_sem,seval,q0,Int.zero_sub,rn,dd,qM,U4,q1,ZT,q2,qA,qB,b1,b2,b3,b4];exact aE.same (by first|rfl|simp[sA,sB])
   .have qB:(B<0)=False:=Ly sB;apply sR;simp only[go_sem,seval,q0,Int.zero_sub,rn,dd,qM,U4,q1,ZT,q2,qA,qB,b1,b2,b3,b4];exact aE.same (by first|rfl|simp[sA,sB])
 have q2:(A<(-1099511627776:Int).tdiv (max B (-B)))=False:=Ly h2;have hr':=hr (by omega) (by omega) h0;have r3:LP .i64 (A*B):=au;rw[aJ (λh=>by rcases h.2 with h|h;exact h1 h;exact h2 h)]
 apply sR;simp only[go_sem,seval,q0,Int.zero_sub,rn,dd,qM,U4,q1,ZT,q2,r3];exact aE.same rfl
open Go.Proofs Go.Proofs.Tryz
def DT(l:List My)(hl:l.length<=1000000000):bc prog 66 [bX l] (bX l):=
 wu func66 (e66.b.trans rfl) e66.c (l.map dH) (by simp;omega)
def Dl(l:List LV)(hl:l.length<=1000000000):bc prog 67 [bo l] (bo l):=
 wu func67 (XA.b.trans rfl) XA.c (l.map dF) (by simp;omega)
open Go
def NC.same{U:ag}{N:Nat->Prop}:∀(vs:List V),jj vs=true->NC U N vs vs
 |[],_=>.nil
 |v::vs,h=>by
  simp only[jj,Ba]at h;exact .cons _ _ _ _ (.same v h.1) (NC.same vs h.2)
def NC.app{U:ag}{N:Nat->Prop}:∀{a b c d:List V},NC U N a b->NC U N c d->NC U N (a++c) (b++d)
 |_,_,_,_,.nil,h=>h
 |_,_,_,_,.cons v u vs us h h',h2=>.cons v u _ _ h (NC.app h' h2)
def NC.one{U:ag}{N:Nat->Prop}{v u:V}(h:Fz U N v u):NC U N [v] [u]:=.cons _ _ _ _ h .nil
def aQ.fz{K U:ag}{N:Nat->Prop}{e sz:Nat}{v:V}{rows:List V}(h:aQ K U e sz v rows)(hN:∀id,K id=none->N id)(hr:jj rows=true):Fz U N v (.sl sz rows):=by
 rcases h with⟨rfl,rfl⟩|⟨id,rfl,ho,hk⟩
 .exact .nil sz
 .exact .own id 0 rows.length ⟨e,sz,rows⟩ rows ho (hN id hk) (by simp) (by rw[zy,kP];exact NC.same rows hr)
def aQ.ad{K U:ag}{e sz:Nat}{v:V}{rows:List V}(h:aQ K U e sz v rows){id:Nat}{o:Ob}(hK:K id≠none):aQ K (E' U id o) e sz v rows:=by
 rcases h with h|⟨q,h1,h2,h3⟩
 .exact .inl h
 .have:q≠id:=λe=>hK (by rw[<-e];exact h3);exact .inr ⟨q,h1,by rw[Vc.ad this];exact h2,h3⟩
def Bt(l:List Int):jj (l.map vI)=true:=by
 induction l with
 |nil=>rfl
 |cons x l ih=>rw[fb,jj,ih];rfl
abbrev Jt(x:Nd):List V:=[vI x.kind,vI x.size,vI x.st.top,vI x.st.LM,vI x.st.LA,vI x.st.Lt,vI x.st.Mm,vI x.st.LZ,vI x.st.Mg,vI x.st.head,vI x.st.before,vI x.st.after,vI x.st.inside,vI x.st.clear,vI x.line,vI x.space]
def VP(x:Nd)(v:V):V:=.agg [vI x.kind,vI x.size,vI x.st.top,vI x.st.LM,vI x.st.LA,vI x.st.Lt,vI x.st.Mm,vI x.st.LZ,vI x.st.Mg,vI x.st.head,vI x.st.before,vI x.st.after,vI x.st.inside,vI x.st.clear,vI x.line,vI x.space,v,vI x.side,vI x.w,vI x.h]
def I7{U:ag}{N:Nat->Prop}{x:Nd}{v:V}(h:Fz U N v (bj x.words)):Fz U N (VP x v) (ir x):=by
 refine .agg _ _ ?_;exact(NC.same (Jt x) rfl).app ((NC.one h).app (NC.same [vI x.side,vI x.w,vI x.h] rfl))
def fL(K U:ag):List Nd->List V->Prop
 |[],[]=>True
 |x::l,r::rows=>(∃w,r=VP x w/\aQ K U 3 1 w (x.words.map vI))/\fL K U l rows
 |_,_=>False
def aQ.kept{K U Z':ag}{id e:Nat}{w:V}{rows TI:List V}(h:aQ K U 3 1 w rows)(ho:U id=some ⟨e,20,TI⟩)(hs:∀i,i≠id->∀o,U i=some o->Z' i=some o):aQ K Z' 3 1 w rows:=by
 rcases h with h|⟨i,h1,h2,h3⟩
 .exact .inl h
 .have LR:i≠id:=λe=>by subst e;rw[ho]at h2;simp at h2
  exact .inr ⟨i,h1,hs i LR _ h2,h3⟩
def fL.kept{K U Z':ag}{id e:Nat}{TI:List V}(ho:U id=some ⟨e,20,TI⟩)(hs:∀i,i≠id->∀o,U i=some o->Z' i=some o):∀{l:List Nd} {rows:List V},fL K U l rows->fL K Z' l rows
 |[],[],_=>trivial
 |_::_,_::_,⟨⟨w,h1,h2⟩,h⟩=>⟨⟨w,h1,h2.kept ho hs⟩,fL.kept ho hs h⟩
 |[],_::_,h=>h.elim
 |_::_,[],h=>h.elim
def fL.mono{K U Z':ag}(hs:aa U Z'):∀{l:List Nd} {rows:List V},fL K U l rows->fL K Z' l rows
 |[],[],_=>trivial
 |_::_,_::_,⟨⟨w,h1,h2⟩,h⟩=>⟨⟨w,h1,h2.mono hs⟩,fL.mono hs h⟩
 |[],_::_,h=>h.elim
 |_::_,[],h=>h.elim
def aQ.CG{K K' U:ag}{e sz:Nat}{v:V}{rows:List V}(h:aQ K U e sz v rows)(hk:aa K' K):aQ K' U e sz v rows:=by
 rcases h with h|⟨i,h1,h2,h3⟩
 .exact .inl h
 .exact .inr ⟨i,h1,h2,hk.none h3⟩
def fL.app{K U:ag}:∀{l l2:List Nd} {rows VQ:List V},fL K U l rows->fL K U l2 VQ->fL K U (l++l2) (rows++VQ)
 |[],_,[],_,_,h2=>h2
 |_::_,_,_::_,_,⟨h1,h⟩,h2=>⟨h1,fL.app h h2⟩
 |[],_,_::_,_,h,_=>h.elim
 |_::_,_,[],_,h,_=>h.elim
def fL.fz{K U:ag}{N:Nat->Prop}(hN:∀id,K id=none->N id):∀{l:List Nd} {rows:List V},fL K U l rows->NC U N rows (l.map ir)
 |[],[],_=>.nil
 |_::_,_::_,⟨⟨w,h1,h2⟩,h⟩=>by
  rw[h1];exact .cons _ _ _ _ (I7 (h2.fz hN (Bt _))) (fL.fz hN h)
 |[],_::_,h=>h.elim
 |_::_,[],h=>h.elim
def yx(K U:ag)(v:V)(l:List Nd):Prop:=∃rows,aQ K U 51 20 v rows/\fL K U l rows
def yx.fz{K U:ag}{N:Nat->Prop}{v:V}{l:List Nd}(h:yx K U v l)(hN:∀id,K id=none->N id):Fz U N v (aM l):=by
 obtain⟨rows,ho,hr⟩:=h;have hf:=hr.fz hN;rcases ho with⟨rfl,rfl⟩|⟨id,rfl,ho,hk⟩
 .cases l with
  |nil=>exact .nil 20
  |cons x l=>exact hr.elim
 .exact .own id 0 rows.length ⟨_,20,rows⟩ _ ho (hN id hk) (by simp) (by rw[zy,kP];exact hf)
open Go.Proofs Go.Proofs.Tryz
def Ep(l:List Nd)(hl:l.length<=10000)(U:ag):aA prog 55 [aM l] U λr Z'=>aa U Z'/\aQ U Z' 51 20 r (l.map ir):=by
 refine e55.r (by simp[c55]) ?_;refine ab.mix 3 ?_
 (refine ab.bD MJ.nothing 8 ?_;simp only[go_sem,seval,nu,c55])
 refine ab.BE rfl rfl rfl λb hb=>?_;cases b
 .apply sR;simp only[go_sem,seval];refine ae λOv Z1 s1 a1 f1=>?_;obtain⟨LQ,hd,Mn⟩:=(aQ.new (K:=U) (e:=51) (sz:=20) (n:=0) (rows:=[]) rfl a1 f1).dst (aa.refl _);have Rk:∀U,cC U 20 (aM l)=some (l.map ir):=λU=>by simp[aM,cC]
  have MR:l.length*177<=140737488355328:=by omega
  simp only[go_sem,seval,hd,Rk,eU,MR];refine er λPC Z2 s2 a2 f2=>?_;have N8:=(Mn U (aa.refl _) Z1 s1).trans s2;simp only[go_sem,seval];refine⟨_,_,aa.refl _,Wk.refl (aa.refl _) _,N8,aQ.new (by simp) a2 (s1.none f2)⟩
 .apply sR;simp only[go_sem,seval];refine⟨_,_,aa.refl _,Wk.refl (aa.refl _) _,aa.refl _,?_⟩;have:l.map ir=[]:=hb rfl;rw[this];exact aQ.start
def BP(l:List Int)(hl:l.length<=1000000000)(U:ag):aA prog 56 [bj l] U λr Z'=>aa U Z'/\aQ U Z' 3 1 r (l.map vI):=by
 refine e56.r (by simp[c56]) ?_;refine ab.mix 3 ?_
 (refine ab.bD MJ.nothing 8 ?_;simp only[go_sem,seval,nu,c56])
 refine ab.BE rfl rfl rfl λb hb=>?_;cases b
 .apply sR;simp only[go_sem,seval];refine ae λOv Z1 s1 a1 f1=>?_;obtain⟨LQ,hd,Mn⟩:=(aQ.new (K:=U) (e:=3) (sz:=1) (n:=0) (rows:=[]) rfl a1 f1).dst (aa.refl _);have MR:l.length*9<=140737488355328:=by omega
  simp only[go_sem,seval,hd,vq,eU,MR];refine er λPC Z2 s2 a2 f2=>?_;have N8:=(Mn U (aa.refl _) Z1 s1).trans s2;simp only[go_sem,seval];exact⟨_,_,aa.refl _,Wk.refl (aa.refl _) _,N8,aQ.new (by simp) a2 (s1.none f2)⟩
 .apply sR;simp only[go_sem,seval];have:l.map vI=[]:=hb rfl;refine⟨_,_,aa.refl _,Wk.refl (aa.refl _) _,aa.refl _,?_⟩;rw[this];exact aQ.start
open Go.Proofs Go.Proofs.Tryz
def aQ.Ja{K ZJ Z1:ag}{e sz:Nat}{v:V}{rows:List V}(h:aQ K ZJ e sz v rows)(hs:aa ZJ Z1):
 ∃LQ,de Z1 e sz v=some (rows,LQ)/\∀i,LQ=some i->K i=none/\(∃o,ZJ i=some o)/\v=.own i 0 rows.length:=by
 rcases h with⟨rfl,rfl⟩|⟨id,rfl,ho,hk⟩
 .exact⟨none,rfl,λ_ h=>by cases h⟩
 .refine⟨some id,?_,λi h=>by cases h;exact⟨hk,⟨_,ho⟩,rfl⟩⟩;simp only[de,hs _ _ ho];rw[aI ⟨trivial,trivial,trivial,Md _⟩,kP]
open Go.Proofs Go.Proofs.Tryz
structure Bk where
 nodes:List Nd
 (w h:Int)
 atoms:List My
 Pg:List LV
 LB:Int
 Mi:List On
def iV(b:Bk):V:=.agg [aM b.nodes,vI b.w,vI b.h,bX b.atoms,bo b.Pg,vI b.LB,dc b.Mi]
open Go.Proofs Go.Proofs.Tryz
structure BkOk(b:Bk):Prop where
 Mf:oz b.atoms
 tight:∀a∈b.atoms,-18014398509481984<=a.y/\a.y<=18014398509481984/\0<=a.h/\a.h<=18014398509481984
 len:b.atoms.length<=900000
 U5:b.Pg.length<=1000000
 Um:∀f∈b.Pg,f.ok
 Uq:b.Mi.length=b.atoms.length+1
def IU(l:List On)(U:ag):cJ U false 1 (.rp (dc l))=some (dc l):=rfl
open Go.Proofs Go.Proofs.Tryz
def bM.rt:bM->bM
 |.seq _ b=>b
 |c=>c
def fW{i j:Nat}(h:i≠j):(∀(U:ag) (o:Ob),E' U i o j=U j)/\∀(U:ag) (o:Ob),E' U j o i=U i:=⟨λ_ _=>ad h.symm,λ_ _=>ad h⟩
open Go.Proofs Go.Proofs.Tryz
def tA{b:Bk}(hb:BkOk b)(k:Int):-18014398509481984<=iC b.atoms k/\iC b.atoms k<=36028797018963968:=by
 unfold iC;split
 .rename_i h;obtain⟨n,rfl⟩:∃n:Nat,k=n:=⟨k.toNat,by omega⟩
  have hn:n<b.atoms.length:=by omega
  have:=hb.tight _ (ML hn);rw[cc hn];omega
 .omega
def A4{b:Bk}(hb:BkOk b)(s:Lu)(L4:Int):-1152921504606846976<=kA b.atoms s L4/\kA b.atoms s L4<=2305843009213693952:=by
 unfold kA oq;split
 .split
  .rename_i h;have h1:=tA hb (s.atom-1);obtain⟨n,hn⟩:∃n:Nat,s.atom=n:=⟨s.atom.toNat,by omega⟩
   have OC:n<b.atoms.length:=by omega
   have:=hb.tight _ (ML OC);rw[hn]at h1|-;rw[cc OC];omega
  .omega
 .omega
open Go.Proofs Go.Proofs.Tryz
def bM.lt:bM->bM
 |.seq a _=>a
 |c=>c
structure BkFull(b:Bk):Prop extends BkOk b where
 tc:dV b.nodes
 Sq:Mj b.nodes=true
 h1:1<=b.h
 h2:b.h<=1099511627776
 ZU:∀a∈b.atoms,0<=a.node/\a.node<b.nodes.length
def fi(b:Bk)(s:Lu):Kp:=if b.atoms=[]then⟨[],0,b.h⟩else uH b.nodes (N4 b.atoms (min s.atom ((b.atoms.length:Int)-1))).node b.h
open Go.Proofs Go.Proofs.Tryz
def bkE(b:Bk):iV b=.agg [aM b.nodes,vI b.w,vI b.h,bX b.atoms,bo b.Pg,vI b.LB,dc b.Mi]:=rfl
def Ac(b:Bk)(hb:1<=b.h):bc prog 65 [.rp (iV b)] (.bool false):=λU=>by
 refine e65.r (by simp[c65]) ?_;have q:(b.h=0)=False:=Ly;refine ab.mix 3 ?_;apply sR;simp only[go_sem,seval,c65,bkE,q,DH];exact aE.same rfl
def AH(b:Bk)(hb:BkFull b)(U:ag):aA prog 42 [.rp (iV b)] U λr Z'=>aa U Z'/\aQ U Z' 120 3 r (b.Mi.map gE):=by
 refine e42.r (by simp[c42]) ?_;have h1:=hb.Uq;have h2:=hb.len;refine ab.mix 3 ?_;apply sR;simp only[go_sem,seval,c42];refine ab.aC rfl rfl rfl (Ac b hb.h1 _) ?_;apply sR;simp only[go_sem,seval,bkE,IU];refine ab.call rfl rfl rfl (wY func76 (e76.b.trans rfl) e76.c (b.Mi.map gE) (by simp;omega) _) ?_;rintro r Z' ⟨hs,ho⟩;apply sR;simp only[go_sem,seval];exact⟨_,_,aa.refl _,Wk.refl (aa.refl _) _,hs,ho⟩
def rj(b:Bk):V:=.agg [bX b.atoms,bo b.Pg,vI b.LB]
def tH(b:Bk)(hb:BkFull b):bc prog 35 [.rp (iV b)] (rj b):=λU=>by
 refine e35.r (by simp[c35]) ?_;have hs:=aa.refl U;have h2:=hb.len;have h3:=hb.U5;refine ab.mix 4 ?_;apply sR;simp only[go_sem,seval,c35];refine ae λi2 Z2 s2 a2 f2=>?_;have z2:=hs.none f2;replace hs:=hs.trans s2;simp only[go_sem,seval];refine ab.aC rfl rfl rfl (Ac b hb.h1 _) ?_;apply sR;simp only[go_sem,seval,bkE];refine ae λi3 Z3 s3 a3 f3=>?_;have UP:=ao a2 f3;replace a2:=s3 _ _ a2;have z3:=hs.none f3;replace hs:=hs.trans s3;simp only[go_sem,seval,a3,ar,bh,aq,bg];generalize Su:E' _ i3 _=X3;replace a3:=(congrFun Su i3).symm.trans ak;replace a2:=((congrFun Su i2).symm.trans (ad UP)).trans a2;replace hs:=Eq.subst (motive:=aa _) Su (hs.aG z3);clear Su;refine Go.cN rfl rfl rfl (DT b.atoms (by omega)) ?_;apply sG;simp only[go_sem,seval,a3];refine Go.cN rfl rfl rfl (Dl b.Pg (by omega)) ?_;apply sG;simp only[go_sem,seval,a3,a2,ar,bh,aq,bg,ad UP,ad UP];exact aE.pure ((hs.aG z3).aG z2) rfl
open Go.Proofs Go.Proofs.Tryz
def yS{l:List Nd}{x:Kp}{a:Int}(h:1<=x.body):1<=(lp l x a).body:=by
 unfold lp;split
 .exact h
 .simp only;omega
def o4{l:List Nd}{L:List Int}{h:Int}(hh:1<=h):∀m,1<=(jl l L h m).body
 |0=>hh
 |m+1=>yS (o4 hh m)
def By{b:Bk}(hb:BkFull b)(s:Lu)(h0:0<=s.atom):1<=(fi b s).body:=by
 have h1:=hb.h1;unfold fi;split
 .exact h1
 .rename_i he;have Wo:0<b.atoms.length:=y9.2 he;obtain⟨k,hk⟩:∃k:Nat,min s.atom ((b.atoms.length:Int)-1)=k:=⟨(min s.atom ((b.atoms.length:Int)-1)).toNat,by omega⟩
  have NO:k<b.atoms.length:=by omega
  have hn:=hb.ZU _ (ML NO);rw[hk,cc NO];have hm:iS b.nodes b.h=true:=by simp[iS,hb.Sq,hb.h1,hb.h2]
  unfold uH;rw[aI ⟨hm,hn⟩];exact o4 h1 _
def Qq(cnt:Nat->Nat)(a n:Nat):List Int:=(List.range' a n).flatMap λi=>List.replicate (cnt i) (i:Int)
def jv(cnt:Nat->Nat)(a:Nat):Qq cnt a 0=[]:=rfl
def gz(cnt:Nat->Nat)(a n:Nat):Qq cnt a (n+1)=List.replicate (cnt a) (a:Int)++Qq cnt (a+1) n:=by
 simp[Qq,List.range'_succ]
def mj{f g:Nat->Nat}:∀(n a:Nat),(∀i,a<=i->i<a+n->f i=g i)->Qq f a n=Qq g a n
 |0,_,_=>rfl
 |n+1,a,h=>by
  rw[gz,gz,h a (Md a) (by omega),mj n (a+1) (λi h1 h2=>h i (by omega) (by omega))]
def wM(cnt:Nat->Nat):∀(n a m:Nat),Qq cnt a (n+m)=Qq cnt a n++Qq cnt (a+n) m
 |0,a,m=>by simp[jv]
 |n+1,a,m=>by
  rw[show n+1+m=(n+m)+1 by omega,gz,gz,wM cnt n (a+1) m,lU,show a+1+n=a+(n+1) by omega]
def EU(f g:Nat->Nat)(a n m:Nat):Qq f a n++Qq g (a+n) m=Qq (λi=>if i<a+n then f i else g i) a (n+m):=by
 rw[wM];congr 1
 .exact mj n a λi h1 h2=>by simp[h2]
 .exact mj m (a+n) λi h1 h2=>by simp[show¬i<a+n by omega]
structure Xe(C:Int)(x:My):Prop where
 y0:0<=x.y
 y1:x.y<=C
 h0:1<=x.h
 h1:x.h<=1099511627776
def Xe.mono{B C:Int}{x:My}(h:Xe B x)(hB:B<=C):Xe C x:=⟨h.y0,Int.le_trans h.y1 hB,h.h0,h.h1⟩
def lZ(a:Nat)(h:Int):∀(L:List Ln) (s:WS),(gA a h s L).atoms=s.atoms++L.map (fe a h)
 |[],s=>by simp[gA]
 |x::L,s=>by
  have:=lZ a h L (s.put (fe a h x));simp only[gA,nx]at this|-;rw[this];simp[WS.put]
def Eh(a:Nat)(h:Int)(L:List Ln):(L.map (fe a h)).map (·.node)=List.replicate L.length (a:Int):=by
 rw[List.map_map]
 induction L with
 |nil=>rfl
 |cons x L ih=>rw[fb,ih];rfl
def AK{l:List Nd}{a e:Nat}(he:e<=l.length)(h:cg l a e=true)(P7:a<e)(hk:(LW l a).kind≠1):L0 l a<=1:=by
 have ha:a<l.length:=by omega
 rw[iQ ha]at hk;rw[cg,dif_pos P7]at h;simp only[Oy ha]at h;split at h
 .simp only[Ba,jH,NV]at h;have:=h.1.1.resolve_left hk;simp only[L0,Oy ha,Option.map_some,Option.getD_some];omega
 .cases h
structure wR(l:List Nd)(s t:WS)(a e C:Nat):Prop where
 Mf:∀x∈t.atoms,Xe (1099511627776*(C:Int)) x
 nodes:∃cnt,t.atoms.map (·.node)=s.atoms.map (·.node)++Qq cnt a (e-a)/\∀i,a<=i->i<e->Uo (LW l i) (cnt i)=true
def wR.join{l:List Nd}{s t u:WS}{a m e C D:Nat}(h1:a<=m)(h2:m<=e)(hA:wR l s t a m C)(hB:wR l t u m e D):wR l s u a e D:=by
 obtain⟨_,f,hf,Qt⟩:=hA;obtain⟨Ow,g,hg,M7⟩:=hB;refine⟨Ow,λi=>if i<m then f i else g i,?_,λi h3 h4=>?_⟩
 .rw[hg,hf,lU];congr 1;obtain⟨n,rfl⟩:∃n,m=a+n:=⟨m-a,by omega⟩
  obtain⟨k,rfl⟩:∃k,e=a+n+k:=⟨e-(a+n),by omega⟩
  rw[show a+n-a=n by omega,show a+n+k-(a+n)=k by omega,show a+n+k-a=n+k by omega,EU]
 .simp only;split
  .exact Qt i h3 (by omega)
  .exact M7 i (by omega) h4
def qO{l:List Nd}{rs:List Rm}(hD:RF l rs):∀(k a e:Nat) (s:WS) (C:Nat),e-a<=k->a<=e->e<=l.length->cg l a e=true->fv s C->(∀x∈s.atoms,Xe (1099511627776*(C:Int)) x)->wR l s (eD l rs k a e s) a e (C+MF l a e)
 |0,a,e,s,C,hk,P7,_,_,h,hx=>by
  obtain rfl:a=e:=by omega
  refine⟨λx LX=>(hx x LX).mono (by omega),λ_=>0,by simp[eD,jv],λi h1 h2=>by omega⟩
 |k+1,a,e,s,C,hk,P7,he,hr,h,hx=>by
  rw[eD];by_cases Lr:a<e
  .rw[aI Lr];obtain⟨h1,h2⟩:=du he hr (Md a) Lr;obtain⟨h3,h4⟩:=ee he hr Lr;have L7:R4 (LW l a):=by rw[iQ (by omega)];exact gm hD.Sq (by omega)
   have RU:MF l a e=MF l a (a+(L0 l a).toNat)+MF l (a+(L0 l a).toNat) e:=kE (by omega) (by omega) he;have SL:MF l a (a+(L0 l a).toNat)=4+(LW l a).words.length+MF l (a+1) (a+(L0 l a).toNat):=sL (by omega) (by omega);have step:∀t,fv t (C+MF l a (a+(L0 l a).toNat))->wR l s t a (a+(L0 l a).toNat) (C+MF l a (a+(L0 l a).toNat))->wR l s (eD l rs k (a+(L0 l a).toNat) e t) a e (C+MF l a e):=λt ht hA=>by
    rw[RU,<-Nat.add_assoc];exact hA.join (by omega) (by omega) (qO hD k _ e t _ (by omega) (by omega) he h3 ht hA.Mf)
   have one:∀(t:WS) (n:Nat),Uo (LW l a) n=true->(L0 l a).toNat=1->t.atoms.map (·.node)=s.atoms.map (·.node)++List.replicate n (a:Int)->(∀x∈t.atoms,Xe (1099511627776*((C+MF l a (a+(L0 l a).toNat):Nat):Int)) x)->wR l s t a (a+(L0 l a).toNat) (C+MF l a (a+(L0 l a).toNat)):=λt n hn NI hm Ow=>by
    refine⟨Ow,λ_=>n,?_,λi h5 h6=>?_⟩
    .rw[hm,NI,show a+1-a=1 by omega,gz,jv,kC]
    .obtain rfl:i=a:=by omega
     exact hn
   obtain⟨⟨hf,p1,p2,p3,p4⟩,p5,p6⟩:=h;have hI:fv s C:=⟨⟨hf,p1,p2,p3,p4⟩,p5,p6⟩
   by_cases k1:(LW l a).kind=1
   .rw[aI k1];have Vp:=fX hD k (a+1) (a+(L0 l a).toNat) _ _ (by omega) (by omega) (by omega) h4 (eY hI L7.st);have hA2:=qO hD k (a+1) (a+(L0 l a).toNat) (s.enter (LW l a).st) (C+2) (by omega) (by omega) (by omega) h4 (eY hI L7.st) (λx LX=>(hx x LX).mono (by omega));refine step _ ((jk Vp L7.st).more (by omega)) ?_;obtain⟨Ow,cnt,hc,ZV⟩:=hA2;refine⟨λx LX=>(Ow x LX).mono (by omega),λi=>if i=a then 0 else cnt i,?_,λi h5 h6=>?_⟩
    .have e1:(s.enter (LW l a).st).atoms=s.atoms:=rfl;rw[e1]at hc;show(eD l rs k (a+1) (a+(L0 l a).toNat) (s.enter (LW l a).st)).atoms.map (·.node)=_;rw[hc];congr 1;obtain⟨m,hm⟩:∃m,(L0 l a).toNat=m+1:=⟨(L0 l a).toNat-1,by omega⟩
     rw[hm,show a+(m+1)-(a+1)=m by omega,show a+(m+1)-a=m+1 by omega,gz];simp only[if_true,List.replicate_zero,nE];exact mj m (a+1) λi h5 h6=>by simp[show i≠a by omega]
    .simp only;split
     .rename_i e;subst e;simp[Uo,k1]
     .exact ZV i (by omega) h6
   .rw[aJ k1];have NI:(L0 l a).toNat=1:=by
     have:=AK he hr Lr k1;omega
    by_cases k2:(LW l a).kind=2
    .rw[aI k2];refine step _ ((kM hI L7 a).more (by omega)) ?_;have hl:=L7.line;obtain⟨hw0,Vt⟩:=L7.text k2;have hLl:=jg s.u' (LW l a).words (LW l a).space (LW l a).line (eM rs a) (LW l a).words.length 0 (s.LC.y+s.LC.m);have ZE:=iW (ws:=(LW l a).words) (space:=(LW l a).space) (s:=eM rs a) (λf PI=>(hf f PI).yB) hl.1 (LW l a).words.length 0 (s.LC.y+s.LC.m);have hLn:dM s.u' (LW l a).words (LW l a).space (LW l a).line (eM rs a) (LW l a).words.length 0 (s.LC.y+s.LC.m)≠[]:=by
      obtain⟨m,hm⟩:∃m,(LW l a).words.length=m+1:=⟨(LW l a).words.length-1,by omega⟩
      rw[hm,dM,aI (by omega)];simp
     have hte:(s.text rs a (LW l a)).atoms=s.atoms++(dM s.u' (LW l a).words (LW l a).space (LW l a).line (eM rs a) (LW l a).words.length 0 (s.LC.y+s.LC.m)).map (fe a (LW l a).line):=lZ a _ _ s;generalize dM s.u' (LW l a).words (LW l a).space (LW l a).line (eM rs a) (LW l a).words.length 0 (s.LC.y+s.LC.m)=L at*;have hL0:=y9.2 hLn;have hmul:(LW l a).line*((LW l a).words.length:Int)<=1099511627776*((LW l a).words.length:Int):=Int.mul_le_mul_of_nonneg_right hl.2 (by omega);refine one _ L.length (by simp only[Uo,k2,if_true,NV];omega) NI (by rw[hte,gM,Eh]) (λx LX=>?_);rw[hte]at LX;rcases fq.1 LX with LX|LX
     .exact(hx x LX).mono (by omega)
     .obtain⟨y,hy,rfl⟩:=gO.1 LX;have:=ZE y hy;refine⟨?_,?_,Vt,hl.2⟩<;>simp only[fe]<;>omega
    .rw[aJ k2];by_cases k3:(LW l a).kind=3
     .rw[aI k3];refine step _ ((kH hI L7 a).more (by omega)) ?_;have VH:=fH (w:=(LW l a).w) (high:=(LW l a).h) (y:=s.LC.y+s.LC.m) (s:=eM rs a) (λf PI=>(hf f PI).yB);have U6:=L7.box (.inl k3);have hh:=L7.h;refine one _ 1 (by simp[Uo,k3]) NI (by simp[WS.mono,WS.put]) (λx LX=>?_);simp only[WS.mono,WS.put]at LX;rcases fq.1 LX with LX|LX
      .exact(hx x LX).mono (by omega)
      .simp only[jI]at LX;subst LX;refine⟨?_,?_,?_,?_⟩<;>simp only<;>omega
     .rw[aJ k3];have k4:(LW l a).kind=4:=by rcases L7.kind with h|h|h|h;exact absurd h k1;exact absurd h k2;exact absurd h k3;exact h
      refine step _ ((jF hD hI (by omega) L7 k4).more (by omega)) ?_;exact one _ 0 (by simp[Uo,k4]) NI (by simp[WS.float]) (λx LX=>(hx x LX).mono (by omega))
  .rw[aJ Lr];obtain rfl:a=e:=by omega
   exact⟨λx LX=>(hx x LX).mono (by omega),λ_=>0,by simp[jv],λi h1 h2=>by omega⟩
def CD(i:Int)(L:List Int)(h:∀x∈L,x≠i):∀k,tG i (List.replicate k i++L)=k
 |0=>by
  cases L with
  |nil=>rfl
  |cons x L=>rw[List.replicate_zero,nE,tG,aJ (h x (by simp))]
 |k+1=>by rw[List.replicate_succ,List.cons_append,tG,aI rfl,CD i L h k]
def vK{cnt:Nat->Nat}:∀{n a:Nat} {x:Int},x∈Qq cnt a n->∃i:Nat,x=i/\a<=i/\i<a+n
 |0,_,_,h=>by simp[jv]at h
 |n+1,a,x,h=>by
  rw[gz]at h;rcases fq.1 h with h|h
  .exact⟨a,(List.mem_replicate.1 h).2,by omega,by omega⟩
  .obtain⟨i,h1,h2,h3⟩:=vK h;exact⟨i,h1,by omega,by omega⟩
def yA{cnt:Nat->Nat}{of:List Int}:∀(r:List Nd) (i Mf:Nat),of.drop Mf=Qq cnt i r.length->Mf<=of.length->(∀j (h:j<r.length),Uo r[j] (cnt (i+j))=true)->xM of r i Mf=true
 |[],i,Mf,h,hl,_=>by
  have:of.length<=Mf:=by
   have:=congrArg List.length h;simp[jv]at this;omega
  simp[xM];omega
 |x::r,i,Mf,h,hl,ho=>by
  rw[MM,gz]at h;have ht:lh of Mf i=cnt i:=by
   rw[lh,h];exact CD _ _ (λy hy=>by obtain⟨j,h1,h2,_⟩:=vK hy;omega) _
  rw[xM,ht];have h0:=ho 0 (by simp);simp only[List.getElem_cons_zero,Nat.add_zero]at h0;rw[h0,Bool.true_and];have hd:of.drop (Mf+cnt i)=Qq cnt (i+1) r.length:=by
   rw[<-List.drop_drop,h,Dp (by simp)];simp
  refine yA r (i+1) _ hd ?_ (λj hj=>?_)
  .have:=congrArg List.length h;simp at this;omega
  .have:=ho (j+1) (by simpa using hj);simp only[List.getElem_cons_succ]at this
   rwa [show i+1+j=i+(j+1) by omega]
structure IG(l:List Nd)(w:Int):Prop where
 may:oS l ((cP l w).atoms.map (·.node))=true
 ZU:∀a∈(cP l w).atoms,0<=a.node/\a.node<l.length
 Mf:∀x∈(cP l w).atoms,Xe (1099511627776*((MF l 0 l.length:Nat):Int)) x
 len:(cP l w).atoms.length<=MF l 0 l.length
 U5:(cP l w).u'.length<=MF l 0 l.length
 Um:∀f∈(cP l w).u',Sp (1099511627776*((MF l 0 l.length:Nat):Int)) f
def sI{l:List Nd}(hb:Mj l=true)(hn:l.length<=2000){w:Int}(h1:1<=w)(h2:w<=1099511627776):IG l w:=by
 have hD:=se hb hn h1 h2;have hr:cg l 0 l.length=true:=by simp only[Mj,Ba]at hb;exact hb.2
 have hI:fv ⟨[],[],0,⟨0,0⟩⟩ 0:=⟨⟨by simp,by simp,by simp,by simp,by simp⟩,by simp,by simp⟩
 have hA:=qO hD l.length 0 l.length ⟨[],[],0,⟨0,0⟩⟩ 0 (by omega) (by omega) (Md _) hr hI (by simp);have hJ:=fX hD l.length 0 l.length ⟨[],[],0,⟨0,0⟩⟩ 0 (by omega) (by omega) (Md _) hr hI;rw[ky]at hA hJ;have ha:(cP l w).atoms=(eD l (kj l w) l.length 0 l.length ⟨[],[],0,⟨0,0⟩⟩).atoms:=rfl;have hf:(cP l w).u'=(eD l (kj l w) l.length 0 l.length ⟨[],[],0,⟨0,0⟩⟩).u'.map (sN (eD l (kj l w) l.length 0 l.length ⟨[],[],0,⟨0,0⟩⟩).atoms.length):=rfl;obtain⟨Ow,cnt,hc,ZV⟩:=hA;rw[List.map_nil,nE,Nat.sub_zero]at hc;refine⟨?_,λa hm=>?_,by rw[ha];exact Ow,by rw[ha];exact hJ.Mf,by rw[hf,eU];exact hJ.fl,λf hm=>?_⟩
 .rw[ha,hc];refine yA (cnt:=cnt) l 0 0 (by simpa using hc) (Nat.zero_le _) (λj hj=>?_);have:=ZV j (Nat.zero_le _) hj;rw[iQ hj]at this
  rwa [ky]
 .have Uy:a.node∈Qq cnt 0 l.length:=by rw[<-hc,<-ha];exact List.mem_map_of_mem hm
  obtain⟨i,e,_,hi⟩:=vK Uy;omega
 .rw[hf]at hm;obtain⟨g,hg,rfl⟩:=gO.1 hm;have:=hJ.bd.fl g hg;exact⟨this.1,this.2,this.3,this.4,this.5,this.6,this.7,this.8⟩
def sE:∀(l:List Nd),(∀x∈l,R4 x)->((l.map λn=>4+n.words.length).sum:Nat)<=4*(l.length:Int)+j7 l/\∀x∈l,(x.words.length:Int)<=j7 l
 |[],_=>by simp[j7]
 |x::l,h=>by
  obtain⟨h1,h2⟩:=sE l (λy hy=>h y (by simp[hy]));have hx:=h x (by simp);have hp:(x.words.length:Int)<=VE x/\0<=VE x:=by
   unfold VE;by_cases k1:x.kind=1
   .have:=hx.R5 (by omega);simp[k1,this]
   .by_cases k2:x.kind=2
    .simp[k2]
    .have:=hx.R5 k2;simp[k1,k2,this]
  have hp0:0<=j7 l:=by
   have:∀l:List Nd,0<=j7 l:=by
    intro l
    induction l with
    |nil=>simp[j7]
    |cons y l ih=>
     have:0<=VE y:=by unfold VE;split;omega;split;omega;omega
     simp only[j7];omega
   exact this l
  refine⟨by simp only[fb,List.sum_cons,MM,j7];omega,λy hy=>?_⟩;rcases dI.1 hy with rfl|hy
  .simp only[j7];omega
  .have:=h2 y hy;simp only[j7];omega
structure Jk(l:List Nd):Prop where
 Sq:Mj l=true
 len:l.length<=2000
 words:∀x∈l,x.words.length<=2000
 MF:MF l 0 l.length<=10000
def sT{l:List Nd}(h:ga l=0):Jk l:=by
 unfold ga at h;split at h
 .rename_i hb;split at h
  .cases h
  .rename_i hc;have MI:l.all Nd.ok=true:=by simp only[Mj,Ba]at hb;exact hb.1
   rw[ej,aI hb,rO l MI l.length (Md _),kP]at hc;simp only[not_or]at hc;obtain⟨h1,h2⟩:=sE l (λx hx=>by obtain⟨i,hi,rfl⟩:=List.getElem_of_mem hx;exact gm hb hi);refine⟨hb,by omega,λx hx=>by have:=h2 x hx;omega,?_⟩;have:Vc.MF l 0 l.length=(l.map λn=>4+n.words.length).sum:=by unfold Vc.MF;rw[kP,zy]
   omega
 .cases h
open Go.Proofs Go.Proofs.Tryz
def ab.zR{P:Program}{n:Nat}{Q:St->Prop}{s:Nat->V}{U K:ag}{todo:List It}(l ds:List Nat){e sz:Nat}{v:V}{rows:List V}(hK:aa K U)(ho:aQ K U e sz v rows)
 (hs:∀d∈ds,s d=v)(hr:ab P n todo ⟨λi=>if ds.contains i then .sl sz rows else zJ l s i,K⟩ Q):ab P n todo ⟨s,U⟩ Q:=by
 refine ab.weaken ⟨hK,λi=>?_⟩ hr;show Wk U K (s i) _;by_cases hi:ds.contains i=true
 .simp only[aI hi];rw[hs i (by simpa using hi)];exact ho.wk (aa.refl K) hK
 .simp only[aJ hi];unfold zJ;split
  .exact Wk.refl hK _
  .exact Wk.undef _
def TJ(l:List Nd)(w:Int):List Int:=(cP l w).atoms.map (·.node)
def bb(l:List Nd)(w h:Int):Bk:=⟨l,w,h,(cP l w).atoms,(cP l w).u',(cP l w).LB,qu l (TJ l w)⟩
def wc(n:Int):Prop:=1<=n/\n<=1099511627776
instance (n:Int):Decidable (wc n):=by unfold wc;infer_instance
def iO(l:List Nd)(w h:Int):Int:=if¬(wc w/\wc h)then 3 else if ga l≠0 then ga l else if(ej l).1.H'>mulR (cY l h) 32768 then 2 else 0
def zw(l:List Nd)(w h:Int):V:=if iO l w h=0 then .rp (iV (bb l w h))else .O2
def fL.CL{K U:ag}{id:Nat}{o:Ob}(hK:K id≠none):∀{l:List Nd} {rows:List V},fL K U l rows->fL K (E' U id o) l rows
 |[],[],_=>trivial
 |_::_,_::_,⟨⟨w,h1,h2⟩,h⟩=>⟨⟨w,h1,h2.ad hK⟩,fL.CL hK h⟩
 |[],_::_,h=>h.elim
 |_::_,[],h=>h.elim
def yx.CL{K U:ag}{id:Nat}{o:Ob}(hK:K id≠none){v:V}{l:List Nd}(h:yx K U v l):yx K (E' U id o) v l:=by
 obtain⟨rows,ho,hr⟩:=h;exact⟨rows,ho.ad hK,hr.CL hK⟩
def lR{α:Type}{f:α->V}(h:∀a,(f a).yu=true):∀l:List α,jj (l.map f)=true
 |[]=>rfl
 |a::l=>by simp only[fb,jj,h a,lR h l,Bool.and_self]
def KV(l:List Int)(U:ag):cJ U false 1 (.rp (bj l))=some (bj l):=rfl
def rS(vn:V)(w h:Int)(va vf:V)(ht:Int)(vb:V):Ob:=⟨126,7,[.agg [vn,vI w,vI h,va,vf,vI ht,vb]]⟩
def Dz{U J:ag}{ib:Nat}{b:Bk}{vn:V}(hs:aa U J)(z:U ib=none)(hr:J ib=some (rS vn b.w b.h (bX b.atoms) (bo b.Pg) b.LB (dc b.Mi)))(ho:yx (bW U ib) J vn b.nodes):
 aE (.LI [.ptr ib 0 0,vI 0]) J λr Z'=>r=.LI [.rp (iV b),vI 0]/\Z'=U:=by
 have hN:∀id,bW U ib id=none->U id=none:=λid h=>(aW.1 h).2;have n1:jj [bX b.atoms,bo b.Pg,vI b.LB,dc b.Mi]=true:=by
  have a1:(bX b.atoms).yu=true:=lR (f:=dH) (λ_=>rfl) b.atoms;have a2:(bo b.Pg).yu=true:=lR (f:=dF) (λ_=>rfl) b.Pg;have a3:(dc b.Mi).yu=true:=lR (f:=gE) (λ_=>rfl) b.Mi;simp only[jj,a1,a2,a3];rfl
 have hf:Fz J (λid=>U id=none) (.LI [.ptr ib 0 0,vI 0]) (.LI [.rp (iV b),vI 0]):=by
  refine .LI _ _ (.cons _ _ _ _ (.ptr ib 0 _ _ _ hr z rfl (.agg _ _ ?_)) (NC.same [vI 0] rfl));exact .cons _ _ _ _ (ho.fz hN) (.cons _ _ _ _ (.same _ rfl) (.cons _ _ _ _ (.same _ rfl) (NC.same _ n1)))
 exact⟨_,U,hs,hf.wk hs (λ_ h=>h),rfl,rfl⟩
def FJ(l:List Nd)(hl:dV l)(w h:Int):bc prog 33 [aM l,vI w,vI h] (.LI [zw l w h,vI (iO l w h)]):=λU=>by
 refine e33.r (by simp[c33]) ?_;have hs:=aa.refl U;have bad:∀n:Int,iO l w h=n->n≠0->(zw l w h=.O2/\iO l w h=n):=λn hn h0=>⟨by rw[zw,aJ (by rw[hn];exact h0)],hn⟩
 refine ab.mix 16 ?_;by_cases hw:wc w
 .have mw:=pz w;rw[show decide (1<=w/\w<=1099511627776)=true from NA hw]at mw;apply sR;simp only[go_sem,seval,c33];refine ab.aC rfl rfl rfl (mw _) ?_;apply sR;simp only[go_sem,seval];by_cases hh:wc h
  .have mh:=pz h;rw[show decide (1<=h/\h<=1099511627776)=true from NA hh]at mh;refine ab.aC rfl rfl rfl (mh _) ?_;apply sR;simp only[go_sem,seval];refine ab.aC rfl rfl rfl (yb l hl _) ?_;by_cases hc:ga l=0
   .have q:(ga l≠0)=False:=Ly (λh=>h hc);have VA:=yb l hl;rw[hc]at VA q|-;apply sR;simp only[go_sem,seval,q];refine ab.aC rfl rfl rfl (rW l hl _) ?_;apply sR;simp only[go_sem,seval,Sm.cells];refine ae λi9 Z9 s9 a9 f9=>?_;have z9:=hs.none f9;replace hs:=hs.trans s9;simp only[go_sem,seval,a9];generalize MC:E' _ i9 _=Y9;replace a9:=(congrFun MC i9).symm.trans ak;replace hs:=Eq.subst (motive:=aa _) MC (hs.aG z9);clear MC;refine Go.cN rfl rfl rfl (yy l hl h) ?_;apply sG;simp only[go_sem,seval];refine Go.cN rfl rfl rfl (IV (cY l h) 32768) ?_;have hE:iO l w h=if(ej l).1.H'>mulR (cY l h) 32768 then 2 else 0:=by rw[iO,aJ (λh=>h ⟨hw,hh⟩),aJ (λh=>h hc)]
    by_cases U7:(ej l).1.H'>mulR (cY l h) 32768
    .have q1:((ej l).1.H'>mulR (cY l h) 32768)=True:=LH U7;obtain⟨e1,e2⟩:=bad 2 (by rw[hE,aI U7]) (by decide);rw[e1,e2];apply sG;simp only[go_sem,seval,a9,q1];exact aE.pure hs rfl
    have q1:((ej l).1.H'>mulR (cY l h) 32768)=False:=Ly U7;have e2:iO l w h=0:=by rw[hE,aJ U7]
    have e1:zw l w h=.rp (iV (bb l w h)):=by rw[zw,aI e2]
    rw[e1,e2];obtain⟨MW,UE,ZW,Sx⟩:=sT hc;have hG:=sI MW UE hw.1 hw.2;have XG:=GK l hl MW UE (λx hx=>by have:=ZW x hx;omega) (by omega) VA w hw.1 hw.2;apply sG;simp only[go_sem,seval,a9,q1];refine ab.call rfl rfl rfl (Ep l hl.1 _) ?_;rintro vn Q4 ⟨hs10,RM⟩;replace RM:=RM.CG hs;replace hs:=hs.trans hs10;obtain⟨cn,sn⟩:=RM.vc;have OC:=RM.len;rw[eU]at OC;apply sR;simp only[go_sem,seval,cn,sn];refine ae λPs Z46 s46 a46 f46=>?_;have z46:=hs.none f46;replace hs:=hs.trans s46;have Xf:aQ (bW U Ps) Z46 51 20 vn (l.map ir):=by
     rcases RM with h|⟨id,h3,h4,h5⟩
     .exact .inl h
     .exact .inr ⟨id,h3,s46 _ _ h4,aW.2 ⟨λe=>(by rw[e,f46]at h4;cases h4),h5⟩⟩
    have k46:bW U Ps Ps≠none:=λh=>(aW.1 h).1 rfl;simp only[go_sem,seval,a46,OC];refine ab.kW (λst=>aa U st.U/\yx (bW U Ps) st.U vn l/\st.U Ps=some (rS vn w h .bz .bz 0 .bz)/\st.s 0=aM l/\st.s 1=vI w/\st.s 11=.ptr Ps 0 0)
     (λm st=>∃(i:Nat) (rows:List V),i<=l.length/\m=l.length-i/\aa U st.U/\aQ (bW U Ps) st.U 51 20 vn rows/\rows.length=l.length/\fL (bW U Ps) st.U (l.take i) (rows.take i)/\rows.drop i=(l.drop i).map ir/\st.U Ps=some (rS vn w h .bz .bz 0 .bz)/\
       st.s 0=aM l/\st.s 1=vI w/\st.s 11=.ptr Ps 0 0/\st.s 51=vI l.length/\st.s 52=vI i) l.length ?_ ?_ ?_
    .exact⟨0,l.map ir,by omega,rfl,hs,Xf,by simp,trivial,by simp,a46,rfl,rfl,rfl,rfl,rfl⟩
    .clear hs Xf a46 RM a9;rintro m ⟨S,J⟩ ⟨i,rows,hi,rfl,hs,ho,hn,hr,hd,hb,t0,t1,t11,t51,t52⟩;simp only at hs ho hr hb t0 t1 t11 t51 t52;refine ab.mix 60 ?_;by_cases Lr:i<l.length
     .have q:((i:Int)<l.length)=True:=LH;obtain⟨id,rfl,Ls,PE⟩:∃id,vn=.own id 0 rows.length/\J id=some ⟨51,20,rows⟩/\bW U Ps id=none:=by
       rcases ho with⟨_,h0⟩|h
       .rw[h0]at hn;simp at hn;omega
       .exact h
      have hdc:(l.drop i)=l[i]::l.drop (i+1):=iY Lr;have hw':=ZW _ (ML Lr);have Mv:l.take (i+1)=l.take i++[l[i]]:=Ph Lr;have MS:=λU=>jV l Lr U;generalize SB:l[i]=x at*;have ZX:rows[i]?=some (.agg x.cells):=by
       have:(rows.drop i)[0]?=some (ir x):=by rw[hd,hdc];rfl
       rw[F6]at this;exact this
      have LR:id≠Ps:=(aW.1 PE).1;have hio:∀X':ag,X' id=some ⟨51,20,rows⟩->bN X' 20 (.own id 0 rows.length) (.int .i64 i)=some (.ptr id i 0):=λX' h=>lk h (by omega);have r1:LP .i64 ((i:Int)+1):=au;rw[rS]at hb;apply sR;simp only[go_sem,seval,t0,t1,t11,t51,t52,q,gK];refine ab.uP (by kernel_rfl) [0,1,2,3,4,5,6,7,8,9,10,11,12,13] [[],[0],[0,1],[0,1,2],[],[],[],[5,6],[5,6,7],[5,6,7,8],[5,6,7,8,9],[0,1,2,3,4,5,6,7,8,9,10],[0,1,2,3,4,5,6,7,8,9,10,11],[0,1,2,3,4,5,6,7,8,9,10,11,12]] [0,2,4,6,8,10,12,14,16,18,20,7,22,24,26] (by kernel_rfl) (by kernel_rfl) ?_;refine RE.MB (n:=0) [20,7,22,24,26] [0,2,4,6,8,10,12,14,16,18] [⟨(.some 55),(.Mb (.t 11)),.none⟩,⟨(.some 56),(.nilCheck (.t 55)),.none⟩,⟨(.some 57),(.Mc .false 0 1 (.t 56)),.none⟩,⟨(.some 58),(.load .false 1 (.t 57)),.none⟩,⟨(.some 59),(.Mb (.t 12)),.none⟩,⟨(.some 60),(.Mb (.t 0)),.none⟩,⟨(.some 61),(.Mb (.t 12)),.none⟩,⟨(.some 62),(.O3 20 (.t 60) (.t 61)),.none⟩,⟨(.some 63),(.Mc .false 16 1 (.t 62)),.none⟩,⟨(.some 64),(.load .false 1 (.t 63)),.none⟩] rfl rfl ?_;apply sG;simp only[go_sem,seval,t0,t11,hb,MS,Nd.cells,KV];refine RE.call rfl rfl rfl rfl rfl (BP x.words (by omega) _) ?_;rintro wv Z2 ⟨N8,OT⟩;simp only at N8 OT;have Rr:=N8 _ _ Ls;have MR:=N8 _ _ hb;obtain⟨cw,sw⟩:=OT.vc;have hio2:=hio _ Rr;refine RE.MU rfl rfl rfl rfl rfl trivial (by simp only[go_sem,seval,t0,t11,MR]) ?_;refine RE.MB (n:=0) [] [22,24,26] [⟨(.some 66),(.O3 20 (.t 58) (.t 59)),.none⟩,⟨(.some 67),(.Mc .false 16 1 (.t 66)),.none⟩,⟨.none,(.store 1 (.t 67) (.t 65)),.none⟩] rfl rfl ?_;apply sG;simp only[go_sem,seval,t0,t11,MR,hio2,Rr,ZX,Nd.cells,cw,sw];have hk46:bW U Ps id=none:=PE;have WH:aa U (E' Z2 id ⟨51,20,rows.set i (VP x wv)⟩):=(hs.trans N8).aG (aW.1 PE).2;have N2:∀j,j≠id->∀o,Z2 j=some o->E' Z2 id ⟨51,20,rows.set i (VP x wv)⟩ j=some o:=λj hj o hjo=>by rw[ad hj];exact hjo
      have h1:=(hr.mono N8).kept Rr N2;have NO:aa (bW U Ps) (bW J Ps):=λj o hj=>by
       unfold bW at hj|-;split
       .rename_i e;rw[aI e]at hj;exact hj
       .rename_i e;rw[aJ e]at hj;exact hs _ _ hj
      have h2:aQ (bW U Ps) (E' Z2 id ⟨51,20,rows.set i (VP x wv)⟩) 3 1 wv (x.words.map vI):=by
       rcases OT with h|⟨iw,e1,e2,e3⟩
       .exact .inl h
       .have n1:iw≠id:=λe=>by rw[e,Rr]at e2;simp at e2
        refine .inr ⟨iw,e1,by rw[ad n1];exact e2,aW.2 ⟨λe=>(by rw[e,hb]at e3;cases e3),hs.none e3⟩⟩
      have h3:(rows.set i (VP x wv)).take (i+1)=rows.take i++[VP x wv]:=by
       rw[Ph (by simp;omega),List.take_set_of_le (by omega)];simp
      apply sR;simp only[go_sem,seval,t0,t1,t11,t51,t52,r1];refine⟨_,?_,i+1,rows.set i (VP x wv),by omega,rfl,WH,.inr ⟨id,by rw[List.length_set],ak,PE⟩,by simp[hn],?_,?_,?_,rfl⟩
      .omega
      .rw[h3,Mv];exact h1.app ⟨⟨wv,rfl,h2⟩,trivial⟩
      .rw[List.drop_set_of_lt (by omega)];have:rows.drop (i+1)=(rows.drop i).drop 1:=by simp
       rw[this,hd,hdc];rfl
      .exact(ad LR.symm).trans MR
     .have q:((i:Int)<l.length)=False:=Ly;have Ni:i=l.length:=by omega
      subst Ni;rw[kP,pj (by omega)]at hr;apply sR;simp only[go_sem,seval,t0,t1,t11,t51,t52,q];exact⟨hs,⟨rows,ho,hr⟩,hb⟩
    .clear hs Xf a46 RM a9;rintro⟨S,J⟩ ⟨hs,how,hb,t0,t1,t11⟩;simp only at hs how hb t0 t1 t11;have OO:=ny (cP l w).atoms;have Q7:=hG.len;have VO:=IC l hl MW (TJ l w) (by rw[TJ,eU];omega) (λx hx=>by
      obtain⟨a,ha,rfl⟩:=gO.1 hx;exact hG.ZU a ha) hG.may
     have hofe:TJ l w=(cP l w).atoms.map (·.node):=rfl;rw[rS]at hb;rw[CM]at XG;refine ab.mix 16 ?_;apply sR;simp only[go_sem,seval,t0,t1,t11];refine ab.aC rfl rfl rfl (XG _) ?_;apply sR;simp only[go_sem,seval,t11,hb,OO,ar,aq,bh,bg];generalize hq:E' J Ps _=Y0;have hb0:Y0 Ps=some (rS vn w h (bX (cP l w).atoms) (bo (cP l w).u') (cP l w).LB .bz):=by rw[<-hq];exact ak
     have OM:aa U Y0:=hq▸hs.aG z46;have how0:yx (bW U Ps) Y0 vn l:=hq▸how.CL k46;clear hq hs how hb;refine ab.kW (λst=>aa Y0 st.U/\aQ Y0 st.U 3 1 (st.s 13) ((TJ l w).map vI)/\st.s 0=aM l/\st.s 11=.ptr Ps 0 0)
      (λm st=>∃j:Nat,j<=(cP l w).atoms.length/\m=(cP l w).atoms.length-j/\aa Y0 st.U/\aQ Y0 st.U 3 1 (st.s 13) ((((cP l w).atoms.take j).map (·.node)).map vI)/\st.s 0=aM l/\st.s 11=.ptr Ps 0 0/\st.s 82=bX (cP l w).atoms/\st.s 83=vI (cP l w).atoms.length/\st.s 84=vI j) (cP l w).atoms.length ?_ ?_ ?_
     .exact⟨0,by omega,rfl,aa.refl _,aQ.start,t0,t11,rfl,rfl,rfl⟩
     .clear t0 t1 t11;rintro m ⟨S,J⟩ ⟨j,hj,rfl,Xg,ho,t0,t11,t82,t83,t84⟩;simp only at Xg ho t0 t11 t82 t83 t84;generalize QM:S 13=v13 at ho;refine ab.mix 85 ?_;by_cases Lr:j<(cP l w).atoms.length
      .have q:((j:Int)<(cP l w).atoms.length)=True:=LH;have Lv:=λU=>jC (U:=U) Lr;have Mh:(((cP l w).atoms.take (j+1)).map (·.node)).map vI=(((cP l w).atoms.take j).map (·.node)).map vI++[vI (cP l w).atoms[j].node]:=by
        rw[Ph Lr,gM,gM];rfl
       have Rv:((((cP l w).atoms.take j).map (·.node)).map vI).length=j:=by rw[eU,eU,nB];omega
       have Ow:dH (cP l w).atoms[j]=.agg [vI (cP l w).atoms[j].kind,vI (cP l w).atoms[j].node,vI (cP l w).atoms[j].fr,vI (cP l w).atoms[j].to,vI (cP l w).atoms[j].x,vI (cP l w).atoms[j].y,vI (cP l w).atoms[j].w,vI (cP l w).atoms[j].h]:=rfl;generalize (((cP l w).atoms.take j).map (·.node)).map vI=rows at*;generalize (cP l w).atoms[j]=x at*;have r1:LP .i64 ((j:Int)+1):=au;have hs:=aa.refl J;apply sR;simp only[go_sem,seval,t0,t11,t82,t83,t84,QM,q,Lv,Ow];refine ae λQd XQ PD NK f15=>?_;have VC:=hs.none f15;replace hs:=hs.trans PD;simp only[go_sem,seval,NK,t0,t11,t82,t83,t84,QM];generalize MK:E' _ Qd _=XR;replace NK:=(congrFun MK Qd).symm.trans ak;replace hs:=Eq.subst (motive:=aa _) MK (hs.aG VC);clear MK;refine ae λi91 Z91 s91 a91 f91=>?_;obtain⟨LQ,NF,Mn⟩:=ho.dst (hs.trans s91);have MR:(rows.length+1)*9<=140737488355328:=by omega
       simp only[go_sem,seval,NF,fm a91,MR];refine er λi92 Z92 s92 a92 f92=>?_;have k92:=(Mn Y0 (aa.refl _) Z91 (Xg.trans (hs.trans s91))).trans s92;have n92:Y0 i92=none:=(Xg.trans (hs.trans s91)).none f92;simp only[go_sem,seval,t0,t11,t82,t83,t84,r1];refine⟨_,?_,j+1,by omega,rfl,k92,?_,rfl⟩
       .omega
       .rw[Mh];exact aQ.new (by simp) a92 n92
      .have q:((j:Int)<(cP l w).atoms.length)=False:=Ly;have Nj:j=(cP l w).atoms.length:=by omega
       rw[Nj,kP,<-hofe]at ho;apply sR;simp only[go_sem,seval,t0,t11,t82,t83,t84,QM,q];exact⟨Xg,ho⟩
     .clear t0 t1 t11;rintro⟨S,J⟩ ⟨Xg,ho,t0,t11⟩;simp only at Xg ho t0 t11;refine ab.zR [0,11] [13] Xg ho (by simp) ?_;generalize hS:(λi=>if[13].contains i then V.sl 1 ((TJ l w).map vI)else zJ [0,11] S i)=S';have u0:S' 0=aM l:=by rw[<-hS];exact t0
      have Om:S' 11=.ptr Ps 0 0:=by rw[<-hS];exact t11
      have u13:S' 13=bj (TJ l w):=by rw[<-hS];rfl
      clear hS t0 t11;refine ab.mix 16 ?_;rw[rS]at hb0;apply sR;simp only[go_sem,seval,u0,Om,u13];refine ab.aC rfl rfl rfl (VO _) ?_;apply sR;simp only[go_sem,seval,Om,hb0,bx,bw];exact Dz (b:=bb l w h) (OM.aG z46) z46 ak (how0.CL k46)
   .have q:(ga l≠0)=True:=LH hc;obtain⟨e1,e2⟩:=bad (ga l) (by rw[iO,aJ (λh=>h ⟨hw,hh⟩),aI hc]) hc;rw[e1,e2];apply sR;simp only[go_sem,seval,q];exact aE.pure hs rfl
  .have mh:=pz h;rw[show decide (1<=h/\h<=1099511627776)=false from Nz hh]at mh;obtain⟨e1,e2⟩:=bad 3 (by rw[iO,aI (λh=>hh h.2)]) (by decide);rw[e1,e2];refine ab.aC rfl rfl rfl (mh _) ?_;apply sR;simp only[go_sem,seval];exact aE.pure hs rfl
 .have mw:=pz w;rw[show decide (1<=w/\w<=1099511627776)=false from Nz hw]at mw;obtain⟨e1,e2⟩:=bad 3 (by rw[iO,aI (λh=>hw h.1)]) (by decide);rw[e1,e2];apply sR;simp only[go_sem,seval,c33];refine ab.aC rfl rfl rfl (mw _) ?_;apply sR;simp only[go_sem,seval];exact aE.pure hs rfl
def mf{l:List Nd}{w h:Int}(he:iO l w h=0):wc w/\wc h/\ga l=0:=by
 unfold iO at he;split at he
 .cases he
 .rename_i h1;split at he
  .rename_i h2;exact absurd he h2
  .rename_i h2;exact⟨Decidable.byContradiction λh=>h1 (λg=>h g.1),Decidable.byContradiction λh=>h1 (λg=>h g.2),Decidable.byContradiction h2⟩
def A5{l:List Nd}(hl:dV l){w h:Int}(he:iO l w h=0):BkFull (bb l w h)/\∀f∈(bb l w h).Pg,0<=f.h:=by
 obtain⟨hw,hh,hc⟩:=mf he;obtain⟨MW,hn,ZW,Sx⟩:=sT hc;have hG:=sI MW hn hw.1 hw.2;have Vt:=hG.len;have UF:=hG.U5;have hb:(1099511627776:Int)*((MF l 0 l.length:Nat):Int)<=10995116277760000:=by omega
 have ht:∀a∈(cP l w).atoms,-18014398509481984<=a.y/\a.y<=18014398509481984/\0<=a.h/\a.h<=18014398509481984:=λa ha=>by
  have:=hG.Mf a ha;have h0:=this.y0;have h1:=this.y1;have h2:=this.h0;have h3:=this.h1;omega
 refine⟨⟨⟨⟨?_,λa ha=>?_⟩,ht,?_,?_,λf hf=>(hG.Um f hf).ok (by omega),?_⟩,hl,MW,hh.1,hh.2,hG.ZU⟩,λf hf=>(hG.Um f hf).h0⟩
 .show(cP l w).atoms.length<=_;omega
 .have:=ht a ha;omega
 .show(cP l w).atoms.length<=_;omega
 .show(cP l w).u'.length<=_;omega
 .show(qu l (TJ l w)).length=(cP l w).atoms.length+1;unfold qu TJ;simp
def jT(b:Bk)(a:Nat):Int:=((b.atoms.drop a).map (·.h)).sum
def nq{b:Bk}{a:Nat}(h:a<b.atoms.length):jT b a=(b.atoms[a]).h+jT b (a+1):=by
 unfold jT;rw[iY h,fb,List.sum_cons]
def n9{b:Bk}(hp:∀a∈b.atoms,1<=a.h)(a:Nat):0<=jT b a:=by
 have key:∀l:List My,(∀a∈l,1<=a.h)->0<=(l.map (·.h)).sum:=by
  intro l
  induction l with
  |nil=>intro _;simp
  |cons x l ih=>
   intro h;have h1:=h x (by simp);have h2:=ih (λy hy=>h y (by simp[hy]));simp only[fb,List.sum_cons];omega
 exact key _ λx hx=>hp x (List.mem_of_mem_drop hx)
structure Pt(s:WS):Prop where
 pw:s.atoms.Pairwise λa b=>a.y+a.h<=b.y
 q:∀a∈s.atoms,a.y+a.h<=s.LC.y
def Pt.put{s:WS}(h:Pt s){a:My}(h1:s.LC.y<=a.y)(h2:0<=a.h):Pt (s.put a):=by
 refine⟨?_,λx hx=>?_⟩
 .simp only[WS.put];rw[List.pairwise_append];refine⟨h.pw,by simp,λx hx y hy=>?_⟩;simp only[jI]at hy;subst hy;have:=h.q x hx;omega
 .simp only[WS.put]at hx|-;rcases fq.1 hx with hx|hx
  .have:=h.q x hx;omega
  .simp only[jI]at hx;subst hx;omega
def Pt.LC{s:WS}(h:Pt s){p:Pn}(hp:s.LC.y<=p.y):Pt { s with LC:=p }:=⟨h.pw,λa ha=>by have:=h.q a ha;simp only;omega⟩
def Az{p:Pn}{m d:Int}(h0:0<=p.m)(hd:0<=d):p.y<=(eG p m d).y:=by
 simp only[eG,rF];(repeat' split)<;>omega
def Ek{p:Pn}{m d:Int}(h0:0<=p.m)(hd:0<=d):p.y<=(kQ p m d).y:=by
 simp only[kQ,rF];(repeat' split)<;>(try simp only)<;>omega
def Pt.enter{s:WS}(h:Pt s)(h0:0<=s.LC.m){t:MT}(ht:Uk t):Pt (s.enter t):=by
 have hp:=ht.LA.1;unfold WS.enter;simp only;refine h.LC ?_;split
 .have hc:s.LC.y<=(iX s.LC (eg (lz t.clear) s.u').1).y/\0<=(iX s.LC (eg (lz t.clear) s.u').1).m:=by
   unfold iX;split<;>(try simp only)<;>omega
  exact Int.le_trans hc.1 (Az hc.2 hp)
 .exact Az h0 hp
def Pt.leave{s:WS}(h:Pt s)(h0:0<=s.LC.m){t:MT}(ht:Uk t):Pt (s.leave t):=h.LC (Ek h0 ht.Lt.1)
def Pt.text{rs:List Rm}{s:WS}{C:Nat}(h:fv s C)(hk:Pt s){n:Nd}(hn:R4 n)(a:Nat):Pt (s.text rs a n):=by
 obtain⟨⟨hf,h1,h2,h3,h4⟩,h5,h6⟩:=h;have hl:=hn.line;have key:∀(k i:Nat) (y:Int) (t:WS),t.LC.y<=y->Pt t->Pt ((dM s.u' n.words n.space n.line (eM rs a) k i y).foldl (λs x=>s.put (fe a n.line x)) t):=by
  intro k
  induction k with
  |zero=>intro i y t _ ht;exact ht
  |succ k ih=>
   intro i y t hy ht;rw[dM];split
   .rw[nx];have VH:y<=(mH s.u' n.words n.space n.line i y (eM rs a)).y:=(fH (λf PI=>(hf f PI).yB)).1;refine ih _ _ _ ?_ (ht.put (by simp only[fe];omega) hl.1);simp only[WS.put,fe];omega
   .exact ht
 exact key _ _ _ s (by omega) hk
def qQ{l:List Nd}{rs:List Rm}(hD:RF l rs):∀(k a e:Nat) (s:WS) (C:Nat),e-a<=k->a<=e->e<=l.length->cg l a e=true->fv s C->Pt s->Pt (eD l rs k a e s)
 |0,a,e,s,C,_,P7,_,_,_,h=>h
 |k+1,a,e,s,C,hk,P7,he,hr,h,hs=>by
  rw[eD];by_cases Lr:a<e
  .rw[aI Lr];obtain⟨h1,h2⟩:=du he hr (Md a) Lr;obtain⟨h3,h4⟩:=ee he hr Lr;have L7:R4 (LW l a):=by rw[iQ (by omega)];exact gm hD.Sq (by omega)
   have step:∀t,(∃D,fv t D)->Pt t->Pt (eD l rs k (a+(L0 l a).toNat) e t):=λt ⟨D,ht⟩ hA=>
    qQ hD k _ e t D (by omega) (by omega) he h3 ht hA
   have hm:=h.bd.m0;split
   .have Vp:=fX hD k (a+1) (a+(L0 l a).toNat) _ _ (by omega) (by omega) (by omega) h4 (eY h L7.st);have hS2:=qQ hD k (a+1) (a+(L0 l a).toNat) _ _ (by omega) (by omega) (by omega) h4 (eY h L7.st) (hs.enter hm L7.st);exact step _ ⟨_,jk Vp L7.st⟩ (hS2.leave Vp.bd.m0 L7.st)
   .split
    .exact step _ ⟨_,kM h L7 a⟩ (Pt.text h hs L7 a)
    .split
     .refine step _ ⟨_,kH h L7 a⟩ ?_;have VH:=fH (w:=(LW l a).w) (high:=(LW l a).h) (y:=s.LC.y+s.LC.m) (s:=eM rs a) (λf PI=>(h.bd.fl f PI).yB);exact hs.put (by simp only;omega) L7.h.1
     .have k4:(LW l a).kind=4:=by rename_i g1 g2 g3;rcases L7.kind with h|h|h|h;exact absurd h g1;exact absurd h g2;exact absurd h g3;exact h
      exact step _ ⟨_,jF hD h (by omega) L7 k4⟩ ⟨hs.pw,hs.q⟩
  .rw[aJ Lr];exact hs
def E0{l:List Nd}(hb:Mj l=true)(hn:l.length<=2000){w:Int}(h1:1<=w)(h2:w<=1099511627776):(cP l w).atoms.Pairwise λa b=>a.y+a.h<=b.y:=by
 have hD:=se hb hn h1 h2;have hr:cg l 0 l.length=true:=by simp only[Mj,Ba]at hb;exact hb.2
 have hI:fv ⟨[],[],0,⟨0,0⟩⟩ 0:=⟨⟨by simp,by simp,by simp,by simp,by simp⟩,by simp,by simp⟩
 exact(qQ hD l.length 0 l.length ⟨[],[],0,⟨0,0⟩⟩ 0 (by omega) (by omega) (Md _) hr hI ⟨by simp,by simp⟩).pw
def EY{l:List My}(h:l.Pairwise λa b=>a.y+a.h<=b.y){i j:Nat}(Tr:i<j)(hj:j<l.length):l[i].y+l[i].h<=l[j].y:=List.pairwise_iff_getElem.1 h i j (by omega) hj Tr
def pc{p:Nat->Bool}{n:Nat}(hm:∀i j,i<=j->j<n->p i=true->p j=true):∀(f i j:Nat),j-i<=f->i<=j->j<=n->(∀x,x<i->p x=false)->(j<n->p j=true)->
 (∀x,x<kc p f i j->p x=false)/\(kc p f i j<n->p (kc p f i j)=true)/\kc p f i j<=j
 |0,i,j,hf,Tr,_,h1,h2=>by
  obtain rfl:i=j:=by omega
  exact⟨h1,h2,Md _⟩
 |f+1,i,j,hf,Tr,ZR,h1,h2=>by
  rw[kc];split
  .rename_i Lr;split
   .rename_i hp;obtain⟨g1,g2,g3⟩:=pc hm f i ((i+j)/2) (by omega) (by omega) (by omega) h1 (λ_=>hp);exact⟨g1,g2,by omega⟩
   .rename_i hp;have XF:p ((i+j)/2)=false:=by simpa using hp
    refine pc hm f ((i+j)/2+1) j (by omega) (by omega) ZR (λx hx=>?_) h2;cases LX:p x with
    |false=>rfl
    |true=>rw[hm x ((i+j)/2) (by omega) (by omega) LX]at XF;cases XF
  .obtain rfl:i=j:=by omega
   exact⟨h1,h2,Md _⟩
def mY{b:Bk}(hk:b.atoms.Pairwise λx y=>x.y+x.h<=y.y)(Ns:∀a∈b.atoms,1<=a.h){s:Lu}(hm:et b.atoms s)(kept shift body:Int):
 ∃r:Nat,o7 b.atoms s kept shift body=r/\s.atom<=r/\r<=b.atoms.length/\(∀k (h:k<b.atoms.length),s.atom<=k->k<r->ic b.atoms s kept shift k+b.atoms[k].h<=body)/\∀h:r<b.atoms.length,ic b.atoms s kept shift r+b.atoms[r].h>body:=by
 have U0:=hm;obtain⟨⟨h0,h1⟩,h2,h3⟩:=hm;obtain⟨a,ha⟩:∃a:Nat,s.atom=a:=⟨s.atom.toNat,by omega⟩
 have Q7:a<b.atoms.length:=by omega
 have Qi:∀k (h:k<b.atoms.length),a<=k->ic b.atoms s kept shift k=b.atoms[k].y-b.atoms[a].y-s.done+kept+shift:=λk h hak=>by
  rw[ic,aI ⟨U0,by omega,by omega⟩,gC,aI ⟨⟨h0,h1⟩,by omega,by omega⟩,ha,cc h,cc Q7]
 have ZY:∀n (h:a+n<b.atoms.length),fP b.atoms s kept shift body n=decide (b.atoms[a+n].y-b.atoms[a].y-s.done+kept+shift+b.atoms[a+n].h>body):=λn h=>by
  have e:s.atom+(n:Int)=((a+n:Nat):Int):=by omega
  rw[fP,e,Qi _ h (by omega),cc h]
 have ZZ:∀i j,i<=j->j<b.atoms.length-a->fP b.atoms s kept shift body i=true->fP b.atoms s kept shift body j=true:=λi j Tr hj hb=>by
  rcases Nat.eq_or_lt_of_le Tr with rfl|Lr
  .exact hb
  .have hi2:a+i<b.atoms.length:=by omega
   have Zi:a+j<b.atoms.length:=by omega
   rw[ZY i hi2]at hb;rw[ZY j Zi];have h5:=EY hk (show a+i<a+j by omega) Zi;have h6:=Ns _ (ML Zi);have N7:=of_decide_eq_true hb;exact NA (by omega)
 have hs:=pc ZZ (b.atoms.length-a) 0 (b.atoms.length-a) (by omega) (by omega) (Md _) (λx hx=>by omega) (λh=>by omega);have Vx:kc (fP b.atoms s kept shift body) (b.atoms.length-a) 0 (b.atoms.length-a)=zA (fP b.atoms s kept shift body) (b.atoms.length-a):=rfl;rw[Vx]at hs;obtain⟨g1,g2,g3⟩:=hs;refine⟨a+zA (fP b.atoms s kept shift body) (b.atoms.length-a),?_,by omega,by omega,λk h hak hkr=>?_,λh=>?_⟩
 .rw[o7,aI U0,ha,gX];rfl
 .have Wn:a<=k:=by omega
  have:=g1 (k-a) (by omega);rw[ZY (k-a) (by omega)]at this;have h5:=of_decide_eq_false this;rw[Qi k h Wn];have e:a+(k-a)=k:=by omega
  simp only[e]at h5;omega
 .have:=g2 (by omega);rw[ZY _ h]at this;have h5:=of_decide_eq_true this;rw[Qi _ h (by omega)];omega
def ll{l:List Nd}{a:Nat}:∀(k:Nat) (x:Int),x∈gj l a k->gF l x a=true
 |0,_,h=>by simp[gj]at h
 |k+1,x,h=>by
  rw[gj]at h;split at h
  .rename_i hk;rcases dI.1 h with rfl|h
   .exact hk
   .exact ll k x h
  .exact ll k x h
def Cc(l:List Nd)(of:List Int)(k:Nat):0<=dE l of k 3/\dE l of k 3<=7:=by
 simp only[dE,CX];cases jX l of k 0<;>cases jX l of k 1<;>cases jX l of k 2<;>simp
def vM:∀(all:List Int),dy all=0\/2<=dy all/\dy all<=4:=by
 have key:∀(all:List Int) (o:Int),(o=0\/2<=o/\o<=4)->(all.foldl jZ o=0\/2<=all.foldl jZ o/\all.foldl jZ o<=4):=by
  intro all
  induction all with
  |nil=>intro o h;exact h
  |cons x all ih=>
   intro o h;rw[nx];refine ih _ ?_;unfold jZ lY
   (repeat' split)<;>omega
 exact λall=>key all 0 (.inl rfl)
def E2{l:List Nd}(hb:Mj l=true){of:List Int}(MY:∀x∈of,0<=x/\x<l.length):Bu (qu l of)=true:=by
 have hlen:(qu l of).length=of.length+1:=by simp[qu]
 simp only[Bu,Ba,fa,List.mem_range,NV];refine⟨λk hk=>?_,by omega⟩;rw[hlen]at hk;have hg:Pf (qu l of) k=R8 l of k:=by simp[Pf,qu,hk]
 unfold qD;rw[hg,hlen];refine NA ?_;have Na:0<k->k<of.length->of.getD k 0=of.getD (k-1) 0->ja l of k=0:=λh0 h1 he=>by
  have Nf:of.getD k 0=of[k]:=by simp[h1]
  have hr:=MY _ (ML h1);have hh:∀x∈PH l (of.getD k 0).toNat,Qp l of x k=true/\Qp l of x ((k:Int)-1)=true:=λx hx=>by
   rw[Nf]at hx;have Lr:of[k].toNat<l.length:=by omega
   rw[Hj hb Lr]at hx;have LX:=ll _ _ hx;rw[kS]at LX;have e1:((k:Int)-1).toNat=k-1:=by omega
   have e2:((k:Int)).toNat=k:=by omega
   have e3:(of[k].toNat:Int)=of[k]:=by omega
   rw[e3]at LX;unfold Qp vG;rw[aI (by omega),aI (by omega),e1,e2,<-he,Nf];exact⟨NA ⟨LX.2.2.1,LX.2.2.2⟩,NA ⟨LX.2.2.1,LX.2.2.2⟩⟩
  have e1:((k:Int)-1).toNat=k-1:=by omega
  have e2:((k:Int)).toNat=k:=by omega
  have he1:Pd l of ((k:Int)-1) (λb=>!Qp l of b k)=[]:=by
   unfold Pd;rw[aI (by omega),e1,<-he,List.filter_eq_nil_iff];intro x hx;rw[(hh x hx).1];simp
  have he2:Pd l of k (λb=>!Qp l of b ((k:Int)-1))=[]:=by
   unfold Pd;rw[aI (by omega),e2,List.filter_eq_nil_iff];intro x hx;rw[(hh x hx).2];simp
  unfold ja jf;rw[aJ (by omega),eH,he1,he2];rfl
 have UI:k=of.length->ja l of k=0:=λh=>by
  unfold ja jf;rw[aI h];rfl
 have Wa:=vM (jf l of k);have VO:=Cc l of k;change ja l of k=0\/2<=ja l of k/\ja l of k<=4 at Wa;unfold o5 R8;simp only[NV,decide_eq_false_iff_not];unfold o3 pf;by_cases h0:k=0
 .rw[aI h0,aI (show k=0\/k=of.length from .inl h0)];refine⟨λ_=>rfl,λh=>absurd (by omega) h,λh=>absurd (by omega) h,?_,.inl (by split<;>rfl)⟩;rcases Wa with h|h
  .exact .inl h
  .exact .inr ⟨h.1,h.2,by omega,by omega⟩
 .rw[aJ h0];by_cases h1:k=of.length
  .rw[aI h1,aI (show k=0\/k=of.length from .inr h1)];exact⟨λh=>absurd h (by omega),λ_ _=>rfl,λ_ h=>absurd (by omega) h,.inl (UI h1),.inl (by split<;>rfl)⟩
  .rw[aJ h1,aJ (show¬(k=0\/k=of.length) by omega)];by_cases h2:of.getD k 0=of.getD (k-1) 0
   .rw[aI h2];have hf:=Na (by omega) (by omega) h2;refine⟨λh=>absurd h (by omega),λ_ h=>absurd h (by omega),λ_ _=>.inr rfl,.inl hf,?_⟩;rw[aI hf];rcases Int.lt_or_le 0 (dE l of k 3)with h|h
    .exact .inr ⟨.inr rfl,hf,h,by omega⟩
    .exact .inl (by omega)
   .rw[aJ h2];refine⟨λh=>absurd h (by omega),λ_ h=>absurd h (by omega),λ_ _=>.inl rfl,?_,?_⟩
    .rcases Wa with h|h
     .exact .inl h
     .exact .inr ⟨h.1,h.2,by omega,by omega⟩
    .by_cases hf:ja l of k=0
     .rw[aI hf];rcases Int.lt_or_le 0 (dE l of k 3)with h|h
      .exact .inr ⟨.inl rfl,hf,h,by omega⟩
      .exact .inl (by omega)
     .rw[aJ hf];exact .inl rfl
def qZ:∀(xs:List Fd) (d:Fd),(iR iu xs d=(d,false)/\∀x∈xs,x.b.forced=0)\/∃L x R,xs=L++x::R/\(∀y∈L,y.b.forced=0)/\x.b.forced≠0/\iR iu xs d=(x,true)
 |[],d=>.inl ⟨rfl,λx h=>(by cases h)⟩
 |a::xs,d=>by
  have stay:∀(l:List Fd) (x:Fd),l.foldl (mP iu) (x,true)=(x,true):=by
   intro l
   induction l with
   |nil=>intro x;rfl
   |cons y l ih=>intro x;rw[nx];exact ih x
  by_cases h:a.b.forced=0
  .have e:iR iu (a::xs) d=iR iu xs d:=by
    unfold iR;rw[nx,mP,iu];simp[h]
   rw[e];rcases qZ xs d with⟨h1,h2⟩|⟨L,x,R,h1,h2,h3,h4⟩
   .exact .inl ⟨h1,λx hx=>(dI.1 hx).elim (λe=>e▸h) (h2 x)⟩
   .exact .inr ⟨a::L,x,R,by rw[h1];rfl,λy hy=>(dI.1 hy).elim (λe=>e▸h) (h2 y),h3,h4⟩
  .refine .inr ⟨[],a,xs,rfl,λy hy=>(by cases hy),h,?_⟩;unfold iR;rw[nx,mP,iu];simp only[h,Bool.not_false,ne_eq,not_false_eq_true,decide_true,Bool.and_self,if_true];exact stay xs a
structure bP(b:Bk):Prop extends BkFull b where
 Nw:b.atoms.Pairwise λx y=>x.y+x.h<=y.y
 pos:∀a∈b.atoms,1<=a.h
 top:∀a∈b.atoms,0<=a.y
 aaa:Bu b.Mi=true
 fh:∀f∈b.Pg,0<=f.h
 fy:∀f∈b.Pg,0<=f.y
def fN{l:List Nd}(hl:dV l){w h:Int}(he:iO l w h=0):bP (bb l w h):=by
 obtain⟨hw,hh,hc⟩:=mf he;obtain⟨MW,hn,ZW,Sx⟩:=sT hc;have hG:=sI MW hn hw.1 hw.2;obtain⟨h1,h2⟩:=A5 hl he;refine⟨h1,E0 MW hn hw.1 hw.2,λa ha=>(hG.Mf a ha).h0,λa ha=>(hG.Mf a ha).y0,?_,h2,λf hf=>(hG.Um f hf).y0⟩;show Bu (qu l (TJ l w))=true;refine E2 MW λx hx=>?_;unfold TJ at hx;obtain⟨a,ha,rfl⟩:=gO.1 hx;exact hG.ZU a ha
def Q9(x:Nd):Int:=if x.kind=2 then x.line*x.words.length else if x.kind=3 then x.h else 0
def Pk(l:List Nd):Nat->Int
 |0=>0
 |i+1=>Pk l i+Q9 (LW l i)
def nn{x:Nd}(h:R4 x):0<=Q9 x:=by
 have h1:=h.line.1;have h2:=h.h.1;unfold Q9;split
 .exact Int.mul_nonneg h1 (by omega)
 .split<;>omega
def yd{l:List Nd}(hb:Mj l=true){a:Nat}:∀n,a+n<=l.length->Pk l a<=Pk l (a+n)
 |0,_=>Int.le_refl _
 |n+1,h=>by
  have ih:=yd (a:=a) hb n (by omega);have h1:R4 (LW l (a+n)):=by rw[iQ (show a+n<l.length by omega)];exact gm hb _
  have h2:=nn h1;rw[<-Nat.add_assoc,Pk];omega
def PL(l:List My):Int:=(l.map (·.h)).sum
def Ax(l m:List My):PL (l++m)=PL l+PL m:=by unfold PL;rw[gM,List.sum_append]
def uJ{l:List Nd}{rs:List Rm}(hD:RF l rs):∀(k a e:Nat) (s:WS) (C:Nat),e-a<=k->a<=e->e<=l.length->cg l a e=true->fv s C->PL s.atoms<=Pk l a->PL (eD l rs k a e s).atoms<=Pk l e
 |0,a,e,s,C,hk,P7,_,_,_,h=>by
  obtain rfl:a=e:=by omega
  exact h
 |k+1,a,e,s,C,hk,P7,he,hr,h,hs=>by
  rw[eD];by_cases Lr:a<e
  .rw[aI Lr];obtain⟨h1,h2⟩:=du he hr (Md a) Lr;obtain⟨h3,h4⟩:=ee he hr Lr;have L7:R4 (LW l a):=by rw[iQ (by omega)];exact gm hD.Sq (by omega)
   have step:∀t,(∃D,fv t D)->PL t.atoms<=Pk l (a+(L0 l a).toNat)->PL (eD l rs k (a+(L0 l a).toNat) e t).atoms<=Pk l e:=λt ⟨D,ht⟩ hA=>
    uJ hD k _ e t D (by omega) (by omega) he h3 ht hA
   have NI:Q9 (LW l a)+PL s.atoms<=Pk l (a+1):=by rw[Pk];omega
   have one:Pk l (a+1)<=Pk l (a+(L0 l a).toNat):=by
    obtain⟨m,hm⟩:∃m,(L0 l a).toNat=1+m:=⟨(L0 l a).toNat-1,by omega⟩
    rw[hm,<-Nat.add_assoc];exact yd hD.Sq m (by omega)
   split
   .rename_i k1;have hz:Q9 (LW l a)=0:=by rw[Q9,aJ (by omega),aJ (by omega)]
    have Vp:=fX hD k (a+1) (a+(L0 l a).toNat) _ _ (by omega) (by omega) (by omega) h4 (eY h L7.st);have hS2:=uJ hD k (a+1) (a+(L0 l a).toNat) _ _ (by omega) (by omega) (by omega) h4 (eY h L7.st) (show PL s.atoms<=_ by omega);exact step _ ⟨_,jk Vp L7.st⟩ hS2
   .split
    .rename_i k1 k2;refine step _ ⟨_,kM h L7 a⟩ (Int.le_trans ?_ one);have hp:=lZ a (LW l a).line (dM s.u' (LW l a).words (LW l a).space (LW l a).line (eM rs a) (LW l a).words.length 0 (s.LC.y+s.LC.m)) s;have hlen:=jg s.u' (LW l a).words (LW l a).space (LW l a).line (eM rs a) (LW l a).words.length 0 (s.LC.y+s.LC.m);have e:(s.text rs a (LW l a)).atoms=_:=hp;rw[e,Ax];generalize dM s.u' (LW l a).words (LW l a).space (LW l a).line (eM rs a) (LW l a).words.length 0 (s.LC.y+s.LC.m)=L at*;have jm:PL (L.map (fe a (LW l a).line))=(LW l a).line*L.length:=by
      clear e hp hlen
      induction L with
      |nil=>simp[PL]
      |cons x L ih=>
       have:PL ((x::L).map (fe a (LW l a).line))=(LW l a).line+PL (L.map (fe a (LW l a).line)):=rfl;rw[this,ih,MM,Int.natCast_add,Int.mul_add];omega
     have hle:(LW l a).line*(L.length:Int)<=(LW l a).line*((LW l a).words.length:Int):=Int.mul_le_mul_of_nonneg_left (by omega) L7.line.1;have hz:Q9 (LW l a)=(LW l a).line*((LW l a).words.length:Int):=by rw[Q9,aI k2]
     omega
    .split
     .rename_i k1 k2 k3;refine step _ ⟨_,kH h L7 a⟩ (Int.le_trans ?_ one);have hz:Q9 (LW l a)=(LW l a).h:=by rw[Q9,aJ k2,aI k3]
      have e:(WS.mono l rs s a (LW l a)).atoms=s.atoms++[⟨2,a,0,0,(ec s.u' (ki s.u' (LW l a).w (LW l a).h (eM rs a) (s.LC.y+s.LC.m)) (LW l a).h (eM rs a)).a,ki s.u' (LW l a).w (LW l a).h (eM rs a) (s.LC.y+s.LC.m),(LW l a).w,(LW l a).h⟩]:=rfl;rw[e,Ax];simp only[PL,fb,List.map_nil,List.sum_cons,List.sum_nil];simp only[PL]at NI;omega
     .have k4:(LW l a).kind=4:=by rename_i g1 g2 g3;rcases L7.kind with h|h|h|h;exact absurd h g1;exact absurd h g2;exact absurd h g3;exact h
      have hz:=nn L7;exact step _ ⟨_,jF hD h (by omega) L7 k4⟩ (show PL s.atoms<=_ by omega)
  .rw[aJ Lr];obtain rfl:a=e:=by omega
   exact hs
def Ct{l:List Nd}(hb:Mj l=true)(hn:l.length<=2000){w:Int}(h1:1<=w)(h2:w<=1099511627776):PL (cP l w).atoms<=Pk l l.length:=by
 have hD:=se hb hn h1 h2;have hr:cg l 0 l.length=true:=by simp only[Mj,Ba]at hb;exact hb.2
 have hI:fv ⟨[],[],0,⟨0,0⟩⟩ 0:=⟨⟨by simp,by simp,by simp,by simp,by simp⟩,by simp,by simp⟩
 exact uJ hD l.length 0 l.length ⟨[],[],0,⟨0,0⟩⟩ 0 (by omega) (by omega) (Md _) hr hI (by simp[PL,Pk])
def oG{l:List Nd}(hb:Mj l=true){s:Sm}(hs:0<=s.H'/\s.H'<=1099511627777):∀i,i<=l.length->0<=(gq l s i).H'/\(gq l s i).H'<=1099511627777/\min (Pk l i) 1099511627777<=(gq l s i).H'
 |0,_=>⟨hs.1,hs.2,by simp only[Pk,gq];omega⟩
 |i+1,hi=>by
  obtain⟨h1,h2,h3⟩:=oG hb hs i (by omega);have L7:R4 (LW l i):=by rw[iQ (by omega)];exact gm hb (by omega)
  have hz:=nn L7;have L8:=L7.st;rw[gq,Pk,Oy (by omega)];rw[iQ (show i<l.length by omega)]at L7 hz L8|-;simp only;unfold nD;split
  .rename_i k1;have e:Q9 l[i]=0:=by rw[Q9,aJ (by omega),aJ (by omega)]
   have g1:=L8.top.1;have g2:=L8.LM.1;have g3:=L8.LA.1;have g4:=L8.Lt.1;have g5:=L8.head.1;simp only[jA];omega
  .split
   .rename_i k1 k2;have e:Q9 l[i]=l[i].line*l[i].words.length:=by rw[Q9,aI k2]
    simp only;rw[qy ⟨h1,h2⟩ L7.line.1];omega
   .rename_i k1 k2;have hh:=L7.h.1;have e:Q9 l[i]<=l[i].h:=by rw[Q9,aJ k2];split<;>omega
    simp only[jA];omega
def rZ{l:List Nd}(hb:Mj l=true)(h:(ej l).1.H'<=1099511627776):Pk l l.length<=(ej l).1.H':=by
 unfold ej at h|-;rw[aI hb]at h|-;have:=(oG hb (s:=⟨0,0,l.length,0⟩) ⟨Int.le_refl _,(by decide:(0:Int)<=1099511627777)⟩ l.length (Md _)).2.2;simp only at h|-;omega
def zH{cnt:Nat->Nat}:∀{n a:Nat} {x:Int},x∈Qq cnt a n->∃i:Nat,x=i/\a<=i/\i<a+n/\0<cnt i
 |0,a,x,h=>by rw[jv]at h;cases h
 |n+1,a,x,h=>by
  rw[gz]at h;rcases fq.1 h with h|h
  .obtain⟨h1,rfl⟩:=List.mem_replicate.1 h;exact⟨a,rfl,Md _,by omega,by omega⟩
  .obtain⟨i,h1,h2,h3,h4⟩:=zH h;exact⟨i,h1,by omega,by omega,h4⟩
def DI{l:List Nd}(hb:Mj l=true)(hn:l.length<=2000){w:Int}(h1:1<=w)(h2:w<=1099511627776):∀a∈(cP l w).atoms,∃i:Nat,a.node=i/\i<l.length/\((LW l i).kind=2\/(LW l i).kind=3):=λa ha=>by
 have hD:=se hb hn h1 h2;have hr:cg l 0 l.length=true:=by simp only[Mj,Ba]at hb;exact hb.2
 have hI:fv ⟨[],[],0,⟨0,0⟩⟩ 0:=⟨⟨by simp,by simp,by simp,by simp,by simp⟩,by simp,by simp⟩
 obtain⟨-,cnt,hc,ZV⟩:=qO hD l.length 0 l.length ⟨[],[],0,⟨0,0⟩⟩ 0 (by omega) (by omega) (Md _) hr hI (by simp);have hm:a.node∈(eD l (kj l w) l.length 0 l.length ⟨[],[],0,⟨0,0⟩⟩).atoms.map (·.node):=gO.2 ⟨a,ha,rfl⟩;rw[hc]at hm;simp only[List.map_nil,nE]at hm;obtain⟨i,e,_,h3,h4⟩:=zH hm;refine⟨i,e,by omega,?_⟩;have:=ZV i (Nat.zero_le _) (by omega);unfold Uo at this;split at this
 .rename_i k;exact .inl k
 .split at this
  .rename_i k;exact .inr k
  .have:=of_decide_eq_true this;omega
def least_le{l:List Nd}{h:Int}:∀{n j:Nat},j<n->((LW l j).kind=2\/(LW l j).kind=3)->ia l h n<=(yg l j h).body
 |0,j,hj,_=>by omega
 |n+1,j,hj,hk=>by
  rw[ia];by_cases e:j=n
  .subst e;rw[aI hk];omega
  .have:=least_le (l:=l) (h:=h) (show j<n by omega) hk;split<;>omega
def uq{l:List Nd}{h:Int}(hh:1<=h):∀n,1<=ia l h n
 |0=>hh
 |n+1=>by
  have h1:=uq (l:=l) hh n;have h2:1<=(yg l n h).body:=o4 hh _;rw[ia];split<;>omega
def Ed{l:List Nd}{h:Int}(hb:Mj l=true)(h1:1<=h)(h2:h<=1099511627776):iS l h=true:=by
 unfold iS;rw[hb];simp[h1,h2]
structure gG(b:Bk)(L:Int):Prop where
 pos:1<=L
 body:∀s:Lu,0<=s.atom->b.atoms≠[]->L<=(fi b s).body
 rest:jT b 0<=L*32768
 na:b.atoms.length<=10000
 nf:b.Pg.length<=10000
def Fm{L:Int}(h1:1<=L):mulR L 32768<=L*32768:=by
 have e:dK 32768=32768:=by decide
 have e2:(1099511627776:Int).tdiv (max 32768 (-32768))=33554432:=by decide
 unfold mulR;rw[e,e2];have hc:dK L<=L/\0<=dK L:=by unfold dK;(repeat' split)<;>omega
 split
 .rename_i h;obtain⟨_,h|h⟩:=h
  .split<;>omega
  .exact absurd h (by have:(-1099511627776:Int).tdiv (max 32768 (-32768))=-33554432:=by decide
                      rw[this];omega)
 .have:=hc.1;omega
def jE{l:List Nd}{w h:Int}(he:iO l w h=0):gG (bb l w h) (cY l h):=by
 have XD:=he;obtain⟨hw,hh,hc⟩:=mf he;obtain⟨MW,hn,ZW,Sx⟩:=sT hc;have hG:=sI MW hn hw.1 hw.2;have Vt:=hG.len;have UF:=hG.U5;have hm:=Ed MW hh.1 hh.2;have hL:cY l h=ia l h l.length:=by rw[cY,aI hm]
 have hp:1<=cY l h:=by rw[hL];exact uq hh.1 _
 refine⟨hp,λs h0 LR=>?_,?_,by show(cP l w).atoms.length<=_;omega,by show(cP l w).u'.length<=_;omega⟩
 .unfold fi;rw[aJ LR];have hlen:0<(bb l w h).atoms.length:=y9.2 LR;obtain⟨k,hk⟩:∃k:Nat,min s.atom (((bb l w h).atoms.length:Int)-1)=k:=⟨(min s.atom (((bb l w h).atoms.length:Int)-1)).toNat,by omega⟩
  have NO:k<(bb l w h).atoms.length:=by omega
  rw[hk,cc NO];obtain⟨i,e1,e2,e3⟩:=DI MW hn hw.1 hw.2 _ (ML (show k<(cP l w).atoms.length from NO));have e4:(bb l w h).atoms[k].node=i:=e1;rw[e4,uH,hL];have Uy:iS (bb l w h).nodes (bb l w h).h=true:=hm;rw[aI ⟨Uy,by omega,show((i:Nat):Int)<(l.length:Nat) by omega⟩,gX];exact least_le e2 e3
 .have h1:jT (bb l w h) 0=PL (cP l w).atoms:=rfl;have h2:=Ct MW hn hw.1 hw.2;have h3:(ej l).1.H'<=1099511627776:=by
   unfold ga at hc;rw[aI MW]at hc;split at hc
   .cases hc
   .omega
  have h4:=rZ MW h3;have h5:¬(ej l).1.H'>mulR (cY l h) 32768:=λh=>by
   unfold iO at XD;rw[aJ (λg=>g ⟨hw,hh⟩),aJ (λg=>g hc),aI h]at XD;cases XD
  have h6:=Fm hp;omega
open Go.Proofs Go.Proofs.Tryz
def ur(b:Bk)(hb:BkFull b):bc prog 42 [.rp (iV b)] (dc b.Mi):=λU=>
 (AH b hb U).AU λ_ _ h=>h.2.vR h.1 rfl
open Go.Proofs Go.Proofs.Tryz
def aQ.HO{K U:ag}{N:Nat->Prop}{e sz:Nat}{v:V}{rows rows':List V}(h:aQ K U e sz v rows)(hN:∀id,K id=none->N id)(hr:NC U N rows rows'):Fz U N v (.sl sz rows'):=by
 rcases h with⟨rfl,rfl⟩|⟨id,rfl,ho,hk⟩
 .cases hr;exact .nil sz
 .exact .own id 0 rows.length ⟨e,sz,rows⟩ rows' ho (hN id hk) (by simp) (by rw[zy,kP];exact hr)
structure Ms where
 LD:Int
 LY:Int
deriving DecidableEq
def Ms.lt(a b:Ms):Prop:=a.LD<b.LD\/a.LD=b.LD/\a.LY<b.LY
instance (a b:Ms):Decidable (a.lt b):=by unfold Ms.lt;infer_instance
def Ms.lt_irrefl(a:Ms):¬a.lt a:=by unfold Ms.lt;omega
def Ms.on(a:Ms)(r:Int):Ms:=⟨a.LD+1,a.LY+r⟩
def Ms.FQ{a b:Ms}(r:Int):(a.on r).lt (b.on r)↔a.lt b:=by unfold Ms.lt Ms.on;simp only;omega
section
variable {S:Type} (next:S->List S) (fin:S->Prop) [DecidablePred fin] (rank:S->Int) (dflt:S)
def kg:List (Ms×S)->Option (Ms×S)->Option (Ms×S)
 |[],o=>o
 |x::r,none=>kg r (some x)
 |x::r,some y=>kg r (if x.1.lt y.1 then some x else some y)
def dC:Nat->S->Ms×S
 |0,_=>(⟨0,0⟩,dflt)
 |f+1,s=>if fin s then(⟨0,0⟩,dflt)else(kg ((next s).map λt=>(((dC f t).1).on (rank t),t)) none).getD (⟨0,0⟩,dflt)
def pA{S:Type}:∀(L:List (Ms×S)) (y:Ms×S),∃z,kg L (some y)=some z/\(z=y/\(∀x∈L,¬x.1.lt y.1)\/∃A B,L=A++z::B/\z.1.lt y.1/\(∀x∈A,z.1.lt x.1)/\∀x∈B,¬x.1.lt z.1)
 |[],y=>⟨y,rfl,.inl ⟨rfl,λx h=>by cases h⟩⟩
 |x::r,y=>by
  rw[kg];by_cases hx:x.1.lt y.1
  .rw[aI hx];obtain⟨z,h1,h2⟩:=pA r x;refine⟨z,h1,.inr ?_⟩;rcases h2 with⟨rfl,h⟩|⟨A,B,rfl,h3,h4,h5⟩
   .exact⟨[],r,rfl,hx,(λw hw=>by cases hw),h⟩
   .refine⟨x::A,B,rfl,by unfold Ms.lt at*;omega,λw hw=>?_,h5⟩;rcases dI.1 hw with rfl|hw
    .exact h3
    .exact h4 w hw
  .rw[aJ hx];obtain⟨z,h1,h2⟩:=pA r y;refine⟨z,h1,?_⟩;rcases h2 with⟨rfl,h⟩|⟨A,B,rfl,h3,h4,h5⟩
   .exact .inl ⟨rfl,λw hw=>(dI.1 hw).elim (λe=>e▸hx) (h w)⟩
   .refine .inr ⟨x::A,B,rfl,h3,λw hw=>?_,h5⟩;rcases dI.1 hw with rfl|hw
    .unfold Ms.lt at*;omega
    .exact h4 w hw
def zn{S:Type}{L:List (Ms×S)}(h:L≠[]):∃z A B,kg L none=some z/\L=A++z::B/\(∀x∈A,z.1.lt x.1)/\∀x∈B,¬x.1.lt z.1:=by
 cases L with
 |nil=>exact absurd rfl h
 |cons x r=>
  obtain⟨z,h1,h2⟩:=pA r x;rw[kg];rcases h2 with⟨rfl,h⟩|⟨A,B,rfl,h3,h4,h5⟩
  .exact⟨z,[],r,h1,rfl,(λw hw=>by cases hw),h⟩
  .refine⟨z,x::A,B,h1,rfl,λw hw=>?_,h5⟩;rcases dI.1 hw with rfl|hw
   .exact h3
   .exact h4 w hw
def gg:S->List S->Prop
 |s,[]=>fin s
 |s,t::r=>¬fin s/\t∈next s/\gg t r
def dP:List S->Ms
 |[]=>⟨0,0⟩
 |t::r=>(dP r).on (rank t)
structure Bs(V:S->Prop)(I:S->Nat)(key:S->Int):Prop where
 ne:∀s,V s->¬fin s->next s≠[]
 on:∀s,V s->¬fin s->∀t∈next s,V t/\I t<I s
 key:∀s,V s->¬fin s->(next s).Pairwise λa b=>key b<key a
variable {next fin rank dflt} {V:S->Prop} {I:S->Nat} {key:S->Int}
def pn(h:Bs next fin V I key):∀(f g:Nat) (s:S),V s->I s<f->I s<g->dC next fin rank dflt f s=dC next fin rank dflt g s
 |0,_,_,_,h1,_=>by omega
 |_+1,0,_,_,_,h2=>by omega
 |f+1,g+1,s,hv,h1,h2=>by
  rw[dC,dC];split
  .rfl
  .rename_i hf;congr 2;refine List.map_congr_left λt ht=>?_;obtain⟨v,m⟩:=h.on s hv hf t ht;rw[pn h f g t v (by omega) (by omega)]
def jc(h:Bs next fin V I key){F:Nat}{s:S}(hv:V s)(hF:I s<F)(hf:¬fin s):
 ∃A t B,next s=A++t::B/\dC next fin rank dflt F s=((dC next fin rank dflt F t).1.on (rank t),t)/\(∀x∈A,((dC next fin rank dflt F t).1.on (rank t)).lt ((dC next fin rank dflt F x).1.on (rank x)))/\∀x∈B,¬((dC next fin rank dflt F x).1.on (rank x)).lt ((dC next fin rank dflt F t).1.on (rank t)):=by
 have e:dC next fin rank dflt F s=(kg ((next s).map λt=>(((dC next fin rank dflt F t).1).on (rank t),t)) none).getD (⟨0,0⟩,dflt):=by
  obtain⟨f,rfl⟩:∃f,F=f+1:=⟨F-1,by omega⟩
  rw[dC,aJ hf];congr 2;refine List.map_congr_left λt ht=>?_;obtain⟨v,m⟩:=h.on s hv hf t ht;rw[pn h f (f+1) t v (by omega) (by omega)]
 obtain⟨z,A,B,h1,h2,h3,h4⟩:=zn (L:=(next s).map λt=>(((dC next fin rank dflt F t).1).on (rank t),t)) (by simpa using h.ne s hv hf);obtain⟨A',R,e1,e2,e3⟩:=List.map_eq_append_iff.1 h2;obtain⟨t,B',e4,e5,e6⟩:=List.map_eq_cons_iff.1 e3;subst e2 e5 e6;refine⟨A',t,B',by rw[e1,e4],by rw[e,h1];rfl,λx hx=>h3 _ (List.mem_map_of_mem hx),λx hx=>h4 _ (List.mem_map_of_mem hx)⟩
def kZ(h:Bs next fin V I key){F:Nat}:∀(P:List S) (s:S),V s->I s<F->gg next fin s P->¬(dP rank P).lt (dC next fin rank dflt F s).1
 |[],s,hv,hF,hp=>by
  obtain⟨f,rfl⟩:∃f,F=f+1:=⟨F-1,by omega⟩
  rw[dC,aI (show fin s from hp)];exact Ms.lt_irrefl _
 |t::r,s,hv,hF,⟨hf,ht,hr⟩=>by
  obtain⟨A,z,B,e1,e2,e3,e4⟩:=jc (rank:=rank) (dflt:=dflt) h hv hF hf;obtain⟨v,m⟩:=h.on s hv hf t ht;have ih:=kZ (F:=F) h r t v (by omega) hr;rw[e2,dP];show¬((dP rank r).on (rank t)).lt ((dC next fin rank dflt F z).1.on (rank z));have ih':¬((dP rank r).on (rank t)).lt ((dC next fin rank dflt F t).1.on (rank t)):=λg=>ih ((Ms.FQ _).1 g);rw[e1]at ht;rcases fq.1 ht with g|g
  .have:=e3 t g;unfold Ms.lt at*;omega
  .rcases dI.1 g with rfl|g
   .exact ih'
   .have:=e4 t g;unfold Ms.lt at*;omega
def jP(next:S->List S)(fin:S->Prop)[DecidablePred fin](rank:S->Int)(dflt:S)(F:Nat):Nat->S->List S
 |0,_=>[]
 |f+1,s=>if fin s then[]else(dC next fin rank dflt F s).2::jP next fin rank dflt F f (dC next fin rank dflt F s).2
def mm(h:Bs next fin V I key){F:Nat}:∀(f:Nat) (s:S),V s->I s<f->I s<F->gg next fin s (jP next fin rank dflt F f s)/\dP rank (jP next fin rank dflt F f s)=(dC next fin rank dflt F s).1
 |0,s,hv,hf,hF=>by omega
 |f+1,s,hv,hf,hF=>by
  rw[jP];by_cases he:fin s
  .rw[aI he];obtain⟨g,rfl⟩:∃g,F=g+1:=⟨F-1,by omega⟩
   refine⟨he,?_⟩;rw[dC,aI he];rfl
  .rw[aJ he];obtain⟨A,z,B,e1,e2,e3,e4⟩:=jc (rank:=rank) (dflt:=dflt) h hv hF he;have hz:z∈next s:=by rw[e1];simp
   obtain⟨v,m⟩:=h.on s hv he z hz;have e5:(dC next fin rank dflt F s).2=z:=by rw[e2]
   rw[e5];obtain⟨i1,i2⟩:=mm (F:=F) h f z v (by omega) (by omega);exact⟨⟨he,hz,i1⟩,by rw[dP,i2,e2]⟩
inductive sW(key:S->Int):List S->List S->Prop
 |same (P:List S):sW key P P
 |first (t u:S) (P Q:List S) (h:key u<key t):sW key (t::P) (u::Q)
 |on (t:S) (P Q:List S) (h:sW key P Q):sW key (t::P) (t::Q)
def sZ[DecidableEq S](h:Bs next fin V I key){F:Nat}:∀(f:Nat) (s:S) (P:List S),V s->I s<f->I s<F->gg next fin s P->dP rank P=(dC next fin rank dflt F s).1->sW key (jP next fin rank dflt F f s) P
 |0,s,P,hv,hf,hF,hp,hc=>by omega
 |f+1,s,[],hv,hf,hF,hp,hc=>by
  rw[jP,aI (show fin s from hp)];exact .same _
 |f+1,s,u::P,hv,hf,hF,⟨he,hu,hp⟩,hc=>by
  rw[jP,aJ he];obtain⟨A,z,B,e1,e2,e3,e4⟩:=jc (rank:=rank) (dflt:=dflt) h hv hF he;have hz:z∈next s:=by rw[e1];simp
  have e5:(dC next fin rank dflt F s).2=z:=by rw[e2]
  rw[e5];obtain⟨vu,mu⟩:=h.on s hv he u hu;have hl:=kZ (rank:=rank) (dflt:=dflt) (F:=F) h P u vu (show I u<F by omega) hp;rw[e2,dP]at hc;simp only at hc;have hl':¬((dP rank P).on (rank u)).lt ((dC next fin rank dflt F u).1.on (rank u)):=λg=>hl ((Ms.FQ _).1 g);rw[hc]at hl';by_cases huz:u=z
  .subst huz;refine .on _ _ _ (sZ (F:=F) h f u P vu (by omega) (by omega) hp ?_);have:=congrArg Ms.LD hc;have:=congrArg Ms.LY hc;generalize dP rank P=x at*;generalize (dC next fin rank dflt F u).1=y at*;cases x;cases y;simp only[Ms.on]at*;simp only[Ms.mk.injEq];omega
  .refine .first _ _ _ _ ?_;have hk:=h.key s hv he;rw[e1]at hu hk;rcases fq.1 hu with g|g
   .exact absurd (e3 u g) hl'
   .rcases dI.1 g with g|g
    .exact absurd g huz
    .exact(List.pairwise_cons.1 (List.pairwise_append.1 hk).2.1).1 u g
end
def dU(b:Bk)(s:Lu):Int:=o7 b.atoms s (kA b.atoms s (fi b s).body) 0 (fi b s).body
def mB(b:Bk)(k:Nat):Lu:=⟨k,0,decide ((Pf b.Mi k).forced≠0)⟩
def aV(b:Bk)(s:Lu):List Lu:=
 if dU b s<=s.atom then[fO b.atoms s (fi b s).body]
 else if j1 b.Mi (s.atom+1) (dU b s)>=0 then[mB b (j1 b.Mi (s.atom+1) (dU b s)).toNat]
 else(List.range (dU b s-s.atom).toNat).map λi=>mB b ((dU b s).toNat-i)
def bE(b:Bk)(s:Lu):Prop:=s.atom>=b.atoms.length
instance (b:Bk):DecidablePred (bE b):=λs=>by unfold bE;infer_instance
def dS(b:Bk)(s:Lu):Prop:=et b.atoms s\/s.atom=b.atoms.length/\s.done=0
def PM(b:Bk)(s:Lu):Nat:=((b.atoms.length-s.atom)*1152921504606846976+(1152921504606846976-s.done)).toNat
def oY{b:List On}{i fit:Int}(h0:0<=i)(hf:fit<=(b.length:Int)-1)(h:j1 b (i+1) fit>=0):i<j1 b (i+1) fit/\j1 b (i+1) fit<=fit:=by
 unfold j1 at*;rcases qZ ((Xc b (i+1) fit).map (Eg b)) Eo with⟨e,-⟩|⟨L,x,R,e1,-,-,e4⟩
 .rw[e]at h;simp[Eo]at h
 .rw[e4]at h|-;have hx:x∈(Xc b (i+1) fit).map (Eg b):=by rw[e1];simp
  obtain⟨k,hk,rfl⟩:=gO.1 hx;unfold Xc Ft at hk;have:=List.mem_range'_1.1 hk;show i<((k:Nat):Int)/\((k:Nat):Int)<=fit;omega
def bt{b:Bk}(hb:bP b):Bs (aV b) (bE b) (dS b) (PM b) (·.atom):=by
 have hlen:=hb.Uq;have hH:∀s:Lu,et b.atoms s->(N4 b.atoms s.atom).h<=18014398509481984/\0<(N4 b.atoms s.atom).h:=λs hm=>by
  obtain⟨k',MD⟩:∃k':Nat,s.atom=k':=⟨s.atom.toNat,by have:=hm.1;omega⟩
  have NO:k'<b.atoms.length:=by have:=hm.1;omega
  rw[MD,cc NO];exact⟨(hb.tight _ (ML NO)).2.2.2,by have:=hb.pos _ (ML NO);omega⟩
 have hmf:∀s,dS b s->¬bE b s->et b.atoms s:=λs hv hf=>hv.resolve_right λg=>hf (by unfold bE;omega);have QG:∀(s:Lu) (k:Nat),et b.atoms s->s.atom<k->k<=b.atoms.length->dS b (mB b k)/\PM b (mB b k)<PM b s:=λs k hm h1 h2=>by
  have hd:=hH s hm;have V2:=hm.2;have Rf:=hm.1;constructor
  .unfold dS mB et;simp only;rcases Nat.lt_or_ge k b.atoms.length with h|h
   .left;exact⟨⟨by omega,by omega⟩,Int.le_refl _,.inl trivial⟩
   .right;exact⟨by omega,trivial⟩
  .unfold PM mB;simp only;omega
 have Qw:∀(s:Lu),et b.atoms s->dS b (fO b.atoms s (fi b s).body)/\PM b (fO b.atoms s (fi b s).body)<PM b s:=λs hm=>by
  have hd:=hH s hm;have YE:=By hb.toBkFull s hm.1.1;have V2:=hm.2;have Rf:=hm.1;unfold fO;rw[aI (show wO b.atoms s (fi b s).body from⟨hm,YE⟩)];have e1:(fp b.atoms s (fi b s).body).atom=s.atom:=rfl;have e2:(fp b.atoms s (fi b s).body).fr=s.done:=rfl;have e3:(fp b.atoms s (fi b s).body).h=min ((N4 b.atoms s.atom).h-s.done) (fi b s).body:=rfl;unfold jS;rw[e1,e2,e3];split
  .rename_i Lr;constructor
   .left;refine⟨Rf,?_,.inr Lr⟩;show 0<=s.done+min ((N4 b.atoms s.atom).h-s.done) (fi b s).body;omega
   .unfold PM;simp only;omega
  .constructor
   .unfold dS et;simp only;rcases Int.lt_or_le (s.atom+1) b.atoms.length with h|h
    .left;exact⟨⟨by omega,h⟩,Int.le_refl _,.inl trivial⟩
    .right;exact⟨by omega,trivial⟩
   .unfold PM;simp only;omega
 have hre:∀s,et b.atoms s->dU b s<=b.atoms.length:=λs hm=>by
  obtain⟨u,u1,-,u3,-⟩:=mY hb.Nw hb.pos hm (kA b.atoms s (fi b s).body) 0 (fi b s).body;unfold dU;rw[u1];omega
 refine⟨λs hv hf=>?_,λs hv hf t ht=>?_,λs hv hf=>?_⟩
 .unfold aV;split
  .simp
  .split
   .simp
   .rename_i h1 h2;have:=(hmf s hv hf).1;intro e;have:=congrArg List.length e;simp at this;omega
 .have hm:=hmf s hv hf;have hr:=hre s hm;have Rf:=hm.1;unfold aV at ht;split at ht
  .rw[jI.1 ht];exact Qw s hm
  .split at ht
   .rename_i h1 h2;have:=oY Rf.1 (by omega) h2;rw[jI.1 ht];exact QG s _ hm (by omega) (by omega)
   .rename_i h1 h2;obtain⟨i,hi,rfl⟩:=gO.1 ht;have:=List.mem_range.1 hi;exact QG s _ hm (by omega) (by omega)
 .have hm:=hmf s hv hf;have Rf:=hm.1;unfold aV;split
  .simp
  .split
   .simp
   .rw[List.pairwise_map];refine List.Pairwise.imp_of_mem ?_ (List.pairwise_lt_range (n:=(dU b s-s.atom).toNat));intro i j hi hj Tr;have:=List.mem_range.1 hi;have:=List.mem_range.1 hj;show(((dU b s).toNat-j:Nat):Int)<(((dU b s).toNat-i:Nat):Int);omega
instance:DecidableEq Lu:=λa b=>decidable_of_iff (a.atom=b.atom/\a.done=b.done/\a.free=b.free) (by cases a;cases b;simp)
def br(b:Bk)(t:Lu):Int:=if t.done>0 then 0 else(Pf b.Mi t.atom.toNat).rank
def gy(b:Bk):Lu->Ms->List Lu->Option Ms
 |a,c,[]=>if c.LD=0 then(if(b.atoms.length:Int)=0 then some ⟨0,0⟩else none)else if(aV b a).any (λt=>decide (bE b t))then some c else none
 |a,c,s::r=>if bE b a\/bE b s\/s≠a/\c.LD=0 then none
  else if c.LD>0 then(if s∈aV b a then gy b s ⟨c.LD+1,c.LY+br b s⟩ r else none)else gy b s ⟨c.LD+1,c.LY⟩ r
def iJ(b:Bk)(l:List Lu):Option Ms:=gy b ⟨0,0,true⟩ ⟨0,0⟩ l
def Bv{b:Bk}(hb:bP b):(Pf b.Mi b.atoms.length).rank=0:=by
 have hl:=hb.Uq;have hm:=hb.aaa;unfold Bu at hm;rw[Ba,fa]at hm;have h:=hm.1 b.atoms.length (List.mem_range.2 (by omega));unfold qD at h;rw[NV,NA (show((b.atoms.length:Nat):Int)=(b.Mi.length:Int)-1 by omega)]at h;unfold o5 at h;obtain⟨h1,h2,-,-,h5⟩:=h;rcases h5 with h5|⟨h5,-,-,-⟩
 .exact h5
 .by_cases h0:((b.atoms.length:Nat):Int)=0
  .have:=h1 (NA h0);omega
  .have:=h2 (Nz h0) rfl;omega
def x7{b:Bk}(hb:bP b){e:Lu}(hv:dS b e)(hf:bE b e):br b e=0:=by
 unfold bE at hf;rcases hv with h|h
 .have:=h.1.2;omega
 .unfold br;rw[aJ (by omega),show e.atom.toNat=b.atoms.length by omega];exact Bv hb
def tW{b:Bk}(hb:bP b):∀(P:List Lu) (s:Lu) (c:Ms),1<=c.LD->dS b s->¬bE b s->gg (aV b) (bE b) s P->gy b s c P.dropLast=some ⟨c.LD+P.length-1,c.LY+(dP (br b) P).LY⟩
 |[],s,c,_,_,hf,hp=>absurd hp hf
 |[e],s,c,h1,hv,hf,⟨_,he,hfe⟩=>by
  have hg:=(bt hb).on s hv hf e he;have hr:=x7 hb hg.1 (show bE b e from hfe);have ha:(aV b s).any (λt=>decide (bE b t))=true:=D1.2 ⟨e,he,NA (show bE b e from hfe)⟩;rw[List.dropLast_singleton,gy,aJ (by omega),aI ha];simp only[dP,Ms.on,hr,List.length_singleton];cases c;simp
 |t::u::r,s,c,h1,hv,hf,⟨_,ht,hp⟩=>by
  have hg:=(bt hb).on s hv hf t ht;have hft:¬bE b t:=hp.1;rw[List.dropLast_cons₂,gy,aJ (by rintro(h|h|h);exact hf h;exact hft h;omega),aI (by omega),aI ht,tW hb (u::r) t _ (by simp only;omega) hg.1 hft hp]
  simp only[dP,Ms.on,MM];congr 2
  .omega
  .omega
def ik(rank:Lu->Int):∀P:List Lu,(dP rank P).LD=P.length
 |[]=>rfl
 |t::r=>by simp only[dP,Ms.on,ik rank r,MM];omega
def ph{b:Bk}(hb:bP b){P:List Lu}(hp:gg (aV b) (bE b) ⟨0,0,true⟩ P):iJ b ((⟨0,0,true⟩:Lu)::P).dropLast=some (dP (br b) P):=by
 unfold iJ;cases P with
 |nil=>
  have h0:bE b ⟨0,0,true⟩:=hp;unfold bE at h0;simp only at h0;rw[List.dropLast_singleton,gy,aI rfl,aI (by omega)];rfl
 |cons t r=>
  have hf:¬bE b ⟨0,0,true⟩:=hp.1;have h0:=hf;unfold bE at h0;simp only at h0;have hv:dS b ⟨0,0,true⟩:=.inl ⟨⟨Int.le_refl _,by simp only;omega⟩,Int.le_refl _,.inl rfl⟩;rw[List.dropLast_cons₂,gy,aJ (by rintro(h|h|h);exact hf h;exact hf h;exact h.1 rfl),aJ (by simp),tW hb (t::r) _ _ (by simp) hv hf hp]
  have:=ik (br b) (t::r);generalize dP (br b) (t::r)=x at*;cases x;simp only at*;simp only[aX,Ms.mk.injEq];omega
def iT(b:Bk)(on:Lu->Lu):Nat->Lu->List Lu
 |0,_=>[]
 |f+1,s=>if bE b s then[]else s::iT b on f (on s)
def Sv(b:Bk)(on:Lu->Lu):Nat->Lu->List Lu
 |0,_=>[]
 |f+1,s=>if bE b s then[]else on s::Sv b on f (on s)
def oL{b:Bk}(hb:bP b){on:Lu->Lu}(Mx:∀s,dS b s->¬bE b s->on s∈aV b s):∀(f:Nat) (s:Lu),dS b s->PM b s<f->gg (aV b) (bE b) s (Sv b on f s)/\iT b on f s=(s::Sv b on f s).dropLast
 |0,s,_,h=>by omega
 |f+1,s,hv,h=>by
  rw[Sv,iT];by_cases hf:bE b s
  .rw[aI hf,aI hf];exact⟨hf,rfl⟩
  .rw[aJ hf,aJ hf];obtain⟨v,m⟩:=(bt hb).on s hv hf _ (Mx s hv hf);obtain⟨i1,i2⟩:=oL hb Mx f (on s) v (by omega);exact⟨⟨hf,Mx s hv hf,i1⟩,by rw[i2,List.dropLast_cons₂]⟩
def oe(b:Bk)(F:Nat):∀(f:Nat) (s:Lu),jP (aV b) (bE b) (br b) ⟨0,0,false⟩ F f s=Sv b (λs=>(dC (aV b) (bE b) (br b) ⟨0,0,false⟩ F s).2) f s
 |0,_=>rfl
 |f+1,s=>by
  rw[jP,Sv];by_cases hf:bE b s
  .rw[aI hf,aI hf]
  .rw[aJ hf,aJ hf,oe b F f]
def qp(rank:Lu->Int):List Lu->Lu->Lu
 |[],m=>m
 |x::r,m=>qp rank r (if rank x<rank m then x else m)
def yC(rank:Lu->Int):∀(L:List Lu) (m:Lu),qp rank L m=m\/qp rank L m∈L
 |[],m=>.inl rfl
 |x::r,m=>by
  rw[qp];rcases yC rank r (if rank x<rank m then x else m)with h|h
  .rw[h];split
   .exact .inr (by simp)
   .exact .inl rfl
  .exact .inr (by simp[h])
def iD(b:Bk)(s:Lu):Lu:=match aV b s with
 |[]=>⟨0,0,false⟩
 |x::r=>qp (br b) r x
def nh{b:Bk}(hb:bP b)(s:Lu)(hv:dS b s)(hf:¬bE b s):iD b s∈aV b s:=by
 have hn:=(bt hb).ne s hv hf;unfold iD;cases h:aV b s with
 |nil=>exact absurd h hn
 |cons x r=>
  simp only;rcases yC (br b) r x with g|g
  .rw[g];simp
  .simp[g]
def cT(b:Bk)(hb:bP b):dS b ⟨0,0,true⟩:=by
 unfold dS et;simp only;by_cases h:0<b.atoms.length
 .left;exact⟨⟨Int.le_refl _,by omega⟩,Int.le_refl _,.inl trivial⟩
 .right;exact⟨by omega,trivial⟩
def dR:Nat:=2000000000000000000000000000
def fZ{b:Bk}(hb:bP b):PM b ⟨0,0,true⟩<dR:=by
 have:=hb.len;unfold PM dR;simp only;omega
def bI(b:Bk)(s:Lu):Ms×Lu:=dC (aV b) (bE b) (br b) ⟨0,0,false⟩ dR s
def gI(b:Bk):List Lu:=iT b (λs=>(bI b s).2) dR ⟨0,0,true⟩
def eZ(b:Bk):List Lu:=iT b (iD b) dR ⟨0,0,true⟩
def Br{b:Bk}(hb:bP b):gg (aV b) (bE b) ⟨0,0,true⟩ (Sv b (λs=>(bI b s).2) dR ⟨0,0,true⟩)/\iJ b (gI b)=some (bI b ⟨0,0,true⟩).1:=by
 have hg:=mm (rank:=br b) (dflt:=(⟨0,0,false⟩:Lu)) (bt hb) (F:=dR) dR ⟨0,0,true⟩ (cT b hb) (fZ hb) (fZ hb);rw[oe]at hg;change gg (aV b) (bE b) ⟨0,0,true⟩ (Sv b (λs=>(bI b s).2) dR ⟨0,0,true⟩)/\dP (br b) (Sv b (λs=>(bI b s).2) dR ⟨0,0,true⟩)=(bI b ⟨0,0,true⟩).1 at hg;have Mx:∀s,dS b s->¬bE b s->(bI b s).2∈aV b s\/¬PM b s<dR:=λs hv hf=>by
  by_cases hm:PM b s<dR
  .obtain⟨A,t,B,e1,e2,-,-⟩:=jc (rank:=br b) (dflt:=(⟨0,0,false⟩:Lu)) (bt hb) hv hm hf;left;unfold bI;rw[e2,e1];simp
  .exact .inr hm
 refine⟨hg.1,?_⟩;have ht:∀(f:Nat) (s:Lu),dS b s->PM b s<f->f<=dR->iT b (λs=>(bI b s).2) f s=(s::Sv b (λs=>(bI b s).2) f s).dropLast:=by
  intro f
  induction f with
  |zero=>intro s _ h;omega
  |succ f ih=>
   intro s hv h hF;rw[Sv,iT];by_cases hf:bE b s
   .rw[aI hf,aI hf];rfl
   .rw[aJ hf,aJ hf];obtain⟨v,m⟩:=(bt hb).on s hv hf _ ((Mx s hv hf).resolve_right (by omega));rw[ih _ v (by omega) (by omega),List.dropLast_cons₂]
 unfold gI;rw[ht dR _ (cT b hb) (fZ hb) (Md _),ph hb hg.1];exact congrArg some hg.2
def vQ{b:Bk}(hb:bP b):∃P,gg (aV b) (bE b) ⟨0,0,true⟩ P/\eZ b=((⟨0,0,true⟩:Lu)::P).dropLast/\iJ b (eZ b)=some (dP (br b) P)/\¬(dP (br b) P).lt (bI b ⟨0,0,true⟩).1:=by
 obtain⟨h1,h2⟩:=oL hb (nh hb) dR ⟨0,0,true⟩ (cT b hb) (fZ hb);refine⟨_,h1,h2,?_,?_⟩
 .unfold eZ;rw[h2,ph hb h1]
 .exact kZ (rank:=br b) (dflt:=(⟨0,0,false⟩:Lu)) (bt hb) _ _ (cT b hb) (fZ hb) h1
def mZ{b:Bk}(Ns:∀a∈b.atoms,1<=a.h):∀(n k:Nat),k+n<=b.atoms.length->jT b (k+n)<=jT b k
 |0,k,_=>Int.le_refl _
 |n+1,k,h=>by
  have h1:=nq (b:=b) (show k+n<b.atoms.length by omega);have h2:=Ns _ (ML (show k+n<b.atoms.length by omega));have h3:=mZ Ns n k (by omega);rw[show k+(n+1)=k+n+1 by omega];omega
def iM(b:Bk)(L:Int)(s:Lu):Int:=(b.atoms.length-s.atom)*L+jT b s.atom.toNat-s.done
def sC{b:Bk}(hb:bP b){L:Int}(hL:gG b L){s t:Lu}(hv:dS b s)(hf:¬bE b s)(ht:t∈aV b s):iM b L t+L<=iM b L s:=by
 have hm:et b.atoms s:=hv.resolve_right λg=>hf (by unfold bE;omega);have Rf:=hm.1;have V2:=hm.2;have hL1:=hL.pos;have LR:b.atoms≠[]:=λh=>by rw[h]at Rf;simp at Rf;omega
 have YE:=hL.body s Rf.1 LR;obtain⟨k,hk⟩:∃k:Nat,s.atom=k:=⟨s.atom.toNat,by omega⟩
 have NO:k<b.atoms.length:=by omega
 have L8:=nq NO;have ZS:=hb.pos _ (ML NO);have hg:(N4 b.atoms s.atom).h=b.atoms[k].h:=by rw[hk,cc NO]
 have QG:∀c:Nat,s.atom<c->c<=b.atoms.length->iM b L (mB b c)+L<=iM b L s:=λc h1 h2=>by
  have h3:=mZ hb.pos (c-(k+1)) (k+1) (by omega);rw[show k+1+(c-(k+1))=c by omega]at h3;have h4:((b.atoms.length:Int)-c)*L+L<=(b.atoms.length-s.atom)*L:=by
   have:((b.atoms.length:Int)-c)*L+L=(b.atoms.length-c+1)*L:=by rw[Int.add_mul,Int.one_mul]
   rw[this];exact Int.mul_le_mul_of_nonneg_right (by omega) (by omega)
  unfold iM mB;simp only;rw[show((c:Int)).toNat=c by omega,show s.atom.toNat=k by omega];omega
 have hre:dU b s<=b.atoms.length:=by
  obtain⟨u,u1,-,u3,-⟩:=mY hb.Nw hb.pos hm (kA b.atoms s (fi b s).body) 0 (fi b s).body;unfold dU;rw[u1];omega
 have hlen:=hb.Uq;unfold aV at ht;split at ht
 .rw[jI.1 ht];unfold fO;rw[aI (show wO b.atoms s (fi b s).body from⟨hm,by omega⟩)];have e1:(fp b.atoms s (fi b s).body).atom=s.atom:=rfl;have e2:(fp b.atoms s (fi b s).body).fr=s.done:=rfl;have e3:(fp b.atoms s (fi b s).body).h=min ((N4 b.atoms s.atom).h-s.done) (fi b s).body:=rfl;unfold jS;rw[e1,e2,e3];split
  .unfold iM;simp only;omega
  .have:=QG (k+1) (by omega) (by omega);unfold iM mB at this;unfold iM;simp only at this|-;rw[show(((k+1:Nat):Int)).toNat=k+1 by omega]at this;rw[show(s.atom+1).toNat=k+1 by omega,show s.atom+1=((k+1:Nat):Int) by omega];exact this
 .split at ht
  .rename_i h1 h2;have:=oY Rf.1 (by omega) h2;rw[jI.1 ht];exact QG _ (by omega) (by omega)
  .rename_i h1 h2;obtain⟨i,hi,rfl⟩:=gO.1 ht;have:=List.mem_range.1 hi;exact QG _ (by omega) (by omega)
def sO{b:Bk}(hb:bP b){L:Int}(hL:gG b L):∀(P:List Lu) (s:Lu),dS b s->gg (aV b) (bE b) s P->(P.length:Int)*L<=iM b L s
 |[],s,hv,hp=>by
  have hL1:=hL.pos;have h0:0<=iM b L s:=by
   have hf:s.atom>=b.atoms.length:=hp;rcases hv with h|h
   .have:=h.1;omega
   .unfold iM;rw[h.1,h.2,Int.sub_self,Int.zero_mul];have:=n9 hb.pos (b:=b) b.atoms.length;rw[show((b.atoms.length:Int)).toNat=b.atoms.length by omega];omega
  simpa using h0
 |t::r,s,hv,⟨hf,ht,hp⟩=>by
  have hg:=(bt hb).on s hv hf t ht;have ih:=sO hb hL r t hg.1 hp;have hs:=sC hb hL hv hf ht;have:((t::r).length:Int)*L=r.length*L+L:=by
   rw[MM,show(((r.length+1:Nat)):Int)=(r.length:Int)+1 by omega,Int.add_mul,Int.one_mul]
  omega
def rH{b:Bk}(hb:bP b){L:Int}(hL:gG b L){s:Lu}(hv:dS b s):0<=iM b L s:=by
 have hL1:=hL.pos;have hr:=n9 hb.pos (b:=b);rcases hv with h|h
 .have h1:=h.1;have h2:=h.2;obtain⟨k,hk⟩:∃k:Nat,s.atom=k:=⟨s.atom.toNat,by omega⟩
  have NO:k<b.atoms.length:=by omega
  have L8:=nq NO;have hnn:=hr (k+1);have hg:(N4 b.atoms s.atom).h=b.atoms[k].h:=by rw[hk,cc NO]
  have ZS:=hb.pos _ (ML NO);have hm:0<=((b.atoms.length:Int)-s.atom)*L:=Int.mul_nonneg (by omega) (by omega);unfold iM;rw[show s.atom.toNat=k by omega];omega
 .unfold iM;rw[h.1,h.2,Int.sub_self,Int.zero_mul];have:=hr b.atoms.length;rw[show((b.atoms.length:Int)).toNat=b.atoms.length by omega];omega
def Ur(b:Bk)(s:Lu):Prop:=s.free=true->s.done=0/\(s.atom=0\/(Pf b.Mi s.atom.toNat).forced≠0)
def Ad{b:Bk}{s t:Lu}(ht:t∈aV b s):Ur b t:=by
 have hc:∀k,Ur b (mB b k):=λk h=>by
  unfold mB at h|-;simp only[NV]at h;exact⟨rfl,.inr h⟩
 unfold aV at ht;split at ht
 .rw[jI.1 ht];intro h;exfalso;revert h;unfold fO jS
  (repeat' split)<;>simp
 .split at ht
  .rw[jI.1 ht];exact hc _
  .obtain⟨i,-,rfl⟩:=gO.1 ht;exact hc _
def gH(b:Bk)(c:Nat->Lu->Lu):Nat->Nat->Lu->List Lu
 |0,_,_=>[]
 |f+1,i,s=>if bE b s then[]else s::gH b c f (i+1) (c i s)
def tJ{b:Bk}(hb:bP b){L:Int}(hL:gG b L){c:Nat->Lu->Lu}(hc:∀i s,dS b s->Ur b s->¬bE b s->c i s∈aV b s):∀(f i:Nat) (s:Lu),dS b s->Ur b s->iM b L s<f*L->∃P,gg (aV b) (bE b) s P/\gH b c f i s=(s::P).dropLast
 |0,i,s,hv,_,h=>by
  have:=rH hb hL hv;simp at h;omega
 |f+1,i,s,hv,ho,h=>by
  rw[gH];by_cases hf:bE b s
  .rw[aI hf];exact⟨[],hf,rfl⟩
  .rw[aJ hf];have hm:=hc i s hv ho hf;have hg:=(bt hb).on s hv hf _ hm;have hs:=sC hb hL hv hf hm;have e:((f+1:Nat):Int)*L=f*L+L:=by rw[show((f+1:Nat):Int)=(f:Int)+1 by omega,Int.add_mul,Int.one_mul]
   obtain⟨P,p1,p2⟩:=tJ hb hL hc f (i+1) (c i s) hg.1 (Ad hm) (by omega);exact⟨c i s::P,⟨hf,hm,p1⟩,by rw[p2,List.dropLast_cons₂]⟩
def Dx{b:Bk}(hb:bP b){P:List Lu}(hp:gg (aV b) (bE b) ⟨0,0,true⟩ P):
 iJ b ((⟨0,0,true⟩:Lu)::P).dropLast=some (dP (br b) P)/\¬(dP (br b) P).lt (bI b ⟨0,0,true⟩).1/\
 (dP (br b) P=(bI b ⟨0,0,true⟩).1->sW (·.atom) (Sv b (λs=>(bI b s).2) dR ⟨0,0,true⟩) P):=by
 have hv:=cT b hb;refine⟨ph hb hp,kZ (rank:=br b) (dflt:=(⟨0,0,false⟩:Lu)) (bt hb) P _ hv (fZ hb) hp,λhc=>?_⟩;have:=sZ (rank:=br b) (dflt:=(⟨0,0,false⟩:Lu)) (bt hb) (F:=dR) dR _ P hv (fZ hb) (fZ hb) hp hc;rw[oe]at this;exact this
def iP(l:List Nd):Nat:=(l.map λx=>x.words.length).sum
def AR(l:List Nd):MF l 0 l.length=4*l.length+iP l:=by
 unfold MF iP;rw[zy,kP]
 induction l with
 |nil=>rfl
 |cons x l ih=>simp only[fb,List.sum_cons,MM];omega
def ET{l:List Nd}(hl:dV l){w h:Int}(he:iO l w h=0)(h60:l.length<=60)(hw:iP l<=300)(hH:(ej l).2≠0\/(ej l).1.H'.tdiv (max (cY l h) 1)<300):
 iM (bb l w h) (cY l h) ⟨0,0,true⟩<((2000:Nat):Int)*cY l h:=by
 have hL:=(jE he).pos;obtain⟨Xt,UO,hc⟩:=mf he;obtain⟨MW,hn,-,-⟩:=sT hc;have hG:=(sI MW hn Xt.1 Xt.2).len;have h1:jT (bb l w h) 0=PL (cP l w).atoms:=rfl;have h2:=Ct MW hn Xt.1 Xt.2;have h3:(ej l).1.H'<=1099511627776:=by
  unfold ga at hc;rw[aI MW]at hc;split at hc
  .cases hc
  .omega
 have h4:=rZ MW h3;have h5:(ej l).2=0:=by unfold ej;rw[aI MW]
 have h6:=hH.resolve_left λk=>k h5;have h0:0<=(ej l).1.H':=by
  unfold ej;rw[aI MW];exact(oG MW (s:=⟨0,0,l.length,0⟩) ⟨Int.le_refl _,(by decide:(0:Int)<=1099511627777)⟩ l.length (Md _)).1
 rw[show max (cY l h) 1=cY l h by omega,Int.tdiv_eq_ediv_of_nonneg h0,Int.ediv_lt_iff_lt_mul (by omega)]at h6;rw[AR]at hG;have e:(bb l w h).atoms=(cP l w).atoms:=rfl;unfold iM;simp only[Int.toNat_zero,h1,e,Int.sub_zero];generalize cY l h=L at*;have hm:((cP l w).atoms.length:Int)*L<=540*L:=Int.mul_le_mul_of_nonneg_right (by omega) (by omega);omega
def nR{b:Bk}(hb:bP b)(t:Lu):0<=br b t/\br b t<=7:=by
 have hm:=hb.aaa;unfold Bu at hm;rw[Ba,fa]at hm;unfold br;split
 .omega
 .rcases Nat.lt_or_ge t.atom.toNat b.Mi.length with h|h
  .have h:=hm.1 t.atom.toNat (List.mem_range.2 h);unfold qD at h;rw[NV]at h;unfold o5 at h;obtain⟨-,-,-,-,h5⟩:=h;omega
  .have e:Pf b.Mi t.atom.toNat=⟨0,0,0⟩:=by unfold Pf;rw[yi,qv h];rfl
   rw[e];simp
def qV{S:Type}{rank:S->Int}(h:∀t,0<=rank t/\rank t<=7):∀P:List S,0<=(dP rank P).LY/\(dP rank P).LY<=7*P.length
 |[]=>by simp[dP]
 |t::r=>by
  have h1:=qV h r;have h2:=h t;simp only[dP,Ms.on,MM];omega
def ou{b:Bk}(hb:bP b){s:Lu}(hv:dS b s):PM b s<dR:=by
 have:=hb.len;have h0:0<=s.done/\0<=s.atom:=by
  rcases hv with h|h
  .exact⟨h.2.1,h.1.1⟩
  .omega
 unfold PM dR;omega
def BN{b:Bk}(hb:bP b){L:Int}(hL:gG b L){s:Lu}(hv:dS b s):
 0<=(bI b s).1.LD/\(bI b s).1.LD<=100000/\0<=(bI b s).1.LY/\(bI b s).1.LY<=700000:=by
 have hg:=mm (rank:=br b) (dflt:=(⟨0,0,false⟩:Lu)) (bt hb) (F:=dR) dR s hv (ou hb hv) (ou hb hv);obtain⟨h1,h2⟩:=hg;have h3:=sO hb hL _ _ hv h1;have h4:=ik (br b) (jP (aV b) (bE b) (br b) ⟨0,0,false⟩ dR dR s);have h5:=qV (nR hb) (jP (aV b) (bE b) (br b) ⟨0,0,false⟩ dR dR s);rw[h2]at h4 h5;have hL1:=hL.pos;have h0:0<=s.done/\0<=s.atom/\s.atom<=b.atoms.length:=by
  rcases hv with h|h
  .exact⟨h.2.1,h.1.1,by have:=h.1.2;omega⟩
  .omega
 have hr:jT b s.atom.toNat<=jT b 0:=by
  have:=mZ hb.pos (b:=b) s.atom.toNat 0 (by omega)
  rwa [ky]at this
 have NP:=hL.rest;have hna:=hL.na;have hm:((b.atoms.length:Int)-s.atom)*L<=10000*L:=Int.mul_le_mul_of_nonneg_right (by omega) (by omega);unfold iM at h3;have hlen:((jP (aV b) (bE b) (br b) ⟨0,0,false⟩ dR dR s).length:Int)<=42768:=by
  refine Decidable.byContradiction λhc=>?_;have:=Int.mul_le_mul_of_nonneg_right (show(42769:Int)<=((jP (aV b) (bE b) (br b) ⟨0,0,false⟩ dR dR s).length:Int) by omega) (show 0<=L by omega);omega
 unfold bI;omega
def nM(b:Bk)(s:Lu):List (Ms×Lu):=(aV b s).map λt=>((bI b t).1.on (br b t),t)
def De{b:Bk}{s:Lu}(hf:bE b s):bI b s=(⟨0,0⟩,⟨0,0,false⟩):=by
 unfold bI;rw[show dR=1999999999999999999999999999+1 from rfl,dC,aI hf]
def BC{b:Bk}(hb:bP b){s:Lu}(hv:dS b s)(hf:¬bE b s):bI b s=(kg (nM b s) none).getD (⟨0,0⟩,⟨0,0,false⟩):=by
 unfold bI nM;obtain⟨f,hF⟩:∃f,dR=f+1:=⟨1999999999999999999999999999,rfl⟩
 have e:dC (aV b) (bE b) (br b) ⟨0,0,false⟩ dR s=dC (aV b) (bE b) (br b) ⟨0,0,false⟩ (f+1) s:=by rw[hF]
 rw[e,dC,aJ hf];congr 2;refine List.map_congr_left λt ht=>?_;obtain⟨v,m⟩:=(bt hb).on s hv hf t ht;have h1:=ou hb hv;rw[pn (rank:=br b) (dflt:=(⟨0,0,false⟩:Lu)) (bt hb) f dR t v (by omega) (by omega)];rfl
def A3{b:Bk}(hb:bP b):(bI b ⟨0,0,true⟩).1.LD=(gI b).length:=by
 have hv:=cT b hb;have hg:=mm (rank:=br b) (dflt:=(⟨0,0,false⟩:Lu)) (bt hb) (F:=dR) dR ⟨0,0,true⟩ hv (fZ hb) (fZ hb);obtain⟨h1,h2⟩:=hg;have h4:=ik (br b) (jP (aV b) (bE b) (br b) ⟨0,0,false⟩ dR dR ⟨0,0,true⟩);rw[h2,oe]at h4;have hp:=oL hb (on:=λs=>(bI b s).2) (λs hv hf=>by
  obtain⟨A,t,B,e1,e2,-⟩:=jc (rank:=br b) (dflt:=(⟨0,0,false⟩:Lu)) (bt hb) hv (ou hb hv) hf;show(bI b s).2∈aV b s;unfold bI;rw[e2,e1];simp) dR ⟨0,0,true⟩ hv (fZ hb)
 unfold gI;rw[hp.2,List.length_dropLast,MM];have e:(λs=>(dC (aV b) (bE b) (br b) ⟨0,0,false⟩ dR s).2)=λs=>(bI b s).2:=rfl;rw[e]at h4;change (bI b ⟨0,0,true⟩).1.LD=_ at h4;omega
open Go.RowKit
variable {P:Program} {n:Nat} {st:St} {Q:St->Prop} {k:List It} {I:Mu} {w:World}
def rR{α:Type}{f:α->α}:∀(l:List α) (j:Nat) (x:α),l[j]?=some x->l.modify j f=l.set j (f x)
 |[],j,x,h=>by simp at h
 |y::l,0,x,h=>by simp at h;subst h;rfl
 |y::l,j+1,x,h=>by
  have:=rR (f:=f) l j x (by simpa using h);rw[List.modify_succ_cons,List.set_cons_succ,this]
open Go.RowKit
variable {P:Program} {n:Nat} {st:St} {Q:St->Prop} {k:List It}
def TS(P:Program)(n:Nat)(i:aK)(x:St)(K:St->Prop):Prop:=i.op≠.bad/\bp x.s i.g=some true/\
 ∀(F:Fr),F.n=n->∀(I:Mu) (a:Act) (w:World) (o:Oper) (all:Array Oper),bJ P n all o=i->df F I x a w->
  ∀(next:Act->World->Prop) (Q':Exit->Act->World->Prop),(∀NB a' w',eE F NB a' w'->K NB->next a' w')->o.wp P a w next Q'
def XT(P:Program)(n:Nat)(sp:List Nat)(m:Nat)(i:aK)(x:St)(K:St->Prop):Prop:=T P i x K\/m∈sp/\TS P n i x K
variable {sp:List Nat}
def XT.mono{m:Nat}{i:aK}{x:St}{K K':St->Prop}(hk:∀x,K x->K' x)(h:XT P n sp m i x K):XT P n sp m i x K':=by
 rcases h with h|⟨h1,h2,h3,h4⟩
 .exact .inl (h.mono hk)
 .exact .inr ⟨h1,h2,h3,λF hn I a w o all hi hs next Q' Lw=>h4 F hn I a w o all hi hs next Q' λNB a' w' LK hq=>Lw _ _ _ LK (hk _ hq)⟩
def XT.inf{m:Nat}{i:aK}{x:St}{K:St->Prop}(hi:OS x.U)(h:XT P n sp m i x K):XT P n sp m i x λx'=>OS x'.U/\K x':=by
 rcases h with h|⟨h1,h2,h3,h4⟩
 .exact .inl (h.inf hi)
 .exact .inr ⟨h1,h2,h3,λF hn I a w o all hi hs next Q' Lw=>h4 F hn I a w o all hi hs next Q' λNB a' w' LK hq=>Lw _ _ _ LK ⟨LK.inf,hq⟩⟩
def chB(l:List aK):Nat->Nat->Nat->Bool
 |0,_,_=>false
 |f+1,i,j=>match l[i]?,l[j]? with
  |some a,some b=>!gL a b||(List.range l.length).any λk=>decide (i<k)&&(decide (k<j)&&((match l[k]? with
   |some c=>!gL a c
   |none=>false)&&chB l f k j))
  |_,_=>false
def CT(l:List aK)(sp:List Nat):Bool:=sp.all λm=>(List.range l.length).all λi=>decide (i=m)||(decide (i<m)&&chB l 8 i m||decide (m<i)&&chB l 8 m i)
def BD(P:Program)(n:Nat)(ops:Array Oper)(k:Nat):Prop:=∀i j oi oj,k<=i->i<j->ops[i]?=some oi->ops[j]?=some oj->((Region.before ops).getD j 0).testBit i=true\/gL (bJ P n ops oi) (bJ P n ops oj)=true
def Dr{ops:Array Oper}:∀(m k:Nat) (g':Array Bool),m+k=ops.size->(∀j,k<=j->j<ops.size->g'.getD j true=false)->tp P n ops m k g'=true->BD P n ops k
 |0,k,g',hm,_,_=>λi j oi oj h1 h2 h3 h4=>by
  have:=(lQ.1 h3).1;omega
 |m+1,k,g',hm,hl,h=>λi j oi oj h1 h2 h3 h4=>by
  simp only[tp,Ba]at h;obtain⟨⟨_,hf⟩,hB⟩:=h;have hj:=(lQ.1 h4).1;by_cases hik:i=k
  .subst hik;cases hb:((Region.before ops).getD j 0).testBit i with
   |true=>exact .inl rfl
   |false=>exact .inr (kN h3 hf j oj h4 (by omega) (hl j (by omega) hj) hb)
  .exact Dr m (k+1) _ (by omega) (λj' h5 h6=>by rw[getD_set_ne true (by omega)];exact hl j' (by omega) h6) hB i j oi oj (by omega) h2 h3 h4
def vJ{a:Array Bool}{i:Nat}(h:a.getD i false=true):a.getD i true=true:=by
 rw[Og]at h|-;cases hi:a[i]? with
 |none=>rfl
 |some b=>rw[hi]at h;exact h
def nr{ops:Array Oper}{g':Array Bool}(Mt:gv ops g')(hG:BD P n ops 0):∀(f i j:Nat) (oj:Oper),i<j->ops[j]?=some oj->(∀e∈oj.after,Region.binds .any e=true->g'.getD e.on false=true)->
 chB (ops.toList.map (bJ P n ops)) f i j=true->g'.getD i false=true
 |0,_,_,_,_,_,_,h=>by cases h
 |f+1,i,j,oj,Tr,OB,MI,h=>by
  have get:∀(m:Nat) (om:Oper),ops[m]?=some om->(ops.toList.map (bJ P n ops))[m]?=some (bJ P n ops om):=λm om hm=>by
   rw[tq,Array.getElem?_toList,hm];rfl
  have Oq:=(lQ.1 OB).1;obtain⟨oi,hoi⟩:∃o,ops[i]?=some o:=⟨ops[i]'(by omega),Array.getElem?_eq_getElem (by omega)⟩
  have key:∀(k:Nat) (ok:Oper),i<k->ops[k]?=some ok->(∀e∈ok.after,Region.binds .any e=true->g'.getD e.on false=true)->gL (bJ P n ops oi) (bJ P n ops ok)=false->g'.getD i false=true:=λk ok hk LS Q7 hp=>by
   rcases hG i k oi ok (Nat.zero_le _) hk hoi LS with hb|hb
   .exact jU Mt k ok i LS hb Q7
   .rw[hp]at hb;cases hb
  simp only[chB,get i oi hoi,get j oj OB,jH,Bool.not_eq_true']at h;rcases h with h|h
  .exact key j oj Tr OB MI h
  .obtain⟨k,_,hk⟩:=D1.1 h;simp only[Ba,NV]at hk;obtain⟨h1,h2,h3,h4⟩:=hk;obtain⟨ok,LS⟩:∃o,ops[k]?=some o:=⟨ops[k]'(by omega),Array.getElem?_eq_getElem (by omega)⟩
   have NO:=nr Mt hG f k j oj h2 OB MI h4;rw[get k ok LS]at h3;exact key k ok h1 LS (Mt k ok LS (vJ NO)) (by simpa using h3)
def qU{ops:Array Oper}{g':Array Bool}(Mt:gv ops g')(hG:BD P n ops 0)(OY:CT (ops.toList.map (bJ P n ops)) sp=true){m j:Nat}(hm:m∈sp)(hrm:m∈Region.ready .any ops g')(hrj:j∈Region.ready .any ops g')(LR:j≠m):False:=by
 obtain⟨um,om,hom,am⟩:=mem_ready.1 hrm;obtain⟨uj,oj,OB,aj⟩:=mem_ready.1 hrj;have Oq:=(lQ.1 OB).1;have h:=fa.1 (fa.1 OY m hm) j (List.mem_range.2 (by simpa using Oq));simp only[jH,Ba,NV,LR,false_or]at h;rcases h with⟨h1,h2⟩|⟨h1,h2⟩
 .have:=nr Mt hG 8 j m om h1 hom am h2;rw[vJ this]at uj;cases uj
 .have:=nr Mt hG 8 m j oj h1 OB aj h2;rw[vJ this]at um;cases um
def Xn(P:Program)(n:Nat)(sp:List Nat)(ops:Array Oper)(i:Nat)(x:St)(K:St->Prop):Prop:=match ops[i]? with
 |some o=>XT P n sp i (bJ P n ops o) x K
 |none=>K x
def oX(P:Program)(n:Nat)(sp:List Nat)(ops:Array Oper)(Q:St->Prop):Nat->Array Bool->St->Prop
 |0,g',x=>Region.ready .any ops g'=[]/\Q x
 |f+1,g',x=>(Region.ready .any ops g'=[]->Q x)/\∀i∈Region.ready .any ops g',Xn P n sp ops i x (oX P n sp ops Q f (g'.setIfInBounds i true))
def ld{F:Fr}(hn:F.n=n){ops:Array Oper}{Q:St->Prop}{Q':Exit->Act->World->Prop}(hQ:∀x a w,eE F x a w->Q x->Q' .normal a w):
 ∀(f:Nat) (g':Array Bool) (x:St) (a:Act) (w:World),eE F x a w->oX P n sp ops Q f g' x->wpAnyIn F.eB 0 P .any ops Q' f g' a w
 |0,_,_,_,_,hs,h=>⟨h.1,hQ _ _ _ hs h.2⟩
 |f+1,g',x,a,w,hs,h=>by
  refine⟨λh0=>hQ _ _ _ hs (h.1 h0),λi hi=>?_⟩;have h1:=h.2 i hi;unfold Xn at h1;unfold wpOpIn;cases ho:ops[i]? with
  |none=>
   simp only[ho]at h1;exact ld hn hQ f _ x a w hs h1
  |some o=>
   simp only[ho]at h1;rcases h1 with h1|⟨-,g2,g3,g4⟩
   .have h2:=qF (Q':=Q') hn h1 hs λx' a' w' LK hk=>ld hn hQ f _ x' a' w' LK hk;by_cases hw:Region.wanted o (yielded ops a.tmps)=true
    .rw[aI hw]at h2;simp only[hw,if_true];exact AY (jb h2.1) h2.2
    .rw[aJ hw]at h2;simp only[hw];exact⟨λ_ _=>trivial,h2⟩
   .obtain⟨I,hs⟩:=hs;have hw:Region.wanted o (yielded ops a.tmps)=true:=by
     subst hn;exact od (P:=P) hs ops o g3
    simp only[hw,if_true];exact AY (jb (P:=P) (n:=n) g2) (g4 F hn I a w o ops rfl hs _ _ λx' a' w' LK hk=>ld hn hQ f _ x' a' w' LK hk)
def uU{ops:Array Oper}{Q:St->Prop}(hG:BD P n ops 0)(OY:CT (ops.toList.map (bJ P n ops)) sp=true){i:Nat}{oi:Oper}(hi:ops[i]?=some oi):∀(f:Nat) (g':Array Bool) (x:St),OS x.U->gv ops g'->
 (∀j oj,ops[j]?=some oj->j≠i->g'.getD j true=false->((Region.before ops).getD j 0).testBit i=false->gL (bJ P n ops oi) (bJ P n ops oj)=true)->
 i∈Region.ready .any ops g'->XT P n sp i (bJ P n ops oi) x (oX P n sp ops Q f (g'.setIfInBounds i true))->oX P n sp ops Q (f+1) g' x:=by
 intro f
 induction f with
 |zero=>
  intro g' x M4 Mt Oo hr H;refine⟨λh=>(by rw[h]at hr;cases hr),λj hj=>?_⟩;by_cases MZ:j=i
  .subst MZ;unfold Xn;simp only[hi];exact H
  .rcases H with H|H
   .have:=ready_mono hj MZ;obtain⟨x',LX⟩:=H.exists M4;rw[LX.1]at this;cases this
   .exact(qU Mt hG OY H.1 hr hj MZ).elim
 |succ f ih=>
  intro g' x M4 Mt Oo hr H;refine⟨λh=>(by rw[h]at hr;cases hr),λj hj=>?_⟩;by_cases MZ:j=i
  .subst MZ;unfold Xn;simp only[hi];exact H
  .obtain⟨P4,oj,OB,MI⟩:=mem_ready.1 hj;rcases H with H|H
   .have SX:((Region.before ops).getD j 0).testBit i=false:=by
     cases hb:((Region.before ops).getD j 0).testBit i with
     |false=>rfl
     |true=>
      exfalso;have h1:=jU Mt j oj i OB hb MI;have h0:=(mem_ready.1 hr).1;rcases Nat.lt_or_ge i g'.size with h'|h'
      .simp[h']at h0 h1;rw[h0]at h1;cases h1
      .simp[Array.getElem?_eq_none h']at h1
    have H2:T P (bJ P n ops oi) x λx'=>T P (bJ P n ops oj) x' (oX P n sp ops Q f ((g'.setIfInBounds i true).setIfInBounds j true)):=by
     refine H.mono λx' LX=>?_;have:=LX.2 j (ready_mono hj MZ);unfold Xn at this;simp only[OB]at this;rcases this with h|h
     .exact h
     .exact(qU Mt hG OY h.1 hj hr (Ne.symm MZ)).elim
    have h2:=y3 (Oo j oj OB MZ P4 SX) M4 H2;have O9:∀k ok,ops[k]?=some ok->k≠i->(g'.setIfInBounds j true).getD k true=false->
     ((Region.before ops).getD k 0).testBit i=false->gL (bJ P n ops oi) (bJ P n ops ok)=true:=λk ok hk YF T9 L7=>by
     refine Oo k ok hk YF ?_ L7;by_cases SW:j=k
     .subst SW;exact P4
     .rw[getD_set_ne true SW]at T9;exact T9
    unfold Xn;simp only[OB];refine .inl ((h2.inf M4).mono λx' LX=>ih (g'.setIfInBounds j true) x' LX.1 (Mt.list hj) O9 (ready_mono hr (Ne.symm MZ)) ?_);rw[Array.setIfInBounds_comm _ _ MZ];exact .inl LX.2
   .exact(qU Mt hG OY H.1 hr hj MZ).elim
def ji(P:Program)(n:Nat)(sp:List Nat)(Q:St->Prop):Nat->List aK->St->Prop
 |_,[],x=>Q x
 |m,i::l,x=>XT P n sp m i x (ji P n sp Q (m+1) l)
def rK{ops:Array Oper}{Q:St->Prop}(hG:BD P n ops 0)(OY:CT (ops.toList.map (bJ P n ops)) sp=true):∀(l:List Oper) (k:Nat) (g':Array Bool) (x:St),OS x.U->gv ops g'->(∀j,l[j]?=ops[k+j]?)->
 tp P n ops l.length k g'=true->ji P n sp Q k (l.map (bJ P n ops)) x->oX P n sp ops Q l.length g' x
 |[],_,_,_,_,_,_,hB,h=>⟨by simpa[tp]using hB,h⟩
 |o::l,k,g',x,M4,Mt,hl,hB,h=>by
  have h0:ops[k]?=some o:=by simpa using(hl 0).symm
  simp only[MM,tp,Ba]at hB;obtain⟨⟨hr,hf⟩,Vk⟩:=hB;refine uU hG OY h0 l.length g' x M4 Mt (kN h0 hf) (by simpa using hr) ?_;refine(XT.inf M4 h).mono λx' LX=>?_;exact rK hG OY l (k+1) _ x' LX.1 (Mt.list (by simpa using hr)) (λj=>by have:=hl (j+1);simpa[Nat.add_assoc,ze 1 j]using this) Vk LX.2
def tC{F:Fr}(hn:F.n=n){ops:Array Oper}(LS:nt P n ops=true)(OY:CT (ops.toList.map (bJ P n ops)) sp=true){id:Nat}{x:St}{a:Act}{w:World}(hs:eE F x a w){Q:St->Prop}{Q':Exit->Act->World->Prop}
 (hQ:∀x a w,eE F x a w->Q x->Q' .normal a w)(h:ji P n sp Q 0 (ops.toList.map (bJ P n ops)) x):(Code.region id ops true).wpIn F.eB 0 P Q' a w:=by
 simp only[nt,Ba]at LS;have LK:eE F x a { w with drawn:=w.drawn+1 }:=by
  obtain⟨I,hs⟩:=hs;have hk:cS (aD I x.U) (aD I x.U) w { w with drawn:=w.drawn+1 }:=λ_ _ h=>⟨h,rfl⟩
  refine⟨I,⟨⟨hs.sat.size,hs.sat.os,hs.sat.tape,hs.sat.output,hs.sat.same,hs.sat.fin,hs.sat.inj,λid o ho=>?_,hs.sat.fresh,hs.sat.NY⟩,hs.le,hs.size,hs.book.tg hk,λi hi=>?_⟩⟩
  .exact(hs.sat.obj id o ho).mono (cU.refl I) hk (Md _) (λ_ _ _ _=>rfl)
  .exact C'.mono (cU.refl I) hk (Md _) _ _ (hs.slot i hi)
 have MV:∀j,j<ops.size->(Array.replicate ops.size false).getD j true=false:=λj hj=>by
  rw[Og,Array.getElem?_replicate,aI hj];rfl
 have hG:BD P n ops 0:=Dr ops.size 0 (Array.replicate ops.size false) rfl (λj _ hj=>MV j hj) (by simpa using LS.2.2);refine wpIn_region_any LS.1 (ld (sp:=sp) hn hQ _ _ _ _ _ LK ?_);have:=rK (P:=P) (n:=n) (Q:=Q) hG OY ops.toList 0 (Array.replicate ops.size false) x hs.inf (λm om hm hl=>by
  have Lr:m<ops.size:=(lQ.1 hm).1;rw[MV m Lr]at hl;cases hl) (by simp) (by simpa using LS.2.2) h
 simpa using this
def ab.Kg(sp:List Nat){l:List aK}(OY:CT l sp=true)(h:ji P n sp (λx=>ab P n k x Q) 0 l st):ab P n (.code (.Oz true l)::k) st Q:=by
 intro F hn kt hk a w hs;obtain⟨z,M9,rfl,hy,MD⟩:=eA hk;obtain⟨c0,rfl,MA⟩:=fQ hy;have Oj:∃id ops,c0=.region id ops true/\nt P n ops=true/\ops.toList.map (bJ P n ops)=l:=by
  cases c0<;>simp only[dx,reduceCtorEq]at MA;rename_i id ops draw;cases draw
  .simp at MA
  .simp only[Bool.true_and]at MA;split at MA
   .cases MA
   .split at MA
    .cases MA
    .rename_i hd;simp only[bM.Oz.injEq,true_and]at MA;exact⟨id,ops,rfl,by simpa using hd,MA⟩
 obtain⟨id,ops,rfl,LS,rfl⟩:=Oj;exact tC hn LS OY hs (λx a w hs h=>h F hn M9 MD a w hs) h
variable {K:St->Prop} {m:Nat} {x:St}
def XC.app{suf:List aK}:∀(pre:List aK) {m:Nat} {x:St},Go P n (.d pre [.stop λy=>ji P n sp K (m+pre.length) suf y]) x Q->ji P n sp K m (pre++suf) x
 |[],_,_,h=>h
 |i::pre,m,_,h=>.inl (T.mono (λ_ h=>XC.app (m:=m+1) pre (by rw[show m+1+pre.length=m+(i::pre).length by simp;omega];exact h)) h)
def XC.go(j:Nat){l:List aK}(h:Go P n (.d (l.take j) [.stop λy=>ji P n sp K (m+(l.take j).length) (l.drop j) y]) x λ_=>True):ji P n sp K m l x:=by
 have:=XC.app _ h
 rwa [yK]at this
def XC.nil(h:K x):ji P n sp K m [] x:=h
open Go.RowKit
variable {P:Program} {n:Nat} {st:St} {Q:St->Prop} {k:List It} {I:Mu} {w:World}
def Fc{κ:Type}[DecidableEq κ]{kv:κ->Value}{kV:κ->V}{i:aK}{xm xk xv:VX}{kt:TypeId}(ho:i.op=.more (.Sd kt) [xm,xk,xv]){id:Nat}{g:κ->Option V}{a:κ}{v:V}
 (hK:wb P kt kv kV)(hm:xm.ev st.s=.mp id)(OA:mz kv st.U id g)(hk:xk.ev st.s=kV a)(hv:xv.ev st.s=v){K:St->Prop}
 (h:∀ob:Ob,ob.sz=0->mz kv (E' st.U id ob) id (λb=>if a=b then some v else g b)->K ⟨aU st.s i.dst (.LI []),E' st.U id ob⟩):
 ∀(F:Fr),F.n=n->∀(I:Mu) (a:Act) (w:World) (o:Oper) (all:Array Oper),bJ P n all o=i->df F I st a w->
  ∀(next:Act->World->Prop) (Q':Exit->Act->World->Prop),(∀NB a' w',eE F NB a' w'->K NB->next a' w')->o.wp P a w next Q':=by
 intro F hn I ac w o all hi hs next Q' Lw
 obtain⟨Tk,OZ,Tl,MV⟩:=hK;replace MV:=MV a;replace Tl:∀b,(b=a\/g b≠none)->∃l,keyOf P kt (kv b)=some l:=λb _=>Tl b;subst hn;obtain⟨LF,hd⟩:=eF hi;rw[ho]at LF;obtain⟨t,e,x,y,z,g1,g2,g4⟩:=Cg LF;simp only[List.cons.injEq,and_true]at g4;obtain⟨rfl,rfl,rfl⟩:=g4;have u1:=rQ g2;obtain⟨es,clock,ks,env,L6,he,hlen,MS,Nr⟩:=OA;have hr:=ct hs x;have Si:=ct hs y;have Yb:=ct hs z;rw[hm]at hr;rw[hk]at Si;rw[hv]at Yb;have Si:=MV _ _ _ _ Si;simp only[C']at hr;have Wg:∀b∈ks,∃l,keyOf P kt (kv b)=some l:=λb hb=>by
  obtain⟨j,hj⟩:=Ea hb;refine Tl b (.inr ?_);rw[<-Nr b,mq MS hj hlen];have:j<env.length:=by rw[<-hlen];exact(qn.1 hj).1
  rw[Oy this];simp
 obtain⟨la,OO⟩:=Tl a (.inl rfl);split at hr
 .rename_i b cap Ls;obtain⟨MG,O'⟩:=hs.sat.D5 L6 Ls;simp only[tmpsOf]at O';have L3:∀(o':Obj) (QA:List V),(∃es' Qh Yc,o'=.map es' Qh/\es'.toList.map (·.key)=Yc.map kv/\Yc.length=QA.length/\Yc.Nodup/\∀b,assoc b Yc QA=if a=b then some v else g b)->ax I (aD I st.U) w QA (tmpsOf o')->
   (Instr.mapUpdate t (ac.eval x) (ac.eval y) (ac.eval z)).run P w=.ok () (w.putObj b o')->o.wp P ac w next Q':=by
   intro o' QA hmap' hrep' Me;have hx:(execOp ac.eval o).run P w=.ok .skip (w.putObj b o'):=by
    unfold execOp;rcases g1 with g1|g1<;>(rw[g1];simp[Me])
   have P6:=hs.sat.JA L6 Ls o' QA hrep';obtain⟨es',Qh,Yc,rfl,p1,p2,p3,p4⟩:=hmap';unfold Oper.wp;rw[hx];refine Lw _ _ _ ⟨I,?_⟩ (h (gh (.map es' Qh) QA) rfl ⟨es',Qh,Yc,QA,ak,p1,p2,p3,p4⟩);rw[<-hd];exact hs.step P6.1 (cU.refl _) P6.2 (by simp) (by simp only[C'];exact⟨[],rfl,by simp[ax]⟩)
  rcases xT Tk OZ he Wg ⟨la,OO⟩ w with⟨q1,q2⟩|⟨j,en,q1,q2,q3,q4⟩
  .refine L3 (.map (es.push { key:=kv a,val:=ac.eval z,born:=clock }) (clock+1)) (env++[v]) ⟨_,_,ks++[a],rfl,?_,?_,?_,λb=>?_⟩ ?_ ?_
   .rw[Array.toList_push,gM,gM,he];rfl
   .rw[kf,kf,hlen];rfl
   .rw[List.nodup_append];exact⟨MS,by simp,λx hx y hy e=>q2 (by rw[jI.1 hy]at e;exact e▸hx)⟩
   .rw[sQ q2 hlen,Nr]
   .simp only[tmpsOf,Array.toList_push,gM,fb,List.map_nil];exact O'.append (by simp only[ax];exact⟨_,_,rfl,Yb,rfl⟩)
   .simp[Instr.mapUpdate,run_underlying u1,hr,Si,oC MG,OZ.check w _ OO,q1,xS _ MG]
  .have hl:(es.modify j λe=>{ e with key:=kv a,val:=ac.eval z }).toList=es.toList.set j { en with key:=kv a,val:=ac.eval z }:=by
    rw[Array.toList_modify,rR _ _ _ q2]
   refine L3 (.map (es.modify j λe=>{ e with key:=kv a,val:=ac.eval z }) clock) (env.set j v) ⟨_,_,ks,rfl,?_,?_,MS,λb=>?_⟩ ?_ ?_
   .rw[hl,List.map_set,he];refine List.ext_getElem? λm=>?_;rw[List.getElem?_set];split
    .rename_i e;subst e;split
     .rw[tq,q4];rfl
     .rename_i L7;rw[qv (by omega)]
    .rfl
   .rw[List.length_set,hlen]
   .rw[tY MS q4 hlen,Nr]
   .simp only[tmpsOf,hl,List.map_set];exact ax.set j O' Yb
   .have hkey:((es[j]?).map (·.key)).getD (kv a)=kv a:=by
     rw[<-Array.getElem?_toList,q2];simp[q3]
    simp[Instr.mapUpdate,run_underlying u1,hr,Si,oC MG,OZ.check w _ OO,q1,xS _ MG,hkey,OZ.stays w OO]
 .exact hr.elim
def XC.ql{κ:Type}[DecidableEq κ]{kv:κ->Value}{kV:κ->V}{m:Nat}{x:St}{K:St->Prop}{sp:List Nat}{i:aK}{l:List aK}{xm xk xv:VX}{kt:TypeId}(OY:m∈sp)(hw:bp x.s i.g=some true)(ho:i.op=.more (.Sd kt) [xm,xk,xv]){id:Nat}{g:κ->Option V}{a:κ}{v:V}
 (hK:wb P kt kv kV)(hm:xm.ev x.s=.mp id)(OA:mz kv x.U id g)(hk:xk.ev x.s=kV a)(hv:xv.ev x.s=v)
 (h:∀ob:Ob,ob.sz=0->mz kv (E' x.U id ob) id (λb=>if a=b then some v else g b)->ji P n sp K (m+1) l ⟨aU x.s i.dst (.LI []),E' x.U id ob⟩):ji P n sp K m (i::l) x:=
 .inr ⟨OY,by rw[ho];simp,hw,Fc ho hK hm OA hk hv h⟩
def RE.look{l:List aK}{K:St->Prop}{m:Nat}{rest:List Nat}{x:St}{i:aK}(hi:l[m/2]?=some i)(hm:m%2=0){xm xk:VX}{kt:TypeId}{ok:Bool}{zv v:V}(hw:bp x.s i.g=some true)(ho:i.op=.more (.PO kt ok zv) [xm,xk])
 (hl:FZ P kt ok zv (xm.ev x.s) (xk.ev x.s) x.U v)(h:RE P l K rest ⟨aU x.s i.dst v,x.U⟩):RE P l K (m::rest) x:=by
 rw[RE,hi];simp only[aI hm];exact .inr ⟨hw,by rw[ho];exact⟨v,hl,h⟩⟩
def RE.mkMap{l:List aK}{K:St->Prop}{m:Nat}{rest:List Nat}{x:St}{i:aK}(hi:l[m/2]?=some i)(hm:m%2=0)(hw:bp x.s i.g=some true)(ho:i.op=.more .mkMap [])
 (h:∀id,x.U id=none->RE P l K rest ⟨aU x.s i.dst (.mp id),E' x.U id (gh (.map #[] 0) [])⟩):RE P l K (m::rest) x:=by
 rw[RE,hi];simp only[aI hm];exact .inr ⟨hw,by rw[ho];exact h⟩
open Go.Proofs Go.Proofs.Tryz
def okK(s:Lu):Prop:=(Lit.int .i64 s.atom).wf=true/\(Lit.int .i64 s.done).wf=true
abbrev Ks:={ s:Lu // okK s }
def RN(s:Ks):Value:=.agg #[.int .i64 s.1.atom,.int .i64 s.1.done,.bool s.1.free]
def Gb{s:Lu}(h1:0<=s.atom)(h2:s.atom<=4000000000000000000)(h3:0<=s.done)(h4:s.done<=4000000000000000000):okK s:=by
 have e1:IntKind.i64.min=-9223372036854775808:=by decide
 have e2:IntKind.i64.max=9223372036854775807:=by decide
 unfold okK Lit.wf;simp only[Ba,NV,e1,e2];omega
def Fs(a b:Ks)(h:RN a=RN b):a=b:=by
 obtain⟨⟨a1,a2,a3⟩,ha⟩:=a;obtain⟨⟨b1,b2,b3⟩,hb⟩:=b;simp only[RN,Value.agg.injEq,Array.mk.injEq,List.cons.injEq,Value.int.injEq,Value.bool.injEq,true_and,and_true]at h;obtain⟨rfl,rfl,rfl⟩:=h;rfl
def DD:laidOutB prog=true:=by kernel_rfl
def zI:37<prog.types.size:=of_decide_eq_true (by kernel_rfl)
def Hc:prog.keyTypeAt 3 37=true:=by kernel_rfl
def E1:WideMaps.KeyLaw prog 37:=deep_law_laid DD (m:=3) (by omega) zI Hc (by rw[underlying37])
def G1:prog.keyType 37=true:=by kernel_rfl
def HC:prog.cellsOf 37=3:=by kernel_rfl
def Iv:prog.cellsOf 3=1:=by kernel_rfl
def H5:prog.cellsOf 4=1:=by kernel_rfl
def kvS_und:prog.underlying 3=some (.int .i64):=by kernel_rfl
def kvS_unb:prog.underlying 4=some .bool:=by kernel_rfl
def Cv{b1 b2:Int}{b3:Bool}(h1:(Lit.int .i64 b1).wf=true)(h2:(Lit.int .i64 b2).wf=true):
 prog.keyLits (prog.types.size+1) 37 [.int .i64 b1,.int .i64 b2,.bool b3]=some [.int .i64 b1,.int .i64 b2,.bool b3]:=by
 have hr:=zI;generalize prog.types.size=n at*;obtain⟨d,rfl⟩:∃d,n=d+1:=⟨n-1,by omega⟩
 simp[Program.keyLits,underlying37,kvS_und,kvS_unb,HC,Iv,H5,h1,h2]
def EW(b:Ks):∃l,keyOf prog 37 (RN b)=some l:=by
 obtain⟨⟨b1,b2,b3⟩,h1,h2⟩:=b;have hf:(RN ⟨⟨b1,b2,b3⟩,h1,h2⟩).formed prog 37=true:=by kernel_rfl
 unfold keyOf;rw[underlying37];simp only[G1,hf,Bool.and_self,if_true];have hc:(RN ⟨⟨b1,b2,b3⟩,h1,h2⟩).cells.toList=[.int .i64 b1,.int .i64 b2,.bool b3]:=rfl;rw[hc,Cv h1 h2];exact⟨_,rfl⟩
def Fv(a:Ks)(I:Mu)(ow:Nat->Prop)(w:World)(X:Value)(h:C' I ow w (aH a.1) X):X=RN a:=by
 simp only[aH,C',ax,vI]at h;obtain⟨Lz,rfl,⟨x,xs,rfl,rfl,y,ys,rfl,rfl,z,zs,rfl,rfl,rfl⟩,-⟩:=h;rfl
def cm(l:List Lu):V:=.sl 3 (l.map aH)
def i0(l:List Lu):eK false (cm l)=some (.int .i64 l.length):=by simp[cm,eK]
def iz{U:ag}{l:List Lu}{i:Nat}(h:i<l.length):bN U 3 (cm l) (.int .i64 i)=some (.rp (aH l[i])):=by simp[cm,bN,h,aH]
def mL(s:Lu)(U:ag):cJ U true 3 (.rp (aH s))=some (aH s):=rfl
def j3(x:Ms×Lu):V:=.agg [vI x.1.LD,vI x.1.LY,vI x.2.atom,vI x.2.done,.bool x.2.free]
def dN(x:Ms×Lu):(j3 x).cells=[vI x.1.LD,vI x.1.LY,vI x.2.atom,vI x.2.done,.bool x.2.free]:=rfl
def dQ(x:Ms×Lu):(j3 x).stays=true:=rfl
def eJ(x:Ms):V:=.agg [vI x.LD,vI x.LY]
def aS(x:Ms):(eJ x).cells=[vI x.LD,vI x.LY]:=rfl
def aT(x:Ms):(eJ x).stays=true:=rfl
def nT(b:Bk)(im:Nat):List V:=[aM b.nodes,bX b.atoms,dc b.Mi,vI b.h,.mp im]
def lx(b:Bk)(im:Nat):Ob:=⟨81,5,[.agg (nT b im)]⟩
structure eP(b:Bk)(K U:ag)(i im:Nat):Prop where
 row:U i=some (lx b im)
 mp:∃g:Ks->Option V,mz RN U im g/\∀s v,g s=some v->v=j3 (bI b s.1)
 ni:K i=none
 nm:K im=none
 sub:aa K U
def eP.ne{b:Bk}{K U:ag}{i im:Nat}(h:eP b K U i im):i≠im:=by
 obtain⟨g,h1,-⟩:=h.mp;exact h1.ne h.row (by decide)
def eP.mono{b:Bk}{K U J:ag}{i im:Nat}(h:eP b K U i im)(hs:aa U J):eP b K J i im:=by
 obtain⟨g,h1,h2⟩:=h.mp;exact⟨hs _ _ h.row,⟨g,h1.sub hs,h2⟩,h.ni,h.nm,h.sub.trans hs⟩
def eP.less{b:Bk}{K K' U:ag}{i im:Nat}(h:eP b K' U i im)(hk:aa K K'):eP b K U i im:=⟨h.row,h.mp,hk.none h.ni,hk.none h.nm,hk.trans h.sub⟩
def eP.neK{b:Bk}{K U:ag}{i im j:Nat}{o:Ob}(h:eP b K U i im)(hj:K j=some o):j≠i/\j≠im:=by
 constructor
 .intro e;rw[e,h.ni]at hj;cases hj
 .intro e;rw[e,h.nm]at hj;cases hj
def pB(U:ag)(i im:Nat):ag:=λj=>if j=i\/j=im then none else U j
def dO{U:ag}{i im j:Nat}(h1:j≠i)(h2:j≠im):pB U i im j=U j:=aJ λh=>h.elim h1 h2
def eP.off{b:Bk}{K U:ag}{i im:Nat}(h:eP b K U i im):eP b (pB U i im) U i im:=⟨h.row,h.mp,aI (.inl rfl),aI (.inr rfl),λj o hj=>by
 unfold pB at hj;split at hj
 .cases hj
 .exact hj⟩
def eP.jW{b:Bk}{K U:ag}{i im:Nat}(h:eP b K U i im):aa K (pB U i im):=λj o hj=>by
 obtain⟨h1,h2⟩:=h.neK hj;rw[dO h1 h2];exact h.sub _ _ hj
open Go.Proofs Go.Proofs.Tryz
section
variable {P:Program} {n:Nat} {st:St} {Q:St->Prop} {k:List It}
def Go.lf{i:aK}{l:List aK}{fx:VX}{xs:List VX}{f:FuncId}{caps:List V}{v:V}(hw:bp st.s i.g=some true)(ho:i.op=.call fx xs)
 (hf:fx.ev st.s=.fn f caps)(hc:∀Z1,aa st.U Z1->aA P f (xs.map (·.ev st.s)++caps) Z1 λr Z'=>r=v/\Z'=Z1)(h:Go P n (.d l k) ⟨aU st.s i.dst v,st.U⟩ Q):Go P n (.d (i::l) k) st Q:=by
 refine nC hw ?_;rw[ho];exact⟨f,caps,v,hf,hc,h⟩
end
def ay(s:Lu):(aH s).cells=[vI s.atom,vI s.done,.bool s.free]:=rfl
def az(s:Lu):(aH s).stays=true:=rfl
def bV(im:Nat):(V.mp im).cells=[.mp im]:=rfl
def bU(im:Nat):(V.mp im).stays=true:=rfl
def oE(x:On):(gE x).cells=[vI x.cls,vI x.forced,vI x.rank]:=rfl
def nQ(b:Bk)(s:Lu){U:ag}{i im:Nat}(h0:U i=some (lx b im)):
 aA prog 29 [.ptr i 0 0,aH s] U λr Z'=>r=.bool (decide (bE b s))/\Z'=U:=by
 refine e29.r (by simp[c29]) ?_;have hs:=aa.refl U;have OO:=ny b.atoms;rw[lx,nT]at h0;generalize hF:decide (bE b s)=F;refine ab.mix 5 ?_;apply sR;simp only[go_sem,seval,c29,ay,az];refine ae λi3 Z3 s3 a3 f3=>?_;have z3:=hs.none f3;replace hs:=hs.trans s3;replace h0:=s3 _ _ h0;by_cases hf:s.atom>=b.atoms.length
 .have q:(s.atom>=(b.atoms.length:Int))=True:=LH hf;simp only[go_sem,seval,h0,a3,q,OO,ay,az,ar,aq,bV,bU];exact aE.pure hs (by rw[<-hF,NA (show bE b s from hf)])
 .have q:(s.atom>=(b.atoms.length:Int))=False:=Ly hf;simp only[go_sem,seval,h0,a3,q,OO,ay,az,ar,aq,bV,bU];exact aE.pure hs (by rw[<-hF,Nz (show¬bE b s from hf)])
def uS{b:List On}{k:Int}(h0:0<=k)(h1:k<b.length):∀U,bN U 3 (dc b) (.int .i64 k)=some (.rp (gE (Pf b k.toNat))):=λU=>by
 obtain⟨j,rfl⟩:∃j:Nat,k=j:=⟨k.toNat,by omega⟩
 have hj:j<b.length:=by omega
 have e:Pf b ((j:Int)).toNat=b[j]:=by simp[Pf,hj]
 rw[e];exact CK hj
def oF(b:Bk)(s:Lu)(h1:0<=s.atom/\s.atom<b.Mi.length){U:ag}{i im:Nat}(h0:U i=some (lx b im)):
 aA prog 28 [.ptr i 0 0,aH s] U λr Z'=>r=vI (br b s)/\Z'=U:=by
 refine e28.r (by simp[c28]) ?_;have hs:=aa.refl U;have Q3:=uS h1.1 h1.2;rw[lx,nT]at h0;unfold br;generalize Pf b.Mi s.atom.toNat=B at*;refine ab.mix 5 ?_;apply sR;simp only[go_sem,seval,c28,ay,az];refine ae λi3 Z3 s3 a3 f3=>?_;have z3:=hs.none f3;replace hs:=hs.trans s3;replace h0:=s3 _ _ h0;by_cases hd:s.done>0
 .have q:(s.done>0)=True:=LH hd;rw[aI hd];simp only[go_sem,seval,h0,a3,q,ay,az];exact aE.pure hs rfl
 .have q:(s.done>0)=False:=Ly hd;rw[aJ hd];simp only[go_sem,seval,h0,a3,q,Q3,oE,ay,az,bx,bw,bV,bU];exact aE.pure hs rfl
def Dd(b:Bk)(k:Nat)(hk:k<b.Mi.length){U:ag}{i im:Nat}(h0:U i=some (lx b im)):
 aA prog 48 [.ptr i 0 0,vI k] U λr Z'=>r=aH (mB b k)/\Z'=U:=by
 refine e48.r (by simp[c48]) ?_;have hs:=aa.refl U;have Q3:=uS (b:=b.Mi) (k:=k) (by omega) (by omega);rw[gX]at Q3;rw[lx,nT]at h0;unfold mB;generalize Pf b.Mi k=B at*;refine ab.mix 5 ?_;apply sR;simp only[go_sem,seval,c48];refine ae λi4 Z4 s4 a4 f4=>?_;have z4:=hs.none f4;replace hs:=hs.trans s4;replace h0:=s4 _ _ h0;by_cases hd:B.forced=0
 .have q:(B.forced≠0)=False:=Ly λh=>h hd;rw[Nz λh=>h hd];simp only[go_sem,seval,h0,a4,q,Q3,oE,bx,bw,bV,bU];exact aE.pure (hs.aG z4) rfl
 .have q:(B.forced≠0)=True:=LH hd;rw[NA hd];simp only[go_sem,seval,h0,a4,q,Q3,oE,bx,bw,bV,bU];exact aE.pure (hs.aG z4) rfl
def yM(b:Bk)(s:Lu):Prop:=et b.atoms s/\Ur b s
instance (b:Bk) (s:Lu):Decidable (yM b s):=by unfold yM Ur;infer_instance
def Hl(b:Bk)(VO:b.Mi.length=b.atoms.length+1)(s:Lu){U:ag}{i im:Nat}(h0:U i=some (lx b im)):
 aA prog 40 [.ptr i 0 0,aH s] U λr Z'=>r=.bool (decide (yM b s))/\Z'=U:=by
 refine e40.r (by simp[c40]) ?_;have hs:=aa.refl U;have hm:=uT b.atoms s;rw[lx,nT]at h0;generalize hF:decide (yM b s)=F;refine ab.mix 5 ?_;apply sR;simp only[go_sem,seval,c40,ay,az];refine ae λi3 Z3 s3 a3 f3=>?_;have z3:=hs.none f3;replace hs:=hs.trans s3;replace h0:=s3 _ _ h0;by_cases g1:et b.atoms s
 .rw[NA g1]at hm;have Q3:=uS (b:=b.Mi) (k:=s.atom) g1.1.1 (by have:=g1.1.2;omega);have hT:(s.free=true->s.done=0/\(s.atom=0\/(Pf b.Mi s.atom.toNat).forced≠0))->F=true:=λh=>by rw[<-hF];exact NA ⟨g1,h⟩
  have hN:¬(s.free=true->s.done=0/\(s.atom=0\/(Pf b.Mi s.atom.toNat).forced≠0))->F=false:=λh=>by rw[<-hF];exact Nz λg=>h g.2
  clear hF;generalize Pf b.Mi s.atom.toNat=B at*;simp only[go_sem,seval,h0,a3,ay,az,ar,aq,bV,bU];refine Go.cN rfl rfl rfl hm ?_;cases g2:s.free
  .apply sG;simp only[go_sem,seval,h0,a3,g2,Bool.not_true,Bool.not_false,ay,az,bx,bw,bV,bU];exact aE.pure hs (by rw[hT (λh=>by rw[g2]at h;cases h)])
  .by_cases g3:s.done=0
   .have q3:(s.done=0)=True:=LH g3;by_cases g4:s.atom=0
    .have q4:(s.atom=0)=True:=LH g4;apply sG;simp only[go_sem,seval,h0,a3,g2,q3,q4,Bool.not_true,Bool.not_false,ay,az,bx,bw,bV,bU];exact aE.pure hs (by rw[hT (λ_=>⟨g3,.inl g4⟩)])
    .have q4:(s.atom=0)=False:=Ly g4;by_cases g5:B.forced=0
     .have q5:(B.forced≠0)=False:=Ly λh=>h g5;apply sG;simp only[go_sem,seval,h0,a3,g2,q3,q4,q5,Q3,Bool.not_true,Bool.not_false,oE,ay,az,bx,bw,bV,bU];exact aE.pure hs (by rw[hN (λh=>(h g2).2.elim g4 λh=>h g5)])
     .have q5:(B.forced≠0)=True:=LH g5;apply sG;simp only[go_sem,seval,h0,a3,g2,q3,q4,q5,Q3,Bool.not_true,Bool.not_false,oE,ay,az,bx,bw,bV,bU];exact aE.pure hs (by rw[hT (λ_=>⟨g3,.inr g5⟩)])
   .have q3:(s.done=0)=False:=Ly g3;apply sG;simp only[go_sem,seval,h0,a3,g2,q3,Bool.not_true,Bool.not_false,ay,az,bx,bw,bV,bU];exact aE.pure hs (by rw[hN (λh=>g3 (h g2).1)])
 .rw[Nz g1]at hm;simp only[go_sem,seval,h0,a3,ay,az,ar,aq,bV,bU];refine Go.cN rfl rfl rfl hm ?_;apply sG;simp only[go_sem,seval,Bool.not_false];exact aE.pure hs (by rw[<-hF,Nz (λh=>g1 h.1)])
def nA(a b:Int):Int:=if a<b then -1 else if a>b then 1 else 0
def FI(a:Int):bc prog 49 [vI a] (.bool false):=λU=>by
 refine e49.r (by simp[c49]) ?_;have q:(a≠a)=False:=Ly λh=>h rfl;refine ab.mix 3 ?_;apply sR;simp only[go_sem,seval,c49,q];exact aE.same rfl
def DL(a b:Int):bc prog 27 [vI a,vI b] (vI (nA a b)):=λU=>by
 refine e27.r (by simp[c27]) ?_;refine ab.mix 7 ?_;apply sR;simp only[go_sem,seval,c27];refine ab.aC rfl rfl rfl (FI a _) ?_;apply sR;simp only[go_sem,seval];refine ab.aC rfl rfl rfl (FI b _) ?_;unfold nA;by_cases h1:a<b
 .have q1:(a<b)=True:=LH h1;apply sR;simp only[go_sem,seval,q1];exact aE.same rfl
 .have q1:(a<b)=False:=Ly h1;by_cases h2:a>b
  .have q2:(a>b)=True:=LH h2;apply sR;simp only[go_sem,seval,q1,q2];exact aE.same rfl
  .have q2:(a>b)=False:=Ly h2;apply sR;simp only[go_sem,seval,q1,q2];exact aE.same rfl
end Go.Vc
