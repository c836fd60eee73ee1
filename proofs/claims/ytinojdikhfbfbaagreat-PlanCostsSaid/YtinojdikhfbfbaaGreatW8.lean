import Derived.Test.YtinojdikhfbfbaaGreatW7
set_option linter.all false
set_option maxHeartbeats 8000000
set_option maxRecDepth 100000
open Go.Proofs.Tryz
namespace Go.Vc
open Go.Proofs
def rT(l:List Nd)(of:List Int):List Int:=(List.range (of.length+1)).map (mJ l of)
def Lc(l:List Nd)(hl:dN l)(hb:SA l=true)(of:List Int)(SY:of.length<=1000000)(SR:∀x∈of,0<=x/\x<l.length)(hm:qL l of=true):
 aX prog 117 [aQ l,aZ of] (.Sa [aZ (rT l of),vI 0]):=λU=>by
 refine PO.q ?_;have hs:=aa.refl U;have S1:=dz of;refine mS 11 ?_;simp only[go_sem,seval,No];refine pR rfl (pW l hl hb of SY hm _) ?_;have q0:((0:Int)≠0)=False:=H' (λh=>h rfl);have r0:Sn .i64 ((of.length:Int)+1):=ar;apply sR;simp only[go_sem,seval,q0,S1,r0];refine ay.kY (λst=>aa U st.U/\aP U st.U 3 1 (st.s 7) ((rT l of).map vI))
  (λm st=>∃j:Nat,j<=of.length+1/\m=of.length+1-j/\aa U st.U/\aP U st.U 3 1 (st.s 7) (((List.range j).map (mJ l of)).map vI)/\st.s 0=aQ l/\st.s 1=aZ of/\st.s 19=vI ((of.length:Int)+1)/\st.s 20=vI j) (of.length+1) ?_ ?_ ?_
 .exact⟨0,by omega,rfl,hs,aP.start,rfl,rfl,rfl,rfl⟩
 .clear hs;rintro m ⟨S,J⟩ ⟨j,hj,rfl,hs,ho,t0,t1,t19,t20⟩;simp only at hs ho t0 t1 t19 t20;generalize Ut:S 7=v7 at ho;refine ay.mix 11 ?_;by_cases u':j<of.length+1
  .have q:((j:Int)<of.length+1)=True:=RX;have r1:=rI j;have Sx:(((List.range (j+1)).map (mJ l of)).map vI)=(((List.range j).map (mJ l of)).map vI)++[vI (mJ l of j)]:=by
    rw[List.range_succ];simp
   have UF:(((List.range j).map (mJ l of)).map vI).length=j:=by simp
   apply sR;simp only[go_sem,seval,t0,t1,t19,t20,q];refine pR rfl (OW l hl hb of SY SR hm j (by omega) _) ?_;generalize ((List.range j).map (mJ l of)).map vI=rows at*;apply sR;simp only[go_sem,seval,t0,t1,t19,t20,Ut];refine aF λi32 Z32 s32 a32 f32=>?_;obtain⟨idA,Ta,Sd,Us,Wn⟩:=ho.nM s32;have SF:(rows.length+1)*9<=140737488355328:=by omega
   simp only[go_sem,seval,t0,t1,t19,t20,Ut,Ta,bR a32,SF];refine bn λi33 Z33 s33 a33 f33=>?_;have k33:=(Sd U (aa.refl _) Z32 (hs.trans s32)).trans s33;have n33:U i33=none:=(hs.trans s32).none f33;simp only[go_sem,seval,t0,t1,t19,t20,r1];refine⟨_,?_,j+1,by omega,rfl,k33,?_,by simp[t0,t1,t19]⟩
   .omega
   .rw[Sx];exact aP.new (by simp) a33 n33
  .have q:((j:Int)<of.length+1)=False:=H';have Up:j=of.length+1:=by omega
   subst Up;apply sR;simp only[go_sem,seval,t0,t1,t19,t20,q];exact⟨hs,Ut▸ho⟩
 .rintro⟨S,J⟩ ⟨hs,ho⟩;simp only at hs ho;generalize Ut:S 7=v7 at ho;refine mS 11 ?_;simp only[go_sem,seval,Ut];exact⟨_,U,hs,Wk.Sa (vs':=[aZ (rT l of),vI 0]) ⟨ho.wk (aa.refl _) hs,Wk.refl hs _,trivial⟩,rfl,rfl⟩
open Go.Proofs
structure U4 where
 (cls forced rank:Int)
deriving DecidableEq
def dy(x:U4):V:=.agg [vI x.cls,vI x.forced,vI x.rank]
def dv(l:List U4):V:=.sl 3 (l.map dy)
def ax(l:List U4):(dv l).cells=[dv l]:=rfl
def az(l:List U4):(dv l).stays=true:=rfl
def Hh(l:List U4):eM false (dv l)=some (.int .i64 l.length):=by simp[dv,eM]
def B5{U:al}{l:List U4}{i:Nat}(h:i<l.length):bI U 3 (dv l) (.int .i64 i)=some (.rp (dy l[i])):=by simp[dv,bI,h,dy]
def dC(of:List Int)(k:Nat):Int:=if k=0 then 0 else if k=of.length then 3 else if of.getD k 0=of.getD (k-1) 0 then 2 else 1
def H8(of:List Int)(SY:of.length<=1000000)(k:Nat)(hk:k<=of.length):aX prog 118 [aZ of,vI k] (vI (dC of k)):=λU=>by
 refine PE.q ?_;have S1:=dz of;refine ay.mix 6 ?_;unfold dC;rcases Nat.eq_zero_or_pos k with rfl|h0
 .have q1:(((0:Nat):Int)=0)=True:=RX rfl;apply sR;simp only[go_sem,seval,GJ,q1];exact aD.same rfl
 have q1:((k:Int)=0)=False:=H';rw[aK (by omega)];by_cases Tt:k=of.length
 .have q2:((k:Int)=of.length)=True:=RX;rw[aI Tt];apply sR;simp only[go_sem,seval,GJ,q1,q2,S1];exact aD.same rfl
 have q2:((k:Int)=of.length)=False:=H';rw[aK Tt];have h1:k<of.length:=by omega
 have q5:=ar (m:=((k-1:Nat):Int)) (by omega) (by omega);have q6:((k:Int)-1)=((k-1:Nat):Int):=by omega
 have q7:=λU=>dH (U:=U) h1;have q8:=λU=>dH (U:=U) (l:=of) (i:=k-1) (by omega);have g1:of.getD k 0=of[k]:=by simp[h1]
 have g2:of.getD (k-1) 0=of[k-1]:=by
  have:k-1<of.length:=by omega
  simp[this]
 rw[g1,g2];by_cases h2:of[k]=of[k-1]
 .have q9:(of[k]=of[k-1])=True:=RX h2;rw[aI h2];apply sR;simp only[go_sem,seval,GJ,q1,q2,S1,q5,q6,q7,q8,q9];exact aD.same rfl
 .have q9:(of[k]=of[k-1])=False:=H' h2;rw[aK h2];apply sR;simp only[go_sem,seval,GJ,q1,q2,S1,q5,q6,q7,q8,q9];exact aD.same rfl
open Go.Proofs
def Vx(l:List Nd)(of:List Int)(k:Nat):U4:=⟨dC of k,ja l of k,if ja l of k=0 then mJ l of k else 0⟩
def pD(l:List Nd)(of:List Int):List U4:=(List.range (of.length+1)).map (Vx l of)
def C2{U:al}{f:Nat->Int}{n j:Nat}(h:j<n):bI U 1 (aZ ((List.range n).map f)) (.int .i64 j)=some (.rp (vI (f j))):=by
 rw[dH (by simpa using h)];simp
def LA(U:al)(l:List Nd)(hl:dN l)(hb:SA l=true)(of:List Int)(SY:of.length<=1000000)(SR:∀x∈of,0<=x/\x<l.length)(hm:qL l of=true):
 aG prog 82 [aQ l,aZ of] U λr Z'=>aa U Z'/\∃vb,r=.Sa [vb,vI 0]/\aP U Z' 77 3 vb ((pD l of).map dy):=by
 refine e82.q ?_;have hs:=aa.refl U;have S1:=dz of;refine mS 14 ?_;simp only[go_sem,seval,c82];refine pR rfl (pW l hl hb of SY hm _) ?_;have q0:((0:Int)≠0)=False:=H' (λh=>h rfl);have r0:Sn .i64 ((of.length:Int)+1):=ar;apply sR;simp only[go_sem,seval,q0,S1,r0];refine pS rfl (KC l hl hb of SY SR hm _) ?_;simp only[go_sem,seval];refine pS rfl (Lc l hl hb of SY SR hm _) ?_;simp only[go_sem,seval,S1,r0];refine ay.kY (λst=>aa U st.U/\aP U st.U 77 3 (st.s 11) ((pD l of).map dy))
  (λm st=>∃j:Nat,j<=of.length+1/\m=of.length+1-j/\aa U st.U/\aP U st.U 77 3 (st.s 11) (((List.range j).map (Vx l of)).map dy)/\st.s 0=aQ l/\st.s 1=aZ of/\st.s 7=aZ (rO l of)/\st.s 9=aZ (rT l of)/\st.s 34=vI ((of.length:Int)+1)/\st.s 35=vI j) (of.length+1) ?_ ?_ ?_
 .exact⟨0,by omega,rfl,hs,aP.start,rfl,rfl,rfl,rfl,rfl,rfl⟩
 .clear hs;rintro m ⟨S,J⟩ ⟨j,hj,rfl,hs,ho,t0,t1,t7,t9,t34,t35⟩;simp only at hs ho t0 t1 t7 t9 t34 t35;generalize YA:S 11=v11 at ho;refine ay.mix 14 ?_;by_cases u':j<of.length+1
  .have q:((j:Int)<of.length+1)=True:=RX;have r1:=rI j;have Sx:(((List.range (j+1)).map (Vx l of)).map dy)=(((List.range j).map (Vx l of)).map dy)++[dy (Vx l of j)]:=by
    rw[List.range_succ];simp
   have UF:(((List.range j).map (Vx l of)).map dy).length=j:=by simp
   have hi7:∀U,bI U 1 (aZ (rO l of)) (.int .i64 j)=some (.rp (vI (ja l of j))):=λU=>C2 u';have hi9:∀U,bI U 1 (aZ (rT l of)) (.int .i64 j)=some (.rp (vI (mJ l of j))):=λU=>C2 u';apply sR;simp only[go_sem,seval,t0,t1,t7,t9,YA,t34,t35,q];refine pJ rfl (H8 of SY j (by omega)) ?_;apply sG;simp only[go_sem,seval,t0,t1,t7,t9,YA,t34,t35,hi7];refine bM λi13 Z13 YN TF f13=>?_;by_cases hz:ja l of j=0
   .have q2:(ja l of j=0)=True:=RX hz;have Vy:dy (Vx l of j)=.agg [vI (dC of j),vI (ja l of j),vI (mJ l of j)]:=by rw[Vx,aI hz];rfl
    simp only[go_sem,seval,TF,t0,t1,t7,t9,YA,t34,t35,hi7,hi9,q2];generalize UU:C' _ i13 _=Y13;have s13':aa J Y13:=by rw[<-UU];exact YN.aL f13
    clear UU;refine aF λi58 Xg Ur Xh f58=>?_;obtain⟨idA,Ta,Sd,Us,Wn⟩:=ho.nM (s13'.trans Ur);generalize ((List.range j).map (Vx l of)).map dy=rows at*;have SF:(rows.length+1)*25<=140737488355328:=by omega
    simp only[go_sem,seval,t0,t1,t7,t9,YA,t34,t35,Ta,bR Xh,SF];refine bn λi59 Z59 Xi a59 f59=>?_;have Xj:=(Sd U (aa.refl _) Xg (hs.trans (s13'.trans Ur))).trans Xi;have Wz:U i59=none:=(hs.trans (s13'.trans Ur)).none f59;simp only[go_sem,seval,t0,t1,t7,t9,t34,t35,r1];refine⟨_,?_,j+1,by omega,rfl,Xj,?_,by simp[t0,t1,t7,t9,t34]⟩
    .omega
    .rw[Sx,Vy];exact aP.new (by simp) a59 Wz
   .have q2:(ja l of j=0)=False:=H' hz;have Vy:dy (Vx l of j)=.agg [vI (dC of j),vI (ja l of j),vI 0]:=by rw[Vx,aK hz];rfl
    simp only[go_sem,seval,TF,t0,t1,t7,t9,YA,t34,t35,hi7,hi9,q2];generalize UU:C' _ i13 _=Y13;have s13':aa J Y13:=by rw[<-UU];exact YN.aL f13
    clear UU;refine aF λi58 Xg Ur Xh f58=>?_;obtain⟨idA,Ta,Sd,Us,Wn⟩:=ho.nM (s13'.trans Ur);generalize ((List.range j).map (Vx l of)).map dy=rows at*;have SF:(rows.length+1)*25<=140737488355328:=by omega
    simp only[go_sem,seval,t0,t1,t7,t9,YA,t34,t35,Ta,bR Xh,SF];refine bn λi59 Z59 Xi a59 f59=>?_;have Xj:=(Sd U (aa.refl _) Xg (hs.trans (s13'.trans Ur))).trans Xi;have Wz:U i59=none:=(hs.trans (s13'.trans Ur)).none f59;simp only[go_sem,seval,t0,t1,t7,t9,t34,t35,r1];refine⟨_,?_,j+1,by omega,rfl,Xj,?_,by simp[t0,t1,t7,t9,t34]⟩
    .omega
    .rw[Sx,Vy];exact aP.new (by simp) a59 Wz
  .have q:((j:Int)<of.length+1)=False:=H';have Up:j=of.length+1:=by omega
   subst Up;apply sR;simp only[go_sem,seval,t0,t1,t7,t9,t34,t35,q];exact⟨hs,YA▸ho⟩
 .rintro⟨S,J⟩ ⟨hs,ho⟩;simp only at hs ho;generalize YA:S 11=v11 at ho;refine mS 14 ?_;simp only[go_sem,seval,YA];exact Tf ⟨hs,v11,rfl,ho⟩
open Go.Proofs
def uI(x:U4)(first last:Bool):Prop:=
 (first=true->x.cls=0)/\(first=false->last=true->x.cls=3)/\(first=false->last=false->x.cls=1\/x.cls=2)/\
 (x.forced=0\/(2<=x.forced/\x.forced<=4/\x.cls≠3/\x.cls≠2))/\(x.rank=0\/((x.cls=1\/x.cls=2)/\x.forced=0/\0<x.rank/\x.rank<8))
instance (x:U4) (a b:Bool):Decidable (uI x a b):=by unfold uI;infer_instance
open Go.Proofs
def UR(b:List U4)(i:Nat):U4:=b.getD i ⟨0,0,0⟩
def xL(b:List U4)(i:Nat):Bool:=decide (uI (UR b i) (decide ((i:Int)=0)) (decide ((i:Int)=(b.length:Int)-1)))
def E8(b:List U4):Bool:=(List.range b.length).all (xL b)&&decide ((b.length:Int)>0)
open Go.Proofs
def kf(b:List U4)(i:Nat):V:=.agg [vI (UR b i).cls,vI (UR b i).forced,vI (UR b i).rank,vI i]
def uv(b:List U4)(eK to:Int):Nat:=(min to ((b.length:Int)-1)+1-max eK 0).toNat
def btw(b:List U4)(eK to:Int):List Nat:=List.range' (max eK 0).toNat (uv b eK to)
def Mk(U:al)(b:List U4):dr U false 1 (.rp (dv b))=some (dv b):=rfl
def range_split:∀(j s n:Nat),j<n->List.range' s n=List.range' s j++(s+j)::List.range' (s+j+1) (n-j-1)
 |0,s,n+1,_=>by simp[List.range']
 |j+1,s,n+1,h=>by
  have:=range_split j (s+1) n (by omega);rw[List.range',this,List.range'];have e1:s+1+j=s+(j+1):=by omega
  have e2:n-j-1=n+1-(j+1)-1:=by omega
  rw[e1,e2];rfl
def rN(s j:Nat):List.range' s (j+1)=List.range' s j++[s+j]:=by
 rw[range_split j s (j+1) (by omega),show j+1-j-1=0 by omega];rfl
def Fb(b:List U4)(hb:b.length<=1000000)(eK to:Int):Iter prog 125 [.rp (vI eK),.rp (vI to),.rp (dv b)] ((btw b eK to).map λi=>[kf b i]):=by
 refine⟨LL.c,λSL τ Jx Z0 hy hJ=>?_⟩;refine(LL.q ?_).2;have hlb:=Hh b;refine mS 6 ?_;simp only[go_sem,seval,Ma,cj];obtain⟨s,hsv⟩:∃s:Nat,s=(max eK 0).toNat:=⟨_,rfl⟩
 have TY:max eK 0=(s:Int):=by omega
 obtain⟨n,hnv⟩:∃n:Nat,n=uv b eK to:=⟨_,rfl⟩
 have hn1:∀j:Nat,(((s+j:Nat):Int)<=min to ((b.length:Int)-1))↔j<n:=λj=>by rw[hnv,uv,TY];omega
 rw[btw,<-hsv,<-hnv]at hy|-;rw[TY];refine ay.loop (λm st=>∃(j:Nat) (ZJ:al),j<=n/\m=n-j/\τ ((List.range' s j).map λi=>[kf b i]) ZJ/\aa ZJ st.U/\st.s 0=.yl SL/\st.s 1=.rp (vI eK)/\st.s 2=.rp (vI to)/\st.s 3=.rp (dv b)/\st.s 5=vI (s+j:Nat)) n ?_ ?_
 .exact⟨0,Z0,by omega,rfl,by simpa using hJ,aa.refl _,rfl,rfl,rfl,rfl,rfl⟩
 .rintro m ⟨S,J⟩ ⟨j,ZJ,hj,rfl,UN,G',t0,t1,t2,t3,t5⟩;simp only at G' t0 t1 t2 t3 t5;refine ay.mix 6 ?_;have r2:Sn .i64 ((b.length:Int)-1):=ar;by_cases u':j<n
  .have hle:=(hn1 j).2 u';have Tu:s+j<b.length:=by omega
   have q:(((s+j:Nat):Int)<=min to ((b.length:Int)-1))=True:=RX hle;have r1:Sn .i64 (((s+j:Nat):Int)+1):=ar;have R0:=λU=>B5 (U:=U) Tu;have hg:UR b (s+j)=b[s+j]:=by simp[UR,Tu]
   have hfd:kf b (s+j)=.agg [vI b[s+j].cls,vI b[s+j].forced,vI b[s+j].rank,vI (s+j:Nat)]:=by rw[kf,hg]
   have e:((List.range' s n).map λi=>[kf b i])=((List.range' s j).map λi=>[kf b i])++[kf b (s+j)]::((List.range' (s+j+1) (n-j-1)).map λi=>[kf b i]):=by
    rw[range_split j s n u'];simp
   have SB:((List.range' s (j+1)).map λi=>[kf b i])=((List.range' s j).map λi=>[kf b i])++[[kf b (s+j)]]:=by rw[rN];simp
   have q5:s+(j+1)=s+j+1:=by omega
   generalize s+j=sj at*;apply sR;simp only[go_sem,seval,t0,t1,t2,t3,t5,Mk,hlb,r2,eP,q,R0,dy];rw[<-hfd];refine ay.qc (Post:=λb' Z2=>∃SN,bF ZJ J SN Z2/\((b'=true/\τ (((List.range' s j).map λi=>[kf b i])++[[kf b sj]]) SN)\/(b'=false/\Jx (((List.range' s j).map λi=>[kf b i])++[[kf b sj]]) SN))) rfl rfl rfl (hy _ [kf b sj] _ ZJ J e UN G') ?_;rintro b' Z2 ⟨SN,UQ,Uo⟩;rcases Uo with⟨rfl,Uo⟩|⟨rfl,Uo⟩
   .apply sR;simp only[go_sem,seval,t0,t1,t2,t3,t5,r1];refine⟨_,?_,j+1,SN,by omega,rfl,by rw[SB];exact Uo,UQ.1,by simp[t0,t1,t2,t3,q5]⟩;omega
   .apply sR;simp only[go_sem,seval,t0,t1,t2,t3,t5];exact⟨_,SN,UQ.1,Wk.refl UQ.1 _,.inr ⟨_,⟨_,by rw[e,mY];rfl⟩,Uo⟩⟩
  .have q:(((s+j:Nat):Int)<=min to ((b.length:Int)-1))=False:=H' (λh=>u' ((hn1 j).1 h));have Up:j=n:=by omega
   subst Up;generalize s+j=sj at*;apply sR;simp only[go_sem,seval,t0,t1,t2,t3,t5,Mk,hlb,r2,eP,q];exact⟨_,ZJ,G',Wk.refl G' _,.inl UN⟩
open Go.Proofs
structure Fd where
 (b:U4)(i:Int)
def jd(x:Fd):V:=.agg [vI x.b.cls,vI x.b.forced,vI x.b.rank,vI x.i]
def kO(ah:Fd->Fd->Bool->Bool)(p:Fd×Bool)(x:Fd):Fd×Bool:=if ah x p.1 p.2 then(x,true)else p
def iI(ah:Fd->Fd->Bool->Bool)(xs:List Fd)(d:Fd):Fd×Bool:=xs.foldl (kO ah) (d,false)
def BC(ah:Fd->Fd->Bool->Bool)(xs:List Fd)(x:Fd)(d:Fd):iI ah (xs++[x]) d=kO ah (iI ah xs d) x:=by simp[iI,nj]
def EZ{g f:FuncId}{caps:List V}{xs:List Fd}(YH:Iter prog g caps (xs.map λx=>[jd x]))(d:Fd)(ah:Fd->Fd->Bool->Bool)
 (hf:∀x y s,aX prog f [jd x,jd y,.bool s] (.bool (ah x y s))):
 aX prog 99 [.fn g caps,jd d,.fn f []] (jd (iI ah xs d).1):=λU=>by
 refine e99.q ?_;have hs:=aa.refl U;have hfc:(V.fn f []).cells=[.fn f []]:=rfl;have W1:(V.fn f []).stays=true:=rfl;refine mS 10 ?_;simp only[go_sem,seval,c99,jd,hfc,W1];refine aE hs λi4 Z4 s4 a4 f4 z4 hs=>?_;simp only[go_sem,seval,hfc,W1];refine aE hs λi5 Z5 s5 a5 f5 z5 hs=>?_;obtain⟨Ww,a4⟩:=RZ a4 f5 s5;simp only[go_sem,seval,hfc,W1];refine aE hs λi6 Z6 s6 a6 f6 z6 hs=>?_;obtain⟨ZL,a4⟩:=RZ a4 f6 s6;obtain⟨n56,a5⟩:=RZ a5 f6 s6;simp only[go_sem,seval,a4,hfc,W1];have Yb:=aa.refl Z6;refine aF λi7 Z7 s7 a7 f7=>?_;simp only[go_sem,seval,a7,hfc,W1];refine aF λi8 Z8 s8 a8 f8=>?_;have V0:i7≠i8:=bf a7 f8;have b7:=s8 _ _ a7;simp only[go_sem,seval,b7,a8,ad V0,ad V0.symm,hfc,W1];generalize hS:mix 10 _ _=S;have S5:S 5=.ptr i5 0 0:=by rw[<-hS];rfl
 have S6:S 6=.ptr i6 0 0:=by rw[<-hS];rfl
 have S7:S 7=.ptr i7 0 0:=by rw[<-hS];rfl
 have S8:S 8=.ptr i8 0 0:=by rw[<-hS];rfl
 have S11:S 11=.fn g caps:=by rw[<-hS];rfl
 clear hS;refine ay.gX (g:=.t 11) (caps:=caps) S11 YH (λy hy=>?_) [] (λpre ZJ=>ZJ i7=some ⟨149,4,[jd (iI ah (xs.take pre.length) d).1]⟩/\ZJ i8=some ⟨4,1,[.bool (iI ah (xs.take pre.length) d).2]⟩/\aa Z6 ZJ)
  (λ_ _ _=>False) ?_ ?_ ?_ ?_ ?_
 .obtain⟨t,_,rfl⟩:=iE.1 hy;rfl
 .refine⟨(ad V0).trans aA,aA,?_⟩;have h7:=(s7.trans s8).aL (id:=i7) (o:=⟨149,4,[.agg [vI d.b.cls,vI d.b.forced,vI d.b.rank,vI d.i]]⟩) f7;exact h7.aL (s7.none f8)
 .rintro pre y post ZJ ZB Vt ⟨J7,J8,Js⟩ G';obtain⟨t,hti,rfl⟩:=yh (f:=jd) Vt;have SB:iI ah (xs.take (pre.length+1)) d=kO ah (iI ah (xs.take pre.length) d) t:=by rw[Kw,hti];exact BC _ _ _ _
  have hlen:(pre++[[jd t]]).length=pre.length+1:=by simp
  rw[hlen,SB];generalize iI ah (xs.take pre.length) d=p at*;obtain⟨p1,p2⟩:=p;simp only at J7 J8;have c7:=G' _ _ J7;have c8:=G' _ _ J8;have c5:=G' _ _ (Js _ _ a5);generalize U8:pI S [12] [jd t]=S0;have T5:S0 5=.ptr i5 0 0:=by rw[<-U8];exact S5
  have T7:S0 7=.ptr i7 0 0:=by rw[<-U8];exact S7
  have T8:S0 8=.ptr i8 0 0:=by rw[<-U8];exact S8
  have T12:S0 12=jd t:=by rw[<-U8];rfl
  clear U8;rw[jd]at c7 T12;refine mS 10 ?_;simp only[go_sem,seval,T5,T7,T8,T12];rw[aH];intro i9 f9;have m7:i7≠i9:=bf c7 f9;have m8:i8≠i9:=bf c8 f9;have m5:i5≠i9:=bf c5 f9;simp only[go_sem,seval,T5,T7,T8,T12];have Zq:=(bF.refl G').Jm (o:=⟨149,4,[.agg [vI t.b.cls,vI t.b.forced,vI t.b.rank,vI t.i]]⟩) f9;have d7:=(ad (o:=⟨149,4,[.agg [vI t.b.cls,vI t.b.forced,vI t.b.rank,vI t.i]]⟩) m7).trans c7;have d8:=(ad (o:=⟨149,4,[.agg [vI t.b.cls,vI t.b.forced,vI t.b.rank,vI t.i]]⟩) m8).trans c8;have d5:=(ad (o:=⟨149,4,[.agg [vI t.b.cls,vI t.b.forced,vI t.b.rank,vI t.i]]⟩) m5).trans c5;have d9:C' ZB i9 ⟨149,4,[.agg [vI t.b.cls,vI t.b.forced,vI t.b.rank,vI t.i]]⟩ i9=_:=aA;generalize C' ZB i9 ⟨149,4,[.agg [vI t.b.cls,vI t.b.forced,vI t.b.rank,vI t.i]]⟩=Z9 at*;apply sR;simp only[go_sem,seval,T5,T7,T8,d5,d7,d8,d9];refine pR rfl (hf t p1 p2 _) ?_;cases hv:ah t p1 p2
  .apply sR;simp only[go_sem,seval,T5,T7,T8];refine⟨_,Zq,?_,?_,Js⟩
   .rw[kO,hv];exact J7
   .rw[kO,hv];exact J8
  .apply sR;simp only[go_sem,seval,T5,T7,T8,d5,d7,d8,d9,ad V0,ad V0.symm];refine⟨_,(Zq.set (id:=i7) J7).set (id:=i8) (by rw[ad V0.symm];exact J8),?_,?_,?_⟩
   .rw[kO,hv];exact(ad V0).trans aA
   .rw[kO,hv];exact aA
   .exact(Js.aL f7).aL (s7.none f8)
 .rintro Z' ⟨J7,J8,Js⟩;rw[dO,iC]at J7 J8;rw[jd]at J7;have e6:=Js _ _ a6;refine mS 10 ?_;simp only[go_sem,seval,S6,S7,J7,e6];exact aD.pure ((hs.trans Js).aL z6) rfl
 .intro id h;cases h
 .rintro pre Z' _ ⟨⟩
open Go.Proofs
def DH(b:List U4)(eK to:Int):aX prog 100 [dv b,vI eK,vI to] (.fn 125 [.rp (vI eK),.rp (vI to),.rp (dv b)]):=λU=>by
 refine Rs.q ?_;refine ay.mix 7 ?_;have q1:=ax b;have q2:=az b;generalize dv b=x at*;apply sR;simp only[go_sem,seval,MQ,q1,q2];refine aF λVY Z1 s1 a1 f1=>?_;simp only[go_sem,seval,q1,q2];refine aF λXu Z2 s2 a2 f2=>?_;simp only[go_sem,seval,q1,q2];refine aF λid3 Z3 s3 a3 f3=>?_;simp only[go_sem,seval,q1,q2];have hs:=(s1.trans s2).trans s3;exact⟨_,U,hs,Wk.fn (vs':=[.rp (vI eK),.rp (vI to),.rp x]) ⟨Wk.ptr hs (s3 _ _ a2) (s1.none f2),Wk.ptr hs a3 ((s1.trans s2).none f3),Wk.ptr hs (s3 _ _ (s2 _ _ a1)) f1,trivial⟩,rfl,rfl⟩
def p7(b:List U4)(i:Nat):Fd:=⟨UR b i,i⟩
def xM:Fd:=⟨⟨0,0,0⟩,-1⟩
def gi(x _y:Fd)(s:Bool):Bool:=!s&&decide (x.b.forced≠0)
def GI(x y:Fd)(s:Bool):aX prog 101 [jd x,jd y,.bool s] (.bool (gi x y s)):=λU=>by
 refine Rj.q ?_;have hs:=aa.refl U;obtain⟨⟨c,f,r⟩,i⟩:=x;obtain⟨⟨c',f',r'⟩,i'⟩:=y;refine mS 7 ?_;simp only[go_sem,seval,Nu,jd];refine aE hs λi3 Z3 s3 a3 f3 z3 hs=>?_;simp only[go_sem,seval];refine aE hs λi4 Z4 s4 a4 f4 z4 hs=>?_;obtain⟨YJ,a3⟩:=RZ a3 f4 s4;cases s
 .by_cases h:f≠0
  .have q:(f≠0)=True:=RX h;simp only[go_sem,seval,a3,a4,q];exact aD.pure hs (by simp[gi,h])
  .have q:(f≠0)=False:=H' h;simp only[go_sem,seval,a3,a4,q];exact aD.pure hs (by simp[gi,h])
 .simp only[go_sem,seval,a3,a4];exact aD.pure hs (by simp[gi])
def fH(b:List U4)(eK to:Int):Int:=(iI gi ((btw b eK to).map (p7 b)) xM).1.i
def DU(b:List U4)(hb:b.length<=1000000)(eK to:Int):Iter prog 125 [.rp (vI eK),.rp (vI to),.rp (dv b)] (((btw b eK to).map (p7 b)).map λx=>[jd x]):=by
 have h:=Fb b hb eK to;rw[List.map_map];exact h
def Ip(b:List U4)(hb:b.length<=1000000)(eK to:Int):aX prog 60 [dv b,vI eK,vI to] (vI (fH b eK to)):=λU=>by
 refine e60.q ?_;have hs:=aa.refl U;refine mS 8 ?_;simp only[go_sem,seval,c60];refine pS rfl (DH b eK to _) ?_;simp only[go_sem,seval];refine pR rfl (EZ (DU b hb eK to) xM gi GI _) ?_;have Tr:∀x,(jd x).cells=[vI x.b.cls,vI x.b.forced,vI x.b.rank,vI x.i]:=λ_=>rfl;apply sR;simp only[go_sem,seval,jd];refine aE hs λi7 Z7 s7 a7 f7 z7 hs=>?_;simp only[go_sem,seval,a7];exact aD.pure (hs.aL z7) rfl
open Go.Proofs
structure Kp where
 (TM:List Int)
 (high body:Int)
def jy(l:List Nd)(x:Kp)(a:Int):Kp:=if(Uy l a).head<1\/x.body-(Uy l a).head<1 then x else⟨x.TM++[a],x.high+(Uy l a).head,x.body-(Uy l a).head⟩
structure KpJ(Z0:al)(i7:Nat)(x:Kp)(U:al):Prop where
 row:∃v,U i7=some ⟨179,3,[.agg [v,vI x.high,vI x.body]]⟩/\aP (cA Z0 i7) U 3 1 v (x.TM.map vI)
 sub:aa Z0 U
 no:Z0 i7=none
def Ja(l:List Nd)(hb:SA l=true)(x:Kp)(hlen:x.TM.length<=1000000)(h0:0<=x.high)(h1:x.high<=4398046511104)(h2:0<=x.body)(h3:x.body<=4398046511104)(a:Nat)(ha:a<l.length)
 {Z0 ZJ ZB:al}{i7:Nat}(hJ:KpJ Z0 i7 x ZJ)(G':aa ZJ ZB):
 aG prog 121 [.ptr i7 0 0,aQ l,vI a] ZB λ_ Z'=>∃SN,bF ZJ ZB SN Z'/\KpJ Z0 i7 (jy l x a) SN:=by
 refine Pd.q ?_;have Sw:=(fA hb ha).st.head;have Th:=λU=>bN (U:=U) (l:=l) (a:=a) ha;obtain⟨⟨v,J7,Jo⟩,Js,Jn⟩:=hJ;obtain⟨hds,high,body⟩:=x;simp only at hlen h0 h1 h2 h3 J7 Jo;have XG:v.cells=[v]:=by rcases Jo with⟨rfl,_⟩|⟨_,rfl,_⟩<;>rfl
 have c7:=G' _ _ J7;unfold jy;rw[gG ha];simp only;have same:(l[a].st.head<1\/body-l[a].st.head<1)->aD (.Sa []) ZB λ_ Z'=>∃SN,bF ZJ ZB SN Z'/\KpJ Z0 i7 (if l[a].st.head<1\/body-l[a].st.head<1 then⟨hds,high,body⟩else⟨hds++[(a:Int)],high+l[a].st.head,body-l[a].st.head⟩) SN:=λh=>by
  rw[aI h];exact⟨_,ZB,aa.refl _,Wk.refl (aa.refl _) _,ZJ,bF.refl G',⟨v,J7,Jo⟩,Js,Jn⟩
 refine ay.mix 7 ?_;have r1:Sn .i64 (body-l[a].st.head):=ar;have r2:Sn .i64 (high+l[a].st.head):=ar;by_cases hn:l[a].st.head<1
 .have q1:(l[a].st.head<1)=True:=RX hn;have fin:=same (.inl hn);generalize hX:(if l[a].st.head<1\/body-l[a].st.head<1 then(⟨hds,high,body⟩:Kp)else⟨hds++[(a:Int)],high+l[a].st.head,body-l[a].st.head⟩)=X at*;apply sR;simp only[go_sem,seval,H6,Th,Nd.cells,q1,c7,XG];exact fin
 have q1:(l[a].st.head<1)=False:=H' hn;by_cases Xo:body-l[a].st.head<1
 .have q2:(body-l[a].st.head<1)=True:=RX Xo;have fin:=same (.inr Xo);generalize hX:(if l[a].st.head<1\/body-l[a].st.head<1 then(⟨hds,high,body⟩:Kp)else⟨hds++[(a:Int)],high+l[a].st.head,body-l[a].st.head⟩)=X at*;apply sR;simp only[go_sem,seval,H6,Th,Nd.cells,q1,r1,q2,c7,XG];exact fin
 have q2:(body-l[a].st.head<1)=False:=H' Xo;rw[aK (by omega)];clear same;apply sR;simp only[go_sem,seval,H6,Th,Nd.cells,q1,r1,q2,c7,XG];rw[aH];intro V2 f28;have XQ:(hds.map vI).length<=1000000:=by simpa using hlen
 have Sx:((hds++[(a:Int)]).map vI)=hds.map vI++[vI a]:=by simp
 generalize hds.map vI=rows at*;have Zq:=(bF.refl G').Jm (o:=⟨3,1,[vI (a:Int)]⟩) f28;have y2:C' ZB V2 ⟨3,1,[vI (a:Int)]⟩ i7=_:=(ad (bf c7 f28)).trans c7;have a28:C' ZB V2 ⟨3,1,[vI (a:Int)]⟩ V2=some ⟨3,1,[vI (a:Int)]⟩:=aA;generalize C' ZB V2 ⟨3,1,[vI (a:Int)]⟩=Z8 at*;obtain⟨idA,Ta,ZF⟩:=Jo.HF Zq.1;have SF:(rows.length+1)*9<=140737488355328:=by omega
 have k2:cA Z0 i7 i7≠none:=λh=>(bk.1 h).1 rfl;have ZM:∀(i:Nat) (Zx:al),cA Z0 i7 i≠none->Vc.bW Zx idA i=Zx i:=λi Zx hk=>by
  cases idA with
  |none=>rfl
  |some a=>exact eV (λe=>hk (by rw[e];exact(ZF a rfl).1))
 simp only[go_sem,seval,Ta,bR a28,SF];rw[aH];intro Uq f29;have f29:Z8 Uq=none:=f29;have m29:i7≠Uq:=bf y2 f29;have f29':Vc.bW Z8 idA Uq=none:=by
  cases idA with
  |none=>exact f29
  |some a=>simp only[Vc.bW,del];split<;>first|rfl|exact f29
 have y2':C' (Vc.bW Z8 idA) Uq ⟨3,1,rows++[vI (a:Int)]⟩ i7=some ⟨179,3,[.agg [v,vI high,vI body]]⟩:=by rw[ad m29,ZM _ _ k2];exact y2
 have hB9:=((Zq.KW (e:=idA) λi h=>(ZF i h).2).new (o:=⟨3,1,rows++[vI (a:Int)]⟩) f29').set (id:=i7) (o:=⟨179,3,[.agg [v,vI high,vI body]]⟩) (o':=⟨179,3,[.agg [.own Uq 0 (rows.length+1),vI (high+l[a].st.head),vI (body-l[a].st.head)]]⟩) (by rw[ad m29,ZM _ _ k2];exact J7);simp only[go_sem,seval,XG,y2',r1,r2];refine Tf ⟨_,hB9,⟨.own Uq 0 (rows.length+1),aA,?_⟩,?_,Jn⟩
 .rw[Sx];refine aP.new (by simp) (by rw[ad m29.symm,aA]) ?_;rw[bk];refine⟨m29.symm,?_⟩;cases h:Z0 Uq with
  |none=>rfl
  |some o=>rw[Zq.1 _ _ (Js _ _ h)]at f29;cases f29
 .refine aa.aL (λi o h=>?_) Jn;have h1:=Js _ _ h;rw[ad (bf (Zq.1 _ _ h1) f29),ZM _ _ (λhk=>by rw[(bk.1 hk).2]at h;cases h)];exact h1
open Go.Proofs
def bwd(L:List Int):List (List V):=(List.range' 0 L.length).map λq=>[vI ((L.length-1-q:Nat):Int),vI (L.getD (L.length-1-q) 0)]
def Fh(L:List Int)(hL:L.length<=1000000):Iter prog 153 [.rp (aZ L)] (bwd L):=by
 refine⟨Mm.c,λSL τ Jx Z0 hy hJ=>?_⟩;refine(Mm.q ?_).2;have hlL:=dz L;have ldI:∀(U:al) (X:List Int),dr U false 1 (.rp (aZ X))=some (aZ X):=λU X=>rfl;have r2:Sn .i64 ((L.length:Int)-1):=ar;refine mS 4 ?_;simp only[go_sem,seval,Nn,ldI,hlL,r2];generalize hT:bwd L=T at hy|-
 let F:Nat->List V:=λq=>[vI ((L.length-1-q:Nat):Int),vI (L.getD (L.length-1-q) 0)]
 have hTF:T=(List.range' 0 L.length).map F:=hT.symm;refine ay.loop (λm st=>∃(j:Nat) (ZJ:al),j<=L.length/\m=L.length-j/\τ ((List.range' 0 j).map F) ZJ/\aa ZJ st.U/\st.s 0=.yl SL/\st.s 1=.rp (aZ L)/\st.s 3=vI ((L.length:Int)-1-j)) L.length ?_ ?_
 .exact⟨0,Z0,by omega,rfl,by simpa using hJ,aa.refl _,rfl,rfl,by simp[bb,mix]⟩
 .rintro m ⟨S,J⟩ ⟨j,ZJ,hj,rfl,UN,G',t0,t1,t3⟩;simp only at G' t0 t1 t3;refine ay.mix 4 ?_;by_cases u':j<L.length
  .obtain⟨i,hi⟩:∃i:Nat,i=L.length-1-j:=⟨_,rfl⟩
   have Uk:i<L.length:=by omega
   have t3':S 3=vI (i:Int):=by rw[t3];congr 1;omega
   have q:((i:Int)>=0)=True:=RX;have r1:Sn .i64 ((i:Int)-1):=ar;have R0:=λU=>dH (U:=U) Uk;have hF:F j=[vI (i:Int),vI L[i]]:=by
    show[vI ((L.length-1-j:Nat):Int),vI (L.getD (L.length-1-j) 0)]=_;rw[<-hi];simp[Uk]
   have e:T=((List.range' 0 j).map F)++[vI (i:Int),vI L[i]]::((List.range' (0+j+1) (L.length-j-1)).map F):=by
    rw[hTF,range_split j 0 L.length u',fw,ga,kQ,hF]
   have SB:((List.range' 0 (j+1)).map F)=((List.range' 0 j).map F)++[[vI (i:Int),vI L[i]]]:=by rw[rN,fw,kQ,ga,hF];rfl
   have q5:(i:Int)-1=(L.length:Int)-1-((j+1:Nat):Int):=by omega
   apply sR;simp only[go_sem,seval,t0,t1,t3',ldI,q,R0];refine ay.qc (Post:=λb' Z2=>∃SN,bF ZJ J SN Z2/\((b'=true/\τ (((List.range' 0 j).map F)++[[vI (i:Int),vI L[i]]]) SN)\/(b'=false/\Jx (((List.range' 0 j).map F)++[[vI (i:Int),vI L[i]]]) SN))) rfl rfl rfl (hy _ [vI (i:Int),vI L[i]] _ ZJ J e UN G') ?_;rintro b' Z2 ⟨SN,UQ,Uo⟩;rcases Uo with⟨rfl,Uo⟩|⟨rfl,Uo⟩
   .apply sR;simp only[go_sem,seval,t0,t1,t3',r1];refine⟨_,?_,j+1,SN,by omega,rfl,by rw[SB];exact Uo,UQ.1,by simp[t0,t1,q5]⟩;omega
   .apply sR;simp only[go_sem,seval,t0,t1,t3'];exact⟨_,SN,UQ.1,Wk.refl UQ.1 _,.inr ⟨_,⟨_,by rw[e,mY];rfl⟩,Uo⟩⟩
  .have Up:j=L.length:=by omega
   subst Up;have q:((L.length:Int)-1-(L.length:Int)>=0)=False:=H';apply sR;simp only[go_sem,seval,t0,t1,t3,q];exact⟨_,ZJ,G',Wk.refl G' _,.inl (hTF▸UN)⟩
def Pa(L:List Int):aX prog 119 [aZ L] (.fn 153 [.rp (aZ L)]):=λU=>by
 refine Q6.q ?_;refine mS 3 ?_;simp only[go_sem,seval,O3,ag,ak];refine aF λVY Z1 s1 a1 f1=>?_;simp only[go_sem,seval,ag,ak];exact⟨_,U,s1,Wk.fn (vs':=[.rp (aZ L)]) ⟨Wk.ptr s1 a1 f1,trivial⟩,rfl,rfl⟩
open Go.Proofs
def kE(x:Kp):V:=.agg [aZ x.TM,vI x.high,vI x.body]
def j9(l:List Nd)(L:List Int)(h:Int):Nat->Kp
 |0=>⟨[],0,h⟩
 |m+1=>jy l (j9 l L h m) (L.getD (L.length-1-m) 0)
def Eu{l:List Nd}{x:Kp}{a:Int}{m:Nat}{h:Int}(h0:0<=(Uy l a).head)(hx:x.TM.length<=m/\0<=x.high/\0<=x.body/\x.high+x.body=h):(jy l x a).TM.length<=m+1/\0<=(jy l x a).high/\0<=(jy l x a).body/\(jy l x a).high+(jy l x a).body=h:=by
 obtain⟨h1,h2,h3,h4⟩:=hx;unfold jy;split
 .exact⟨by omega,h2,h3,h4⟩
 .simp only[kL,Uf,List.length_nil];omega
def zY{l:List Nd}(hb:SA l=true){L:List Int}(hL:∀x∈L,∃n:Nat,x=n/\n<l.length){h:Int}(hh:0<=h):∀m,m<=L.length->(j9 l L h m).TM.length<=m/\0<=(j9 l L h m).high/\0<=(j9 l L h m).body/\(j9 l L h m).high+(j9 l L h m).body=h
 |0,_=>by simp[j9];omega
 |m+1,hm=>by
  have ih:=zY hb hL hh m (by omega);rw[j9];refine Eu ?_ ih;have u':L.length-1-m<L.length:=by omega
  have hg:L.getD (L.length-1-m) 0=L[L.length-1-m]:=by simp[u']
  rw[hg];obtain⟨n,hn,T9⟩:=hL _ (SU u');rw[hn,gG T9];exact(fA hb T9).st.head.1
def qj(l:List Nd)(a:Nat)(h:Int):Kp:=j9 l (XH l a) h (XH l a).length
def FY(l:List Nd)(hl:dN l)(hb:SA l=true)(hn:l.length<=100000)(a:Nat)(ha:a<l.length)(h:Int)(h0:0<=h)(h1:h<=2199023255552):
 aX prog 89 [aQ l,vI a,vI h] (kE (qj l a h)):=λU=>by
 refine e89.q ?_;have hs:=aa.refl U;refine mS 10 ?_;simp only[go_sem,seval,c89,ab,ai];refine aE hs λi3 Z3 s3 a3 f3 z3 hs=>?_;simp only[go_sem,seval];refine aE hs λi6 Z6 s6 a6 f6 z6 hs=>?_;obtain⟨XZ,a3⟩:=RZ a3 f6 s6;simp only[go_sem,seval,a3,ab];refine aF λi7 Z7 s7 a7 f7=>?_;have n37:i3≠i7:=bf a3 f7;have Uh:i6≠i7:=bf a6 f7;have b3:=s7 _ _ a3;simp only[go_sem,seval,a7,b3,ad n37,ab,ai];have h7:KpJ Z6 i7 ⟨[],0,h⟩ (C' Z7 i7 ⟨179,3,[.agg [.bl,vI 0,vI h]]⟩):=⟨⟨.bl,aA,aP.start⟩,s7.aL f7,f7⟩
 have e3:C' Z7 i7 ⟨179,3,[.agg [.bl,vI 0,vI h]]⟩ i3=_:=(ad n37).trans b3;generalize C' Z7 i7 ⟨179,3,[.agg [.bl,vI 0,vI h]]⟩=Y7 at*;refine pR rfl (zQ l hl hb hn a ha _) ?_;have hrg:∀x∈XH l a,∃n:Nat,x=n/\n<l.length:=λx hx=>by
  obtain⟨n,h1,h2⟩:=yk ha x hx;exact⟨n,h1,by omega⟩
 have hlL:(XH l a).length<=l.length+1:=kW _ _ _;unfold qj;generalize XH l a=L at*;apply sR;simp only[go_sem,seval];refine pS rfl (Pa L _) ?_;simp only[go_sem,seval];generalize hS:mix 10 _ _=S;have S3:S 3=.ptr i3 0 0:=by rw[<-hS];rfl
 have S6:S 6=.ptr i6 0 0:=by rw[<-hS];rfl
 have S7:S 7=.ptr i7 0 0:=by rw[<-hS];rfl
 have S16:S 16=.fn 153 [.rp (aZ L)]:=by rw[<-hS];rfl
 clear hS;refine ay.gX (g:=.t 16) (caps:=[.rp (aZ L)]) S16 (Fh L (by omega)) (λy hy=>?_) [] (λpre ZJ=>KpJ Z6 i7 (j9 l L h pre.length) ZJ)
  (λ_ _ _=>False) ?_ ?_ ?_ ?_ ?_
 .obtain⟨t,_,rfl⟩:=iE.1 hy;rfl
 .exact h7
 .rintro pre y post ZJ ZB Vt hJ G';have Wr:pre.length<L.length:=by
   have:=congrArg List.length Vt;simp[bwd]at this;omega
  obtain⟨i,hi⟩:∃i:Nat,i=L.length-1-pre.length:=⟨_,rfl⟩
  have Uk:i<L.length:=by omega
  have hy:y=[vI (i:Int),vI (L.getD i 0)]:=by
   have h1:(bwd L)[pre.length]?=some y:=by rw[Vt];simp
   simp[bwd,Wr]at h1;rw[<-h1,hi];simp
  have hlen:(pre++[y]).length=pre.length+1:=by simp
  have hinv:=zY hb hrg h0 pre.length (by omega);have Sg:j9 l L h (pre.length+1)=jy l (j9 l L h pre.length) (L.getD i 0):=by rw[j9,hi]
  have hg:L.getD i 0=L[i]:=by simp[Uk]
  obtain⟨n,Sh,T9⟩:=hrg _ (SU Uk);rw[hlen,Sg,hg,Sh];rw[hg,Sh]at hy;subst hy;generalize j9 l L h pre.length=x at*;have c3:=G' _ _ (hJ.sub _ _ a3);generalize U8:pI S [17,18] [vI (i:Int),vI (n:Int)]=S0;have T3:S0 3=.ptr i3 0 0:=by rw[<-U8];exact S3
  have T7:S0 7=.ptr i7 0 0:=by rw[<-U8];exact S7
  have T18:S0 18=vI (n:Int):=by rw[<-U8];rfl
  clear U8;refine mS 10 ?_;simp only[go_sem,seval,T3,T7,T18];apply sR;simp only[go_sem,seval,T3,T7,T18,c3,ab];have hc:=Ja l hb x (by omega) (by omega) (by omega) (by omega) (by omega) n T9 hJ G';rw[<-T7]at hc;refine TX rfl hc ?_;rintro-Z2 ⟨SN,hB,Wp⟩;apply sR;simp only[go_sem,seval];exact⟨_,hB,Wp⟩
 .rintro Z' hJ;have Tu:(bwd L).length=L.length:=by simp[bwd]
  rw[Tu]at hJ;obtain⟨⟨v,J7,Jo⟩,Js,Jn⟩:=hJ;have XG:v.cells=[v]:=by rcases Jo with⟨rfl,_⟩|⟨_,rfl,_⟩<;>rfl
  have e6:=Js _ _ a6;refine mS 10 ?_;simp only[go_sem,seval,S6,S7,J7,e6,XG];have Sg:=(hs.trans Js).aL (o:=⟨63,3,[.agg [v,vI (j9 l L h L.length).high,vI (j9 l L h L.length).body]]⟩) z6;have Jo':aP (cA Z6 i7) (C' Z' i6 ⟨63,3,[.agg [v,vI (j9 l L h L.length).high,vI (j9 l L h L.length).body]]⟩) 3 1 v ((j9 l L h L.length).TM.map vI):=by
   rcases Jo with h|⟨id,g1,g2,g3⟩
   .exact .inl h
   .refine .inr ⟨id,g1,?_,g3⟩;rw[ad (λe=>by rw[e,bk]at g3;rw[a6]at g3;cases g3.2)];exact g2
  have hK:aa U (cA Z6 i7):=λi o hh=>by
   rw[cA,aK (λe=>by rw[e,hs.none f7]at hh;cases hh)];exact hs _ _ hh
  exact⟨_,U,Sg,Wk.agg (vs':=[aZ (j9 l L h L.length).TM,vI (j9 l L h L.length).high,vI (j9 l L h L.length).body]) ⟨Jo'.wk hK Sg,Wk.refl Sg _,Wk.refl Sg _,trivial⟩,rfl,rfl⟩
 .intro id h;cases h
 .rintro pre Z' _ ⟨⟩
open Go.Proofs
def gH(l:List Nd)(h:Int):Bool:=decide (1<=h/\h<=1099511627776)&&SA l
def Hq(l:List Nd)(hl:dN l)(h:Int):aX prog 88 [aQ l,vI h] (.bool (gH l h)):=λU=>by
 refine e88.q ?_;refine mS 5 ?_;simp only[go_sem,seval,c88];refine pR rfl (ry h _) ?_;unfold gH;cases hd:decide (1<=h/\h<=1099511627776)
 .apply sR;simp only[go_sem,seval];exact aD.same (by simp)
 .apply sR;simp only[go_sem,seval];refine pS rfl (C9 l hl _) ?_;simp only[go_sem,seval];exact aD.same (by simp)
def wh(l:List Nd)(a h:Int):Kp:=if gH l h=true/\0<=a/\a<l.length then qj l a.toNat h else⟨[],0,0⟩
def LR(l:List Nd)(hl:dN l)(a h:Int):aX prog 56 [aQ l,vI a,vI h] (kE (wh l a h)):=λU=>by
 refine e56.q ?_;have hs:=aa.refl U;have Ux:=bT l;have hn:l.length<=100000:=by have:=hl.1;omega
 refine mS 7 ?_;simp only[go_sem,seval,c56];refine aE hs λi6 Z6 s6 a6 f6 z6 hs=>?_;simp only[go_sem,seval];refine pR rfl (Hq l hl h _) ?_;have bad:¬(gH l h=true/\0<=a/\a<l.length)->aD (.agg [.bl,vI 0,vI 0]) Z6 λr Z'=>r=kE (wh l a h)/\Z'=U:=λhb=>by
  rw[wh,aK hb];exact⟨_,U,hs,Wk.agg (vs':=[aZ [],vI 0,vI 0]) ⟨Wk.bl 1,Wk.refl hs _,Wk.refl hs _,trivial⟩,rfl,rfl⟩
 have a6':C' Z6 i6 ⟨63,3,[.agg [.bl,vI 0,vI 0]]⟩=Z6:=by
  funext i;by_cases hi:i=i6
  .rw[hi,aA];exact a6.symm
  .rw[ad hi]
 cases hm:gH l h
 .have fin:=bad (by simp[hm]);apply sR;simp only[go_sem,seval,a6];rw[a6'];exact fin
 by_cases h0:a<0
 .have q0:(a<0)=True:=RX h0;have fin:=bad (by omega);apply sR;simp only[go_sem,seval,a6,q0];rw[a6'];exact fin
 have q0:(a<0)=False:=H' h0;by_cases h1:a>=l.length
 .have q1:(a>=l.length)=True:=RX h1;have fin:=bad (by omega);apply sR;simp only[go_sem,seval,a6,q0,q1,Ux];rw[a6'];exact fin
 have q1:(a>=l.length)=False:=H' h1;clear bad a6';obtain⟨n,rfl⟩:∃n:Nat,a=n:=⟨a.toNat,by omega⟩
 have hb:SA l=true:=by unfold gH at hm;simp at hm;exact hm.2
 have hh:1<=h/\h<=1099511627776:=by unfold gH at hm;simp at hm;exact hm.1
 have hr:wh l n h=qj l n h:=by rw[wh,aI ⟨hm,by omega,by omega⟩,gM]
 rw[hr];apply sR;simp only[go_sem,seval,a6,q0,q1,Ux];refine pS rfl (FY l hl hb hn n (by omega) h (by omega) (by omega) _) ?_;simp only[go_sem,seval,a6,kE,ag,ak];exact aD.pure (hs.aL z6) rfl
def fU(l:List Nd)(h:Int):Nat->Int
 |0=>h
 |j+1=>if(Sr l j).kind=2\/(Sr l j).kind=3 then min (fU l h j) (qj l j h).body else fU l h j
def de(l:List Nd)(h:Int):Int:=if gH l h=true then fU l h l.length else 0
def Hb(l:List Nd)(hl:dN l)(h:Int):aX prog 78 [aQ l,vI h] (vI (de l h)):=λU=>by
 refine e78.q ?_;have hs:=aa.refl U;have Ux:=bT l;have hn:l.length<=100000:=by have:=hl.1;omega
 refine mS 8 ?_;simp only[go_sem,seval,c78];refine pR rfl (Hq l hl h _) ?_;unfold de;cases hm:gH l h
 .apply sR;simp only[go_sem,seval];exact aD.same rfl
 have hb:SA l=true:=by unfold gH at hm;simp at hm;exact hm.2
 have hh:1<=h/\h<=1099511627776:=by unfold gH at hm;simp at hm;exact hm.1
 rw[aI rfl];apply sR;simp only[go_sem,seval,Ux];refine ay.loop (λm st=>∃j:Nat,j<=l.length/\m=l.length-j/\aa U st.U/\st.s 0=aQ l/\st.s 1=vI h/\st.s 5=vI (fU l h j)/\st.s 13=aQ l/\st.s 14=vI l.length/\st.s 15=vI j) l.length ?_ ?_
 .exact⟨0,by omega,rfl,hs,rfl,rfl,rfl,rfl,rfl,rfl⟩
 .clear hs;rintro m ⟨S,J⟩ ⟨j,hj,rfl,hs,t0,t1,t5,t13,t14,t15⟩;simp only at hs t0 t1 t5 t13 t14 t15;refine ay.mix 8 ?_;by_cases u':j<l.length
  .have q:=qT u';have r1:=rI j;have Th:=λU=>bN (U:=U) (l:=l) (a:=j) u';have Sg:fU l h (j+1)=if l[j].kind=2\/l[j].kind=3 then min (fU l h j) (qj l j h).body else fU l h j:=by rw[fU,gS u']
   apply sR;simp only[go_sem,seval,t0,t1,t5,t13,t14,t15,q,Th,Nd.cells];refine aF λi7 Z7 s7 a7 f7=>?_;by_cases hk:l[j].kind=2
   .have q1:(l[j].kind=2)=True:=RX hk;simp only[go_sem,seval,a7,q1,t0,t1,t5,t13,t14,t15,ag,ak];refine pS rfl (FY l hl hb hn j u' h (by omega) (by omega) _) ?_;simp only[go_sem,seval,t0,t1,t5,t13,t14,t15,kE,r1,eP,ag,ak];refine⟨_,?_,j+1,by omega,rfl,hs.trans (s7.aL f7),by simp[t0,t1,t13,t14,Sg,hk]⟩;omega
   .have q1:(l[j].kind=2)=False:=H' hk;by_cases Xz:l[j].kind=3
    .have q2:(l[j].kind=3)=True:=RX Xz;have hk:=Xz;simp only[go_sem,seval,a7,q1,q2,t0,t1,t5,t13,t14,t15,ag,ak];refine pS rfl (FY l hl hb hn j u' h (by omega) (by omega) _) ?_;simp only[go_sem,seval,t0,t1,t5,t13,t14,t15,kE,r1,eP,ag,ak];refine⟨_,?_,j+1,by omega,rfl,hs.trans (s7.aL f7),by simp[t0,t1,t13,t14,Sg,hk]⟩;omega
    .have q2:(l[j].kind=3)=False:=H' Xz;simp only[go_sem,seval,a7,q1,q2,t0,t1,t5,t13,t14,t15,r1,ag,ak];refine⟨_,?_,j+1,by omega,rfl,hs.trans (s7.aL f7),by simp[t0,t1,t13,t14,Sg,hk,Xz]⟩;omega
  .have q:=qF u';have Up:j=l.length:=by omega
   apply sR;simp only[go_sem,seval,t0,t1,t5,t13,t14,t15,q];exact aD.pure hs (by rw[Up])
open Go.Proofs
def af(l:List Tk):(bL l).cells=[bL l]:=rfl
def ae(l:List Tk):(bL l).stays=true:=rfl
def iV(l:List Tk):eM false (bL l)=some (.int .i64 l.length):=by simp[bL,eM]
def fK{U:al}{l:List Tk}{i:Nat}(h:i<l.length):bI U 8 (bL l) (.int .i64 i)=some (.rp (bC l[i])):=by simp[bL,bI,h,bC]
structure lT(l:List Tk):Prop where
 len:l.length<=1000000000
 Xv:∀a∈l,-1152921504606846976<=a.y/\a.y<=1152921504606846976/\0<=a.h/\a.h<=1152921504606846976
def yH(l:List Tk)(k:Int):aX prog 122 [bL l,vI k] (.bool (decide (0<=k/\k<l.length))):=λU=>by
 refine QC.q ?_;have hl:=iV l;refine ay.mix 5 ?_;by_cases h0:k>=0
 .have q0:(k>=0)=True:=RX h0;by_cases h1:k<l.length
  .have q1:(k<l.length)=True:=RX h1;apply sR;simp only[go_sem,seval,Ig,q0,q1,hl];exact aD.same (by simp[h0,h1])
  .have q1:(k<l.length)=False:=H' h1;apply sR;simp only[go_sem,seval,Ig,q0,q1,hl];exact aD.same (by simp[h1])
 .have q0:(k>=0)=False:=H' h0;apply sR;simp only[go_sem,seval,Ig,q0,hl];exact aD.same (by simp<;>omega)
def D9(a:Tk)(h:-1152921504606846976<=a.y/\a.y<=1152921504606846976/\0<=a.h/\a.h<=1152921504606846976):aX prog 156 [bC a] (vI (a.y+a.h)):=λU=>by
 refine RI.q ?_;have hs:=aa.refl U;have r1:Sn .i64 (a.y+a.h):=ar;refine mS 3 ?_;simp only[go_sem,seval,Ol,bC];refine aE hs λi1 Z1 s1 a1 f1 z1 hs=>?_;simp only[go_sem,seval,a1,r1];exact aD.pure hs rfl
def Vm(l:List Tk)(k:Int):Tk:=l.getD k.toNat ⟨0,0,0,0,0,0,0,0⟩
def gF(l:List Tk)(k:Int):Int:=if 0<=k/\k<l.length then(Vm l k).y+(Vm l k).h else 0
def lP(l:List Tk)(k:Int):Int:=if 0<=k/\k<l.length then(Vm l k).y-gF l (k-1)else 0
def ig(l:List Tk)(i k:Int):Int:=if(0<=i/\i<l.length)/\(0<=k/\k<l.length)then(Vm l k).y-(Vm l i).y else 0
def bx{l:List Tk}{k:Nat}(h:k<l.length):Vm l k=l[k]:=by simp[Vm,h]
def od{l:List Tk}(hl:lT l)(k:Int):-1152921504606846976<=gF l k/\gF l k<=2305843009213693952:=by
 unfold gF;split
 .rename_i h;obtain⟨n,rfl⟩:∃n:Nat,k=n:=⟨k.toNat,by omega⟩
  have hn:n<l.length:=by omega
  rw[bx hn];have:=hl.Xv _ (SU hn);omega
 .omega
def DV(l:List Tk)(hl:lT l)(k:Int):aX prog 123 [bL l,vI k] (vI (gF l k)):=λU=>by
 refine Qs.q ?_;refine mS 5 ?_;simp only[go_sem,seval,MG];refine pR rfl (yH l k _) ?_;unfold gF;by_cases h:0<=k/\k<l.length
 .obtain⟨n,rfl⟩:∃n:Nat,k=n:=⟨k.toNat,by omega⟩
  have hn:n<l.length:=by omega
  have hd:decide (0<=(n:Int)/\(n:Int)<l.length)=true:=by simp;omega
  have R0:=λU=>fK (U:=U) hn;rw[hd,aI h,bx hn];apply sR;simp only[go_sem,seval,R0,bC];refine pS rfl (D9 l[n] (hl.Xv _ (SU hn)) _) ?_;simp only[go_sem,seval];exact aD.same rfl
 .have hd:decide (0<=k/\k<l.length)=false:=by simpa using h
  rw[hd,aK h];apply sR;simp only[go_sem,seval];exact aD.same rfl
def KJ(l:List Tk)(hl:lT l)(k:Int):aX prog 90 [bL l,vI k] (vI (lP l k)):=λU=>by
 refine e90.q ?_;refine mS 5 ?_;simp only[go_sem,seval,c90];refine pR rfl (yH l k _) ?_;unfold lP;by_cases h:0<=k/\k<l.length
 .obtain⟨n,rfl⟩:∃n:Nat,k=n:=⟨k.toNat,by omega⟩
  have hn:n<l.length:=by omega
  have hd:decide (0<=(n:Int)/\(n:Int)<l.length)=true:=by simp;omega
  have R0:=λU=>fK (U:=U) hn;have hll:=hl.len;have hy:=hl.Xv _ (SU hn);have hbr:=od hl ((n:Int)-1);have r1:Sn .i64 ((n:Int)-1):=ar;have r2:Sn .i64 (l[n].y-gF l ((n:Int)-1)):=ar;rw[hd,aI h,bx hn];apply sR;simp only[go_sem,seval,R0,bC,r1];refine pJ rfl (DV l hl ((n:Int)-1)) ?_;apply sG;simp only[go_sem,seval,r2];exact aD.same rfl
 .have hd:decide (0<=k/\k<l.length)=false:=by simpa using h
  rw[hd,aK h];apply sR;simp only[go_sem,seval];exact aD.same rfl
def Eg(l:List Tk)(hl:lT l)(i k:Int):aX prog 124 [bL l,vI i,vI k] (vI (ig l i k)):=λU=>by
 refine PN.q ?_;refine mS 8 ?_;simp only[go_sem,seval,NU];refine pR rfl (yH l i _) ?_;unfold ig;by_cases h:0<=i/\i<l.length
 .have hd:decide (0<=i/\i<l.length)=true:=by simp;omega
  rw[hd];apply sR;simp only[go_sem,seval];refine pR rfl (yH l k _) ?_;by_cases h2:0<=k/\k<l.length
  .obtain⟨m,rfl⟩:∃m:Nat,i=m:=⟨i.toNat,by omega⟩
   obtain⟨n,rfl⟩:∃n:Nat,k=n:=⟨k.toNat,by omega⟩
   have hm:m<l.length:=by omega
   have hn:n<l.length:=by omega
   have Wn:decide (0<=(n:Int)/\(n:Int)<l.length)=true:=by simp;omega
   have R0:=λU=>fK (U:=U) hn;have Zv:=λU=>fK (U:=U) hm;have hy:=hl.Xv _ (SU hn);have hy2:=hl.Xv _ (SU hm);have r1:Sn .i64 (l[n].y-l[m].y):=ar;rw[Wn,aI ⟨h,h2⟩,bx hn,bx hm];apply sR;simp only[go_sem,seval,R0,Zv,bC,r1];exact aD.same rfl
  .have Wn:decide (0<=k/\k<l.length)=false:=by simpa using h2
   rw[Wn,aK (λh=>h2 h.2)];apply sR;simp only[go_sem,seval];exact aD.same rfl
 .have hd:decide (0<=i/\i<l.length)=false:=by simpa using h
  rw[hd,aK (λh'=>h h'.1)];apply sR;simp only[go_sem,seval];exact aD.same rfl
open Go.Proofs
structure R3 where
 (atom done:Int)
 free:Bool
def aN(s:R3):V:=.agg [vI s.atom,vI s.done,.bool s.free]
def xu(s:R3)(l:List Tk):V:=.agg [vI s.atom,vI s.done,.bool s.free,bL l]
def dc(l:List Tk)(s:R3):Prop:=(0<=s.atom/\s.atom<l.length)/\0<=s.done/\(s.done=0\/s.done<(Vm l s.atom).h)
instance (l:List Tk) (s:R3):Decidable (dc l s):=by unfold dc;infer_instance
def EX(l:List Tk)(s:R3):aX prog 87 [xu s l] (.bool (decide (dc l s))):=λU=>by
 refine e87.q ?_;have hs:=aa.refl U;have hl:=iV l;obtain⟨a,d,fr⟩:=s;refine mS 3 ?_;simp only[go_sem,seval,c87,xu,af,ae];refine aE hs λi1 Z1 s1 a1 f1 z1 hs=>?_;by_cases h0:a>=0
 .have q0:(a>=0)=True:=RX h0;by_cases h1:a<l.length
  .have q1:(a<l.length)=True:=RX h1;obtain⟨n,rfl⟩:∃n:Nat,a=n:=⟨a.toNat,by omega⟩
   have hn:n<l.length:=by omega
   have R0:=λU=>fK (U:=U) hn;have hg:=bx hn;by_cases h2:d>=0
   .have q2:(d>=0)=True:=RX h2;by_cases h3:d=0
    .have q3:(d=0)=True:=RX h3;simp only[go_sem,seval,a1,q0,q1,q2,q3,hl,af,ae];have hh:dc l ⟨n,d,fr⟩:=⟨⟨h0,h1⟩,h2,.inl h3⟩
     exact aD.pure hs (by rw[Tv hh])
    .have q3:(d=0)=False:=H' h3;by_cases h4:d<l[n].h
     .have q4:(d<l[n].h)=True:=RX h4;simp only[go_sem,seval,a1,q0,q1,q2,q3,q4,hl,R0,bC,af,ae];have hh:dc l ⟨n,d,fr⟩:=⟨⟨h0,h1⟩,h2,.inr (by rw[hg];exact h4)⟩
      exact aD.pure hs (by rw[Tv hh])
     .have q4:(d<l[n].h)=False:=H' h4;simp only[go_sem,seval,a1,q0,q1,q2,q3,q4,hl,R0,bC,af,ae];exact aD.pure hs (by rw[TE (λh:dc l ⟨n,d,fr⟩=>by rcases h.2.2 with h|h;exact h3 h;rw[hg]at h;exact h4 h)])
   .have q2:(d>=0)=False:=H' h2;simp only[go_sem,seval,a1,q0,q1,q2,hl,af,ae];exact aD.pure hs (by rw[TE (λh:dc l ⟨n,d,fr⟩=>h2 h.2.1)])
  .have q1:(a<l.length)=False:=H' h1;simp only[go_sem,seval,a1,q0,q1,hl,af,ae];exact aD.pure hs (by rw[TE (λh:dc l ⟨a,d,fr⟩=>h1 h.1.2)])
 .have q0:(a>=0)=False:=H' h0;simp only[go_sem,seval,a1,q0,hl,af,ae];exact aD.pure hs (by rw[TE (λh:dc l ⟨a,d,fr⟩=>h0 h.1.1)])
def xY(l:List Tk)(s:R3):aX prog 55 [bL l,aN s] (.bool (decide (dc l s))):=λU=>by
 refine e55.q ?_;have hs:=aa.refl U;have hc:=EX l s;obtain⟨a,d,fr⟩:=s;rw[xu]at hc;refine mS 5 ?_;simp only[go_sem,seval,c55,aN,af,ae];refine aE hs λi3 Z3 s3 a3 f3 z3 hs=>?_;simp only[go_sem,seval,a3,af,ae];refine pS rfl (hc _) ?_;simp only[go_sem,seval];exact aD.pure hs rfl
def IL(l:List Tk)(hl:lT l)(s:R3)(h:dc l s)(hd:s.done<=1152921504606846976):aX prog 91 [xu s l] (vI ((Vm l s.atom).h-s.done)):=λU=>by
 refine e91.q ?_;have hs:=aa.refl U;obtain⟨a,d,fr⟩:=s;obtain⟨⟨h0,h1⟩,h2,h3⟩:=h;simp only at h0 h1 h2 h3 hd|-;obtain⟨n,rfl⟩:∃n:Nat,a=n:=⟨a.toNat,by omega⟩
 have hn:n<l.length:=by omega
 have R0:=λU=>fK (U:=U) hn;have hy:=hl.Xv _ (SU hn);rw[bx hn];have r1:Sn .i64 (l[n].h-d):=ar;refine mS 3 ?_;simp only[go_sem,seval,c91,xu,af,ae];refine aE hs λi1 Z1 s1 a1 f1 z1 hs=>?_;simp only[go_sem,seval,a1,R0,r1,bC,af,ae];exact aD.pure hs rfl
def iz(l:List Tk)(s:R3)(Sf:Int):Int:=if dc l s/\s.free=true/\s.done=0/\lP l s.atom+((Vm l s.atom).h-s.done)<=Sf then lP l s.atom else 0
def Hz{l:List Tk}(hl:lT l)(k:Int):-3458764513820540928<=lP l k/\lP l k<=2305843009213693952:=by
 unfold lP;have hb:=od hl (k-1);split
 .rename_i h;obtain⟨n,rfl⟩:∃n:Nat,k=n:=⟨k.toNat,by omega⟩
  have hn:n<l.length:=by omega
  rw[bx hn];have:=hl.Xv _ (SU hn);omega
 .omega
def Iz(l:List Tk)(hl:lT l)(s:R3)(Sf:Int):aX prog 57 [bL l,aN s,vI Sf] (vI (iz l s Sf)):=λU=>by
 refine e57.q ?_;have hs:=aa.refl U;have hc:=EX l s;have Yy:=λh hd=>IL l hl s h hd;have hgr:=Hz hl s.atom;obtain⟨a,d,fr⟩:=s;rw[xu]at hc Yy;simp only at hgr Yy;refine mS 9 ?_;simp only[go_sem,seval,c57,aN,af,ae];refine aE hs λi4 Z4 s4 a4 f4 z4 hs=>?_;simp only[go_sem,seval,a4,af,ae];refine aE hs λi7 Z7 s7 a7 f7 z7 hs=>?_;obtain⟨WQ,a4⟩:=RZ a4 f7 s7;simp only[go_sem,seval,a7,a4,af,ae];refine pR rfl (hc _) ?_;have bad:¬(dc l ⟨a,d,fr⟩/\fr=true/\d=0/\lP l a+((Vm l a).h-d)<=Sf)->iz l ⟨a,d,fr⟩ Sf=0:=λh=>aK h;by_cases hm:dc l ⟨a,d,fr⟩
 .rw[Tv hm];cases fr
  .apply sR;simp only[go_sem,seval,a7,af,ae];exact aD.pure (hs.aL z7) (by rw[bad (λh=>by cases h.2.1)])
  have WN:=hm.2.1;simp only at WN;by_cases hd:d>0
  .have q:(d>0)=True:=RX hd;apply sR;simp only[go_sem,seval,a7,q,af,ae];exact aD.pure (hs.aL z7) (by rw[bad (λh=>by have:=h.2.2.1;omega)])
  .have q:(d>0)=False:=H' hd;obtain rfl:d=0:=by omega
   apply sR;simp only[go_sem,seval,a7,q,af,ae];refine pR rfl (KJ l hl a _) ?_;have hlf':=Yy hm (by omega);have hy:0<=(Vm l a).h/\(Vm l a).h<=1152921504606846976:=by
    obtain⟨h0,h1⟩:=hm.1;simp only at h0 h1;obtain⟨n,rfl⟩:∃n:Nat,a=n:=⟨a.toNat,by omega⟩
    have hn:n<l.length:=by omega
    rw[bx hn];exact(hl.Xv _ (SU hn)).2.2
   have r1:Sn .i64 (lP l a+((Vm l a).h-0)):=ar;apply sR;simp only[go_sem,seval,a7,aA,af,ae];refine pR rfl (hlf' _) ?_;by_cases h4:lP l a+((Vm l a).h-0)<=Sf
   .have q4:(lP l a+((Vm l a).h-0)<=Sf)=True:=RX h4;have hk:iz l ⟨a,0,true⟩ Sf=lP l a:=aI ⟨hm,rfl,rfl,h4⟩;rw[hk];apply sR;simp only[go_sem,seval,r1,q4];exact aD.pure (hs.aL z7) rfl
   .have q4:(lP l a+((Vm l a).h-0)<=Sf)=False:=H' h4;rw[bad (λh=>h4 h.2.2.2)];apply sR;simp only[go_sem,seval,r1,q4];exact aD.pure (hs.aL z7) rfl
 .rw[TE hm];apply sR;simp only[go_sem,seval,a7,af,ae];exact aD.pure (hs.aL z7) (by rw[bad (λh=>hm h.1)])
open Go.Proofs
def fq(l:List Tk)(s:R3)(kept shift k:Int):Int:=if dc l s/\s.atom<=k/\k<l.length then ig l s.atom k-s.done+kept+shift else 0
def sF{l:List Tk}(hl:lT l)(i k:Int):-2305843009213693952<=ig l i k/\ig l i k<=2305843009213693952:=by
 unfold ig;split
 .rename_i h;obtain⟨n,rfl⟩:∃n:Nat,k=n:=⟨k.toNat,by omega⟩
  obtain⟨m,rfl⟩:∃m:Nat,i=m:=⟨i.toNat,by omega⟩
  have hn:n<l.length:=by omega
  have hm:m<l.length:=by omega
  rw[bx hn,bx hm];have h1:=hl.Xv _ (SU hn);have h2:=hl.Xv _ (SU hm);omega
 .omega
def FF(l:List Tk)(hl:lT l)(s:R3)(hd:s.done<=1152921504606846976)(kept shift k:Int)(hk:-1152921504606846976<=kept/\kept<=2305843009213693952)(hsh:0<=shift/\shift<=1152921504606846976):
 aX prog 94 [bL l,aN s,vI kept,vI shift,vI k] (vI (fq l s kept shift k)):=λU=>by
 refine e94.q ?_;have hs:=aa.refl U;have hc:=xY l s;have hor:=sF hl s.atom k;have hlen:=iV l;have bad:¬(dc l s/\s.atom<=k/\k<l.length)->fq l s kept shift k=0:=λh=>aK h;have good:(dc l s/\s.atom<=k/\k<l.length)->fq l s kept shift k=ig l s.atom k-s.done+kept+shift:=λh=>aI h;generalize fq l s kept shift k=P at*;obtain⟨a,d,fr⟩:=s;rw[aN]at hc;simp only at hor hd good bad;refine mS 11 ?_;simp only[go_sem,seval,c94,aN,af,ae];refine aE hs λi6 Z6 s6 a6 f6 z6 hs=>?_;simp only[go_sem,seval,a6,af,ae];refine pR rfl (hc _) ?_;by_cases hm:dc l ⟨a,d,fr⟩
 .rw[Tv hm];by_cases h1:k<a
  .have q1:(k<a)=True:=RX h1;apply sR;simp only[go_sem,seval,a6,q1,af,ae];exact aD.pure hs (by rw[bad (λh=>by omega)])
  have q1:(k<a)=False:=H' h1;by_cases h2:k>=l.length
  .have q2:(k>=l.length)=True:=RX h2;apply sR;simp only[go_sem,seval,a6,q1,q2,hlen,af,ae];exact aD.pure hs (by rw[bad (λh=>by omega)])
  have q2:(k>=l.length)=False:=H' h2;rw[good ⟨hm,by omega,by omega⟩];have WN:=hm.2.1;simp only at WN;have r1:Sn .i64 (ig l a k-d):=ar;have r2:Sn .i64 (ig l a k-d+kept):=ar;have r3:Sn .i64 (ig l a k-d+kept+shift):=ar;apply sR;simp only[go_sem,seval,a6,q1,q2,hlen,af,ae];refine pJ rfl (Eg l hl a k) ?_;apply sG;simp only[go_sem,seval,a6,r1,r2,r3];exact aD.pure hs rfl
 .rw[TE hm];apply sR;simp only[go_sem,seval,a6,af,ae];exact aD.pure hs (by rw[bad (λh=>hm h.1)])
open Go.Proofs
def Jp{m:Int}(h1:0<=m)(h2:m<=18446744073709551615):Sn .u64 m:=by
 unfold Sn IntKind.wrap;simp only[IntKind.signed,IntKind.bits];simp;omega
def lN(p:Nat->Bool):Nat->Nat->Nat->Nat
 |0,i,_=>i
 |f+1,i,j=>if i<j then if p ((i+j)/2)then lN p f i ((i+j)/2)else lN p f ((i+j)/2+1) j else i
def BQ(p:Nat->Bool)(n:Nat):Nat:=lN p n 0 n
def ot(p:Nat->Bool):∀(f g i j:Nat),j-i<=f->j-i<=g->lN p f i j=lN p g i j
 |0,0,_,_,_,_=>rfl
 |0,g+1,i,j,h,_=>by rw[lN,lN,aK (by omega)]
 |f+1,0,i,j,_,h=>by rw[lN,lN,aK (by omega)]
 |f+1,g+1,i,j,h1,h2=>by
  rw[lN,lN];split
  .rename_i u';split
   .exact ot p f g i ((i+j)/2) (by omega) (by omega)
   .exact ot p f g ((i+j)/2+1) j (by omega) (by omega)
  .rfl
def Gm{f:FuncId}{caps:List V}(p:Nat->Bool)(n:Nat)(hn:n<=1000000000){U:al}(hf:∀i:Nat,i<n->aG prog f (vI i::caps) U λr Z'=>r=.bool (p i)/\Z'=U):
 aG prog 92 [vI n,.fn f caps] U λr Z'=>r=vI (BQ p n)/\Z'=U:=by
 refine e92.q ?_;refine mS 8 ?_;simp only[go_sem,seval,c92];refine ay.loop (λm st=>∃i j:Nat,i<=j/\j<=n/\m=j-i/\BQ p n=lN p (j-i) i j/\st.U=U/\st.s 1=.fn f caps/\st.s 5=vI i/\st.s 6=vI j) n ?_ ?_
 .exact⟨0,n,by omega,by omega,rfl,rfl,rfl,rfl,rfl,rfl⟩
 .rintro m ⟨S,J⟩ ⟨i,j,XY,hjn,rfl,heq,Su,t1,t5,t6⟩;simp only at Su t1 t5 t6;subst Su;refine ay.mix 8 ?_;by_cases u':i<j
  .have q:((i:Int)<j)=True:=RX;have r1:Sn .i64 ((i:Int)+j):=ar;apply sR;simp only[go_sem,seval,t1,t5,t6,q,r1];have hh:((i:Int)+j).fdiv (2^min 1 64)=(((i+j)/2:Nat):Int):=by
    rw[show(2^min 1 64:Int)=2 from rfl,Int.fdiv_eq_ediv_of_nonneg _ (by decide)];omega
   rw[hh];refine⟨Jp (by omega) (by omega),ar,?_⟩;obtain⟨k,hk⟩:∃k:Nat,k=(i+j)/2:=⟨_,rfl⟩
   rw[<-hk];obtain⟨w,hw⟩:∃w:Nat,j-i=w+1:=⟨j-i-1,by omega⟩
   rw[hw,lN,aI u',<-hk]at heq;refine pR rfl (hf k (by omega)) ?_;have r2:=rI k;cases hp:p k
   .rw[hp]at heq;apply sR;simp only[go_sem,seval,t1,t5,t6,r2];refine⟨_,?_,k+1,j,by omega,hjn,rfl,?_,by simp[t1,t6]⟩
    .omega
    .rw[heq];exact ot p _ _ _ _ (by omega) (by omega)
   .rw[hp]at heq;apply sR;simp only[go_sem,seval,t1,t5,t6];refine⟨_,?_,i,k,by omega,by omega,rfl,?_,by simp[t1,t5]⟩
    .omega
    .rw[heq];exact ot p _ _ _ _ (by omega) (by omega)
  .have q:((i:Int)<j)=False:=H';have Uv:i=j:=by omega
   subst Uv;apply sR;simp only[go_sem,seval,t1,t5,t6,q];refine aD.same ?_;rw[heq,Nat.sub_self];rfl
open Go.Proofs
def ic(l:List Tk)(s:R3)(kept shift body:Int)(n:Nat):Bool:=decide (fq l s kept shift (s.atom+n)+(Vm l (s.atom+n)).h>body)
def nA(l:List Tk)(s:R3)(kept shift body:Int):Int:=if dc l s then s.atom+BQ (ic l s kept shift body) (l.length-s.atom.toNat)else 0
def yL(p:Nat->Bool):∀(f i j:Nat),i<=j->lN p f i j<=j
 |0,i,j,h=>h
 |f+1,i,j,h=>by
  rw[lN];split
  .split
   .exact mN (yL p f _ _ (by omega)) (by omega)
   .exact yL p f _ _ (by omega)
  .exact h
def Io(p:Nat->Bool)(n:Nat):BQ p n<=n:=yL p n 0 n (Nat.zero_le n)
def BO{l:List Tk}(hl:lT l){s:R3}(hd:s.done<=1152921504606846976){kept shift:Int}(hk:-1152921504606846976<=kept/\kept<=2305843009213693952)(hsh:0<=shift/\shift<=1152921504606846976)(k:Int):
 -4611686018427387904<=fq l s kept shift k/\fq l s kept shift k<=5764607523034234880:=by
 unfold fq;have h1:=sF hl s.atom k;split
 .rename_i h;have:=h.1.2.1;omega
 .omega
def Hm(l:List Tk)(hl:lT l)(s:R3)(hm:dc l s)(hd:s.done<=1152921504606846976)(kept shift body:Int)(hk:-1152921504606846976<=kept/\kept<=2305843009213693952)(hsh:0<=shift/\shift<=1152921504606846976)
 {U:al}{i5 i6 i7 i8 i9:Nat}(a5:U i5=some ⟨25,1,[bL l]⟩)(a6:U i6=some ⟨24,3,[aN s]⟩)(a7:U i7=some ⟨3,1,[vI kept]⟩)(a8:U i8=some ⟨3,1,[vI shift]⟩)(a9:U i9=some ⟨3,1,[vI body]⟩)
 (n:Nat)(hn:n<l.length-s.atom.toNat):
 aG prog 93 [vI n,.ptr i6 0 0,.ptr i5 0 0,.ptr i7 0 0,.ptr i8 0 0,.ptr i9 0 0] U λr Z'=>r=.bool (ic l s kept shift body n)/\Z'=U:=by
 refine e93.q ?_;have hpr:=BO hl hd hk hsh (s.atom+n);have YF:=FF l hl s hd kept shift (s.atom+n) hk hsh;unfold ic;have hll:=hl.len;obtain⟨a,d,fr⟩:=s;obtain⟨h0,h1⟩:=hm.1;rw[aN]at a6 YF;simp only at h0 h1 hn hpr YF|-;obtain⟨m,rfl⟩:∃m:Nat,a=m:=⟨a.toNat,by omega⟩
 have e1:(m:Int)+(n:Int)=((m+n:Nat):Int):=by omega
 rw[e1]at hpr YF|-;have hmn:m+n<l.length:=by omega
 have R0:=λU=>fK (U:=U) hmn;have hy:=hl.Xv _ (SU hmn);rw[bx hmn];have r1:Sn .i64 ((m+n:Nat):Int):=ar;generalize fq l ⟨m,d,fr⟩ kept shift ((m+n:Nat):Int)=P at*;have r2:Sn .i64 (P+l[m+n].h):=ar;generalize m+n=q at*;refine ay.mix 9 ?_;by_cases hb:P+l[q].h>body
 .have q1:(P+l[q].h>body)=True:=RX hb;apply sR;simp only[go_sem,seval,c93,a5,a6,a7,a8,a9,e1,r1,af,ae];refine pJ rfl YF ?_;apply sG;simp only[go_sem,seval,a5,a6,a7,a8,a9,r2,R0,bC,q1,af,ae];exact aD.same rfl
 .have q1:(P+l[q].h>body)=False:=H' hb;apply sR;simp only[go_sem,seval,c93,a5,a6,a7,a8,a9,e1,r1,af,ae];refine pJ rfl YF ?_;apply sG;simp only[go_sem,seval,a5,a6,a7,a8,a9,r2,R0,bC,q1,af,ae];exact aD.same rfl
def G5(l:List Tk)(hl:lT l)(s:R3)(hd:s.done<=1152921504606846976)(kept shift body:Int)(hk:-1152921504606846976<=kept/\kept<=2305843009213693952)(hsh:0<=shift/\shift<=1152921504606846976):
 aX prog 58 [bL l,aN s,vI kept,vI shift,vI body] (vI (nA l s kept shift body)):=λU=>by
 refine e58.q ?_;have hs:=aa.refl U;have hc:=xY l s;have hlen:=iV l;have hll:=hl.len;refine ay.mix 12 ?_;have hsc:(aN s).cells=[vI s.atom,vI s.done,.bool s.free]:=rfl;have hss:(aN s).stays=true:=rfl;apply sR;simp only[go_sem,seval,c58,hsc,hss,af,ae];refine aE hs λi5 Z5 s5 a5 f5 z5 hs=>?_;simp only[go_sem,seval,hsc,hss,af,ae];refine aE hs λi6 Z6 s6 a6 f6 z6 hs=>?_;obtain⟨n56,a5⟩:=RZ a5 f6 s6;simp only[go_sem,seval,hsc,hss,af,ae];refine aE hs λi7 Z7 s7 a7 f7 z7 hs=>?_;obtain⟨n57,a5⟩:=RZ a5 f7 s7;obtain⟨Uh,a6⟩:=RZ a6 f7 s7;simp only[go_sem,seval,hsc,hss,af,ae];refine aE hs λi8 Z8 s8 a8 f8 z8 hs=>?_;obtain⟨n58,a5⟩:=RZ a5 f8 s8;obtain⟨Wl,a6⟩:=RZ a6 f8 s8;obtain⟨V0,a7⟩:=RZ a7 f8 s8;simp only[go_sem,seval,hsc,hss,af,ae];refine aE hs λi9 Y9 s9 a9 f9 z9 hs=>?_;obtain⟨Wz,a5⟩:=RZ a5 f9 s9;obtain⟨Yp,a6⟩:=RZ a6 f9 s9;obtain⟨n79,a7⟩:=RZ a7 f9 s9;obtain⟨n89,a8⟩:=RZ a8 f9 s9;have b6:=a6;rw[aN]at b6;simp only[go_sem,seval,a5,b6,af,ae];refine pR rfl (hc _) ?_;unfold nA;by_cases hm:dc l s
 .obtain⟨h0,h1⟩:=hm.1;obtain⟨m,hmm⟩:∃m:Nat,s.atom=m:=⟨s.atom.toNat,by omega⟩
  have hn:((l.length:Int)-s.atom)=((l.length-s.atom.toNat:Nat):Int):=by omega
  have r1:Sn .i64 ((l.length-s.atom.toNat:Nat):Int):=ar;rw[Tv hm,aI hm];apply sR;simp only[go_sem,seval,a5,b6,hlen,hn,r1,af,ae];refine pR rfl (Gm (ic l s kept shift body) (l.length-s.atom.toNat) (by omega) (λi hi=>Hm l hl s hm hd kept shift body hk hsh a5 a6 a7 a8 a9 i hi)) ?_;have hse:=Io (ic l s kept shift body) (l.length-s.atom.toNat);have r2:Sn .i64 (s.atom+(BQ (ic l s kept shift body) (l.length-s.atom.toNat):Nat)):=ar;apply sR;simp only[go_sem,seval,b6,r2];exact aD.pure hs rfl
 .rw[TE hm,aK hm];apply sR;simp only[go_sem,seval];exact aD.pure hs rfl
open Go.Proofs
structure ZS where
 (node atom fr x y w h:Int)
deriving DecidableEq
def cz(f:ZS):V:=.agg [vI f.node,vI f.atom,vI f.fr,vI f.x,vI f.y,vI f.w,vI f.h]
def oZ(l:List Tk)(k:Int):ZS:=⟨(Vm l k).node,k,0,(Vm l k).x,0,(Vm l k).w,(Vm l k).h⟩
def ZS.eK(f:ZS)(d:Int):ZS:={ f with fr:=d,h:=f.h-d }
def ZS.cut(f:ZS)(a:Int):ZS:={ f with h:=min f.h a }
def jS(l:List Tk)(f:ZS):R3:=if f.fr+f.h<(Vm l f.atom).h then⟨f.atom,f.fr+f.h,false⟩else⟨f.atom+1,0,false⟩
def Kq(l:List Tk)(k:Nat)(hk:k<l.length):aX prog 95 [bL l,vI k] (cz (oZ l k)):=λU=>by
 refine e95.q ?_;have hs:=aa.refl U;have R0:=λU=>fK (U:=U) hk;rw[oZ,bx hk];refine mS 6 ?_;simp only[go_sem,seval,c95];refine aE hs λi4 Z4 s4 a4 f4 z4 hs=>?_;simp only[go_sem,seval,R0,bC,af,ae];refine aE hs λi5 Z5 s5 a5 f5 z5 hs=>?_;obtain⟨Ww,a4⟩:=RZ a4 f5 s5;simp only[go_sem,seval,a5,a4,ad Ww,af,ae];exact aD.pure ((hs.aL z5).aL z4) rfl
def GY(f:ZS)(d:Int)(hr:Sn .i64 (f.h-d)){U:al}{i:Nat}(h:U i=some ⟨144,7,[cz f]⟩):
 aG prog 96 [.ptr i 0 0,vI d] U λ_ Z'=>Z'=C' U i ⟨144,7,[cz (f.eK d)]⟩:=by
 refine e96.q ?_;rw[cz]at h;refine ay.mix 4 ?_;generalize hX:(C' U i ⟨144,7,[cz (f.eK d)]⟩)=X;apply sR;simp only[go_sem,seval,c96,h,hr];exact Tf hX
def Ia(f:ZS)(a:Int){U:al}{i:Nat}(h:U i=some ⟨144,7,[cz f]⟩):
 aG prog 97 [.ptr i 0 0,vI a] U λ_ Z'=>Z'=C' U i ⟨144,7,[cz (f.cut a)]⟩:=by
 refine e97.q ?_;rw[cz]at h;refine ay.mix 4 ?_;generalize hX:(C' U i ⟨144,7,[cz (f.cut a)]⟩)=X;apply sR;simp only[go_sem,seval,c97,h,eP];exact Tf hX
def Cp(l:List Tk)(f:ZS)(k:Nat)(hf:f.atom=k)(hk:k<l.length)(hl:l.length<=1000000000)(hr:Sn .i64 (f.fr+f.h)){U:al}{i:Nat}(h:U i=some ⟨144,7,[cz f]⟩):
 aG prog 98 [.ptr i 0 0,bL l] U λr Z'=>r=aN (jS l f)/\Z'=U:=by
 refine e98.q ?_;have hs:=aa.refl U;have R0:=λU=>fK (U:=U) hk;obtain⟨nd,SI,fr,x,y,w,hh⟩:=f;simp only at hf hr;subst hf;rw[cz]at h;unfold jS;simp only;rw[bx hk];have r1:=rI k;refine mS 6 ?_;simp only[go_sem,seval,c98];refine aE hs λi4 Z4 s4 a4 f4 z4 hs=>?_;have b:=s4 _ _ h;have n4:i≠i4:=bf h f4;by_cases hc:fr+hh<l[k].h
 .have q:(fr+hh<l[k].h)=True:=RX hc;rw[aI hc];simp only[go_sem,seval,a4,b,hr,r1,q,R0,bC];exact aD.pure (hs.aL z4) rfl
 .have q:(fr+hh<l[k].h)=False:=H' hc;rw[aK hc];simp only[go_sem,seval,a4,b,hr,r1,q,R0,bC];exact aD.pure (hs.aL z4) rfl
open Go.Proofs
def iJ{s:Nat->V}{U:al}{a1 a2:Bool}{n1 n2 d e:Nat}{Post:V->al->Prop}:
 WT [.cell a1 n1 (.t d),.cell a2 n2 (.t e)] ⟨s,U⟩ Post=eA (dr U a1 n1 (s d)) λv=>eA (dr U a2 n2 (s e)) λw=>aD (.Sa [v,w]) U Post:=by
 unfold WT aD tk;simp only[iT,jA,VX.ev];cases dr U a1 n1 (s d)<;>cases dr U a2 n2 (s e)<;>simp[eA]
def eU(l:List Tk)(s:R3)(Sf:Int):ZS:=((oZ l s.atom).eK s.done).cut Sf
def AF(l:List Tk)(s:R3)(Sf:Int):Prop:=dc l s/\1<=Sf
instance (l:List Tk) (s:R3) (Sf:Int):Decidable (AF l s Sf):=by unfold AF;infer_instance
def pX(l:List Tk)(s:R3)(Sf:Int):ZS:=if AF l s Sf then eU l s Sf else⟨0,0,0,0,0,0,0⟩
def fS(l:List Tk)(s:R3)(Sf:Int):R3:=if AF l s Sf then jS l (eU l s Sf)else⟨0,0,false⟩
def KN(l:List Tk)(hl:lT l)(s:R3)(hd:s.done<=1152921504606846976)(Sf:Int):aX prog 59 [bL l,aN s,vI Sf] (.Sa [cz (pX l s Sf),aN (fS l s Sf)]):=λU=>by
 refine e59.q ?_;have hs:=aa.refl U;have hll:=hl.len;have hsc:(aN s).cells=[vI s.atom,vI s.done,.bool s.free]:=rfl;have hss:(aN s).stays=true:=rfl;refine mS 9 ?_;simp only[go_sem,seval,c59,hsc,hss,af,ae];refine aE hs λi4 Z4 s4 a4 f4 z4 hs=>?_;simp only[go_sem,seval];refine aE hs λi6 Z6 s6 a6 f6 z6 hs=>?_;obtain⟨ZL,a4⟩:=RZ a4 f6 s6;simp only[go_sem,seval];refine aE hs λi7 Z7 s7 a7 f7 z7 hs=>?_;obtain⟨WQ,a4⟩:=RZ a4 f7 s7;obtain⟨Uh,a6⟩:=RZ a6 f7 s7;have b4:=a4;rw[aN]at b4;simp only[go_sem,seval,b4,af,ae];refine pR rfl (xY l s _) ?_;have bad:¬AF l s Sf->(cz (pX l s Sf)=.agg [vI 0,vI 0,vI 0,vI 0,vI 0,vI 0,vI 0]/\aN (fS l s Sf)=.agg [vI 0,vI 0,.bool false]):=λh=>by
  rw[pX,fS,aK h,aK h];exact⟨rfl,rfl⟩
 have good:AF l s Sf->(pX l s Sf=eU l s Sf/\fS l s Sf=jS l (eU l s Sf)):=λh=>⟨aI h,aI h⟩
 generalize pX l s Sf=X at*;generalize fS l s Sf=Y at*;by_cases hm:dc l s
 .rw[Tv hm];by_cases h1:Sf<1
  .have q1:(Sf<1)=True:=RX h1;obtain⟨e1,e2⟩:=bad (λh=>by have:=h.2;omega);rw[e1,e2];apply sR;simp only[go_sem,seval,a6,a7,ad Uh,ad Uh.symm,q1,iJ];exact aD.pure ((hs.aL z6).aL z7) rfl
  have q1:(Sf<1)=False:=H' h1;obtain⟨rfl,rfl⟩:=good ⟨hm,by omega⟩;clear good bad;obtain⟨h0,h2⟩:=hm.1;obtain⟨k,hk⟩:∃k:Nat,s.atom=k:=⟨s.atom.toNat,by omega⟩
  have UG:k<l.length:=by omega
  apply sR;simp only[go_sem,seval,b4,hk,q1,af,ae];refine pR rfl (Kq l k UG _) ?_;have hfc:∀f,(cz f).cells=[vI f.node,vI f.atom,vI f.fr,vI f.x,vI f.y,vI f.w,vI f.h]:=λ_=>rfl;apply sR;simp only[go_sem,seval];refine aE hs λi8 Z8 s8 a8 f8 z8 hs=>?_;obtain⟨VP,a4⟩:=RZ a4 f8 s8;obtain⟨Wl,a6⟩:=RZ a6 f8 s8;obtain⟨V0,a7⟩:=RZ a7 f8 s8;have WN:=hm.2.1;have hy:=hl.Xv _ (SU UG);have hdh:s.done=0\/s.done<l[k].h:=by have:=hm.2.2;rw[hk,bx UG]at this;exact this
  have hph:(oZ l k).h=l[k].h:=by rw[oZ,bx UG]
  have W1:∀f,(cz f).stays=true:=λ_=>rfl;rw[aN]at a4;simp only[go_sem,seval,a8,a4,ad VP,hfc,W1];generalize VC:C' _ i8 _=Y8;replace a8:=Ti VC;replace a4:=So VC VP a4;replace a6:=So VC Wl a6;replace a7:=So VC V0 a7;replace hs:=Te VC hs z8;have h8:Y8 i8=some ⟨144,7,[cz (oZ l k)]⟩:=a8;refine TX rfl (GY (oZ l k) s.done (ar) h8) ?_;rintro-Y9 rfl;generalize VC:C' _ i8 _=Y8;replace a8:=Ti VC;replace a4:=So VC VP a4;replace a6:=So VC Wl a6;replace a7:=So VC V0 a7;replace hs:=Te VC hs z8;apply sR;simp only[go_sem,seval];refine TX rfl (Ia ((oZ l k).eK s.done) Sf a8) ?_;rintro-Y9 rfl;generalize VC:C' _ i8 _=Y8;replace a8:=Ti VC;replace a4:=So VC VP a4;replace a6:=So VC Wl a6;replace a7:=So VC V0 a7;replace hs:=Te VC hs z8;have W2:((oZ l k).eK s.done).cut Sf=eU l s Sf:=by rw[eU,hk]
  rw[W2]at a8;have ha:(eU l s Sf).atom=k:=by rw[<-W2];rfl
  have W4:(eU l s Sf).fr=s.done:=by rw[<-W2];rfl
  have hhh:(eU l s Sf).h=min (l[k].h-s.done) Sf:=by rw[<-W2,<-hph];rfl
  have WU:=λ(Z1:al) (h1:aa Y8 Z1)=>Cp l (eU l s Sf) k ha UG hll (ar) (h1 _ _ a8);generalize jS l (eU l s Sf)=Y at*;generalize eU l s Sf=X at*;have b8:=a8;rw[cz]at b8;apply sR;simp only[go_sem,seval,b8];refine Go.yw rfl rfl rfl (λZ1 h1=>WU Z1 h1) ?_;have hyc:(aN Y).cells=[vI Y.atom,vI Y.done,.bool Y.free]:=rfl;have hys:(aN Y).stays=true:=rfl;apply sG;simp only[go_sem,seval,a6,a7,ad Uh,ad Uh.symm,hyc,hys,iJ];exact aD.pure ((hs.aL z6).aL z7) rfl
 .rw[TE hm];obtain⟨e1,e2⟩:=bad (λh=>hm h.1);rw[e1,e2];apply sR;simp only[go_sem,seval,a6,a7,ad Uh,ad Uh.symm,iJ];exact aD.pure ((hs.aL z6).aL z7) rfl
open Go.Proofs
def mulR(a n:Int):Int:=
 if dJ n≠0/\(dJ a>(1099511627776:Int).tdiv (max (dJ n) (-dJ n))\/dJ a<(-1099511627776:Int).tdiv (max (dJ n) (-dJ n)))then
  (if decide (dJ a<0)=decide (dJ n<0)then 1099511627776 else -1099511627776)
 else dJ a*dJ n
def IA{A B:Int}(h1:A<=(1099511627776:Int).tdiv (max B (-B)))(h2:(-1099511627776:Int).tdiv (max B (-B))<=A)(hB:B≠0):-1099511627776<=A*B/\A*B<=1099511627776:=by
 obtain⟨M,hM⟩:∃M,M=max B (-B):=⟨_,rfl⟩
 rw[<-hM]at h1 h2;have hM1:1<=M:=by omega
 rw[Int.neg_tdiv]at h2;rw[Int.tdiv_eq_ediv_of_nonneg (by omega)]at h1 h2;have h3:(1099511627776:Int)/M*M<=1099511627776:=Int.ediv_mul_le _ (by omega);have h4:=Int.mul_le_mul_of_nonneg_right h1 (by omega:0<=M);have h5:=Int.mul_le_mul_of_nonneg_right h2 (by omega:0<=M);rw[Int.neg_mul]at h5;rcases(by omega:M=B\/M=-B)with e|e
 .rw[e]at h4 h5 h3;omega
 .have hb:B=-M:=by omega
  rw[hb,Int.mul_neg];omega
def OO(a n:Int):aX prog 77 [vI a,vI n] (vI (mulR a n)):=λU=>by
 refine e77.q ?_;refine mS 5 ?_;simp only[go_sem,seval,c77];refine pS rfl (zU a _) ?_;simp only[go_sem,seval];refine pR rfl (zU n _) ?_;unfold mulR;have hA:-1099511627776<=dJ a/\dJ a<=1099511627776:=by unfold dJ;omega
 have hB:-1099511627776<=dJ n/\dJ n<=1099511627776:=by unfold dJ;omega
 generalize dJ a=A at*;generalize dJ n=B at*;have b1:(true==true)=true:=rfl;have b2:(true==false)=false:=rfl;have b3:(false==true)=false:=rfl;have b4:(false==false)=true:=rfl;by_cases h0:B=0
 .subst h0;have q0:((0:Int)≠0)=False:=H' (λh=>h rfl);have r1:Sn .i64 (A*0):=ar;apply sR;simp only[go_sem,seval,q0,r1];exact aD.same (by rw[aK (by simp)])
 have q0:(B≠0)=True:=RX h0;have hM1:1<=max B (-B)/\max B (-B)<=1099511627776:=by omega
 have qM:(max B (-B)=0)=False:=H';have rn:Sn .i64 (-B):=ar;have t1:0<=(1099511627776:Int).tdiv (max B (-B))/\(1099511627776:Int).tdiv (max B (-B))<=1099511627776:=by
  rw[Int.tdiv_eq_ediv_of_nonneg (by omega)];exact⟨Int.ediv_nonneg (by omega) (by omega),Int.ediv_le_self _ (by omega)⟩
 have t2:(-1099511627776:Int).tdiv (max B (-B))=-((1099511627776:Int).tdiv (max B (-B))):=Int.neg_tdiv ..;have hr:=IA (A:=A) (B:=B);have rq1:Sn .i64 ((1099511627776:Int).tdiv (max B (-B))):=ar;have rq2:Sn .i64 ((-1099511627776:Int).tdiv (max B (-B))):=ar;by_cases h1:A>(1099511627776:Int).tdiv (max B (-B))
 .have q1:(A>(1099511627776:Int).tdiv (max B (-B)))=True:=RX h1;rw[aI ⟨h0,.inl h1⟩];by_cases sA:A<0
  .have qA:(A<0)=True:=RX sA;by_cases sB:B<0
   .have qB:(B<0)=True:=RX sB;apply sR;simp only[go_sem,seval,q0,Int.zero_sub,rn,cj,qM,rq1,q1,qA,qB,b1,b2,b3,b4];exact aD.same (by first|rfl|simp[sA,sB])
   .have qB:(B<0)=False:=H' sB;apply sR;simp only[go_sem,seval,q0,Int.zero_sub,rn,cj,qM,rq1,q1,qA,qB,b1,b2,b3,b4];exact aD.same (by first|rfl|simp[sA,sB])
  .have qA:(A<0)=False:=H' sA;by_cases sB:B<0
   .have qB:(B<0)=True:=RX sB;apply sR;simp only[go_sem,seval,q0,Int.zero_sub,rn,cj,qM,rq1,q1,qA,qB,b1,b2,b3,b4];exact aD.same (by first|rfl|simp[sA,sB])
   .have qB:(B<0)=False:=H' sB;apply sR;simp only[go_sem,seval,q0,Int.zero_sub,rn,cj,qM,rq1,q1,qA,qB,b1,b2,b3,b4];exact aD.same (by first|rfl|simp[sA,sB])
 have q1:(A>(1099511627776:Int).tdiv (max B (-B)))=False:=H' h1;by_cases h2:A<(-1099511627776:Int).tdiv (max B (-B))
 .have q2:(A<(-1099511627776:Int).tdiv (max B (-B)))=True:=RX h2;rw[aI ⟨h0,.inr h2⟩];by_cases sA:A<0
  .have qA:(A<0)=True:=RX sA;by_cases sB:B<0
   .have qB:(B<0)=True:=RX sB;apply sR;simp only[go_sem,seval,q0,Int.zero_sub,rn,cj,qM,rq1,q1,rq2,q2,qA,qB,b1,b2,b3,b4];exact aD.same (by first|rfl|simp[sA,sB])
   .have qB:(B<0)=False:=H' sB;apply sR;simp only[go_sem,seval,q0,Int.zero_sub,rn,cj,qM,rq1,q1,rq2,q2,qA,qB,b1,b2,b3,b4];exact aD.same (by first|rfl|simp[sA,sB])
  .have qA:(A<0)=False:=H' sA;by_cases sB:B<0
   .have qB:(B<0)=True:=RX sB;apply sR;simp only[go_sem,seval,q0,Int.zero_sub,rn,cj,qM,rq1,q1,rq2,q2,qA,qB,b1,b2,b3,b4];exact aD.same (by first|rfl|simp[sA,sB])
   .have qB:(B<0)=False:=H' sB;apply sR;simp only[go_sem,seval,q0,Int.zero_sub,rn,cj,qM,rq1,q1,rq2,q2,qA,qB,b1,b2,b3,b4];exact aD.same (by first|rfl|simp[sA,sB])
 have q2:(A<(-1099511627776:Int).tdiv (max B (-B)))=False:=H' h2;have hr':=hr (by omega) (by omega) h0;have r3:Sn .i64 (A*B):=ar;rw[aK (λh=>by rcases h.2 with h|h;exact h1 h;exact h2 h)]
 apply sR;simp only[go_sem,seval,q0,Int.zero_sub,rn,cj,qM,rq1,q1,rq2,q2,r3];exact aD.same rfl
open Go.Proofs
def GK(l:List Tk)(hl:l.length<=1000000000):aX prog 84 [bL l] (bL l):=
 zP func84 (e84.b.trans rfl) e84.c (l.map bC) (by simp;omega)
def Gs(l:List Si)(hl:l.length<=1000000000):aX prog 85 [bj l] (bj l):=
 zP func85 (e85.b.trans rfl) e85.c (l.map br) (by simp;omega)
open Go
def Ub.same{U:al}{N:Nat->Prop}:∀(vs:List V),mO vs=true->Ub U N vs vs
 |[],_=>.nil
 |v::vs,h=>by
  simp only[mO,Ba]at h;exact .cons _ _ _ _ (.same v h.1) (Ub.same vs h.2)
def Ub.app{U:al}{N:Nat->Prop}:∀{a b c d:List V},Ub U N a b->Ub U N c d->Ub U N (a++c) (b++d)
 |_,_,_,_,.nil,h=>h
 |_,_,_,_,.cons v u vs us h h',h2=>.cons v u _ _ h (Ub.app h' h2)
def Ub.one{U:al}{N:Nat->Prop}{v u:V}(h:Fz U N v u):Ub U N [v] [u]:=.cons _ _ _ _ h .nil
def aP.ad{K U:al}{e sz:Nat}{v:V}{rows:List V}(h:aP K U e sz v rows){id:Nat}{o:Ob}(hK:K id≠none):aP K (C' U id o) e sz v rows:=by
 rcases h with h|⟨q,h1,h2,h3⟩
 .exact .inl h
 .have:q≠id:=λe=>hK (by rw[<-e];exact h3);exact .inr ⟨q,h1,by rw[Vc.ad this];exact h2,h3⟩
def aP.src{K U:al}{e sz:Nat}{v:V}{rows:List V}(h:aP K U e sz v rows){Z1:al}(hs:aa U Z1):cy Z1 sz v=some rows:=by
 rcases h with⟨rfl,rfl⟩|⟨id,rfl,ho,hk⟩
 .rfl
 .simp only[cy,hs _ _ ho];rw[aI (by simp)];simp
def DA(l:List Int):mO (l.map vI)=true:=by
 induction l with
 |nil=>rfl
 |cons x l ih=>rw[ga,mO,ih];rfl
abbrev NZ(x:Nd):List V:=[vI x.kind,vI x.size,vI x.st.top,vI x.st.Sk,vI x.st.R5,vI x.st.O',vI x.st.SG,vI x.st.R9,vI x.st.Sl,vI x.st.head,vI x.st.before,vI x.st.after,vI x.st.inside,vI x.st.clear,vI x.line,vI x.space]
def ndW(x:Nd)(v:V):V:=.agg [vI x.kind,vI x.size,vI x.st.top,vI x.st.Sk,vI x.st.R5,vI x.st.O',vI x.st.SG,vI x.st.R9,vI x.st.Sl,vI x.st.head,vI x.st.before,vI x.st.after,vI x.st.inside,vI x.st.clear,vI x.line,vI x.space,v,vI x.side,vI x.w,vI x.h]
def Nk{U:al}{N:Nat->Prop}{x:Nd}{v:V}(h:Fz U N v (aZ x.words)):Fz U N (ndW x v) (ie x):=by
 refine .agg _ _ ?_;exact(Ub.same (NZ x) rfl).app ((Ub.one h).app (Ub.same [vI x.side,vI x.w,vI x.h] rfl))
def gJ(K U:al):List Nd->List V->Prop
 |[],[]=>True
 |x::l,r::rows=>(∃w,r=ndW x w/\aP K U 3 1 w (x.words.map vI))/\gJ K U l rows
 |_,_=>False
def aP.kept{K U Z':al}{id e:Nat}{w:V}{rows rows0:List V}(h:aP K U 3 1 w rows)(ho:U id=some ⟨e,20,rows0⟩)(hs:∀i,i≠id->∀o,U i=some o->Z' i=some o):aP K Z' 3 1 w rows:=by
 rcases h with h|⟨i,h1,h2,h3⟩
 .exact .inl h
 .have Sh:i≠id:=λe=>by subst e;rw[ho]at h2;simp at h2
  exact .inr ⟨i,h1,hs i Sh _ h2,h3⟩
def gJ.kept{K U Z':al}{id e:Nat}{rows0:List V}(ho:U id=some ⟨e,20,rows0⟩)(hs:∀i,i≠id->∀o,U i=some o->Z' i=some o):∀{l:List Nd} {rows:List V},gJ K U l rows->gJ K Z' l rows
 |[],[],_=>trivial
 |_::_,_::_,⟨⟨w,h1,h2⟩,h⟩=>⟨⟨w,h1,h2.kept ho hs⟩,gJ.kept ho hs h⟩
 |[],_::_,h=>h.elim
 |_::_,[],h=>h.elim
def gJ.mono{K U Z':al}(hs:aa U Z'):∀{l:List Nd} {rows:List V},gJ K U l rows->gJ K Z' l rows
 |[],[],_=>trivial
 |_::_,_::_,⟨⟨w,h1,h2⟩,h⟩=>⟨⟨w,h1,h2.mono hs⟩,gJ.mono hs h⟩
 |[],_::_,h=>h.elim
 |_::_,[],h=>h.elim
def aP.nk{K K' U:al}{e sz:Nat}{v:V}{rows:List V}(h:aP K U e sz v rows)(hk:aa K' K):aP K' U e sz v rows:=by
 rcases h with h|⟨i,h1,h2,h3⟩
 .exact .inl h
 .exact .inr ⟨i,h1,h2,hk.none h3⟩
def gJ.app{K U:al}:∀{l l2:List Nd} {rows rows2:List V},gJ K U l rows->gJ K U l2 rows2->gJ K U (l++l2) (rows++rows2)
 |[],_,[],_,_,h2=>h2
 |_::_,_,_::_,_,⟨h1,h⟩,h2=>⟨h1,gJ.app h h2⟩
 |[],_,_::_,_,h,_=>h.elim
 |_::_,_,[],_,h,_=>h.elim
def x8(K U:al)(v:V)(l:List Nd):Prop:=∃rows,aP K U 59 20 v rows/\gJ K U l rows
def x8.mono{K U Z':al}{v:V}{l:List Nd}(h:x8 K U v l)(hs:aa U Z'):x8 K Z' v l:=by
 obtain⟨rows,ho,hr⟩:=h;exact⟨rows,ho.mono hs,hr.mono hs⟩
open Go.Proofs
def HO(l:List Nd)(hl:l.length<=10000)(U:al):aG prog 79 [aQ l] U λr Z'=>aa U Z'/\aP U Z' 59 20 r (l.map ie):=by
 refine e79.q ?_;refine ay.mix 3 ?_
 (refine ay.bB Tx.nothing 8 ?_;simp only[go_sem,seval,px,c79])
 refine ay.DB rfl rfl rfl λb hb=>?_;cases b
 .apply sR;simp only[go_sem,seval];refine aF λVY Z1 s1 a1 f1=>?_;obtain⟨idA,hd,Sd⟩:=(aP.new (K:=U) (e:=59) (sz:=20) (n:=0) (rows:=[]) rfl a1 f1).dst (aa.refl _);have Yk:∀U,cy U 20 (aQ l)=some (l.map ie):=λU=>by simp[aQ,cy]
  have SF:l.length*177<=140737488355328:=by omega
  simp only[go_sem,seval,hd,Yk,dO,SF];refine bn λXu Z2 s2 a2 f2=>?_;have U2:=(Sd U (aa.refl _) Z1 s1).trans s2;simp only[go_sem,seval];refine Tf ⟨U2,aP.new (by simp) a2 (s1.none f2)⟩
 .apply sR;simp only[go_sem,seval];refine Tf ⟨aa.refl _,?_⟩;have:l.map ie=[]:=hb rfl;rw[this];exact aP.start
def FM(l:List Int)(hl:l.length<=1000000000)(U:al):aG prog 80 [aZ l] U λr Z'=>aa U Z'/\aP U Z' 3 1 r (l.map vI):=by
 refine e80.q ?_;refine ay.mix 3 ?_
 (refine ay.bB Tx.nothing 8 ?_;simp only[go_sem,seval,px,c80])
 refine ay.DB rfl rfl rfl λb hb=>?_;cases b
 .apply sR;simp only[go_sem,seval];refine aF λVY Z1 s1 a1 f1=>?_;obtain⟨idA,hd,Sd⟩:=(aP.new (K:=U) (e:=3) (sz:=1) (n:=0) (rows:=[]) rfl a1 f1).dst (aa.refl _);have SF:l.length*9<=140737488355328:=by omega
  simp only[go_sem,seval,hd,yP,dO,SF];refine bn λXu Z2 s2 a2 f2=>?_;have U2:=(Sd U (aa.refl _) Z1 s1).trans s2;simp only[go_sem,seval];exact Tf ⟨U2,aP.new (by simp) a2 (s1.none f2)⟩
 .apply sR;simp only[go_sem,seval];have:l.map vI=[]:=hb rfl;refine Tf ⟨aa.refl _,?_⟩;rw[this];exact aP.start
open Go.Proofs
def fT(v u:V):Prop:=∀a n b m,v=.own a 0 n->u=.own b 0 m->a≠b
def fT.symm{v u:V}(h:fT v u):fT u v:=λa n b m h1 h2 e=>h b m a n h2 h1 e.symm
def fT.bl(u:V):fT .bl u:=λ_ _ _ _ h _=>by cases h
def aP.P3{K ZJ Z1:al}{e sz:Nat}{v:V}{rows:List V}(h:aP K ZJ e sz v rows)(hs:aa ZJ Z1):
 ∃idA,bX Z1 e sz v=some (rows,idA)/\∀i,idA=some i->K i=none/\(∃o,ZJ i=some o)/\v=.own i 0 rows.length:=by
 rcases h with⟨rfl,rfl⟩|⟨id,rfl,ho,hk⟩
 .exact⟨none,rfl,λ_ h=>by cases h⟩
 .refine⟨some id,?_,λi h=>by cases h;exact⟨hk,⟨_,ho⟩,rfl⟩⟩;simp only[bX,hs _ _ ho];rw[aI ⟨trivial,trivial,trivial,SD _⟩,iC]
def fT.new{U K:al}{e sz id n:Nat}{u:V}{rows:List V}(hu:aP K U e sz u rows)(h:U id=none):fT (.own id 0 n) u:=by
 rintro a k b m h1 rfl e;cases h1;subst e;rcases hu with⟨h,_⟩|⟨i,h,h2,_⟩
 .cases h
 .cases h;rw[h]at h2;cases h2
open Go.Proofs
structure Bk where
 nodes:List Nd
 (w h:Int)
 atoms:List Tk
 V9:List Si
 R1:Int
 SJ:List U4
def cX(b:Bk):V:=.agg [aQ b.nodes,vI b.w,vI b.h,bL b.atoms,bj b.V9,vI b.R1,dv b.SJ]
open Go.Proofs
structure BkOk(b:Bk):Prop where
 SI:lT b.atoms
 tight:∀a∈b.atoms,-18014398509481984<=a.y/\a.y<=18014398509481984/\0<=a.h/\a.h<=18014398509481984
 len:b.atoms.length<=900000
 flen:b.V9.length<=1000000
 flo:∀f∈b.V9,f.ok
 brk:b.SJ.length=b.atoms.length+1
def Ny(l:List U4)(U:al):dr U false 1 (.rp (dv l))=some (dv l):=rfl
open Go.Proofs
section
variable {P:Program} {n:Nat} {t:TypeId} {vs:List V}
def EK(ht:P.underlying t=some .bool)(h:iy P (n+1) t vs):∃b,vs=[.bool b]:=by
 simpa only[iy,ht]using h
end
def DD{n:Nat}{vs:List V}(h:iy prog (n+2) 24 vs):∃a d fr,vs=[vI a,vI d,.bool fr]:=by
 replace h:=lv underlying24 h;simp only[sT]at h;obtain⟨_,_,rfl,h1,_,_,rfl,h2,_,_,rfl,h3,rfl⟩:=h;obtain⟨m1,rfl,_⟩:=db h1;obtain⟨m2,rfl,_⟩:=db h2;obtain⟨b,rfl⟩:=EK underlying4 h3;exact⟨m1,m2,b,rfl⟩
def CU{n:Nat}{vs:List V}(h:iy prog (n+1) 3 vs):∃m,mi prog 3 vs=vI m:=by
 obtain⟨m,rfl,-⟩:=db h;exact⟨m,by unfold mi;rw[JI];rfl⟩
open Go.Proofs
def bV.rt:bV->bV
 |.seq _ b=>b
 |c=>c
def iH{i j:Nat}(h:i≠j):(∀(U:al) (o:Ob),C' U i o j=U j)/\∀(U:al) (o:Ob),C' U j o i=U i:=⟨λ_ _=>ad h.symm,λ_ _=>ad h⟩
open Go.Proofs
def oQ{b:Bk}(hb:BkOk b)(k:Int):-18014398509481984<=gF b.atoms k/\gF b.atoms k<=36028797018963968:=by
 unfold gF;split
 .rename_i h;obtain⟨n,rfl⟩:∃n:Nat,k=n:=⟨k.toNat,by omega⟩
  have hn:n<b.atoms.length:=by omega
  have:=hb.tight _ (SU hn);rw[bx hn];omega
 .omega
def DN{b:Bk}(hb:BkOk b)(s:R3)(Sf:Int):-1152921504606846976<=iz b.atoms s Sf/\iz b.atoms s Sf<=2305843009213693952:=by
 unfold iz lP;split
 .split
  .rename_i h;have h1:=oQ hb (s.atom-1);obtain⟨n,hn⟩:∃n:Nat,s.atom=n:=⟨s.atom.toNat,by omega⟩
   have T9:n<b.atoms.length:=by omega
   have:=hb.tight _ (SU T9);rw[hn]at h1|-;rw[bx T9];omega
  .omega
 .omega
open Go.Proofs
def bV.lt:bV->bV
 |.seq a _=>a
 |c=>c
structure BkFull(b:Bk):Prop extends BkOk b where
 qQ:dN b.nodes
 ZQ:SA b.nodes=true
 h1:1<=b.h
 h2:b.h<=1099511627776
 nod:∀a∈b.atoms,0<=a.node/\a.node<b.nodes.length
def dK(b:Bk)(s:R3):Kp:=if b.atoms=[]then⟨[],0,b.h⟩else wh b.nodes (Vm b.atoms (min s.atom ((b.atoms.length:Int)-1))).node b.h
open Go.Proofs
def bkE(b:Bk):cX b=.agg [aQ b.nodes,vI b.w,vI b.h,bL b.atoms,bj b.V9,vI b.R1,dv b.SJ]:=rfl
def Dn(b:Bk)(hb:1<=b.h):aX prog 83 [.rp (cX b)] (.bool false):=λU=>by
 refine e83.q ?_;have q:(b.h=0)=False:=H';refine mS 3 ?_;simp only[go_sem,seval,c83,bkE,q,F9];exact aD.same rfl
def DY(b:Bk)(hb:BkFull b)(U:al):aG prog 54 [.rp (cX b)] U λr Z'=>aa U Z'/\aP U Z' 77 3 r (b.SJ.map dy):=by
 refine e54.q ?_;have h1:=hb.brk;have h2:=hb.len;refine mS 3 ?_;simp only[go_sem,seval,c54];refine pS rfl (Dn b hb.h1 _) ?_;simp only[go_sem,seval,bkE,Ny];refine TX rfl (Am func86 (e86.b.trans rfl) e86.c (b.SJ.map dy) (by simp;omega) _) ?_;rintro r Z' ⟨hs,ho⟩;apply sR;simp only[go_sem,seval];exact Tf ⟨hs,ho⟩
def vU(b:Bk):V:=.agg [bL b.atoms,bj b.V9,vI b.R1]
def wY(b:Bk)(hb:BkFull b):aX prog 53 [.rp (cX b)] (vU b):=λU=>by
 refine e53.q ?_;have hs:=aa.refl U;have h2:=hb.len;have h3:=hb.flen;refine mS 4 ?_;simp only[go_sem,seval,c53];refine aE hs λi2 Z2 s2 a2 f2 z2 hs=>?_;simp only[go_sem,seval];refine pS rfl (Dn b hb.h1 _) ?_;simp only[go_sem,seval,bkE];refine aE hs λi3 Z3 s3 a3 f3 z3 hs=>?_;obtain⟨n23,a2⟩:=RZ a2 f3 s3;simp only[go_sem,seval,a3,af,av,ae,au];generalize hq3:C' _ i3 _=X3;replace a3:=Ti hq3;replace a2:=So hq3 n23 a2;replace hs:=Te hq3 hs z3;refine pJ rfl (GK b.atoms (by omega)) ?_;apply sG;simp only[go_sem,seval,a3];refine pJ rfl (Gs b.V9 (by omega)) ?_;apply sG;simp only[go_sem,seval,a3,a2,af,av,ae,au,ad n23,ad n23];exact aD.pure ((hs.aL z3).aL z2) rfl
open Go.Proofs
def Bu{l:List Nd}{x:Kp}{a:Int}(h:1<=x.body):1<=(jy l x a).body:=by
 unfold jy;split
 .exact h
 .simp only;omega
def qR{l:List Nd}{L:List Int}{h:Int}(hh:1<=h):∀m,1<=(j9 l L h m).body
 |0=>hh
 |m+1=>Bu (qR hh m)
def xj{b:Bk}(hb:BkFull b)(s:R3)(h0:0<=s.atom):1<=(dK b s).body:=by
 have h1:=hb.h1;unfold dK;split
 .exact h1
 .rename_i he;have hl0:0<b.atoms.length:=Bi.2 he;obtain⟨k,hk⟩:∃k:Nat,min s.atom ((b.atoms.length:Int)-1)=k:=⟨(min s.atom ((b.atoms.length:Int)-1)).toNat,by omega⟩
  have UG:k<b.atoms.length:=by omega
  have hn:=hb.nod _ (SU UG);rw[hk,bx UG];have hm:gH b.nodes b.h=true:=by simp[gH,hb.ZQ,hb.h1,hb.h2]
  unfold wh;rw[aI ⟨hm,hn⟩];exact qR h1 _
def YP(cnt:Nat->Nat)(a n:Nat):List Int:=(List.range' a n).flatMap λi=>List.replicate (cnt i) (i:Int)
def kM(cnt:Nat->Nat)(a:Nat):YP cnt a 0=[]:=rfl
def jf(cnt:Nat->Nat)(a n:Nat):YP cnt a (n+1)=List.replicate (cnt a) (a:Int)++YP cnt (a+1) n:=by
 simp[YP,List.range'_succ]
def ov{f g:Nat->Nat}:∀(n a:Nat),(∀i,a<=i->i<a+n->f i=g i)->YP f a n=YP g a n
 |0,_,_=>rfl
 |n+1,a,h=>by
  rw[jf,jf,h a (SD a) (by omega),ov n (a+1) (λi h1 h2=>h i (by omega) (by omega))]
def zX(cnt:Nat->Nat):∀(n a m:Nat),YP cnt a (n+m)=YP cnt a n++YP cnt (a+n) m
 |0,a,m=>by simp[kM]
 |n+1,a,m=>by
  rw[show n+1+m=(n+m)+1 by omega,jf,jf,zX cnt n (a+1) m,mY,show a+1+n=a+(n+1) by omega]
def JC(f g:Nat->Nat)(a n m:Nat):YP f a n++YP g (a+n) m=YP (λi=>if i<a+n then f i else g i) a (n+m):=by
 rw[zX];congr 1
 .exact ov n a λi h1 h2=>by simp[h2]
 .exact ov m (a+n) λi h1 h2=>by simp[show¬i<a+n by omega]
structure AtI(C:Int)(x:Tk):Prop where
 y0:0<=x.y
 y1:x.y<=C
 h0:1<=x.h
 h1:x.h<=1099511627776
def AtI.mono{B C:Int}{x:Tk}(h:AtI B x)(hB:B<=C):AtI C x:=⟨h.y0,Int.le_trans h.y1 hB,h.h0,h.h1⟩
def nE(a:Nat)(h:Int):∀(L:List Ln) (s:WS),(fp a h s L).atoms=s.atoms++L.map (fv a h)
 |[],s=>by simp[fp]
 |x::L,s=>by
  have:=nE a h L (s.put (fv a h x));simp only[fp,jW]at this|-;rw[this];simp[WS.put]
def H0(a:Nat)(h:Int)(L:List Ln):(L.map (fv a h)).map (·.node)=List.replicate L.length (a:Int):=by
 rw[List.map_map]
 induction L with
 |nil=>rfl
 |cons x L ih=>rw[ga,ih];rfl
def DI{l:List Nd}{a e:Nat}(he:e<=l.length)(h:bE l a e=true)(W9:a<e)(hk:(Sr l a).kind≠1):R7 l a<=1:=by
 have ha:a<l.length:=by omega
 rw[gS ha]at hk;rw[bE,dif_pos W9]at h;simp only[V7 ha]at h;split at h
 .simp only[Ba,kI,US]at h;have:=h.1.1.resolve_left hk;simp only[R7,V7 ha,Option.map_some,Option.getD_some];omega
 .cases h
structure zD(l:List Nd)(s t:WS)(a e C:Nat):Prop where
 SI:∀x∈t.atoms,AtI (1099511627776*(C:Int)) x
 nodes:∃cnt,t.atoms.map (·.node)=s.atoms.map (·.node)++YP cnt a (e-a)/\∀i,a<=i->i<e->okN (Sr l i) (cnt i)=true
def zD.join{l:List Nd}{s t u:WS}{a m e C D:Nat}(h1:a<=m)(h2:m<=e)(hA:zD l s t a m C)(hB:zD l t u m e D):zD l s u a e D:=by
 obtain⟨_,f,hf,Xy⟩:=hA;obtain⟨U7,g,hg,Uu⟩:=hB;refine⟨U7,λi=>if i<m then f i else g i,?_,λi h3 h4=>?_⟩
 .rw[hg,hf,mY];congr 1;obtain⟨n,rfl⟩:∃n,m=a+n:=⟨m-a,by omega⟩
  obtain⟨k,rfl⟩:∃k,e=a+n+k:=⟨e-(a+n),by omega⟩
  rw[show a+n-a=n by omega,show a+n+k-(a+n)=k by omega,show a+n+k-a=n+k by omega,JC]
 .simp only;split
  .exact Xy i h3 (by omega)
  .exact Uu i (by omega) h4
def tM{l:List Nd}{rs:List Rm}(hD:ZP l rs):∀(k a e:Nat) (s:WS) (C:Nat),e-a<=k->a<=e->e<=l.length->bE l a e=true->fQ s C->(∀x∈s.atoms,AtI (1099511627776*(C:Int)) x)->zD l s (cZ l rs k a e s) a e (C+SP l a e)
 |0,a,e,s,C,hk,W9,_,_,h,hx=>by
  obtain rfl:a=e:=by omega
  refine⟨λx SE=>(hx x SE).mono (by omega),λ_=>0,by simp[cZ,kM],λi h1 h2=>by omega⟩
 |k+1,a,e,s,C,hk,W9,he,hr,h,hx=>by
  rw[cZ];by_cases u':a<e
  .rw[aI u'];obtain⟨h1,h2⟩:=cc he hr (SD a) u';obtain⟨h3,h4⟩:=cQ he hr u';have Sw:ZN (Sr l a):=by rw[gS (by omega)];exact fA hD.ZQ (by omega)
   have YV:SP l a e=SP l a (a+(R7 l a).toNat)+SP l (a+(R7 l a).toNat) e:=eY (by omega) (by omega) he;have ZC:SP l a (a+(R7 l a).toNat)=4+(Sr l a).words.length+SP l (a+1) (a+(R7 l a).toNat):=nC (by omega) (by omega);have step:∀t,fQ t (C+SP l a (a+(R7 l a).toNat))->zD l s t a (a+(R7 l a).toNat) (C+SP l a (a+(R7 l a).toNat))->zD l s (cZ l rs k (a+(R7 l a).toNat) e t) a e (C+SP l a e):=λt ht hA=>by
    rw[YV,<-Nat.add_assoc];exact hA.join (by omega) (by omega) (tM hD k _ e t _ (by omega) (by omega) he h3 ht hA.SI)
   have one:∀(t:WS) (n:Nat),okN (Sr l a) n=true->(R7 l a).toNat=1->t.atoms.map (·.node)=s.atoms.map (·.node)++List.replicate n (a:Int)->(∀x∈t.atoms,AtI (1099511627776*((C+SP l a (a+(R7 l a).toNat):Nat):Int)) x)->zD l s t a (a+(R7 l a).toNat) (C+SP l a (a+(R7 l a).toNat)):=λt n hn TJ hm U7=>by
    refine⟨U7,λ_=>n,?_,λi h5 h6=>?_⟩
    .rw[hm,TJ,show a+1-a=1 by omega,jf,kM,kr]
    .obtain rfl:i=a:=by omega
     exact hn
   obtain⟨⟨hf,p1,p2,p3,p4⟩,p5,p6⟩:=h;have hI:fQ s C:=⟨⟨hf,p1,p2,p3,p4⟩,p5,p6⟩
   by_cases k1:(Sr l a).kind=1
   .rw[aI k1];have hI2:=gT hD k (a+1) (a+(R7 l a).toNat) _ _ (by omega) (by omega) (by omega) h4 (fb hI Sw.st);have hA2:=tM hD k (a+1) (a+(R7 l a).toNat) (s.enter (Sr l a).st) (C+2) (by omega) (by omega) (by omega) h4 (fb hI Sw.st) (λx SE=>(hx x SE).mono (by omega));refine step _ ((jF hI2 Sw.st).more (by omega)) ?_;obtain⟨U7,cnt,hc,YQ⟩:=hA2;refine⟨λx SE=>(U7 x SE).mono (by omega),λi=>if i=a then 0 else cnt i,?_,λi h5 h6=>?_⟩
    .have e1:(s.enter (Sr l a).st).atoms=s.atoms:=rfl;rw[e1]at hc;show(cZ l rs k (a+1) (a+(R7 l a).toNat) (s.enter (Sr l a).st)).atoms.map (·.node)=_;rw[hc];congr 1;obtain⟨m,hm⟩:∃m,(R7 l a).toNat=m+1:=⟨(R7 l a).toNat-1,by omega⟩
     rw[hm,show a+(m+1)-(a+1)=m by omega,show a+(m+1)-a=m+1 by omega,jf];simp only[if_true,List.replicate_zero,lS];exact ov m (a+1) λi h5 h6=>by simp[show i≠a by omega]
    .simp only;split
     .rename_i e;subst e;simp[okN,k1]
     .exact YQ i (by omega) h6
   .rw[aK k1];have TJ:(R7 l a).toNat=1:=by
     have:=DI he hr u' k1;omega
    by_cases k2:(Sr l a).kind=2
    .rw[aI k2];refine step _ ((kA hI Sw a).more (by omega)) ?_;have hl:=Sw.line;obtain⟨hw0,hl1⟩:=Sw.text k2;have hLl:=jJ s.g' (Sr l a).words (Sr l a).space (Sr l a).line (eR rs a) (Sr l a).words.length 0 (s.P'.y+s.P'.m);have hLb:=jr (ws:=(Sr l a).words) (space:=(Sr l a).space) (s:=eR rs a) (λf XI=>(hf f XI).yB) hl.1 (Sr l a).words.length 0 (s.P'.y+s.P'.m);have hLn:cM s.g' (Sr l a).words (Sr l a).space (Sr l a).line (eR rs a) (Sr l a).words.length 0 (s.P'.y+s.P'.m)≠[]:=by
      obtain⟨m,hm⟩:∃m,(Sr l a).words.length=m+1:=⟨(Sr l a).words.length-1,by omega⟩
      rw[hm,cM,aI (by omega)];simp
     have hte:(s.text rs a (Sr l a)).atoms=s.atoms++(cM s.g' (Sr l a).words (Sr l a).space (Sr l a).line (eR rs a) (Sr l a).words.length 0 (s.P'.y+s.P'.m)).map (fv a (Sr l a).line):=nE a _ _ s;generalize cM s.g' (Sr l a).words (Sr l a).space (Sr l a).line (eR rs a) (Sr l a).words.length 0 (s.P'.y+s.P'.m)=L at*;have hL0:=Bi.2 hLn;have hmul:(Sr l a).line*((Sr l a).words.length:Int)<=1099511627776*((Sr l a).words.length:Int):=Int.mul_le_mul_of_nonneg_right hl.2 (by omega);refine one _ L.length (by simp only[okN,k2,if_true,US];omega) TJ (by rw[hte,fw,H0]) (λx SE=>?_);rw[hte]at SE;rcases gl.1 SE with SE|SE
     .exact(hx x SE).mono (by omega)
     .obtain⟨y,hy,rfl⟩:=iE.1 SE;have:=hLb y hy;refine⟨?_,?_,hl1,hl.2⟩<;>simp only[fv]<;>omega
    .rw[aK k2];by_cases k3:(Sr l a).kind=3
     .rw[aI k3];refine step _ ((kC hI Sw a).more (by omega)) ?_;have hyr:=fF (w:=(Sr l a).w) (high:=(Sr l a).h) (y:=s.P'.y+s.P'.m) (s:=eR rs a) (λf XI=>(hf f XI).yB);have hbx:=Sw.box (.inl k3);have hh:=Sw.h;refine one _ 1 (by simp[okN,k3]) TJ (by simp[WS.mono,WS.put]) (λx SE=>?_);simp only[WS.mono,WS.put]at SE;rcases gl.1 SE with SE|SE
      .exact(hx x SE).mono (by omega)
      .simp only[kc]at SE;subst SE;refine⟨?_,?_,?_,?_⟩<;>simp only<;>omega
     .rw[aK k3];have k4:(Sr l a).kind=4:=by rcases Sw.kind with h|h|h|h;exact absurd h k1;exact absurd h k2;exact absurd h k3;exact h
      refine step _ ((jG hD hI (by omega) Sw k4).more (by omega)) ?_;exact one _ 0 (by simp[okN,k4]) TJ (by simp[WS.float]) (λx SE=>(hx x SE).mono (by omega))
  .rw[aK u'];obtain rfl:a=e:=by omega
   exact⟨λx SE=>(hx x SE).mono (by omega),λ_=>0,by simp[kM],λi h1 h2=>by omega⟩
def G0(i:Int)(L:List Int)(h:∀x∈L,x≠i):∀k,tG i (List.replicate k i++L)=k
 |0=>by
  cases L with
  |nil=>rfl
  |cons x L=>rw[List.replicate_zero,lS,tG,aK (h x (by simp))]
 |k+1=>by rw[List.replicate_succ,List.cons_append,tG,aI rfl,G0 i L h k]
def yp{cnt:Nat->Nat}:∀{n a:Nat} {x:Int},x∈YP cnt a n->∃i:Nat,x=i/\a<=i/\i<a+n
 |0,_,_,h=>by simp[kM]at h
 |n+1,a,x,h=>by
  rw[jf]at h;rcases gl.1 h with h|h
  .exact⟨a,(List.mem_replicate.1 h).2,by omega,by omega⟩
  .obtain⟨i,h1,h2,h3⟩:=yp h;exact⟨i,h1,by omega,by omega⟩
def Bh{cnt:Nat->Nat}{of:List Int}:∀(r:List Nd) (i SI:Nat),of.drop SI=YP cnt i r.length->SI<=of.length->(∀j (h:j<r.length),okN r[j] (cnt (i+j))=true)->AD of r i SI=true
 |[],i,SI,h,hl,_=>by
  have:of.length<=SI:=by
   have:=congrArg List.length h;simp[kM]at this;omega
  simp[AD];omega
 |x::r,i,SI,h,hl,ho=>by
  rw[Uf,jf]at h;have ht:mH of SI i=cnt i:=by
   rw[mH,h];exact G0 _ _ (λy hy=>by obtain⟨j,h1,h2,_⟩:=yp hy;omega) _
  rw[AD,ht];have h0:=ho 0 (by simp);simp only[List.getElem_cons_zero,Nat.add_zero]at h0;rw[h0,Bool.true_and];have hd:of.drop (SI+cnt i)=YP cnt (i+1) r.length:=by
   rw[<-List.drop_drop,h,zS (by simp)];simp
  refine Bh r (i+1) _ hd ?_ (λj hj=>?_)
  .have:=congrArg List.length h;simp at this;omega
  .have:=ho (j+1) (by simpa using hj);simp only[List.getElem_cons_succ]at this
   rwa [show i+1+j=i+(j+1) by omega]
structure LM(l:List Nd)(w:Int):Prop where
 may:qL l ((cS l w).atoms.map (·.node))=true
 nod:∀a∈(cS l w).atoms,0<=a.node/\a.node<l.length
 SI:∀x∈(cS l w).atoms,AtI (1099511627776*((SP l 0 l.length:Nat):Int)) x
 len:(cS l w).atoms.length<=SP l 0 l.length
 flen:(cS l w).g'.length<=SP l 0 l.length
 flo:∀f∈(cS l w).g',FOk (1099511627776*((SP l 0 l.length:Nat):Int)) f
def uw{l:List Nd}(hb:SA l=true)(hn:l.length<=2000){w:Int}(h1:1<=w)(h2:w<=1099511627776):LM l w:=by
 have hD:=nU hb hn h1 h2;have hr:bE l 0 l.length=true:=by simp only[SA,Ba]at hb;exact hb.2
 have hI:fQ ⟨[],[],0,⟨0,0⟩⟩ 0:=⟨⟨by simp,by simp,by simp,by simp,by simp⟩,by simp,by simp⟩
 have hA:=tM hD l.length 0 l.length ⟨[],[],0,⟨0,0⟩⟩ 0 (by omega) (by omega) (SD _) hr hI (by simp);have hJ:=gT hD l.length 0 l.length ⟨[],[],0,⟨0,0⟩⟩ 0 (by omega) (by omega) (SD _) hr hI;rw[kQ]at hA hJ;have ha:(cS l w).atoms=(cZ l (cG l w) l.length 0 l.length ⟨[],[],0,⟨0,0⟩⟩).atoms:=rfl;have hf:(cS l w).g'=(cZ l (cG l w) l.length 0 l.length ⟨[],[],0,⟨0,0⟩⟩).g'.map (mn (cZ l (cG l w) l.length 0 l.length ⟨[],[],0,⟨0,0⟩⟩).atoms.length):=rfl;obtain⟨U7,cnt,hc,YQ⟩:=hA;rw[List.map_nil,lS,Nat.sub_zero]at hc;refine⟨?_,λa hm=>?_,by rw[ha];exact U7,by rw[ha];exact hJ.SI,by rw[hf,dO];exact hJ.fl,λf hm=>?_⟩
 .rw[ha,hc];refine Bh (cnt:=cnt) l 0 0 (by simpa using hc) (Nat.zero_le _) (λj hj=>?_);have:=YQ j (Nat.zero_le _) hj;rw[gS hj]at this
  rwa [kQ]
 .have hm':a.node∈YP cnt 0 l.length:=by rw[<-hc,<-ha];exact List.mem_map_of_mem hm
  obtain⟨i,e,_,hi⟩:=yp hm';omega
 .rw[hf]at hm;obtain⟨g,hg,rfl⟩:=iE.1 hm;have:=hJ.bd.fl g hg;exact⟨this.1,this.2,this.3,this.4,this.5,this.6,this.7,this.8⟩
def uJ:∀(l:List Nd),(∀x∈l,ZN x)->((l.map λn=>4+n.words.length).sum:Nat)<=4*(l.length:Int)+lK l/\∀x∈l,(x.words.length:Int)<=lK l
 |[],_=>by simp[lK]
 |x::l,h=>by
  obtain⟨h1,h2⟩:=uJ l (λy hy=>h y (by simp[hy]));have hx:=h x (by simp);have hp:(x.words.length:Int)<=pof x/\0<=pof x:=by
   unfold pof;by_cases k1:x.kind=1
   .have:=hx.nowords (by omega);simp[k1,this]
   .by_cases k2:x.kind=2
    .simp[k2]
    .have:=hx.nowords k2;simp[k1,k2,this]
  have hp0:0<=lK l:=by
   have:∀l:List Nd,0<=lK l:=by
    intro l
    induction l with
    |nil=>simp[lK]
    |cons y l ih=>
     have:0<=pof y:=by unfold pof;split;omega;split;omega;omega
     simp only[lK];omega
   exact this l
  refine⟨by simp only[ga,List.sum_cons,Uf,lK];omega,λy hy=>?_⟩;rcases ew.1 hy with rfl|hy
  .simp only[lK];omega
  .have:=h2 y hy;simp only[lK];omega
structure NS(l:List Nd):Prop where
 ZQ:SA l=true
 len:l.length<=2000
 words:∀x∈l,x.words.length<=2000
 SP:SP l 0 l.length<=10000
def mo{l:List Nd}(h:eC l=0):NS l:=by
 unfold eC at h;split at h
 .rename_i hb;split at h
  .cases h
  .rename_i hc;have TI:l.all Nd.ok=true:=by simp only[SA,Ba]at hb;exact hb.1
   rw[gy,aI hb,vz l TI l.length (SD _),iC]at hc;simp only[not_or]at hc;obtain⟨h1,h2⟩:=uJ l (λx hx=>by obtain⟨i,hi,rfl⟩:=List.getElem_of_mem hx;exact fA hb hi);refine⟨hb,by omega,λx hx=>by have:=h2 x hx;omega,?_⟩;have:Vc.SP l 0 l.length=(l.map λn=>4+n.words.length).sum:=by unfold Vc.SP;rw[iC,Gg]
   omega
 .cases h
mutual
/-- without frozen rows -/
def V.nf:V->Bool
 |.int ..|.bool _|.str _|.bl|.V'|.TG|.Tw|.own ..|.ptr ..=>true
 |.agg cs|.Sa cs=>Xw cs
 |.iface _ v=>v.nf
 |.sl _ rows=>rows.isEmpty
 |_=>false
def Xw:List V->Bool
 |[]=>true
 |v::vs=>v.nf&&Xw vs
end
mutual
def E'.nf{I:Mu}{ow T1:Nat->Prop}{w:World}:∀{v:V} {x:Value},v.nf=true->E' I ow w v x->E' I T1 w v x
 |.int ..,_,_,h=>by simpa[E']using h
 |.bool _,_,_,h=>by simpa[E']using h
 |.str _,_,_,h=>by simpa[E']using h
 |.bl,_,_,h=>by simpa[E']using h
 |.V',_,_,h=>by simpa[E']using h
 |.TG,_,_,h=>by simpa[E']using h
 |.Tw,_,_,h=>by simpa[E']using h
 |.agg cs,x,hv,h=>by
  simp only[V.nf]at hv;simp only[E']at h|-;obtain⟨R6,rfl,h1,h2⟩:=h;exact⟨R6,rfl,aB.nf hv h1,h2⟩
 |.Sa cs,x,hv,h=>by
  simp only[V.nf]at hv;simp only[E']at h|-;obtain⟨R6,rfl,h1⟩:=h;exact⟨R6,rfl,aB.nf hv h1⟩
 |.iface t v,x,hv,h=>by
  simp only[V.nf]at hv;simp only[E']at h|-;obtain⟨y,rfl,h1⟩:=h;exact⟨y,rfl,E'.nf hv h1⟩
 |.undef,_,hv,_=>by simp[V.nf]at hv
 |.sl sz rows,_,hv,h=>by
  simp only[V.nf,List.isEmpty_iff]at hv;subst hv;simp only[E']at h|-;obtain⟨a,cap,h1,h2,_⟩:=h;exact⟨a,cap,h1,h2,.inl trivial⟩
 |.own ..,_,_,h=>by simpa only[E']using h
 |.ptr ..,_,_,h=>by simpa only[E']using h
 |.rp _,_,hv,_=>by simp[V.nf]at hv
 |.fn ..,_,hv,_=>by simp[V.nf]at hv
 |.bm ..,_,hv,_=>by simp[V.nf]at hv
 |.raw _,_,hv,_=>by simp[V.nf]at hv
 |.obj _,_,hv,_=>by simp[V.nf]at hv
 |.gp _,_,hv,_=>by simp[V.nf]at hv
 |.yl _,_,hv,_=>by simp[V.nf]at hv
 |.mp _,_,hv,_=>by simp[V.nf]at hv
def aB.nf{I:Mu}{ow T1:Nat->Prop}{w:World}:∀{vs:List V} {l:List Value},Xw vs=true->aB I ow w vs l->aB I T1 w vs l
 |[],l,_,h=>by simpa[aB]using h
 |u::us,l,hv,h=>by
  simp only[Xw,Ba]at hv;simp only[aB]at h|-;obtain⟨y,ys,rfl,h1,h2⟩:=h;exact⟨y,ys,rfl,E'.nf hv.1 h1,aB.nf hv.2 h2⟩
end
def aW.nf{I:Mu}{ow T1:Nat->Prop}{w:World}:∀{vs:List V} {b off:Nat},Xw vs=true->aW I ow w vs b off->aW I T1 w vs b off
 |[],_,_,_,h=>by simp[aW]
 |v::vs,b,off,hv,h=>by
  simp only[Xw,Ba]at hv;simp only[aW]at h|-;obtain⟨⟨x,h1,h2,h3⟩,h4⟩:=h;exact⟨⟨x,h1,E'.nf hv.1 h2,h3⟩,aW.nf hv.2 h4⟩
def Fc{v:V}(h:v.nf=true):Xw v.cells=true:=by
 cases v<;>simp_all [V.nf,V.cells,Xw]
def bc.nf{I:Mu}{ow T1:Nat->Prop}{w:World}:∀{rs:List V} {b off sz:Nat},Xw rs=true->bc I ow w rs b off sz->bc I T1 w rs b off sz
 |[],_,_,_,_,_=>by simp[bc]
 |r::rs,b,off,sz,hv,h=>by
  simp only[Xw,Ba]at hv;simp only[bc]at h|-;exact⟨h.1,(ei ..).2 (aW.nf (Fc hv.1) ((ei ..).1 h.2.1)),bc.nf hv.2 h.2.2⟩
def nb.nf{I:Mu}{ow T1:Nat->Prop}{w:World}{o:Ob}{p:Pl}(hn:Xw o.rows=true)(hz:o.sz≠0)(h:nb I ow w o p):nb I T1 w o p:=by
 cases p with
 |dY=>exact h
 |nil=>exact h
 |SZ b sz cap=>
  rcases h with⟨cur,h1,h2,h3,h4,h5,h6,h7⟩|⟨_,h2,_⟩
  .exact .inl ⟨cur,h1,h2,h3,h4,h5,h6,bc.nf hn h7⟩
  .exact absurd h2 hz
def aG.MS{P:Program}{f:FuncId}{args args':List V}{U:al}{Post0:V->al->Prop}(hw:Zb U iK args args')(h:aG P f args' iK Post0)
 (hn:∀r Z',Post0 r Z'->r.nf=true/\∀id o,Z' id=some o->Xw o.rows=true/\o.sz≠0/\o.rows≠[]):
 aG P f args U λr Z2=>∃Z',Post0 r Z'/\aa U Z2/\aa Z' Z2/\∀id o,Z' id=some o->U id=none:=by
 refine⟨h.1,?_⟩;intro I w R6 hs hr;have TY:Sat w (aO I iK) I iK w:=by
  have:=hs.drop (jU U);exact⟨SD _,rfl,rfl,rfl,λ_ _ _=>rfl,this.fin,this.inj,this.obj,λb hb _=>hb,this.ns⟩
 refine(h.2 I w R6 TY (Zb.all hs hw hr)).mono ?_;rintro e w' ⟨r,Z',Y',val,rfl,hp,hle,Sj,TV⟩;obtain⟨hrn,SY⟩:=hn r Z' hp;have Sw:∀b,¬aO I iK b:=λb ⟨_,_,_,_,h,_⟩=>by simp[iK]at h
 have TR:∀b,b<w.heap.size->w'.heap[b]?=w.heap[b]?:=λb hb=>Sj.same b hb (Sw b);have TQ:∀id o,U id=some o->Y' id=I id:=λid o ho=>hle id (λe=>by
  have:=hs.obj id o ho;rw[e]at this;exact this)
 have Vd:∀b,aO Y' Z' b->w.heap.size<=b:=λb hb=>Nat.le_of_not_lt λhl=>Sw b (Sj.fresh b hb hl);have hdis:∀id o,Z' id=some o->U id=none:=λid o ho=>by
  cases hc:U id with
  |none=>rfl
  |some o2=>
   exfalso;have e1:=TQ id o2 hc;have b1:=hs.obj id o2 hc;have b2:=Sj.obj id o ho;rw[e1]at b2;cases hp:I id with
   |dY=>rw[hp]at b1;exact b1
   |nil=>rw[hp]at b2;exact(SY id o ho).2.2 b2
   |SZ b sz cap=>
    have h1:=aO.lt hs ⟨id,o2,sz,cap,hc,hp⟩;have h2:=Vd b ⟨id,o,sz,cap,ho,e1.trans hp⟩;omega
 obtain⟨Z2,hZ2⟩:∃Z2:al,Z2=λid=>(U id).or (Z' id):=⟨_,rfl⟩
 have k1:aa U Z2:=λid o ho=>by rw[hZ2];simp[ho]
 have k2:aa Z' Z2:=λid o ho=>by rw[hZ2];simp[hdis id o ho,ho]
 have hcase:∀id o,Z2 id=some o->U id=some o\/Z' id=some o:=λid o ho=>by
  rw[hZ2]at ho;cases hc:U id with
  |none=>simp only[hc,Option.none_or]at ho;exact .inr ho
  |some o2=>simp only[hc,Option.some_or]at ho;exact .inl ho
 have Ze:∀b,aO Y' Z2 b->b<w.heap.size->aO I U b:=λb ⟨id,o,sz,cap,g1,g2⟩ hb=>by
  rcases hcase id o g1 with g|g
  .exact⟨id,o,sz,cap,g,TQ id o g▸g2⟩
  .have:=Vd b ⟨id,o,sz,cap,g,g2⟩;omega
 have hk:dB (aO I U) (aO Y' Z2) w w':=λb hb hn=>⟨λho=>hn (Ze b ho hb),TR b hb⟩
 refine⟨r,Z2,Y',val,rfl,⟨Z',hp,k1,k2,hdis⟩,hle,?_,E'.nf hrn TV⟩;refine⟨Sj.size,Sj.os,Sj.tape,Sj.output,λb hb _=>TR b hb,Sj.fin,?_,?_,Ze,hs.Va⟩
 .intro id UA o o' b sz cap UP Tz h1 h2 h3 h4;rcases hcase id o h1 with g1|g1<;>rcases hcase UA o' h2 with g2|g2
  .exact hs.inj id UA o o' b sz cap UP Tz g1 g2 (TQ id o g1▸h3) (TQ UA o' g2▸h4)
  .have a1:=aO.lt hs ⟨id,o,sz,cap,g1,TQ id o g1▸h3⟩;have a2:=Vd b ⟨UA,o',UP,Tz,g2,h4⟩;omega
  .have a1:=aO.lt hs ⟨UA,o',UP,Tz,g2,TQ UA o' g2▸h4⟩;have a2:=Vd b ⟨id,o,sz,cap,g1,h3⟩;omega
  .exact Sj.inj id UA o o' b sz cap UP Tz g1 g2 h3 h4
 .intro id o ho;rcases hcase id o ho with g|g
  .rw[TQ id o g];refine(hs.obj id o g).mono hle hk Sj.size λb sz cap hp=>TR b ?_;exact aO.lt hs ⟨id,o,sz,cap,g,hp⟩
  .exact nb.nf (SY id o g).1 (SY id o g).2.1 (Sj.obj id o g)
mutual
def Fz.mono{U J:al}{N N':Nat->Prop}(hs:aa U J)(hN:∀id,N id->N' id):∀{v u:V},Fz U N v u->Fz J N' v u
 |_,_,.same v h=>.same v h
 |_,_,.own id off len ob rows h1 h2 h3 h4=>.own id off len ob rows (hs _ _ h1) (hN _ h2) h3 (Ub.mono hs hN h4)
 |_,_,.nil sz=>.nil sz
 |_,_,.own0 id off sz=>.own0 id off sz
 |_,_,.sl sz rows rows' h=>.sl sz rows rows' (Ub.mono hs hN h)
 |_,_,.agg cs ds h=>.agg cs ds (Ub.mono hs hN h)
 |_,_,.Sa cs ds h=>.Sa cs ds (Ub.mono hs hN h)
 |_,_,.ptr id i ob r u h1 h2 h3 h4=>.ptr id i ob r u (hs _ _ h1) (hN _ h2) h3 (Fz.mono hs hN h4)
 |_,_,.fn f cs ds h=>.fn f cs ds (Ub.mono hs hN h)
 |_,_,.bm f cs ds h=>.bm f cs ds (Ub.mono hs hN h)
 |_,_,.iface t v u h=>.iface t v u (Fz.mono hs hN h)
def Ub.mono{U J:al}{N N':Nat->Prop}(hs:aa U J)(hN:∀id,N id->N' id):∀{vs us:List V},Ub U N vs us->Ub J N' vs us
 |_,_,.nil=>.nil
 |_,_,.cons v u vs us h h'=>.cons v u vs us (Fz.mono hs hN h) (Ub.mono hs hN h')
end
def pA(J:al):al:=λid=>(J id).bind λo=>if Xw o.rows=true/\o.sz≠0/\o.rows≠[]then some o else none
def yf{J:al}{id:Nat}{o:Ob}(h:pA J id=some o):J id=some o/\Xw o.rows=true/\o.sz≠0/\o.rows≠[]:=by
 unfold pA at h;cases hc:J id with
 |none=>rw[hc]at h;cases h
 |some o'=>
  simp only[hc,Option.bind_some]at h;split at h
  .rename_i hq;cases h;exact⟨rfl,hq⟩
  .cases h
def Du{J:al}{id:Nat}{o:Ob}(h:J id=some o)(h1:Xw o.rows=true)(h2:o.sz≠0)(h3:o.rows≠[]):pA J id=some o:=by
 unfold pA;rw[h,Option.bind_some,aI ⟨h1,h2,h3⟩]
def aG.Od{P:Program}{f:FuncId}{args args':List V}{U:al}{u:V}(hw:Zb U iK args args')
 (h:aG P f args' iK λr Z'=>r.nf=true/\Fz (pA Z') (λid=>pA Z' id≠none) r u):aG P f args U λr Z'=>r=u/\Z'=U:=by
 have h2:aG P f args' iK λr Z'=>r.nf=true/\Fz Z' (λid=>Z' id≠none) r u/\∀id o,Z' id=some o->Xw o.rows=true/\o.sz≠0/\o.rows≠[]:=
  h.x9 λr Z' ⟨g1,g2⟩=>⟨r,pA Z',λ_ _ h=>(yf h).1,Wk.refl (λ_ _ h=>(yf h).1) r,g1,g2,λ_ _ h=>(yf h).2⟩
 refine(aG.MS hw h2 λr Z' ⟨g1,_,g3⟩=>⟨g1,g3⟩).x9 ?_;rintro r Z2 ⟨Z',⟨_,g2,_⟩,k1,k2,k3⟩;refine⟨u,U,k1,(g2.mono (N':=λid=>U id=none) k2 λid hi=>?_).wk k1 λ_ h=>h,rfl,rfl⟩;cases hc:Z' id with
 |none=>exact absurd hc hi
 |some o=>exact k3 id o hc
open Go.Proofs
def ay.qf{P:Program}{n:Nat}{Q:St->Prop}{s:Nat->V}{U K:al}{todo:List It}(l ds:List Nat){e sz:Nat}{v:V}{rows:List V}(hK:aa K U)(ho:aP K U e sz v rows)
 (hs:∀d∈ds,s d=v)(hr:ay P n todo ⟨λi=>if ds.contains i then .sl sz rows else Af l s i,K⟩ Q):ay P n todo ⟨s,U⟩ Q:=by
 refine ay.weaken ⟨hK,λi=>?_⟩ hr;show Wk U K (s i) _;by_cases hi:ds.contains i=true
 .simp only[aI hi];rw[hs i (by simpa using hi)];exact ho.wk (aa.refl K) hK
 .simp only[aK hi];unfold Af;split
  .exact Wk.refl hK _
  .exact Wk.undef _
def Zw(l:List Nd)(w:Int):List Int:=(cS l w).atoms.map (·.node)
def bK(l:List Nd)(w h:Int):Bk:=⟨l,w,h,(cS l w).atoms,(cS l w).g',(cS l w).R1,pD l (Zw l w)⟩
def mX(n:Int):Prop:=1<=n/\n<=1099511627776
instance (n:Int):Decidable (mX n):=by unfold mX;infer_instance
def fm(l:List Nd)(w h:Int):Int:=if¬(mX w/\mX h)then 3 else if eC l≠0 then eC l else if(gy l).1.M'>mulR (de l h) 32768 then 2 else 0
def xS(l:List Nd)(w h:Int):V:=if fm l w h=0 then .rp (cX (bK l w h))else .V'
def gJ.EN{K U:al}{id:Nat}{o:Ob}(hK:K id≠none):∀{l:List Nd} {rows:List V},gJ K U l rows->gJ K (C' U id o) l rows
 |[],[],_=>trivial
 |_::_,_::_,⟨⟨w,h1,h2⟩,h⟩=>⟨⟨w,h1,h2.ad hK⟩,gJ.EN hK h⟩
 |[],_::_,h=>h.elim
 |_::_,[],h=>h.elim
def x8.EN{K U:al}{id:Nat}{o:Ob}(hK:K id≠none){v:V}{l:List Nd}(h:x8 K U v l):x8 K (C' U id o) v l:=by
 obtain⟨rows,ho,hr⟩:=h;exact⟨rows,ho.ad hK,hr.EN hK⟩
def nJ{α:Type}{f:α->V}(h:∀a,(f a).En=true):∀l:List α,mO (l.map f)=true
 |[]=>rfl
 |a::l=>by simp only[ga,mO,h a,nJ h l,Bool.and_self]
def Ry(l:List Int)(U:al):dr U false 1 (.rp (aZ l))=some (aZ l):=rfl
def oX(vn:V)(w h:Int)(va vf:V)(ht:Int)(vb:V):Ob:=⟨130,7,[.agg [vn,vI w,vI h,va,vf,vI ht,vb]]⟩
def vi{α:Type}{f:α->V}(h:∀a,(f a).nf=true):∀l:List α,Xw (l.map f)=true
 |[]=>rfl
 |a::l=>by simp only[ga,Xw,h a,vi h l,Bool.and_self]
def NN(J:al):Nat->Prop:=λid=>pA J id≠none
def aP.fzN{K J:al}{e sz:Nat}{v:V}{rows rows':List V}(h:aP K J e sz v rows)(hz:sz≠0)(hn:Xw rows=true)(hf:Ub (pA J) (NN J) rows rows'):Fz (pA J) (NN J) v (.sl sz rows')/\v.nf=true:=by
 rcases h with⟨rfl,rfl⟩|⟨id,rfl,ho,_⟩
 .cases hf;exact⟨.nil sz,rfl⟩
 .cases rows with
  |nil=>cases hf;exact⟨.own0 ..,rfl⟩
  |cons r rs=>
   have hc:=Du ho hn hz (by simp);exact⟨.own id 0 _ ⟨e,sz,r::rs⟩ rows' hc (by rw[NN,hc];simp) (by simp) (by rw[Gg,iC];exact hf),rfl⟩
def gJ.fzN{K J:al}:∀{l:List Nd} {rows:List V},gJ K J l rows->Xw rows=true/\Ub (pA J) (NN J) rows (l.map ie)
 |[],[],_=>⟨rfl,.nil⟩
 |x::_,_::_,⟨⟨w,h1,h2⟩,h⟩=>by
  obtain⟨g1,g2⟩:=h2.fzN (by decide) (vi (λ_=>rfl) _) (Ub.same _ (DA _));obtain⟨g3,g4⟩:=gJ.fzN h;rw[h1];exact⟨by simp[ndW,Xw,V.nf,g2,g3],.cons _ _ _ _ (Nk g1) g4⟩
 |[],_::_,h=>h.elim
 |_::_,[],h=>h.elim
def E7{K K1 K2 J:al}{ib:Nat}{b:Bk}{vn va vf vb:V}(hr:J ib=some (oX vn b.w b.h va vf b.R1 vb))(ho:x8 K J vn b.nodes)(ha:aP K1 J 66 8 va (b.atoms.map bC))(hf:aP K1 J 137 7 vf (b.V9.map br))(hb:aP K2 J 77 3 vb (b.SJ.map dy)):
 aD (.Sa [.ptr ib 0 0,vI 0]) J λr Z'=>r.nf=true/\Fz (pA Z') (NN Z') r (.Sa [.rp (cX b),vI 0]):=by
 obtain⟨rows,ho,hrw⟩:=ho;obtain⟨n1,n2⟩:=ho.fzN (by decide) hrw.fzN.1 hrw.fzN.2;obtain⟨a1,a2⟩:=ha.fzN (by decide) (vi (λ_=>rfl) _) (Ub.same _ (nJ (λ_=>rfl) _));obtain⟨f1,f2⟩:=hf.fzN (by decide) (vi (λ_=>rfl) _) (Ub.same _ (nJ (λ_=>rfl) _));obtain⟨b1,b2⟩:=hb.fzN (by decide) (vi (λ_=>rfl) _) (Ub.same _ (nJ (λ_=>rfl) _));have hc:=Du hr (by simp[oX,Xw,V.nf,n2,a2,f2,b2]) (by simp[oX]) (by simp[oX]);have i1:∀n:Int,Fz (pA J) (NN J) (vI n) (vI n):=λ_=>.same _ rfl;exact⟨_,J,aa.refl J,Wk.refl (aa.refl J) _,rfl,.Sa _ _ (.cons _ _ _ _ (.ptr ib 0 _ _ _ hc (by rw[NN,hc];simp) rfl (.agg _ _ (.cons _ _ _ _ n1 (.cons _ _ _ _ (i1 _) (.cons _ _ _ _ (i1 _) (.cons _ _ _ _ a1 (.cons _ _ _ _ f1 (.cons _ _ _ _ (i1 _) (.cons _ _ _ _ b1 .nil)))))))))
  (Ub.same [vI 0] rfl))⟩
def tH{v:V}{J:al}(h:v.nf=true)(h1:v.En=true):aD v J λr Z'=>r.nf=true/\Fz (pA Z') (NN Z') r v:=⟨_,J,aa.refl J,Wk.refl (aa.refl J) _,h,.same _ h1⟩
def M9(U:al)(l:List Nd)(hl:dN l)(w h:Int):aG prog 52 [aQ l,vI w,vI h] U λr Z'=>r.nf=true/\Fz (pA Z') (NN Z') r (.Sa [xS l w h,vI (fm l w h)]):=by
 refine e52.q ?_;have hs:=aa.refl U;have bad:∀n:Int,fm l w h=n->n≠0->(xS l w h=.V'/\fm l w h=n):=λn hn h0=>⟨by rw[xS,aK (by rw[hn];exact h0)],hn⟩
 refine ay.mix 16 ?_;by_cases hw:mX w
 .have mw:=ry w;rw[show decide (1<=w/\w<=1099511627776)=true from Tv hw]at mw;apply sR;simp only[go_sem,seval,c52];refine pS rfl (mw _) ?_;simp only[go_sem,seval];by_cases hh:mX h
  .have mh:=ry h;rw[show decide (1<=h/\h<=1099511627776)=true from Tv hh]at mh;refine pS rfl (mh _) ?_;simp only[go_sem,seval];refine pR rfl (zA l hl _) ?_;by_cases hc:eC l=0
   .have q:(eC l≠0)=False:=H' (λh=>h hc);have hck:=zA l hl;rw[hc]at hck q|-;apply sR;simp only[go_sem,seval,q];refine pS rfl (zN l hl _) ?_;simp only[go_sem,seval,Sm.cells];refine aE hs λi9 Y9 s9 a9 f9 z9 hs=>?_;simp only[go_sem,seval,a9];generalize Tb:C' _ i9 _=Z9;replace a9:=Ti Tb;replace hs:=Te Tb hs z9;refine pJ rfl (Hb l hl h) ?_;apply sG;simp only[go_sem,seval];refine pJ rfl (OO (de l h) 32768) ?_;have hE:fm l w h=if(gy l).1.M'>mulR (de l h) 32768 then 2 else 0:=by rw[fm,aK (λh=>h ⟨hw,hh⟩),aK (λh=>h hc)]
    by_cases XM:(gy l).1.M'>mulR (de l h) 32768
    .have q1:((gy l).1.M'>mulR (de l h) 32768)=True:=RX XM;obtain⟨e1,e2⟩:=bad 2 (by rw[hE,aI XM]) (by decide);rw[e1,e2];apply sG;simp only[go_sem,seval,a9,q1];exact tH rfl rfl
    have q1:((gy l).1.M'>mulR (de l h) 32768)=False:=H' XM;have e2:fm l w h=0:=by rw[hE,aK XM]
    have e1:xS l w h=.rp (cX (bK l w h)):=by rw[xS,aI e2]
    rw[e1,e2];obtain⟨Uz,Xo,hwo,XR⟩:=mo hc;have hG:=uw Uz Xo hw.1 hw.2;have hfl:=λs0=>Lg s0 l hl Uz Xo (λx hx=>by have:=hwo x hx;omega) (by omega) hck w hw.1 hw.2;apply sG;simp only[go_sem,seval,a9,q1];refine TX rfl (HO l hl.1 _) ?_;rintro vn XV ⟨hs10,ho10⟩;replace ho10:=ho10.nk hs;replace hs:=hs.trans hs10;obtain⟨cn,sn⟩:=ho10.vc;have T9:=ho10.len;rw[dO]at T9;apply sR;simp only[go_sem,seval,cn,sn];refine aE hs λi46 Z46 s46 a46 f46 z46 hs=>?_;have ho46:aP (cA U i46) Z46 59 20 vn (l.map ie):=by
     rcases ho10 with h|⟨id,h3,h4,h5⟩
     .exact .inl h
     .exact .inr ⟨id,h3,s46 _ _ h4,bk.2 ⟨λe=>(by rw[e,f46]at h4;cases h4),h5⟩⟩
    have k46:cA U i46 i46≠none:=λh=>(bk.1 h).1 rfl;simp only[go_sem,seval,a46,T9];refine ay.kY (λst=>aa U st.U/\x8 (cA U i46) st.U vn l/\st.U i46=some (oX vn w h .bl .bl 0 .bl)/\st.s 0=aQ l/\st.s 1=vI w/\st.s 11=.ptr i46 0 0)
     (λm st=>∃(i:Nat) (rows:List V),i<=l.length/\m=l.length-i/\aa U st.U/\aP (cA U i46) st.U 59 20 vn rows/\rows.length=l.length/\gJ (cA U i46) st.U (l.take i) (rows.take i)/\rows.drop i=(l.drop i).map ie/\st.U i46=some (oX vn w h .bl .bl 0 .bl)/\
       st.s 0=aQ l/\st.s 1=vI w/\st.s 11=.ptr i46 0 0/\st.s 51=vI l.length/\st.s 52=vI i) l.length ?_ ?_ ?_
    .exact⟨0,l.map ie,by omega,rfl,hs,ho46,by simp,trivial,by simp,a46,rfl,rfl,rfl,rfl,rfl⟩
    .clear hs ho46 a46 ho10 a9;rintro m ⟨S,J⟩ ⟨i,rows,hi,rfl,hs,ho,hn,hr,hd,hb,t0,t1,t11,t51,t52⟩;simp only at hs ho hr hb t0 t1 t11 t51 t52;refine ay.mix 60 ?_;by_cases u':i<l.length
     .have q:=qT u';obtain⟨id,rfl,L',XE⟩:∃id,vn=.own id 0 rows.length/\J id=some ⟨59,20,rows⟩/\cA U i46 id=none:=by
       rcases ho with⟨_,h0⟩|h
       .rw[h0]at hn;simp at hn;omega
       .exact h
      have hdc:(l.drop i)=l[i]::l.drop (i+1):=jt u';have hw':=hwo _ (SU u');have SB:l.take (i+1)=l.take i++[l[i]]:=Vn u';have Th:=λU=>iM l u' U;generalize Wf:l[i]=x at*;have hrow':rows[i]?=some (.agg x.cells):=by
       have:(rows.drop i)[0]?=some (ie x):=by rw[hd,hdc];rfl
       rw[K9]at this;exact this
      have Sh:id≠i46:=(bk.1 XE).1;have hio:∀X':al,X' id=some ⟨59,20,rows⟩->bI X' 20 (.own id 0 rows.length) (.int .i64 i)=some (.ptr id i 0):=λX' h=>kj h (by omega);have r1:=rI i;rw[oX]at hb;apply sR;simp only[go_sem,seval,t0,t1,t11,t51,t52,q,gn];refine ay.yA (by kernel_rfl) [0,1,2,3,4,5,6,7,8,9,10,11,12,13] [[],[0],[0,1],[0,1,2],[],[],[],[5,6],[5,6,7],[5,6,7,8],[5,6,7,8,9],[0,1,2,3,4,5,6,7,8,9,10],[0,1,2,3,4,5,6,7,8,9,10,11],[0,1,2,3,4,5,6,7,8,9,10,11,12]] [0,2,4,6,8,10,12,14,16,18,20,7,22,24,26] (by kernel_rfl) (by kernel_rfl) ?_;refine cY (n:=0) [20,7,22,24,26] [0,2,4,6,8,10,12,14,16,18] [_,_,_,_,_,_,_,_,_,_] rfl rfl ?_;simp only[go_sem,seval,t0,t11,hb,Th,Nd.cells,Ry];refine RE.call rfl rfl rfl rfl rfl (FM x.words (by omega) _) ?_;rintro wv Z2 ⟨U2,Vp⟩;simp only at U2 Vp;have hid2:=U2 _ _ L';have SF:=U2 _ _ hb;obtain⟨cw,sw⟩:=Vp.vc;have hio2:=hio _ hid2;refine eh rfl (by simp only[go_sem,seval,t0,t11,SF]) ?_;refine cY (n:=0) [] [22,24,26] [_,_,_] rfl rfl ?_;simp only[go_sem,seval,t0,t11,SF,hio2,hid2,hrow',Nd.cells,cw,sw];have hk46:cA U i46 id=none:=XE;have hsf:aa U (C' Z2 id ⟨59,20,rows.set i (ndW x wv)⟩):=(hs.trans U2).aL (bk.1 XE).2;have TK:∀j,j≠id->∀o,Z2 j=some o->C' Z2 id ⟨59,20,rows.set i (ndW x wv)⟩ j=some o:=λj hj o hjo=>by rw[ad hj];exact hjo
      have h1:=(hr.mono U2).kept hid2 TK;have UG:aa (cA U i46) (cA J i46):=λj o hj=>by
       unfold cA at hj|-;split
       .rename_i e;rw[aI e]at hj;exact hj
       .rename_i e;rw[aK e]at hj;exact hs _ _ hj
      have h2:aP (cA U i46) (C' Z2 id ⟨59,20,rows.set i (ndW x wv)⟩) 3 1 wv (x.words.map vI):=by
       rcases Vp with h|⟨iw,e1,e2,e3⟩
       .exact .inl h
       .have n1:iw≠id:=λe=>by rw[e,hid2]at e2;simp at e2
        refine .inr ⟨iw,e1,by rw[ad n1];exact e2,bk.2 ⟨λe=>(by rw[e,hb]at e3;cases e3),hs.none e3⟩⟩
      have h3:(rows.set i (ndW x wv)).take (i+1)=rows.take i++[ndW x wv]:=by
       rw[Vn (by simp;omega),List.take_set_of_le (by omega)];simp
      apply sR;simp only[go_sem,seval,t0,t1,t11,t51,t52,r1];refine⟨_,?_,i+1,rows.set i (ndW x wv),by omega,rfl,hsf,.inr ⟨id,by rw[List.length_set],aA,XE⟩,by simp[hn],?_,?_,?_,rfl⟩
      .omega
      .rw[h3,SB];exact h1.app ⟨⟨wv,rfl,h2⟩,trivial⟩
      .rw[List.drop_set_of_lt (by omega)];have:rows.drop (i+1)=(rows.drop i).drop 1:=by simp
       rw[this,hd,hdc];rfl
      .exact(ad Sh.symm).trans SF
     .have q:=qF u';have Uv:i=l.length:=by omega
      subst Uv;rw[iC,qq (by omega)]at hr;apply sR;simp only[go_sem,seval,t0,t1,t11,t51,t52,q];exact⟨hs,⟨rows,ho,hr⟩,hb⟩
    .clear hs ho46 a46 ho10 a9;rintro⟨S,J⟩ ⟨hs,how,hb,t0,t1,t11⟩;simp only at hs how hb t0 t1 t11;have Xd:=hG.len;have hbr:=λs0=>LA s0 l hl Uz (Zw l w) (by rw[Zw,dO];omega) (λx hx=>by
      obtain⟨a,ha,rfl⟩:=iE.1 hx;exact hG.nod a ha) hG.may
     have hofe:Zw l w=(cS l w).atoms.map (·.node):=rfl;rw[oX]at hb;refine mS 16 ?_;simp only[go_sem,seval,t0,t1,t11];refine TX rfl (hfl _) ?_;rintro r X1 ⟨s1,va,vf,rfl,g1,g2⟩
     (try simp only at s1 g1 g2)
     obtain⟨ca,sa⟩:=g1.vc;obtain⟨cf,sf⟩:=g2.vc;have TZ:=g1.len;rw[dO]at TZ;have kb:J i46≠none:=by rw[hb];simp
     replace hb:=s1 _ _ hb;replace how:=how.mono s1;replace hs:=hs.trans s1;apply sR;simp only[go_sem,seval,t11,hb,TZ,ca,sa,cf,sf];generalize hq:C' X1 i46 _=Y0;have hb0:Y0 i46=some (oX vn w h va vf (cS l w).R1 .bl):=by rw[<-hq];exact aA
     have TY:aa U Y0:=hq▸hs.aL z46;have how0:x8 (cA U i46) Y0 vn l:=hq▸how.EN k46;replace g1:aP J Y0 _ _ _ _:=hq▸g1.ad kb;replace g2:aP J Y0 _ _ _ _:=hq▸g2.ad kb;clear hq hs how hb;refine ay.kY (λst=>aa Y0 st.U/\aP Y0 st.U 3 1 (st.s 13) ((Zw l w).map vI)/\st.s 0=aQ l/\st.s 11=.ptr i46 0 0)
      (λm st=>∃j:Nat,j<=(cS l w).atoms.length/\m=(cS l w).atoms.length-j/\aa Y0 st.U/\aP Y0 st.U 3 1 (st.s 13) ((((cS l w).atoms.take j).map (·.node)).map vI)/\st.s 0=aQ l/\st.s 11=.ptr i46 0 0/\st.s 82=va/\st.s 83=vI (cS l w).atoms.length/\st.s 84=vI j) (cS l w).atoms.length ?_ ?_ ?_
     .exact⟨0,by omega,rfl,aa.refl _,aP.start,t0,t11,rfl,rfl,rfl⟩
     .clear t0 t1 t11;rintro m ⟨S,J⟩ ⟨j,hj,rfl,YR,ho,t0,t11,t82,t83,t84⟩;simp only at YR ho t0 t11 t82 t83 t84;generalize Vv:S 13=v13 at ho;refine ay.mix 85 ?_;by_cases u':j<(cS l w).atoms.length
      .have q:((j:Int)<(cS l w).atoms.length)=True:=RX;obtain⟨ia,rfl,hia⟩:∃ia,va=.own ia 0 ((cS l w).atoms.map bC).length/\J ia=some ⟨66,8,(cS l w).atoms.map bC⟩:=by
        rcases g1 with⟨_,h0⟩|⟨ia,e1,e2,_⟩
        .rw[List.map_eq_nil_iff]at h0;rw[h0]at u';simp at u'
        .exact⟨ia,e1,YR _ _ e2⟩
       have R0:=kj hia (i:=j) (by rw[dO];exact u');have Ua:((cS l w).atoms.map bC)[j]?=some (bC (cS l w).atoms[j]):=by rw[tg,V7 u'];rfl
       have Sx:(((cS l w).atoms.take (j+1)).map (·.node)).map vI=(((cS l w).atoms.take j).map (·.node)).map vI++[vI (cS l w).atoms[j].node]:=by
        rw[Vn u',fw,fw];rfl
       have UF:((((cS l w).atoms.take j).map (·.node)).map vI).length=j:=by rw[dO,dO,mf];omega
       have U7:bC (cS l w).atoms[j]=.agg [vI (cS l w).atoms[j].kind,vI (cS l w).atoms[j].node,vI (cS l w).atoms[j].fr,vI (cS l w).atoms[j].to,vI (cS l w).atoms[j].x,vI (cS l w).atoms[j].y,vI (cS l w).atoms[j].w,vI (cS l w).atoms[j].h]:=rfl;generalize (((cS l w).atoms.take j).map (·.node)).map vI=rows at*;generalize (cS l w).atoms[j]=x at*;have r1:=rI j;have hs:=aa.refl J;apply sR;simp only[go_sem,seval,t0,t11,t82,t83,t84,Vv,q,R0,hia,Ua,U7];refine aE hs λi15 Z15 XD Vg f15 z15 hs=>?_;simp only[go_sem,seval,Vg,t0,t11,t82,t83,t84,Vv];generalize TW:C' _ i15 _=Y15;replace Vg:=Ti TW;replace hs:=Te TW hs z15;refine aF λi91 Z91 s91 a91 f91=>?_;obtain⟨idA,Ta,Sd⟩:=ho.dst (hs.trans s91);have SF:(rows.length+1)*9<=140737488355328:=by omega
       simp only[go_sem,seval,Ta,bR a91,SF];refine bn λi92 Z92 s92 a92 f92=>?_;have k92:=(Sd Y0 (aa.refl _) Z91 (YR.trans (hs.trans s91))).trans s92;have n92:Y0 i92=none:=(YR.trans (hs.trans s91)).none f92;simp only[go_sem,seval,t0,t11,t82,t83,t84,r1];refine⟨_,?_,j+1,by omega,rfl,k92,?_,rfl⟩
       .omega
       .rw[Sx];exact aP.new (by simp) a92 n92
      .have q:((j:Int)<(cS l w).atoms.length)=False:=H';have Up:j=(cS l w).atoms.length:=by omega
       rw[Up,iC,<-hofe]at ho;apply sR;simp only[go_sem,seval,t0,t11,t82,t83,t84,Vv,q];exact⟨YR,ho⟩
     .clear t0 t1 t11;rintro⟨S,J⟩ ⟨YR,ho,t0,t11⟩;simp only at YR ho t0 t11;refine ay.qf [0,11] [13] YR ho (by simp) ?_;generalize hS:(λi=>if[13].contains i then V.sl 1 ((Zw l w).map vI)else Af [0,11] S i)=S';have u0:S' 0=aQ l:=by rw[<-hS];exact t0
      have VO:S' 11=.ptr i46 0 0:=by rw[<-hS];exact t11
      have u13:S' 13=aZ (Zw l w):=by rw[<-hS];rfl
      clear hS t0 t11;refine ay.mix 16 ?_;rw[oX]at hb0;apply sR;simp only[go_sem,seval,u0,VO,u13];refine TX rfl (hbr _) ?_;rintro r Y2 ⟨s2,vb,rfl,gb⟩
      (try simp only at s2 gb)
      obtain⟨cb,sb⟩:=gb.vc;have kb0:Y0 i46≠none:=by rw[hb0];simp
      replace hb0:=s2 _ _ hb0;apply sR;simp only[go_sem,seval,VO,hb0,cb,sb];exact E7 (b:=bK l w h) aA ((how0.mono s2).EN k46) ((g1.mono s2).ad kb) ((g2.mono s2).ad kb) (gb.ad kb0)
   .have q:(eC l≠0)=True:=RX hc;obtain⟨e1,e2⟩:=bad (eC l) (by rw[fm,aK (λh=>h ⟨hw,hh⟩),aI hc]) hc;rw[e1,e2];apply sR;simp only[go_sem,seval,q];exact tH rfl rfl
  .have mh:=ry h;rw[show decide (1<=h/\h<=1099511627776)=false from TE hh]at mh;obtain⟨e1,e2⟩:=bad 3 (by rw[fm,aI (λh=>hh h.2)]) (by decide);rw[e1,e2];refine pS rfl (mh _) ?_;simp only[go_sem,seval];exact tH rfl rfl
 .have mw:=ry w;rw[show decide (1<=w/\w<=1099511627776)=false from TE hw]at mw;obtain⟨e1,e2⟩:=bad 3 (by rw[fm,aI (λh=>hw h.1)]) (by decide);rw[e1,e2];apply sR;simp only[go_sem,seval,c52];refine pS rfl (mw _) ?_;simp only[go_sem,seval];exact tH rfl rfl
def LS(l:List Nd)(hl:dN l)(w h:Int){U:al}{args:List V}(hw:Zb U iK args [aQ l,vI w,vI h]):aG prog 52 args U λr Z'=>r=.Sa [xS l w h,vI (fm l w h)]/\Z'=U:=
 aG.Od hw (M9 iK l hl w h)
def JQ(l:List Nd)(hl:dN l)(w h:Int):aX prog 52 [aQ l,vI w,vI h] (.Sa [xS l w h,vI (fm l w h)]):=λU=>by
 refine LS l hl w h ?_;simp only[Zb];exact⟨Wk.refl (jU U) _,Wk.refl (jU U) _,Wk.refl (jU U) _,trivial⟩
def l9{l:List Nd}{w h:Int}(he:fm l w h=0):mX w/\mX h/\eC l=0:=by
 unfold fm at he;split at he
 .cases he
 .rename_i h1;split at he
  .rename_i h2;exact absurd he h2
  .rename_i h2;exact⟨Decidable.byContradiction λh=>h1 (λg=>h g.1),Decidable.byContradiction λh=>h1 (λg=>h g.2),Decidable.byContradiction h2⟩
def EC{l:List Nd}(hl:dN l){w h:Int}(he:fm l w h=0):BkFull (bK l w h)/\∀f∈(bK l w h).V9,0<=f.h:=by
 obtain⟨hw,hh,hc⟩:=l9 he;obtain⟨Uz,hn,hwo,XR⟩:=mo hc;have hG:=uw Uz hn hw.1 hw.2;have hl1:=hG.len;have ZG:=hG.flen;have hb:(1099511627776:Int)*((SP l 0 l.length:Nat):Int)<=10995116277760000:=by omega
 have ht:∀a∈(cS l w).atoms,-18014398509481984<=a.y/\a.y<=18014398509481984/\0<=a.h/\a.h<=18014398509481984:=λa ha=>by
  have:=hG.SI a ha;have h0:=this.y0;have h1:=this.y1;have h2:=this.h0;have h3:=this.h1;omega
 refine⟨⟨⟨⟨?_,λa ha=>?_⟩,ht,?_,?_,λf hf=>(hG.flo f hf).ok (by omega),?_⟩,hl,Uz,hh.1,hh.2,hG.nod⟩,λf hf=>(hG.flo f hf).h0⟩
 .show(cS l w).atoms.length<=_;omega
 .have:=ht a ha;omega
 .show(cS l w).atoms.length<=_;omega
 .show(cS l w).g'.length<=_;omega
 .show(pD l (Zw l w)).length=(cS l w).atoms.length+1;unfold pD Zw;simp
def jZ(b:Bk)(a:Nat):Int:=((b.atoms.drop a).map (·.h)).sum
def mG{b:Bk}{a:Nat}(h:a<b.atoms.length):jZ b a=(b.atoms[a]).h+jZ b (a+1):=by
 unfold jZ;rw[jt h,ga,List.sum_cons]
def mI{b:Bk}(hp:∀a∈b.atoms,1<=a.h)(a:Nat):0<=jZ b a:=by
 have key:∀l:List Tk,(∀a∈l,1<=a.h)->0<=(l.map (·.h)).sum:=by
  intro l
  induction l with
  |nil=>intro _;simp
  |cons x l ih=>
   intro h;have h1:=h x (by simp);have h2:=ih (λy hy=>h y (by simp[hy]));simp only[ga,List.sum_cons];omega
 exact key _ λx hx=>hp x (List.mem_of_mem_drop hx)
structure Xx(s:WS):Prop where
 pw:s.atoms.Pairwise λa b=>a.y+a.h<=b.y
 q:∀a∈s.atoms,a.y+a.h<=s.P'.y
def Xx.put{s:WS}(h:Xx s){a:Tk}(h1:s.P'.y<=a.y)(h2:0<=a.h):Xx (s.put a):=by
 refine⟨?_,λx hx=>?_⟩
 .simp only[WS.put];rw[List.pairwise_append];refine⟨h.pw,by simp,λx hx y hy=>?_⟩;simp only[kc]at hy;subst hy;have:=h.q x hx;omega
 .simp only[WS.put]at hx|-;rcases gl.1 hx with hx|hx
  .have:=h.q x hx;omega
  .simp only[kc]at hx;subst hx;omega
def Xx.P'{s:WS}(h:Xx s){p:Pn}(hp:s.P'.y<=p.y):Xx { s with P':=p }:=⟨h.pw,λa ha=>by have:=h.q a ha;simp only;omega⟩
def C5{p:Pn}{m d:Int}(h0:0<=p.m)(hd:0<=d):p.y<=(er p m d).y:=by
 simp only[er,kS];(repeat' split)<;>omega
def HX{p:Pn}{m d:Int}(h0:0<=p.m)(hd:0<=d):p.y<=(ky p m d).y:=by
 simp only[ky,kS];(repeat' split)<;>(try simp only)<;>omega
def Xx.enter{s:WS}(h:Xx s)(h0:0<=s.P'.m){t:TA}(ht:SOk t):Xx (s.enter t):=by
 have hp:=ht.R5.1;unfold WS.enter;simp only;refine h.P' ?_;split
 .have hc:s.P'.y<=(fk s.P' (cF (gk t.clear) s.g').1).y/\0<=(fk s.P' (cF (gk t.clear) s.g').1).m:=by
   unfold fk;split<;>(try simp only)<;>omega
  exact Int.le_trans hc.1 (C5 hc.2 hp)
 .exact C5 h0 hp
def Xx.leave{s:WS}(h:Xx s)(h0:0<=s.P'.m){t:TA}(ht:SOk t):Xx (s.leave t):=h.P' (HX h0 ht.O'.1)
def Xx.text{rs:List Rm}{s:WS}{C:Nat}(h:fQ s C)(hk:Xx s){n:Nd}(hn:ZN n)(a:Nat):Xx (s.text rs a n):=by
 obtain⟨⟨hf,h1,h2,h3,h4⟩,h5,h6⟩:=h;have hl:=hn.line;have key:∀(k i:Nat) (y:Int) (t:WS),t.P'.y<=y->Xx t->Xx ((cM s.g' n.words n.space n.line (eR rs a) k i y).foldl (λs x=>s.put (fv a n.line x)) t):=by
  intro k
  induction k with
  |zero=>intro i y t _ ht;exact ht
  |succ k ih=>
   intro i y t hy ht;rw[cM];split
   .rw[jW];have hyr:y<=(lV s.g' n.words n.space n.line i y (eR rs a)).y:=(fF (λf XI=>(hf f XI).yB)).1;refine ih _ _ _ ?_ (ht.put (by simp only[fv];omega) hl.1);simp only[WS.put,fv];omega
   .exact ht
 exact key _ _ _ s (by omega) hk
def uz{l:List Nd}{rs:List Rm}(hD:ZP l rs):∀(k a e:Nat) (s:WS) (C:Nat),e-a<=k->a<=e->e<=l.length->bE l a e=true->fQ s C->Xx s->Xx (cZ l rs k a e s)
 |0,a,e,s,C,_,W9,_,_,_,h=>h
 |k+1,a,e,s,C,hk,W9,he,hr,h,hs=>by
  rw[cZ];by_cases u':a<e
  .rw[aI u'];obtain⟨h1,h2⟩:=cc he hr (SD a) u';obtain⟨h3,h4⟩:=cQ he hr u';have Sw:ZN (Sr l a):=by rw[gS (by omega)];exact fA hD.ZQ (by omega)
   have step:∀t,(∃D,fQ t D)->Xx t->Xx (cZ l rs k (a+(R7 l a).toNat) e t):=λt ⟨D,ht⟩ hA=>
    uz hD k _ e t D (by omega) (by omega) he h3 ht hA
   have hm:=h.bd.m0;split
   .have hI2:=gT hD k (a+1) (a+(R7 l a).toNat) _ _ (by omega) (by omega) (by omega) h4 (fb h Sw.st);have hS2:=uz hD k (a+1) (a+(R7 l a).toNat) _ _ (by omega) (by omega) (by omega) h4 (fb h Sw.st) (hs.enter hm Sw.st);exact step _ ⟨_,jF hI2 Sw.st⟩ (hS2.leave hI2.bd.m0 Sw.st)
   .split
    .exact step _ ⟨_,kA h Sw a⟩ (Xx.text h hs Sw a)
    .split
     .refine step _ ⟨_,kC h Sw a⟩ ?_;have hyr:=fF (w:=(Sr l a).w) (high:=(Sr l a).h) (y:=s.P'.y+s.P'.m) (s:=eR rs a) (λf XI=>(h.bd.fl f XI).yB);exact hs.put (by simp only;omega) Sw.h.1
     .have k4:(Sr l a).kind=4:=by rename_i g1 g2 g3;rcases Sw.kind with h|h|h|h;exact absurd h g1;exact absurd h g2;exact absurd h g3;exact h
      exact step _ ⟨_,jG hD h (by omega) Sw k4⟩ ⟨hs.pw,hs.q⟩
  .rw[aK u'];exact hs
def H3{l:List Nd}(hb:SA l=true)(hn:l.length<=2000){w:Int}(h1:1<=w)(h2:w<=1099511627776):(cS l w).atoms.Pairwise λa b=>a.y+a.h<=b.y:=by
 have hD:=nU hb hn h1 h2;have hr:bE l 0 l.length=true:=by simp only[SA,Ba]at hb;exact hb.2
 have hI:fQ ⟨[],[],0,⟨0,0⟩⟩ 0:=⟨⟨by simp,by simp,by simp,by simp,by simp⟩,by simp,by simp⟩
 exact(uz hD l.length 0 l.length ⟨[],[],0,⟨0,0⟩⟩ 0 (by omega) (by omega) (SD _) hr hI ⟨by simp,by simp⟩).pw
def HL{l:List Tk}(h:l.Pairwise λa b=>a.y+a.h<=b.y){i j:Nat}(XY:i<j)(hj:j<l.length):l[i].y+l[i].h<=l[j].y:=List.pairwise_iff_getElem.1 h i j (by omega) hj XY
def rk{p:Nat->Bool}{n:Nat}(hm:∀i j,i<=j->j<n->p i=true->p j=true):∀(f i j:Nat),j-i<=f->i<=j->j<=n->(∀x,x<i->p x=false)->(j<n->p j=true)->
 (∀x,x<lN p f i j->p x=false)/\(lN p f i j<n->p (lN p f i j)=true)/\lN p f i j<=j
 |0,i,j,hf,XY,_,h1,h2=>by
  obtain rfl:i=j:=by omega
  exact⟨h1,h2,SD _⟩
 |f+1,i,j,hf,XY,hjn,h1,h2=>by
  rw[lN];split
  .rename_i u';split
   .rename_i hp;obtain⟨g1,g2,g3⟩:=rk hm f i ((i+j)/2) (by omega) (by omega) (by omega) h1 (λ_=>hp);exact⟨g1,g2,by omega⟩
   .rename_i hp;have hp':p ((i+j)/2)=false:=by simpa using hp
    refine rk hm f ((i+j)/2+1) j (by omega) (by omega) hjn (λx hx=>?_) h2;cases SE:p x with
    |false=>rfl
    |true=>rw[hm x ((i+j)/2) (by omega) (by omega) SE]at hp';cases hp'
  .obtain rfl:i=j:=by omega
   exact⟨h1,h2,SD _⟩
def mv{b:Bk}(hk:b.atoms.Pairwise λx y=>x.y+x.h<=y.y)(Ul:∀a∈b.atoms,1<=a.h){s:R3}(hm:dc b.atoms s)(kept shift body:Int):
 ∃r:Nat,nA b.atoms s kept shift body=r/\s.atom<=r/\r<=b.atoms.length/\(∀k (h:k<b.atoms.length),s.atom<=k->k<r->fq b.atoms s kept shift k+b.atoms[k].h<=body)/\∀h:r<b.atoms.length,fq b.atoms s kept shift r+b.atoms[r].h>body:=by
 have Yw:=hm;obtain⟨⟨h0,h1⟩,h2,h3⟩:=hm;obtain⟨a,ha⟩:∃a:Nat,s.atom=a:=⟨s.atom.toNat,by omega⟩
 have Xd:a<b.atoms.length:=by omega
 have Wr:∀k (h:k<b.atoms.length),a<=k->fq b.atoms s kept shift k=b.atoms[k].y-b.atoms[a].y-s.done+kept+shift:=λk h hak=>by
  rw[fq,aI ⟨Yw,by omega,by omega⟩,ig,aI ⟨⟨h0,h1⟩,by omega,by omega⟩,ha,bx h,bx Xd]
 have hby:∀n (h:a+n<b.atoms.length),ic b.atoms s kept shift body n=decide (b.atoms[a+n].y-b.atoms[a].y-s.done+kept+shift+b.atoms[a+n].h>body):=λn h=>by
  have e:s.atom+(n:Int)=((a+n:Nat):Int):=by omega
  rw[ic,e,Wr _ h (by omega),bx h]
 have hmono:∀i j,i<=j->j<b.atoms.length-a->ic b.atoms s kept shift body i=true->ic b.atoms s kept shift body j=true:=λi j XY hj hb=>by
  rcases Nat.eq_or_lt_of_le XY with rfl|u'
  .exact hb
  .have hi2:a+i<b.atoms.length:=by omega
   have hj2:a+j<b.atoms.length:=by omega
   rw[hby i hi2]at hb;rw[hby j hj2];have h5:=HL hk (show a+i<a+j by omega) hj2;have h6:=Ul _ (SU hj2);have UY:=of_decide_eq_true hb;exact Tv (by omega)
 have hs:=rk hmono (b.atoms.length-a) 0 (b.atoms.length-a) (by omega) (by omega) (SD _) (λx hx=>by omega) (λh=>by omega);have hsr:lN (ic b.atoms s kept shift body) (b.atoms.length-a) 0 (b.atoms.length-a)=BQ (ic b.atoms s kept shift body) (b.atoms.length-a):=rfl;rw[hsr]at hs;obtain⟨g1,g2,g3⟩:=hs;refine⟨a+BQ (ic b.atoms s kept shift body) (b.atoms.length-a),?_,by omega,by omega,λk h hak hkr=>?_,λh=>?_⟩
 .rw[nA,aI Yw,ha,gM];rfl
 .have hka:a<=k:=by omega
  have:=g1 (k-a) (by omega);rw[hby (k-a) (by omega)]at this;have h5:=of_decide_eq_false this;rw[Wr k h hka];have e:a+(k-a)=k:=by omega
  simp only[e]at h5;omega
 .have:=g2 (by omega);rw[hby _ h]at this;have h5:=of_decide_eq_true this;rw[Wr _ h (by omega)];omega
def mr{l:List Nd}{a:Nat}:∀(k:Nat) (x:Int),x∈dL l a k->ct l x a=true
 |0,_,h=>by simp[dL]at h
 |k+1,x,h=>by
  rw[dL]at h;split at h
  .rename_i hk;rcases ew.1 h with rfl|h
   .exact hk
   .exact mr k x h
  .exact mr k x h
def Fx(l:List Nd)(of:List Int)(k:Nat):0<=ej l of k 3/\ej l of k 3<=7:=by
 simp only[ej,Bg];cases lf l of k 0<;>cases lf l of k 1<;>cases lf l of k 2<;>simp
def yS:∀(all:List Int),da all=0\/2<=da all/\da all<=4:=by
 have key:∀(all:List Int) (o:Int),(o=0\/2<=o/\o<=4)->(all.foldl ki o=0\/2<=all.foldl ki o/\all.foldl ki o<=4):=by
  intro all
  induction all with
  |nil=>intro o h;exact h
  |cons x all ih=>
   intro o h;rw[jW];refine ih _ ?_;unfold ki mQ
   (repeat' split)<;>omega
 exact λall=>key all 0 (.inl rfl)
def I0{l:List Nd}(hb:SA l=true){of:List Int}(SR:∀x∈of,0<=x/\x<l.length):E8 (pD l of)=true:=by
 have hlen:(pD l of).length=of.length+1:=by simp[pD]
 simp only[E8,Ba,gj,List.mem_range,US];refine⟨λk hk=>?_,by omega⟩;rw[hlen]at hk;have hg:UR (pD l of) k=Vx l of k:=by simp[UR,pD,hk]
 unfold xL;rw[hg,hlen];refine Tv ?_;have TR:0<k->k<of.length->of.getD k 0=of.getD (k-1) 0->ja l of k=0:=λh0 h1 he=>by
  have Tt:of.getD k 0=of[k]:=by simp[h1]
  have hr:=SR _ (SU h1);have hh:∀x∈XH l (of.getD k 0).toNat,X9 l of x k=true/\X9 l of x ((k:Int)-1)=true:=λx hx=>by
   rw[Tt]at hx;have u':of[k].toNat<l.length:=by omega
   rw[BV hb u']at hx;have SE:=mr _ _ hx;rw[iR]at SE;have e1:((k:Int)-1).toNat=k-1:=by omega
   have e2:((k:Int)).toNat=k:=by omega
   have e3:(of[k].toNat:Int)=of[k]:=by omega
   rw[e3]at SE;unfold X9 uF;rw[aI (by omega),aI (by omega),e1,e2,<-he,Tt];exact⟨Tv ⟨SE.2.2.1,SE.2.2.2⟩,Tv ⟨SE.2.2.1,SE.2.2.2⟩⟩
  have e1:((k:Int)-1).toNat=k-1:=by omega
  have e2:((k:Int)).toNat=k:=by omega
  have he1:Wy l of ((k:Int)-1) (λb=>!X9 l of b k)=[]:=by
   unfold Wy;rw[aI (by omega),e1,<-he,List.filter_eq_nil_iff];intro x hx;rw[(hh x hx).1];simp
  have he2:Wy l of k (λb=>!X9 l of b ((k:Int)-1))=[]:=by
   unfold Wy;rw[aI (by omega),e2,List.filter_eq_nil_iff];intro x hx;rw[(hh x hx).2];simp
  unfold ja iu;rw[aK (by omega),cE,he1,he2];rfl
 have Zh:k=of.length->ja l of k=0:=λh=>by
  unfold ja iu;rw[aI h];rfl
 have hfv:=yS (iu l of k);have hbr:=Fx l of k;change ja l of k=0\/2<=ja l of k/\ja l of k<=4 at hfv;unfold uI Vx;simp only[US,decide_eq_false_iff_not];unfold dC mJ;by_cases h0:k=0
 .rw[aI h0,aI (show k=0\/k=of.length from .inl h0)];refine⟨λ_=>rfl,λh=>absurd (by omega) h,λh=>absurd (by omega) h,?_,.inl (by split<;>rfl)⟩;rcases hfv with h|h
  .exact .inl h
  .exact .inr ⟨h.1,h.2,by omega,by omega⟩
 .rw[aK h0];by_cases h1:k=of.length
  .rw[aI h1,aI (show k=0\/k=of.length from .inr h1)];exact⟨λh=>absurd h (by omega),λ_ _=>rfl,λ_ h=>absurd (by omega) h,.inl (Zh h1),.inl (by split<;>rfl)⟩
  .rw[aK h1,aK (show¬(k=0\/k=of.length) by omega)];by_cases h2:of.getD k 0=of.getD (k-1) 0
   .rw[aI h2];have hf:=TR (by omega) (by omega) h2;refine⟨λh=>absurd h (by omega),λ_ h=>absurd h (by omega),λ_ _=>.inr rfl,.inl hf,?_⟩;rw[aI hf];rcases Int.lt_or_le 0 (ej l of k 3)with h|h
    .exact .inr ⟨.inr rfl,hf,h,by omega⟩
    .exact .inl (by omega)
   .rw[aK h2];refine⟨λh=>absurd h (by omega),λ_ h=>absurd h (by omega),λ_ _=>.inl rfl,?_,?_⟩
    .rcases hfv with h|h
     .exact .inl h
     .exact .inr ⟨h.1,h.2,by omega,by omega⟩
    .by_cases hf:ja l of k=0
     .rw[aI hf];rcases Int.lt_or_le 0 (ej l of k 3)with h|h
      .exact .inr ⟨.inl rfl,hf,h,by omega⟩
      .exact .inl (by omega)
     .rw[aK hf];exact .inl rfl
def o5:∀(xs:List Fd) (d:Fd),(iI gi xs d=(d,false)/\∀x∈xs,x.b.forced=0)\/∃L x R,xs=L++x::R/\(∀y∈L,y.b.forced=0)/\x.b.forced≠0/\iI gi xs d=(x,true)
 |[],d=>.inl ⟨rfl,λx h=>(by cases h)⟩
 |a::xs,d=>by
  have stay:∀(l:List Fd) (x:Fd),l.foldl (kO gi) (x,true)=(x,true):=by
   intro l
   induction l with
   |nil=>intro x;rfl
   |cons y l ih=>intro x;rw[jW];exact ih x
  by_cases h:a.b.forced=0
  .have e:iI gi (a::xs) d=iI gi xs d:=by
    unfold iI;rw[jW,kO,gi];simp[h]
   rw[e];rcases o5 xs d with⟨h1,h2⟩|⟨L,x,R,h1,h2,h3,h4⟩
   .exact .inl ⟨h1,λx hx=>(ew.1 hx).elim (λe=>e▸h) (h2 x)⟩
   .exact .inr ⟨a::L,x,R,by rw[h1];rfl,λy hy=>(ew.1 hy).elim (λe=>e▸h) (h2 y),h3,h4⟩
  .refine .inr ⟨[],a,xs,rfl,λy hy=>(by cases hy),h,?_⟩;unfold iI;rw[jW,kO,gi];simp only[h,Bool.not_false,ne_eq,not_false_eq_true,decide_true,Bool.and_self,if_true];exact stay xs a
structure dh(b:Bk):Prop extends BkFull b where
 UL:b.atoms.Pairwise λx y=>x.y+x.h<=y.y
 pos:∀a∈b.atoms,1<=a.h
 top:∀a∈b.atoms,0<=a.y
 mayb:E8 b.SJ=true
 fh:∀f∈b.V9,0<=f.h
 fy:∀f∈b.V9,0<=f.y
def ij{l:List Nd}(hl:dN l){w h:Int}(he:fm l w h=0):dh (bK l w h):=by
 obtain⟨hw,hh,hc⟩:=l9 he;obtain⟨Uz,hn,hwo,XR⟩:=mo hc;have hG:=uw Uz hn hw.1 hw.2;obtain⟨h1,h2⟩:=EC hl he;refine⟨h1,H3 Uz hn hw.1 hw.2,λa ha=>(hG.SI a ha).h0,λa ha=>(hG.SI a ha).y0,?_,h2,λf hf=>(hG.flo f hf).y0⟩;show E8 (pD l (Zw l w))=true;refine I0 Uz λx hx=>?_;unfold Zw at hx;obtain⟨a,ha,rfl⟩:=iE.1 hx;exact hG.nod a ha
def ZT(x:Nd):Int:=if x.kind=2 then x.line*x.words.length else if x.kind=3 then x.h else 0
def Xm(l:List Nd):Nat->Int
 |0=>0
 |i+1=>Xm l i+ZT (Sr l i)
def pn{x:Nd}(h:ZN x):0<=ZT x:=by
 have h1:=h.line.1;have h2:=h.h.1;unfold ZT;split
 .exact Int.mul_nonneg h1 (by omega)
 .split<;>omega
def Ax{l:List Nd}(hb:SA l=true){a:Nat}:∀n,a+n<=l.length->Xm l a<=Xm l (a+n)
 |0,_=>Int.le_refl _
 |n+1,h=>by
  have ih:=Ax (a:=a) hb n (by omega);have h1:ZN (Sr l (a+n)):=by rw[gS (show a+n<l.length by omega)];exact fA hb _
  have h2:=pn h1;rw[<-Nat.add_assoc,Xm];omega
def XN(l:List Tk):Int:=(l.map (·.h)).sum
def CN(l m:List Tk):XN (l++m)=XN l+XN m:=by unfold XN;rw[fw,List.sum_append]
def xW{l:List Nd}{rs:List Rm}(hD:ZP l rs):∀(k a e:Nat) (s:WS) (C:Nat),e-a<=k->a<=e->e<=l.length->bE l a e=true->fQ s C->XN s.atoms<=Xm l a->XN (cZ l rs k a e s).atoms<=Xm l e
 |0,a,e,s,C,hk,W9,_,_,_,h=>by
  obtain rfl:a=e:=by omega
  exact h
 |k+1,a,e,s,C,hk,W9,he,hr,h,hs=>by
  rw[cZ];by_cases u':a<e
  .rw[aI u'];obtain⟨h1,h2⟩:=cc he hr (SD a) u';obtain⟨h3,h4⟩:=cQ he hr u';have Sw:ZN (Sr l a):=by rw[gS (by omega)];exact fA hD.ZQ (by omega)
   have step:∀t,(∃D,fQ t D)->XN t.atoms<=Xm l (a+(R7 l a).toNat)->XN (cZ l rs k (a+(R7 l a).toNat) e t).atoms<=Xm l e:=λt ⟨D,ht⟩ hA=>
    xW hD k _ e t D (by omega) (by omega) he h3 ht hA
   have TJ:ZT (Sr l a)+XN s.atoms<=Xm l (a+1):=by rw[Xm];omega
   have one:Xm l (a+1)<=Xm l (a+(R7 l a).toNat):=by
    obtain⟨m,hm⟩:∃m,(R7 l a).toNat=1+m:=⟨(R7 l a).toNat-1,by omega⟩
    rw[hm,<-Nat.add_assoc];exact Ax hD.ZQ m (by omega)
   split
   .rename_i k1;have hz:ZT (Sr l a)=0:=by rw[ZT,aK (by omega),aK (by omega)]
    have hI2:=gT hD k (a+1) (a+(R7 l a).toNat) _ _ (by omega) (by omega) (by omega) h4 (fb h Sw.st);have hS2:=xW hD k (a+1) (a+(R7 l a).toNat) _ _ (by omega) (by omega) (by omega) h4 (fb h Sw.st) (show XN s.atoms<=_ by omega);exact step _ ⟨_,jF hI2 Sw.st⟩ hS2
   .split
    .rename_i k1 k2;refine step _ ⟨_,kA h Sw a⟩ (Int.le_trans ?_ one);have hp:=nE a (Sr l a).line (cM s.g' (Sr l a).words (Sr l a).space (Sr l a).line (eR rs a) (Sr l a).words.length 0 (s.P'.y+s.P'.m)) s;have hlen:=jJ s.g' (Sr l a).words (Sr l a).space (Sr l a).line (eR rs a) (Sr l a).words.length 0 (s.P'.y+s.P'.m);have e:(s.text rs a (Sr l a)).atoms=_:=hp;rw[e,CN];generalize cM s.g' (Sr l a).words (Sr l a).space (Sr l a).line (eR rs a) (Sr l a).words.length 0 (s.P'.y+s.P'.m)=L at*;have fI:XN (L.map (fv a (Sr l a).line))=(Sr l a).line*L.length:=by
      clear e hp hlen
      induction L with
      |nil=>simp[XN]
      |cons x L ih=>
       have:XN ((x::L).map (fv a (Sr l a).line))=(Sr l a).line+XN (L.map (fv a (Sr l a).line)):=rfl;rw[this,ih,Uf,Int.natCast_add,Int.mul_add];omega
     have hle:(Sr l a).line*(L.length:Int)<=(Sr l a).line*((Sr l a).words.length:Int):=Int.mul_le_mul_of_nonneg_left (by omega) Sw.line.1;have hz:ZT (Sr l a)=(Sr l a).line*((Sr l a).words.length:Int):=by rw[ZT,aI k2]
     omega
    .split
     .rename_i k1 k2 k3;refine step _ ⟨_,kC h Sw a⟩ (Int.le_trans ?_ one);have hz:ZT (Sr l a)=(Sr l a).h:=by rw[ZT,aK k2,aI k3]
      have e:(WS.mono l rs s a (Sr l a)).atoms=s.atoms++[⟨2,a,0,0,(bP s.g' (gu s.g' (Sr l a).w (Sr l a).h (eR rs a) (s.P'.y+s.P'.m)) (Sr l a).h (eR rs a)).a,gu s.g' (Sr l a).w (Sr l a).h (eR rs a) (s.P'.y+s.P'.m),(Sr l a).w,(Sr l a).h⟩]:=rfl;rw[e,CN];simp only[XN,ga,List.map_nil,List.sum_cons,List.sum_nil];simp only[XN]at TJ;omega
     .have k4:(Sr l a).kind=4:=by rename_i g1 g2 g3;rcases Sw.kind with h|h|h|h;exact absurd h g1;exact absurd h g2;exact absurd h g3;exact h
      have hz:=pn Sw;exact step _ ⟨_,jG hD h (by omega) Sw k4⟩ (show XN s.atoms<=_ by omega)
  .rw[aK u'];obtain rfl:a=e:=by omega
   exact hs
def Gk{l:List Nd}(hb:SA l=true)(hn:l.length<=2000){w:Int}(h1:1<=w)(h2:w<=1099511627776):XN (cS l w).atoms<=Xm l l.length:=by
 have hD:=nU hb hn h1 h2;have hr:bE l 0 l.length=true:=by simp only[SA,Ba]at hb;exact hb.2
 have hI:fQ ⟨[],[],0,⟨0,0⟩⟩ 0:=⟨⟨by simp,by simp,by simp,by simp,by simp⟩,by simp,by simp⟩
 exact xW hD l.length 0 l.length ⟨[],[],0,⟨0,0⟩⟩ 0 (by omega) (by omega) (SD _) hr hI (by simp[XN,Xm])
def Bs{l:List Nd}(hb:SA l=true){s:Sm}(hs:0<=s.M'/\s.M'<=1099511627777):∀i,i<=l.length->0<=(gd l s i).M'/\(gd l s i).M'<=1099511627777/\min (Xm l i) 1099511627777<=(gd l s i).M'
 |0,_=>⟨hs.1,hs.2,by simp only[Xm,gd];omega⟩
 |i+1,hi=>by
  obtain⟨h1,h2,h3⟩:=Bs hb hs i (by omega);have Sw:ZN (Sr l i):=by rw[gS (by omega)];exact fA hb (by omega)
  have hz:=pn Sw;have Sg:=Sw.st;rw[gd,Xm,V7 (by omega)];rw[gS (show i<l.length by omega)]at Sw hz Sg|-;simp only;unfold my;split
  .rename_i k1;have e:ZT l[i]=0:=by rw[ZT,aK (by omega),aK (by omega)]
   have g1:=Sg.top.1;have g2:=Sg.Sk.1;have g3:=Sg.R5.1;have g4:=Sg.O'.1;have g5:=Sg.head.1;simp only[jz];omega
  .split
   .rename_i k1 k2;have e:ZT l[i]=l[i].line*l[i].words.length:=by rw[ZT,aI k2]
    simp only;rw[tC ⟨h1,h2⟩ Sw.line.1];omega
   .rename_i k1 k2;have hh:=Sw.h.1;have e:ZT l[i]<=l[i].h:=by rw[ZT,aK k2];split<;>omega
    simp only[jz];omega
def vY{l:List Nd}(hb:SA l=true)(h:(gy l).1.M'<=1099511627776):Xm l l.length<=(gy l).1.M':=by
 unfold gy at h|-;rw[aI hb]at h|-;have:=(Bs hb (s:=⟨0,0,l.length,0⟩) ⟨Int.le_refl _,(by decide:(0:Int)<=1099511627777)⟩ l.length (SD _)).2.2;simp only at h|-;omega
def Cw{cnt:Nat->Nat}:∀{n a:Nat} {x:Int},x∈YP cnt a n->∃i:Nat,x=i/\a<=i/\i<a+n/\0<cnt i
 |0,a,x,h=>by rw[kM]at h;cases h
 |n+1,a,x,h=>by
  rw[jf]at h;rcases gl.1 h with h|h
  .obtain⟨h1,rfl⟩:=List.mem_replicate.1 h;exact⟨a,rfl,SD _,by omega,by omega⟩
  .obtain⟨i,h1,h2,h3,h4⟩:=Cw h;exact⟨i,h1,by omega,by omega,h4⟩
def AJ{l:List Nd}(hb:SA l=true)(hn:l.length<=2000){w:Int}(h1:1<=w)(h2:w<=1099511627776):∀a∈(cS l w).atoms,∃i:Nat,a.node=i/\i<l.length/\((Sr l i).kind=2\/(Sr l i).kind=3):=λa ha=>by
 have hD:=nU hb hn h1 h2;have hr:bE l 0 l.length=true:=by simp only[SA,Ba]at hb;exact hb.2
 have hI:fQ ⟨[],[],0,⟨0,0⟩⟩ 0:=⟨⟨by simp,by simp,by simp,by simp,by simp⟩,by simp,by simp⟩
 obtain⟨-,cnt,hc,YQ⟩:=tM hD l.length 0 l.length ⟨[],[],0,⟨0,0⟩⟩ 0 (by omega) (by omega) (SD _) hr hI (by simp);have hm:a.node∈(cZ l (cG l w) l.length 0 l.length ⟨[],[],0,⟨0,0⟩⟩).atoms.map (·.node):=iE.2 ⟨a,ha,rfl⟩;rw[hc]at hm;simp only[List.map_nil,lS]at hm;obtain⟨i,e,_,h3,h4⟩:=Cw hm;refine⟨i,e,by omega,?_⟩;have:=YQ i (Nat.zero_le _) (by omega);unfold okN at this;split at this
 .rename_i k;exact .inl k
 .split at this
  .rename_i k;exact .inr k
  .have:=of_decide_eq_true this;omega
def least_le{l:List Nd}{h:Int}:∀{n j:Nat},j<n->((Sr l j).kind=2\/(Sr l j).kind=3)->fU l h n<=(qj l j h).body
 |0,j,hj,_=>by omega
 |n+1,j,hj,hk=>by
  rw[fU];by_cases e:j=n
  .subst e;rw[aI hk];omega
  .have:=least_le (l:=l) (h:=h) (show j<n by omega) hk;split<;>omega
def rb{l:List Nd}{h:Int}(hh:1<=h):∀n,1<=fU l h n
 |0=>hh
 |n+1=>by
  have h1:=rb (l:=l) hh n;have h2:1<=(qj l n h).body:=qR hh _;rw[fU];split<;>omega
def CK{l:List Nd}{h:Int}(hb:SA l=true)(h1:1<=h)(h2:h<=1099511627776):gH l h=true:=by
 unfold gH;rw[hb];simp[h1,h2]
structure jQ(b:Bk)(L:Int):Prop where
 pos:1<=L
 body:∀s:R3,0<=s.atom->b.atoms≠[]->L<=(dK b s).body
 rest:jZ b 0<=L*32768
 na:b.atoms.length<=10000
 nf:b.V9.length<=10000
def I9{L:Int}(h1:1<=L):mulR L 32768<=L*32768:=by
 have e:dJ 32768=32768:=by decide
 have e2:(1099511627776:Int).tdiv (max 32768 (-32768))=33554432:=by decide
 unfold mulR;rw[e,e2];have hc:dJ L<=L/\0<=dJ L:=by unfold dJ;(repeat' split)<;>omega
 split
 .rename_i h;obtain⟨_,h|h⟩:=h
  .split<;>omega
  .exact absurd h (by have:(-1099511627776:Int).tdiv (max 32768 (-32768))=-33554432:=by decide
                      rw[this];omega)
 .have:=hc.1;omega
def vK{l:List Nd}{w h:Int}(he:fm l w h=0):jQ (bK l w h) (de l h):=by
 have he0:=he;obtain⟨hw,hh,hc⟩:=l9 he;obtain⟨Uz,hn,hwo,XR⟩:=mo hc;have hG:=uw Uz hn hw.1 hw.2;have hl1:=hG.len;have ZG:=hG.flen;have hm:=CK Uz hh.1 hh.2;have hL:de l h=fU l h l.length:=by rw[de,aI hm]
 have hp:1<=de l h:=by rw[hL];exact rb hh.1 _
 refine⟨hp,λs h0 Sh=>?_,?_,by show(cS l w).atoms.length<=_;omega,by show(cS l w).g'.length<=_;omega⟩
 .unfold dK;rw[aK Sh];have hlen:0<(bK l w h).atoms.length:=Bi.2 Sh;obtain⟨k,hk⟩:∃k:Nat,min s.atom (((bK l w h).atoms.length:Int)-1)=k:=⟨(min s.atom (((bK l w h).atoms.length:Int)-1)).toNat,by omega⟩
  have UG:k<(bK l w h).atoms.length:=by omega
  rw[hk,bx UG];obtain⟨i,e1,e2,e3⟩:=AJ Uz hn hw.1 hw.2 _ (SU (show k<(cS l w).atoms.length from UG));have e4:(bK l w h).atoms[k].node=i:=e1;rw[e4,wh,hL];have hm':gH (bK l w h).nodes (bK l w h).h=true:=hm;rw[aI ⟨hm',by omega,show((i:Nat):Int)<(l.length:Nat) by omega⟩,gM];exact least_le e2 e3
 .have h1:jZ (bK l w h) 0=XN (cS l w).atoms:=rfl;have h2:=Gk Uz hn hw.1 hw.2;have h3:(gy l).1.M'<=1099511627776:=by
   unfold eC at hc;rw[aI Uz]at hc;split at hc
   .cases hc
   .omega
  have h4:=vY Uz h3;have h5:¬(gy l).1.M'>mulR (de l h) 32768:=λh=>by
   unfold fm at he0;rw[aK (λg=>g ⟨hw,hh⟩),aK (λg=>g hc),aI h]at he0;cases he0
  have h6:=I9 hp;omega
open Go.Proofs
def wU(b:Bk)(hb:BkFull b):aX prog 54 [.rp (cX b)] (dv b.SJ):=λU=>
 (DY b hb U).x9 λ_ _ h=>h.2.nG h.1 rfl
open Go.Proofs
def aP.Ko{K U:al}{N:Nat->Prop}{e sz:Nat}{v:V}{rows rows':List V}(h:aP K U e sz v rows)(hN:∀id,K id=none->N id)(hr:Ub U N rows rows'):Fz U N v (.sl sz rows'):=by
 rcases h with⟨rfl,rfl⟩|⟨id,rfl,ho,hk⟩
 .cases hr;exact .nil sz
 .exact .own id 0 rows.length ⟨e,sz,rows⟩ rows' ho (hN id hk) (by simp) (by rw[Gg,iC];exact hr)
structure Ue where
 R4:Int
 Sy:Int
deriving DecidableEq
def Ue.lt(a b:Ue):Prop:=a.R4<b.R4\/a.R4=b.R4/\a.Sy<b.Sy
instance (a b:Ue):Decidable (a.lt b):=by unfold Ue.lt;infer_instance
def Ue.on(a:Ue)(r:Int):Ue:=⟨a.R4+1,a.Sy+r⟩
section
variable {S:Type} (next:S->List S) (fin:S->Prop) [DecidablePred fin] (rank:S->Int) (dflt:S)
def lQ:List (Ue×S)->Option (Ue×S)->Option (Ue×S)
 |[],o=>o
 |x::r,none=>lQ r (some x)
 |x::r,some y=>lQ r (if x.1.lt y.1 then some x else some y)
def gw:Nat->S->Ue×S
 |0,_=>(⟨0,0⟩,dflt)
 |f+1,s=>if fin s then(⟨0,0⟩,dflt)else(lQ ((next s).map λt=>(((gw f t).1).on (rank t),t)) none).getD (⟨0,0⟩,dflt)
def rq{S:Type}:∀(L:List (Ue×S)) (y:Ue×S),∃z,lQ L (some y)=some z/\(z=y/\(∀x∈L,¬x.1.lt y.1)\/∃A B,L=A++z::B/\z.1.lt y.1/\(∀x∈A,z.1.lt x.1)/\∀x∈B,¬x.1.lt z.1)
 |[],y=>⟨y,rfl,.inl ⟨rfl,λx h=>by cases h⟩⟩
 |x::r,y=>by
  rw[lQ];by_cases hx:x.1.lt y.1
  .rw[aI hx];obtain⟨z,h1,h2⟩:=rq r x;refine⟨z,h1,.inr ?_⟩;rcases h2 with⟨rfl,h⟩|⟨A,B,rfl,h3,h4,h5⟩
   .exact⟨[],r,rfl,hx,(λw hw=>by cases hw),h⟩
   .refine⟨x::A,B,rfl,by unfold Ue.lt at*;omega,λw hw=>?_,h5⟩;rcases ew.1 hw with rfl|hw
    .exact h3
    .exact h4 w hw
  .rw[aK hx];obtain⟨z,h1,h2⟩:=rq r y;refine⟨z,h1,?_⟩;rcases h2 with⟨rfl,h⟩|⟨A,B,rfl,h3,h4,h5⟩
   .exact .inl ⟨rfl,λw hw=>(ew.1 hw).elim (λe=>e▸hx) (h w)⟩
   .refine .inr ⟨x::A,B,rfl,h3,λw hw=>?_,h5⟩;rcases ew.1 hw with rfl|hw
    .unfold Ue.lt at*;omega
    .exact h4 w hw
def B7{S:Type}{L:List (Ue×S)}(h:L≠[]):∃z A B,lQ L none=some z/\L=A++z::B/\(∀x∈A,z.1.lt x.1)/\∀x∈B,¬x.1.lt z.1:=by
 cases L with
 |nil=>exact absurd rfl h
 |cons x r=>
  obtain⟨z,h1,h2⟩:=rq r x;rw[lQ];rcases h2 with⟨rfl,h⟩|⟨A,B,rfl,h3,h4,h5⟩
  .exact⟨z,[],r,h1,rfl,(λw hw=>by cases hw),h⟩
  .refine⟨z,x::A,B,h1,rfl,λw hw=>?_,h5⟩;rcases ew.1 hw with rfl|hw
   .exact h3
   .exact h4 w hw
def xI:S->List S->Prop
 |s,[]=>fin s
 |s,t::r=>¬fin s/\t∈next s/\xI t r
def pM:List S->Ue
 |[]=>⟨0,0⟩
 |t::r=>(pM r).on (rank t)
structure Jl(V:S->Prop)(I:S->Nat)(key:S->Int):Prop where
 ne:∀s,V s->¬fin s->next s≠[]
 on:∀s,V s->¬fin s->∀t∈next s,V t/\I t<I s
 key:∀s,V s->¬fin s->(next s).Pairwise λa b=>key b<key a
variable {next fin rank dflt} {V:S->Prop} {I:S->Nat} {key:S->Int}
def rm(h:Jl next fin V I key):∀(f g:Nat) (s:S),V s->I s<f->I s<g->gw next fin rank dflt f s=gw next fin rank dflt g s
 |0,_,_,_,h1,_=>by omega
 |_+1,0,_,_,_,h2=>by omega
 |f+1,g+1,s,hv,h1,h2=>by
  rw[gw,gw];split
  .rfl
  .rename_i hf;congr 2;refine List.map_congr_left λt ht=>?_;obtain⟨v,m⟩:=h.on s hv hf t ht;rw[rm h f g t v (by omega) (by omega)]
def wI(h:Jl next fin V I key){F:Nat}{s:S}(hv:V s)(hF:I s<F)(hf:¬fin s):
 ∃A t B,next s=A++t::B/\gw next fin rank dflt F s=((gw next fin rank dflt F t).1.on (rank t),t)/\(∀x∈A,((gw next fin rank dflt F t).1.on (rank t)).lt ((gw next fin rank dflt F x).1.on (rank x)))/\∀x∈B,¬((gw next fin rank dflt F x).1.on (rank x)).lt ((gw next fin rank dflt F t).1.on (rank t)):=by
 have e:gw next fin rank dflt F s=(lQ ((next s).map λt=>(((gw next fin rank dflt F t).1).on (rank t),t)) none).getD (⟨0,0⟩,dflt):=by
  obtain⟨f,rfl⟩:∃f,F=f+1:=⟨F-1,by omega⟩
  rw[gw,aK hf];congr 2;refine List.map_congr_left λt ht=>?_;obtain⟨v,m⟩:=h.on s hv hf t ht;rw[rm h f (f+1) t v (by omega) (by omega)]
 obtain⟨z,A,B,h1,h2,h3,h4⟩:=B7 (L:=(next s).map λt=>(((gw next fin rank dflt F t).1).on (rank t),t)) (by simpa using h.ne s hv hf);obtain⟨A',R,e1,e2,e3⟩:=List.map_eq_append_iff.1 h2;obtain⟨t,B',e4,e5,e6⟩:=List.map_eq_cons_iff.1 e3;subst e2 e5 e6;refine⟨A',t,B',by rw[e1,e4],by rw[e,h1];rfl,λx hx=>h3 _ (List.mem_map_of_mem hx),λx hx=>h4 _ (List.mem_map_of_mem hx)⟩
def sD(next:S->List S)(fin:S->Prop)[DecidablePred fin](rank:S->Int)(dflt:S)(F:Nat):Nat->S->List S
 |0,_=>[]
 |f+1,s=>if fin s then[]else(gw next fin rank dflt F s).2::sD next fin rank dflt F f (gw next fin rank dflt F s).2
def xG(h:Jl next fin V I key){F:Nat}:∀(f:Nat) (s:S),V s->I s<f->I s<F->xI next fin s (sD next fin rank dflt F f s)/\pM rank (sD next fin rank dflt F f s)=(gw next fin rank dflt F s).1
 |0,s,hv,hf,hF=>by omega
 |f+1,s,hv,hf,hF=>by
  rw[sD];by_cases he:fin s
  .rw[aI he];obtain⟨g,rfl⟩:∃g,F=g+1:=⟨F-1,by omega⟩
   refine⟨he,?_⟩;rw[gw,aI he];rfl
  .rw[aK he];obtain⟨A,z,B,e1,e2,e3,e4⟩:=wI (rank:=rank) (dflt:=dflt) h hv hF he;have hz:z∈next s:=by rw[e1];simp
   obtain⟨v,m⟩:=h.on s hv he z hz;have e5:(gw next fin rank dflt F s).2=z:=by rw[e2]
   rw[e5];obtain⟨i1,i2⟩:=xG (F:=F) h f z v (by omega) (by omega);exact⟨⟨he,hz,i1⟩,by rw[pM,i2,e2]⟩
end
def cu(b:Bk)(s:R3):Int:=nA b.atoms s (iz b.atoms s (dK b s).body) 0 (dK b s).body
def ku(b:Bk)(k:Nat):R3:=⟨k,0,decide ((UR b.SJ k).forced≠0)⟩
def bo(b:Bk)(s:R3):List R3:=
 if cu b s<=s.atom then[fS b.atoms s (dK b s).body]
 else if fH b.SJ (s.atom+1) (cu b s)>=0 then[ku b (fH b.SJ (s.atom+1) (cu b s)).toNat]
 else(List.range (cu b s-s.atom).toNat).map λi=>ku b ((cu b s).toNat-i)
def bZ(b:Bk)(s:R3):Prop:=s.atom>=b.atoms.length
instance (b:Bk):DecidablePred (bZ b):=λs=>by unfold bZ;infer_instance
def gz(b:Bk)(s:R3):Prop:=dc b.atoms s\/s.atom=b.atoms.length/\s.done=0
def YS(b:Bk)(s:R3):Nat:=((b.atoms.length-s.atom)*1152921504606846976+(1152921504606846976-s.done)).toNat
def oF{b:List U4}{i fit:Int}(h0:0<=i)(hf:fit<=(b.length:Int)-1)(h:fH b (i+1) fit>=0):i<fH b (i+1) fit/\fH b (i+1) fit<=fit:=by
 unfold fH at*;rcases o5 ((btw b (i+1) fit).map (p7 b)) xM with⟨e,-⟩|⟨L,x,R,e1,-,-,e4⟩
 .rw[e]at h;simp[xM]at h
 .rw[e4]at h|-;have hx:x∈(btw b (i+1) fit).map (p7 b):=by rw[e1];simp
  obtain⟨k,hk,rfl⟩:=iE.1 hx;unfold btw uv at hk;have:=List.mem_range'_1.1 hk;show i<((k:Nat):Int)/\((k:Nat):Int)<=fit;omega
def dF{b:Bk}(hb:dh b):Jl (bo b) (bZ b) (gz b) (YS b) (·.atom):=by
 have hlen:=hb.brk;have hH:∀s:R3,dc b.atoms s->(Vm b.atoms s.atom).h<=18014398509481984/\0<(Vm b.atoms s.atom).h:=λs hm=>by
  obtain⟨k',TP⟩:∃k':Nat,s.atom=k':=⟨s.atom.toNat,by have:=hm.1;omega⟩
  have UG:k'<b.atoms.length:=by have:=hm.1;omega
  rw[TP,bx UG];exact⟨(hb.tight _ (SU UG)).2.2.2,by have:=hb.pos _ (SU UG);omega⟩
 have hmf:∀s,gz b s->¬bZ b s->dc b.atoms s:=λs hv hf=>hv.resolve_right λg=>hf (by unfold bZ;omega);have XB:∀(s:R3) (k:Nat),dc b.atoms s->s.atom<k->k<=b.atoms.length->gz b (ku b k)/\YS b (ku b k)<YS b s:=λs k hm h1 h2=>by
  have hd:=hH s hm;have hm2:=hm.2;have YW:=hm.1;constructor
  .unfold gz ku dc;simp only;rcases Nat.lt_or_ge k b.atoms.length with h|h
   .left;exact⟨⟨by omega,by omega⟩,Int.le_refl _,.inl trivial⟩
   .right;exact⟨by omega,trivial⟩
  .unfold YS ku;simp only;omega
 have W2:∀(s:R3),dc b.atoms s->gz b (fS b.atoms s (dK b s).body)/\YS b (fS b.atoms s (dK b s).body)<YS b s:=λs hm=>by
  have hd:=hH s hm;have hbd:=xj hb.toBkFull s hm.1.1;have hm2:=hm.2;have YW:=hm.1;unfold fS;rw[aI (show AF b.atoms s (dK b s).body from⟨hm,hbd⟩)];have e1:(eU b.atoms s (dK b s).body).atom=s.atom:=rfl;have e2:(eU b.atoms s (dK b s).body).fr=s.done:=rfl;have e3:(eU b.atoms s (dK b s).body).h=min ((Vm b.atoms s.atom).h-s.done) (dK b s).body:=rfl;unfold jS;rw[e1,e2,e3];split
  .rename_i u';constructor
   .left;refine⟨YW,?_,.inr u'⟩;show 0<=s.done+min ((Vm b.atoms s.atom).h-s.done) (dK b s).body;omega
   .unfold YS;simp only;omega
  .constructor
   .unfold gz dc;simp only;rcases Int.lt_or_le (s.atom+1) b.atoms.length with h|h
    .left;exact⟨⟨by omega,h⟩,Int.le_refl _,.inl trivial⟩
    .right;exact⟨by omega,trivial⟩
   .unfold YS;simp only;omega
 have hre:∀s,dc b.atoms s->cu b s<=b.atoms.length:=λs hm=>by
  obtain⟨u,u1,-,u3,-⟩:=mv hb.UL hb.pos hm (iz b.atoms s (dK b s).body) 0 (dK b s).body;unfold cu;rw[u1];omega
 refine⟨λs hv hf=>?_,λs hv hf t ht=>?_,λs hv hf=>?_⟩
 .unfold bo;split
  .simp
  .split
   .simp
   .rename_i h1 h2;have:=(hmf s hv hf).1;intro e;have:=congrArg List.length e;simp at this;omega
 .have hm:=hmf s hv hf;have hr:=hre s hm;have YW:=hm.1;unfold bo at ht;split at ht
  .rw[kc.1 ht];exact W2 s hm
  .split at ht
   .rename_i h1 h2;have:=oF YW.1 (by omega) h2;rw[kc.1 ht];exact XB s _ hm (by omega) (by omega)
   .rename_i h1 h2;obtain⟨i,hi,rfl⟩:=iE.1 ht;have:=List.mem_range.1 hi;exact XB s _ hm (by omega) (by omega)
 .have hm:=hmf s hv hf;have YW:=hm.1;unfold bo;split
  .simp
  .split
   .simp
   .rw[List.pairwise_map];refine List.Pairwise.imp_of_mem ?_ (List.pairwise_lt_range (n:=(cu b s-s.atom).toNat));intro i j hi hj XY;have:=List.mem_range.1 hi;have:=List.mem_range.1 hj;show(((cu b s).toNat-j:Nat):Int)<(((cu b s).toNat-i:Nat):Int);omega
instance:DecidableEq R3:=λa b=>decidable_of_iff (a.atom=b.atom/\a.done=b.done/\a.free=b.free) (by cases a;cases b;simp)
def cH(b:Bk)(t:R3):Int:=if t.done>0 then 0 else(UR b.SJ t.atom.toNat).rank
def gA(b:Bk):R3->Ue->List R3->Option Ue
 |a,c,[]=>if c.R4=0 then(if(b.atoms.length:Int)=0 then some ⟨0,0⟩else none)else if(bo b a).any (λt=>decide (bZ b t))then some c else none
 |a,c,s::r=>if bZ b a\/bZ b s\/s≠a/\c.R4=0 then none
  else if c.R4>0 then(if s∈bo b a then gA b s ⟨c.R4+1,c.Sy+cH b s⟩ r else none)else gA b s ⟨c.R4+1,c.Sy⟩ r
def ji(b:Bk)(l:List R3):Option Ue:=gA b ⟨0,0,true⟩ ⟨0,0⟩ l
def vM(rank:R3->Int):∀P:List R3,(pM rank P).R4=P.length
 |[]=>rfl
 |t::r=>by simp only[pM,Ue.on,vM rank r,Uf];omega
def l7(b:Bk)(on:R3->R3):Nat->R3->List R3
 |0,_=>[]
 |f+1,s=>if bZ b s then[]else s::l7 b on f (on s)
def onK(b:Bk)(on:R3->R3):Nat->R3->List R3
 |0,_=>[]
 |f+1,s=>if bZ b s then[]else on s::onK b on f (on s)
def Df{b:Bk}(hb:dh b){on:R3->R3}(SY:∀s,gz b s->¬bZ b s->on s∈bo b s):∀(f:Nat) (s:R3),gz b s->YS b s<f->xI (bo b) (bZ b) s (onK b on f s)/\l7 b on f s=(s::onK b on f s).dropLast
 |0,s,_,h=>by omega
 |f+1,s,hv,h=>by
  rw[onK,l7];by_cases hf:bZ b s
  .rw[aI hf,aI hf];exact⟨hf,rfl⟩
  .rw[aK hf,aK hf];obtain⟨v,m⟩:=(dF hb).on s hv hf _ (SY s hv hf);obtain⟨i1,i2⟩:=Df hb SY f (on s) v (by omega);exact⟨⟨hf,SY s hv hf,i1⟩,by rw[i2,List.dropLast_cons₂]⟩
def te(rank:R3->Int):List R3->R3->R3
 |[],m=>m
 |x::r,m=>te rank r (if rank x<rank m then x else m)
def A9(rank:R3->Int):∀(L:List R3) (m:R3),te rank L m=m\/te rank L m∈L
 |[],m=>.inl rfl
 |x::r,m=>by
  rw[te];rcases A9 rank r (if rank x<rank m then x else m)with h|h
  .rw[h];split
   .exact .inr (by simp)
   .exact .inl rfl
  .exact .inr (by simp[h])
def j6(b:Bk)(s:R3):R3:=match bo b s with
 |[]=>⟨0,0,false⟩
 |x::r=>te (cH b) r x
def BT{b:Bk}(hb:dh b)(s:R3)(hv:gz b s)(hf:¬bZ b s):j6 b s∈bo b s:=by
 have hn:=(dF hb).ne s hv hf;unfold j6;cases h:bo b s with
 |nil=>exact absurd h hn
 |cons x r=>
  simp only;rcases A9 (cH b) r x with g|g
  .rw[g];simp
  .simp[g]
def jK(b:Bk)(hb:dh b):gz b ⟨0,0,true⟩:=by
 unfold gz dc;simp only;by_cases h:0<b.atoms.length
 .left;exact⟨⟨Int.le_refl _,by omega⟩,Int.le_refl _,.inl trivial⟩
 .right;exact⟨by omega,trivial⟩
def jj:Nat:=2000000000000000000000000000
def Bz{b:Bk}(hb:dh b):YS b ⟨0,0,true⟩<jj:=by
 have:=hb.len;unfold YS jj;simp only;omega
def eF(b:Bk)(s:R3):Ue×R3:=gw (bo b) (bZ b) (cH b) ⟨0,0,false⟩ jj s
def CT(b:Bk):List R3:=l7 b (λs=>(eF b s).2) jj ⟨0,0,true⟩
def lu(b:Bk):List R3:=l7 b (j6 b) jj ⟨0,0,true⟩
def pF{b:Bk}(Ul:∀a∈b.atoms,1<=a.h):∀(n k:Nat),k+n<=b.atoms.length->jZ b (k+n)<=jZ b k
 |0,k,_=>Int.le_refl _
 |n+1,k,h=>by
  have h1:=mG (b:=b) (show k+n<b.atoms.length by omega);have h2:=Ul _ (SU (show k+n<b.atoms.length by omega));have h3:=pF Ul n k (by omega);rw[show k+(n+1)=k+n+1 by omega];omega
def kJ(b:Bk)(L:Int)(s:R3):Int:=(b.atoms.length-s.atom)*L+jZ b s.atom.toNat-s.done
def zg{b:Bk}(hb:dh b){L:Int}(hL:jQ b L){s t:R3}(hv:gz b s)(hf:¬bZ b s)(ht:t∈bo b s):kJ b L t+L<=kJ b L s:=by
 have hm:dc b.atoms s:=hv.resolve_right λg=>hf (by unfold bZ;omega);have YW:=hm.1;have hm2:=hm.2;have hL1:=hL.pos;have Sh:b.atoms≠[]:=λh=>by rw[h]at YW;simp at YW;omega
 have hbd:=hL.body s YW.1 Sh;obtain⟨k,hk⟩:∃k:Nat,s.atom=k:=⟨s.atom.toNat,by omega⟩
 have UG:k<b.atoms.length:=by omega
 have Sg:=mG UG;have hph:=hb.pos _ (SU UG);have hg:(Vm b.atoms s.atom).h=b.atoms[k].h:=by rw[hk,bx UG]
 have XB:∀c:Nat,s.atom<c->c<=b.atoms.length->kJ b L (ku b c)+L<=kJ b L s:=λc h1 h2=>by
  have h3:=pF hb.pos (c-(k+1)) (k+1) (by omega);rw[show k+1+(c-(k+1))=c by omega]at h3;have h4:((b.atoms.length:Int)-c)*L+L<=(b.atoms.length-s.atom)*L:=by
   have:((b.atoms.length:Int)-c)*L+L=(b.atoms.length-c+1)*L:=by rw[Int.add_mul,Int.one_mul]
   rw[this];exact Int.mul_le_mul_of_nonneg_right (by omega) (by omega)
  unfold kJ ku;simp only;rw[show((c:Int)).toNat=c by omega,show s.atom.toNat=k by omega];omega
 have hre:cu b s<=b.atoms.length:=by
  obtain⟨u,u1,-,u3,-⟩:=mv hb.UL hb.pos hm (iz b.atoms s (dK b s).body) 0 (dK b s).body;unfold cu;rw[u1];omega
 have hlen:=hb.brk;unfold bo at ht;split at ht
 .rw[kc.1 ht];unfold fS;rw[aI (show AF b.atoms s (dK b s).body from⟨hm,by omega⟩)];have e1:(eU b.atoms s (dK b s).body).atom=s.atom:=rfl;have e2:(eU b.atoms s (dK b s).body).fr=s.done:=rfl;have e3:(eU b.atoms s (dK b s).body).h=min ((Vm b.atoms s.atom).h-s.done) (dK b s).body:=rfl;unfold jS;rw[e1,e2,e3];split
  .unfold kJ;simp only;omega
  .have:=XB (k+1) (by omega) (by omega);unfold kJ ku at this;unfold kJ;simp only at this|-;rw[show(((k+1:Nat):Int)).toNat=k+1 by omega]at this;rw[show(s.atom+1).toNat=k+1 by omega,show s.atom+1=((k+1:Nat):Int) by omega];exact this
 .split at ht
  .rename_i h1 h2;have:=oF YW.1 (by omega) h2;rw[kc.1 ht];exact XB _ (by omega) (by omega)
  .rename_i h1 h2;obtain⟨i,hi,rfl⟩:=iE.1 ht;have:=List.mem_range.1 hi;exact XB _ (by omega) (by omega)
def vC{b:Bk}(hb:dh b){L:Int}(hL:jQ b L):∀(P:List R3) (s:R3),gz b s->xI (bo b) (bZ b) s P->(P.length:Int)*L<=kJ b L s
 |[],s,hv,hp=>by
  have hL1:=hL.pos;have h0:0<=kJ b L s:=by
   have hf:s.atom>=b.atoms.length:=hp;rcases hv with h|h
   .have:=h.1;omega
   .unfold kJ;rw[h.1,h.2,Int.sub_self,Int.zero_mul];have:=mI hb.pos (b:=b) b.atoms.length;rw[show((b.atoms.length:Int)).toNat=b.atoms.length by omega];omega
  simpa using h0
 |t::r,s,hv,⟨hf,ht,hp⟩=>by
  have hg:=(dF hb).on s hv hf t ht;have ih:=vC hb hL r t hg.1 hp;have hs:=zg hb hL hv hf ht;have:((t::r).length:Int)*L=r.length*L+L:=by
   rw[Uf,show(((r.length+1:Nat)):Int)=(r.length:Int)+1 by omega,Int.add_mul,Int.one_mul]
  omega
def B8{b:Bk}(hb:dh b){L:Int}(hL:jQ b L){s:R3}(hv:gz b s):0<=kJ b L s:=by
 have hL1:=hL.pos;have hr:=mI hb.pos (b:=b);rcases hv with h|h
 .have h1:=h.1;have h2:=h.2;obtain⟨k,hk⟩:∃k:Nat,s.atom=k:=⟨s.atom.toNat,by omega⟩
  have UG:k<b.atoms.length:=by omega
  have Sg:=mG UG;have hnn:=hr (k+1);have hg:(Vm b.atoms s.atom).h=b.atoms[k].h:=by rw[hk,bx UG]
  have hph:=hb.pos _ (SU UG);have hm:0<=((b.atoms.length:Int)-s.atom)*L:=Int.mul_nonneg (by omega) (by omega);unfold kJ;rw[show s.atom.toNat=k by omega];omega
 .unfold kJ;rw[h.1,h.2,Int.sub_self,Int.zero_mul];have:=hr b.atoms.length;rw[show((b.atoms.length:Int)).toNat=b.atoms.length by omega];omega
def okP(b:Bk)(s:R3):Prop:=s.free=true->s.done=0/\(s.atom=0\/(UR b.SJ s.atom.toNat).forced≠0)
def oc(l:List Nd):Nat:=(l.map λx=>x.words.length).sum
def nF{b:Bk}(hb:dh b)(t:R3):0<=cH b t/\cH b t<=7:=by
 have hm:=hb.mayb;unfold E8 at hm;rw[Ba,gj]at hm;unfold cH;split
 .omega
 .rcases Nat.lt_or_ge t.atom.toNat b.SJ.length with h|h
  .have h:=hm.1 t.atom.toNat (List.mem_range.2 h);unfold xL at h;rw[US]at h;unfold uI at h;obtain⟨-,-,-,-,h5⟩:=h;omega
  .have e:UR b.SJ t.atom.toNat=⟨0,0,0⟩:=by unfold UR;rw[yd,tm h];rfl
   rw[e];simp
def vW{S:Type}{rank:S->Int}(h:∀t,0<=rank t/\rank t<=7):∀P:List S,0<=(pM rank P).Sy/\(pM rank P).Sy<=7*P.length
 |[]=>by simp[pM]
 |t::r=>by
  have h1:=vW h r;have h2:=h t;simp only[pM,Ue.on,Uf];omega
def tN{b:Bk}(hb:dh b){s:R3}(hv:gz b s):YS b s<jj:=by
 have:=hb.len;have h0:0<=s.done/\0<=s.atom:=by
  rcases hv with h|h
  .exact⟨h.2.1,h.1.1⟩
  .omega
 unfold YS jj;omega
def FB{b:Bk}(hb:dh b){L:Int}(hL:jQ b L){s:R3}(hv:gz b s):
 0<=(eF b s).1.R4/\(eF b s).1.R4<=100000/\0<=(eF b s).1.Sy/\(eF b s).1.Sy<=700000:=by
 have hg:=xG (rank:=cH b) (dflt:=(⟨0,0,false⟩:R3)) (dF hb) (F:=jj) jj s hv (tN hb hv) (tN hb hv);obtain⟨h1,h2⟩:=hg;have h3:=vC hb hL _ _ hv h1;have h4:=vM (cH b) (sD (bo b) (bZ b) (cH b) ⟨0,0,false⟩ jj jj s);have h5:=vW (nF hb) (sD (bo b) (bZ b) (cH b) ⟨0,0,false⟩ jj jj s);rw[h2]at h4 h5;have hL1:=hL.pos;have h0:0<=s.done/\0<=s.atom/\s.atom<=b.atoms.length:=by
  rcases hv with h|h
  .exact⟨h.2.1,h.1.1,by have:=h.1.2;omega⟩
  .omega
 have hr:jZ b s.atom.toNat<=jZ b 0:=by
  have:=pF hb.pos (b:=b) s.atom.toNat 0 (by omega)
  rwa [kQ]at this
 have Vb:=hL.rest;have hna:=hL.na;have hm:((b.atoms.length:Int)-s.atom)*L<=10000*L:=Int.mul_le_mul_of_nonneg_right (by omega) (by omega);unfold kJ at h3;have hlen:((sD (bo b) (bZ b) (cH b) ⟨0,0,false⟩ jj jj s).length:Int)<=42768:=by
  refine Decidable.byContradiction λhc=>?_;have:=Int.mul_le_mul_of_nonneg_right (show(42769:Int)<=((sD (bo b) (bZ b) (cH b) ⟨0,0,false⟩ jj jj s).length:Int) by omega) (show 0<=L by omega);omega
 unfold eF;omega
def pQ(b:Bk)(s:R3):List (Ue×R3):=(bo b s).map λt=>((eF b t).1.on (cH b t),t)
def F6{b:Bk}{s:R3}(hf:bZ b s):eF b s=(⟨0,0⟩,⟨0,0,false⟩):=by
 unfold eF;rw[show jj=1999999999999999999999999999+1 from rfl,gw,aI hf]
def Ef{b:Bk}(hb:dh b){s:R3}(hv:gz b s)(hf:¬bZ b s):eF b s=(lQ (pQ b s) none).getD (⟨0,0⟩,⟨0,0,false⟩):=by
 unfold eF pQ;obtain⟨f,hF⟩:∃f,jj=f+1:=⟨1999999999999999999999999999,rfl⟩
 have e:gw (bo b) (bZ b) (cH b) ⟨0,0,false⟩ jj s=gw (bo b) (bZ b) (cH b) ⟨0,0,false⟩ (f+1) s:=by rw[hF]
 rw[e,gw,aK hf];congr 2;refine List.map_congr_left λt ht=>?_;obtain⟨v,m⟩:=(dF hb).on s hv hf t ht;have h1:=tN hb hv;rw[rm (rank:=cH b) (dflt:=(⟨0,0,false⟩:R3)) (dF hb) f jj t v (by omega) (by omega)];rfl
open Go.RowKit
variable {P:Program} {n:Nat} {st:St} {Q:St->Prop} {k:List It} {I:Mu} {w:World}
def tT{α:Type}{f:α->α}:∀(l:List α) (j:Nat) (x:α),l[j]?=some x->l.modify j f=l.set j (f x)
 |[],j,x,h=>by simp at h
 |y::l,0,x,h=>by simp at h;subst h;rfl
 |y::l,j+1,x,h=>by
  have:=tT (f:=f) l j x (by simpa using h);rw[List.modify_succ_cons,List.set_cons_succ,this]
open Go.RowKit
variable {P:Program} {n:Nat} {st:St} {Q:St->Prop} {k:List It}
def TS(P:Program)(n:Nat)(i:aU)(x:St)(K:St->Prop):Prop:=i.op≠.bad/\bt x.s i.g=some true/\
 ∀(F:Fr),F.n=n->∀(I:Mu) (a:Act) (w:World) (o:Oper) (all:Array Oper),bO P n all o=i->dS F I x a w->
  ∀(next:Act->World->Prop) (Q':Exit->Act->World->Prop),(∀UZ a' w',fB F UZ a' w'->K UZ->next a' w')->o.wp P a w next Q'
def XT(P:Program)(n:Nat)(sp:List Nat)(m:Nat)(i:aU)(x:St)(K:St->Prop):Prop:=T P i x K\/m∈sp/\TS P n i x K
variable {sp:List Nat}
def XT.mono{m:Nat}{i:aU}{x:St}{K K':St->Prop}(hk:∀x,K x->K' x)(h:XT P n sp m i x K):XT P n sp m i x K':=by
 rcases h with h|⟨h1,h2,h3,h4⟩
 .exact .inl (h.mono hk)
 .exact .inr ⟨h1,h2,h3,λF hn I a w o all hi hs next Q' R8=>h4 F hn I a w o all hi hs next Q' λUZ a' w' Sj hq=>R8 _ _ _ Sj (hk _ hq)⟩
def XT.inf{m:Nat}{i:aU}{x:St}{K:St->Prop}(hi:WG x.U)(h:XT P n sp m i x K):XT P n sp m i x λx'=>WG x'.U/\K x':=by
 rcases h with h|⟨h1,h2,h3,h4⟩
 .exact .inl (h.inf hi)
 .exact .inr ⟨h1,h2,h3,λF hn I a w o all hi hs next Q' R8=>h4 F hn I a w o all hi hs next Q' λUZ a' w' Sj hq=>R8 _ _ _ Sj ⟨Sj.inf,hq⟩⟩
def chB(l:List aU):Nat->Nat->Nat->Bool
 |0,_,_=>false
 |f+1,i,j=>match l[i]?,l[j]? with
  |some a,some b=>!jg a b||(List.range l.length).any λk=>decide (i<k)&&(decide (k<j)&&((match l[k]? with
   |some c=>!jg a c
   |none=>false)&&chB l f k j))
  |_,_=>false
def F8(l:List aU)(sp:List Nat):Bool:=sp.all λm=>(List.range l.length).all λi=>decide (i=m)||(decide (i<m)&&chB l 8 i m||decide (m<i)&&chB l 8 m i)
def EE(P:Program)(n:Nat)(ops:Array Oper)(k:Nat):Prop:=∀i j oi oj,k<=i->i<j->ops[i]?=some oi->ops[j]?=some oj->((Region.before ops).getD j 0).testBit i=true\/jg (bO P n ops oi) (bO P n ops oj)=true
def F7{ops:Array Oper}:∀(m k:Nat) (n':Array Bool),m+k=ops.size->(∀j,k<=j->j<ops.size->n'.getD j true=false)->wy P n ops m k n'=true->EE P n ops k
 |0,k,n',hm,_,_=>λi j oi oj h1 h2 h3 h4=>by
  have:=(ny.1 h3).1;omega
 |m+1,k,n',hm,hl,h=>λi j oi oj h1 h2 h3 h4=>by
  simp only[wy,Ba]at h;obtain⟨⟨_,hf⟩,hB⟩:=h;have hj:=(ny.1 h4).1;by_cases hik:i=k
  .subst hik;cases hb:((Region.before ops).getD j 0).testBit i with
   |true=>exact .inl rfl
   |false=>exact .inr (mL h3 hf j oj h4 (by omega) (hl j (by omega) hj) hb)
  .exact F7 m (k+1) _ (by omega) (λj' h5 h6=>by rw[getD_set_ne true (by omega)];exact hl j' (by omega) h6) hB i j oi oj (by omega) h2 h3 h4
def yU{a:Array Bool}{i:Nat}(h:a.getD i false=true):a.getD i true=true:=by
 rw[VJ]at h|-;cases hi:a[i]? with
 |none=>rfl
 |some b=>rw[hi]at h;exact h
def o9{ops:Array Oper}{n':Array Bool}(Tr:jk ops n')(hG:EE P n ops 0):∀(f i j:Nat) (oj:Oper),i<j->ops[j]?=some oj->(∀e∈oj.after,Region.binds .any e=true->n'.getD e.on false=true)->
 chB (ops.toList.map (bO P n ops)) f i j=true->n'.getD i false=true
 |0,_,_,_,_,_,_,h=>by cases h
 |f+1,i,j,oj,XY,Wd,TI,h=>by
  have get:∀(m:Nat) (om:Oper),ops[m]?=some om->(ops.toList.map (bO P n ops))[m]?=some (bO P n ops om):=λm om hm=>by
   rw[tg,Array.getElem?_toList,hm];rfl
  have U3:=(ny.1 Wd).1;obtain⟨oi,hoi⟩:∃o,ops[i]?=some o:=⟨ops[i]'(by omega),Array.getElem?_eq_getElem (by omega)⟩
  have key:∀(k:Nat) (ok:Oper),i<k->ops[k]?=some ok->(∀e∈ok.after,Region.binds .any e=true->n'.getD e.on false=true)->jg (bO P n ops oi) (bO P n ops ok)=false->n'.getD i false=true:=λk ok hk Se Xd hp=>by
   rcases hG i k oi ok (Nat.zero_le _) hk hoi Se with hb|hb
   .exact lx Tr k ok i Se hb Xd
   .rw[hp]at hb;cases hb
  simp only[chB,get i oi hoi,get j oj Wd,kI,Bool.not_eq_true']at h;rcases h with h|h
  .exact key j oj XY Wd TI h
  .obtain⟨k,_,hk⟩:=KL.1 h;simp only[Ba,US]at hk;obtain⟨h1,h2,h3,h4⟩:=hk;obtain⟨ok,Se⟩:∃o,ops[k]?=some o:=⟨ops[k]'(by omega),Array.getElem?_eq_getElem (by omega)⟩
   have UG:=o9 Tr hG f k j oj h2 Wd TI h4;rw[get k ok Se]at h3;exact key k ok h1 Se (Tr k ok Se (yU UG)) (by simpa using h3)
def tR{ops:Array Oper}{n':Array Bool}(Tr:jk ops n')(hG:EE P n ops 0)(VM:F8 (ops.toList.map (bO P n ops)) sp=true){m j:Nat}(hm:m∈sp)(hrm:m∈Region.ready .any ops n')(hrj:j∈Region.ready .any ops n')(Sh:j≠m):False:=by
 obtain⟨um,om,hom,am⟩:=mem_ready.1 hrm;obtain⟨uj,oj,Wd,aj⟩:=mem_ready.1 hrj;have U3:=(ny.1 Wd).1;have h:=gj.1 (gj.1 VM m hm) j (List.mem_range.2 (by simpa using U3));simp only[kI,Ba,US,Sh,false_or]at h;rcases h with⟨h1,h2⟩|⟨h1,h2⟩
 .have:=o9 Tr hG 8 j m om h1 hom am h2;rw[yU this]at uj;cases uj
 .have:=o9 Tr hG 8 m j oj h1 Wd aj h2;rw[yU this]at um;cases um
def Xn(P:Program)(n:Nat)(sp:List Nat)(ops:Array Oper)(i:Nat)(x:St)(K:St->Prop):Prop:=match ops[i]? with
 |some o=>XT P n sp i (bO P n ops o) x K
 |none=>K x
def qW(P:Program)(n:Nat)(sp:List Nat)(ops:Array Oper)(Q:St->Prop):Nat->Array Bool->St->Prop
 |0,n',x=>Region.ready .any ops n'=[]/\Q x
 |f+1,n',x=>(Region.ready .any ops n'=[]->Q x)/\∀i∈Region.ready .any ops n',Xn P n sp ops i x (qW P n sp ops Q f (n'.setIfInBounds i true))
def mK{F:Fr}(hn:F.n=n){ops:Array Oper}{Q:St->Prop}{Q':Exit->Act->World->Prop}(hQ:∀x a w,fB F x a w->Q x->Q' .normal a w):
 ∀(f:Nat) (n':Array Bool) (x:St) (a:Act) (w:World),fB F x a w->qW P n sp ops Q f n' x->wpAnyIn F.fo 0 P .any ops Q' f n' a w
 |0,_,_,_,_,hs,h=>⟨h.1,hQ _ _ _ hs h.2⟩
 |f+1,n',x,a,w,hs,h=>by
  refine⟨λh0=>hQ _ _ _ hs (h.1 h0),λi hi=>?_⟩;have h1:=h.2 i hi;unfold Xn at h1;unfold wpOpIn;cases ho:ops[i]? with
  |none=>
   simp only[ho]at h1;exact mK hn hQ f _ x a w hs h1
  |some o=>
   simp only[ho]at h1;rcases h1 with h1|⟨-,g2,g3,g4⟩
   .have h2:=tK (Q':=Q') hn h1 hs λx' a' w' Sj hk=>mK hn hQ f _ x' a' w' Sj hk;by_cases hw:Region.wanted o (yielded ops a.tmps)=true
    .rw[aI hw]at h2;simp only[hw,if_true];exact Dz (kz h2.1) h2.2
    .rw[aK hw]at h2;simp only[hw];exact⟨λ_ _=>trivial,h2⟩
   .obtain⟨I,hs⟩:=hs;have hw:Region.wanted o (yielded ops a.tmps)=true:=by
     subst hn;exact pY (P:=P) hs ops o g3
    simp only[hw,if_true];exact Dz (kz (P:=P) (n:=n) g2) (g4 F hn I a w o ops rfl hs _ _ λx' a' w' Sj hk=>mK hn hQ f _ x' a' w' Sj hk)
def yi{ops:Array Oper}{Q:St->Prop}(hG:EE P n ops 0)(VM:F8 (ops.toList.map (bO P n ops)) sp=true){i:Nat}{oi:Oper}(hi:ops[i]?=some oi):∀(f:Nat) (n':Array Bool) (x:St),WG x.U->jk ops n'->
 (∀j oj,ops[j]?=some oj->j≠i->n'.getD j true=false->((Region.before ops).getD j 0).testBit i=false->jg (bO P n ops oi) (bO P n ops oj)=true)->
 i∈Region.ready .any ops n'->XT P n sp i (bO P n ops oi) x (qW P n sp ops Q f (n'.setIfInBounds i true))->qW P n sp ops Q (f+1) n' x:=by
 intro f
 induction f with
 |zero=>
  intro n' x Un Tr VU hr H;refine⟨λh=>(by rw[h]at hr;cases hr),λj hj=>?_⟩;by_cases Ui:j=i
  .subst Ui;unfold Xn;simp only[hi];exact H
  .rcases H with H|H
   .have:=ready_mono hj Ui;obtain⟨x',SE⟩:=H.exists Un;rw[SE.1]at this;cases this
   .exact(tR Tr hG VM H.1 hr hj Ui).elim
 |succ f ih=>
  intro n' x Un Tr VU hr H;refine⟨λh=>(by rw[h]at hr;cases hr),λj hj=>?_⟩;by_cases Ui:j=i
  .subst Ui;unfold Xn;simp only[hi];exact H
  .obtain⟨Yl,oj,Wd,TI⟩:=mem_ready.1 hj;rcases H with H|H
   .have hnot:((Region.before ops).getD j 0).testBit i=false:=by
     cases hb:((Region.before ops).getD j 0).testBit i with
     |false=>rfl
     |true=>
      exfalso;have h1:=lx Tr j oj i Wd hb TI;have h0:=(mem_ready.1 hr).1;rcases Nat.lt_or_ge i n'.size with h'|h'
      .simp[h']at h0 h1;rw[h0]at h1;cases h1
      .simp[Array.getElem?_eq_none h']at h1
    have H2:T P (bO P n ops oi) x λx'=>T P (bO P n ops oj) x' (qW P n sp ops Q f ((n'.setIfInBounds i true).setIfInBounds j true)):=by
     refine H.mono λx' SE=>?_;have:=SE.2 j (ready_mono hj Ui);unfold Xn at this;simp only[Wd]at this;rcases this with h|h
     .exact h
     .exact(tR Tr hG VM h.1 hj hr (Ne.symm Ui)).elim
    have h2:=BA (VU j oj Wd Ui Yl hnot) Un H2;have W5:∀k ok,ops[k]?=some ok->k≠i->(n'.setIfInBounds j true).getD k true=false->
     ((Region.before ops).getD k 0).testBit i=false->jg (bO P n ops oi) (bO P n ops ok)=true:=λk ok hk hki hun Sw=>by
     refine VU k ok hk hki ?_ Sw;by_cases hjk:j=k
     .subst hjk;exact Yl
     .rw[getD_set_ne true hjk]at hun;exact hun
    unfold Xn;simp only[Wd];refine .inl ((h2.inf Un).mono λx' SE=>ih (n'.setIfInBounds j true) x' SE.1 (Tr.list hj) W5 (ready_mono hr (Ne.symm Ui)) ?_);rw[Array.setIfInBounds_comm _ _ Ui];exact .inl SE.2
   .exact(tR Tr hG VM H.1 hr hj Ui).elim
def ld(P:Program)(n:Nat)(sp:List Nat)(Q:St->Prop):Nat->List aU->St->Prop
 |_,[],x=>Q x
 |m,i::l,x=>XT P n sp m i x (ld P n sp Q (m+1) l)
def uc{ops:Array Oper}{Q:St->Prop}(hG:EE P n ops 0)(VM:F8 (ops.toList.map (bO P n ops)) sp=true):∀(l:List Oper) (k:Nat) (n':Array Bool) (x:St),WG x.U->jk ops n'->(∀j,l[j]?=ops[k+j]?)->
 wy P n ops l.length k n'=true->ld P n sp Q k (l.map (bO P n ops)) x->qW P n sp ops Q l.length n' x
 |[],_,_,_,_,_,_,hB,h=>⟨by simpa[wy]using hB,h⟩
 |o::l,k,n',x,Un,Tr,hl,hB,h=>by
  have h0:ops[k]?=some o:=by simpa using(hl 0).symm
  simp only[Uf,wy,Ba]at hB;obtain⟨⟨hr,hf⟩,hB'⟩:=hB;refine yi hG VM h0 l.length n' x Un Tr (mL h0 hf) (by simpa using hr) ?_;refine(XT.inf Un h).mono λx' SE=>?_;exact uc hG VM l (k+1) _ x' SE.1 (Tr.list (by simpa using hr)) (λj=>by have:=hl (j+1);simpa[Nat.add_assoc,B9 1 j]using this) hB' SE.2
def wg{F:Fr}(hn:F.n=n){ops:Array Oper}(Se:pH P n ops=true)(VM:F8 (ops.toList.map (bO P n ops)) sp=true){id:Nat}{x:St}{a:Act}{w:World}(hs:fB F x a w){Q:St->Prop}{Q':Exit->Act->World->Prop}
 (hQ:∀x a w,fB F x a w->Q x->Q' .normal a w)(h:ld P n sp Q 0 (ops.toList.map (bO P n ops)) x):(Code.region id ops true).wpIn F.fo 0 P Q' a w:=by
 simp only[pH,Ba]at Se;have Sj:fB F x a { w with drawn:=w.drawn+1 }:=by
  obtain⟨I,hs⟩:=hs;have hk:dB (aO I x.U) (aO I x.U) w { w with drawn:=w.drawn+1 }:=λ_ _ h=>⟨h,rfl⟩
  refine⟨I,⟨⟨hs.sat.size,hs.sat.os,hs.sat.tape,hs.sat.output,hs.sat.same,hs.sat.fin,hs.sat.inj,λid o ho=>?_,hs.sat.fresh,hs.sat.Va⟩,hs.le,hs.size,hs.book.wj hk,λi hi=>?_⟩⟩
  .exact(hs.sat.obj id o ho).mono (dG.refl I) hk (SD _) (λ_ _ _ _=>rfl)
  .exact E'.mono (dG.refl I) hk (SD _) _ _ (hs.slot i hi)
 have TV:∀j,j<ops.size->(Array.replicate ops.size false).getD j true=false:=λj hj=>by
  rw[VJ,Array.getElem?_replicate,aI hj];rfl
 have hG:EE P n ops 0:=F7 ops.size 0 (Array.replicate ops.size false) rfl (λj _ hj=>TV j hj) (by simpa using Se.2.2);refine wpIn_region_any Se.1 (mK (sp:=sp) hn hQ _ _ _ _ _ Sj ?_);have:=uc (P:=P) (n:=n) (Q:=Q) hG VM ops.toList 0 (Array.replicate ops.size false) x hs.inf (λm om hm hl=>by
  have u':m<ops.size:=(ny.1 hm).1;rw[TV m u']at hl;cases hl) (by simp) (by simpa using Se.2.2) h
 simpa using this
def ay.Rf(sp:List Nat){l:List aU}(VM:F8 l sp=true)(h:ld P n sp (λx=>ay P n k x Q) 0 l st):ay P n (.code (.Wb true l)::k) st Q:=by
 intro F hn kt hk a w hs;obtain⟨z,UB,rfl,hy,TP⟩:=fj hk;obtain⟨c0,rfl,SV⟩:=ik hy;have VL:∃id ops,c0=.region id ops true/\pH P n ops=true/\ops.toList.map (bO P n ops)=l:=by
  cases c0<;>simp only[ep,reduceCtorEq]at SV;rename_i id ops draw;cases draw
  .simp at SV
  .simp only[Bool.true_and]at SV;split at SV
   .cases SV
   .split at SV
    .cases SV
    .rename_i hd;simp only[bV.Wb.injEq,true_and]at SV;exact⟨id,ops,rfl,by simpa using hd,SV⟩
 obtain⟨id,ops,rfl,Se,rfl⟩:=VL;exact wg hn Se VM hs (λx a w hs h=>h F hn UB TP a w hs) h
variable {K:St->Prop} {m:Nat} {x:St}
def XC.app{suf:List aU}:∀(pre:List aU) {m:Nat} {x:St},Go P n (.d pre [.stop λy=>ld P n sp K (m+pre.length) suf y]) x Q->ld P n sp K m (pre++suf) x
 |[],_,_,h=>h
 |i::pre,m,_,h=>.inl (T.mono (λ_ h=>XC.app (m:=m+1) pre (by rw[show m+1+pre.length=m+(i::pre).length by simp;omega];exact h)) h)
def XC.go(j:Nat){l:List aU}(h:Go P n (.d (l.take j) [.stop λy=>ld P n sp K (m+(l.take j).length) (l.drop j) y]) x λ_=>True):ld P n sp K m l x:=by
 have:=XC.app _ h
 rwa [Bb]at this
def XC.nil(h:K x):ld P n sp K m [] x:=h
open Go.RowKit
variable {P:Program} {n:Nat} {st:St} {Q:St->Prop} {k:List It} {I:Mu} {w:World}
def Jf{κ:Type}[DecidableEq κ]{kv:κ->Value}{kV:κ->V}{i:aU}{xm xk xv:VX}{kt:TypeId}(ho:i.op=.more (.insS kt) [xm,xk,xv]){id:Nat}{g:κ->Option V}{a:κ}{v:V}
 (hK:AB P kt kv kV)(hm:xm.ev st.s=.mp id)(Wc:oK kv st.U id g)(hk:xk.ev st.s=kV a)(hv:xv.ev st.s=v){K:St->Prop}
 (h:∀ob:Ob,ob.sz=0->oK kv (C' st.U id ob) id (λb=>if a=b then some v else g b)->K ⟨bb st.s i.dst (.Sa []),C' st.U id ob⟩):
 ∀(F:Fr),F.n=n->∀(I:Mu) (a:Act) (w:World) (o:Oper) (all:Array Oper),bO P n all o=i->dS F I st a w->
  ∀(next:Act->World->Prop) (Q':Exit->Act->World->Prop),(∀UZ a' w',fB F UZ a' w'->K UZ->next a' w')->o.wp P a w next Q':=by
 intro F hn I ac w o all hi hs next Q' R8
 obtain⟨hinj,WL,hko,TV⟩:=hK;replace TV:=TV a;replace hko:∀b,(b=a\/g b≠none)->∃l,keyOf P kt (kv b)=some l:=λb _=>hko b;subst hn;obtain⟨Sc,hd⟩:=fD hi;rw[ho]at Sc;obtain⟨t,e,x,y,z,g1,g2,g4⟩:=Fw Sc;simp only[List.cons.injEq,and_true]at g4;obtain⟨rfl,rfl,rfl⟩:=g4;have u1:=vq g2;obtain⟨es,clock,ks,env,Su,he,hlen,Th,Ua⟩:=Wc;have hr:=cO hs x;have ZK:=cO hs y;have hrv:=cO hs z;rw[hm]at hr;rw[hk]at ZK;rw[hv]at hrv;have ZK:=TV _ _ _ _ ZK;simp only[E']at hr;have hks:∀b∈ks,∃l,keyOf P kt (kv b)=some l:=λb hb=>by
  obtain⟨j,hj⟩:=II hb;refine hko b (.inr ?_);rw[<-Ua b,oH Th hj hlen];have:j<env.length:=by rw[<-hlen];exact(rz.1 hj).1
  rw[V7 this];simp
 obtain⟨la,TZ⟩:=hko a (.inl rfl);split at hr
 .rename_i b cap L';obtain⟨TT,W7⟩:=hs.sat.I6 Su L';simp only[tmpsOf]at W7;have SO:∀(o':Obj) (Zd:List V),(∃es' YB ks',o'=.map es' YB/\es'.toList.map (·.key)=ks'.map kv/\ks'.length=Zd.length/\ks'.Nodup/\∀b,assoc b ks' Zd=if a=b then some v else g b)->aB I (aO I st.U) w Zd (tmpsOf o')->
   (Instr.mapUpdate t (ac.eval x) (ac.eval y) (ac.eval z)).run P w=.ok () (w.putObj b o')->o.wp P ac w next Q':=by
   intro o' Zd hmap' hrep' SQ;have hx:(execOp ac.eval o).run P w=.ok .skip (w.putObj b o'):=by
    unfold execOp;rcases g1 with g1|g1<;>(rw[g1];simp[SQ])
   have We:=hs.sat.Oy Su L' o' Zd hrep';obtain⟨es',YB,ks',rfl,p1,p2,p3,p4⟩:=hmap';unfold Oper.wp;rw[hx];refine R8 _ _ _ ⟨I,?_⟩ (h (gh (.map es' YB) Zd) rfl ⟨es',YB,ks',Zd,aA,p1,p2,p3,p4⟩);rw[<-hd];exact hs.step We.1 (dG.refl _) We.2 (by simp) (by simp only[E'];exact⟨[],rfl,by simp[aB]⟩)
  rcases AT hinj WL he hks ⟨la,TZ⟩ w with⟨q1,q2⟩|⟨j,en,q1,q2,q3,q4⟩
  .refine SO (.map (es.push { key:=kv a,val:=ac.eval z,born:=clock }) (clock+1)) (env++[v]) ⟨_,_,ks++[a],rfl,?_,?_,?_,λb=>?_⟩ ?_ ?_
   .rw[Array.toList_push,fw,fw,he];rfl
   .rw[kL,kL,hlen];rfl
   .rw[List.nodup_append];exact⟨Th,by simp,λx hx y hy e=>q2 (by rw[kc.1 hy]at e;exact e▸hx)⟩
   .rw[vN q2 hlen,Ua]
   .simp only[tmpsOf,Array.toList_push,fw,ga,List.map_nil];exact W7.append (by simp only[aB];exact⟨_,_,rfl,hrv,rfl⟩)
   .simp[Instr.mapUpdate,run_underlying u1,hr,ZK,qu TT,WL.check w _ TZ,q1,ze _ TT]
  .have hl:(es.modify j λe=>{ e with key:=kv a,val:=ac.eval z }).toList=es.toList.set j { en with key:=kv a,val:=ac.eval z }:=by
    rw[Array.toList_modify,tT _ _ _ q2]
   refine SO (.map (es.modify j λe=>{ e with key:=kv a,val:=ac.eval z }) clock) (env.set j v) ⟨_,_,ks,rfl,?_,?_,Th,λb=>?_⟩ ?_ ?_
   .rw[hl,List.map_set,he];refine List.ext_getElem? λm=>?_;rw[List.getElem?_set];split
    .rename_i e;subst e;split
     .rw[tg,q4];rfl
     .rename_i Sw;rw[tm (by omega)]
    .rfl
   .rw[List.length_set,hlen]
   .rw[wT Th q4 hlen,Ua]
   .simp only[tmpsOf,hl,List.map_set];exact aB.set j W7 hrv
   .have hkey:((es[j]?).map (·.key)).getD (kv a)=kv a:=by
     rw[<-Array.getElem?_toList,q2];simp[q3]
    simp[Instr.mapUpdate,run_underlying u1,hr,ZK,qu TT,WL.check w _ TZ,q1,ze _ TT,hkey,WL.stays w TZ]
 .exact hr.elim
def XC.tc{κ:Type}[DecidableEq κ]{kv:κ->Value}{kV:κ->V}{m:Nat}{x:St}{K:St->Prop}{sp:List Nat}{i:aU}{l:List aU}{xm xk xv:VX}{kt:TypeId}(VM:m∈sp)(hw:bt x.s i.g=some true)(ho:i.op=.more (.insS kt) [xm,xk,xv]){id:Nat}{g:κ->Option V}{a:κ}{v:V}
 (hK:AB P kt kv kV)(hm:xm.ev x.s=.mp id)(Wc:oK kv x.U id g)(hk:xk.ev x.s=kV a)(hv:xv.ev x.s=v)
 (h:∀ob:Ob,ob.sz=0->oK kv (C' x.U id ob) id (λb=>if a=b then some v else g b)->ld P n sp K (m+1) l ⟨bb x.s i.dst (.Sa []),C' x.U id ob⟩):ld P n sp K m (i::l) x:=
 .inr ⟨VM,by rw[ho];simp,hw,Jf ho hK hm Wc hk hv h⟩
def RE.look{l:List aU}{K:St->Prop}{m:Nat}{rest:List Nat}{x:St}{i:aU}(hi:l[m/2]?=some i)(hm:m%2=0){xm xk:VX}{kt:TypeId}{ok:Bool}{zv v:V}(hw:bt x.s i.g=some true)(ho:i.op=.more (.XP kt ok zv) [xm,xk])
 (hl:JE P kt ok zv (xm.ev x.s) (xk.ev x.s) x.U v)(h:RE P l K rest ⟨bb x.s i.dst v,x.U⟩):RE P l K (m::rest) x:=by
 rw[RE,hi];simp only[aI hm];exact .inr ⟨hw,by rw[ho];exact⟨v,hl,h⟩⟩
def RE.mkMap{l:List aU}{K:St->Prop}{m:Nat}{rest:List Nat}{x:St}{i:aU}(hi:l[m/2]?=some i)(hm:m%2=0)(hw:bt x.s i.g=some true)(ho:i.op=.more .mkMap [])
 (h:∀id,x.U id=none->RE P l K rest ⟨bb x.s i.dst (.mp id),C' x.U id (gh (.map #[] 0) [])⟩):RE P l K (m::rest) x:=by
 rw[RE,hi];simp only[aI hm];exact .inr ⟨hw,by rw[ho];exact h⟩
open Go.Proofs
def okK(s:R3):Prop:=(Lit.int .i64 s.atom).wf=true/\(Lit.int .i64 s.done).wf=true
abbrev Ks:={ s:R3 // okK s }
def kvS(s:Ks):Value:=.agg #[.int .i64 s.1.atom,.int .i64 s.1.done,.bool s.1.free]
def LD{s:R3}(h1:0<=s.atom)(h2:s.atom<=4000000000000000000)(h3:0<=s.done)(h4:s.done<=4000000000000000000):okK s:=by
 have e1:IntKind.i64.min=-9223372036854775808:=by decide
 have e2:IntKind.i64.max=9223372036854775807:=by decide
 unfold okK Lit.wf;simp only[Ba,US,e1,e2];omega
def Jk(a b:Ks)(h:kvS a=kvS b):a=b:=by
 obtain⟨⟨a1,a2,a3⟩,ha⟩:=a;obtain⟨⟨b1,b2,b3⟩,hb⟩:=b;simp only[kvS,Value.agg.injEq,Array.mk.injEq,List.cons.injEq,Value.int.injEq,Value.bool.injEq,true_and,and_true]at h;obtain⟨rfl,rfl,rfl⟩:=h;rfl
def GW:laidOutB prog=true:=by kernel_rfl
def Dp:24<prog.types.size:=of_decide_eq_true (by kernel_rfl)
def Lf:prog.keyTypeAt 3 24=true:=by kernel_rfl
def IC:WideMaps.KeyLaw prog 24:=deep_law_laid GW (m:=3) (by omega) Dp Lf (by rw[underlying24])
def Kh:prog.keyType 24=true:=by kernel_rfl
def Ju:prog.underlying 3=some (.int .i64):=by kernel_rfl
def Il:prog.underlying 4=some .bool:=by kernel_rfl
def Ly:prog.cellsOf 24=3:=by kernel_rfl
def Kf:prog.cellsOf 3=1:=by kernel_rfl
def Kx:prog.cellsOf 4=1:=by kernel_rfl
def Hx{b1 b2:Int}{b3:Bool}(h1:(Lit.int .i64 b1).wf=true)(h2:(Lit.int .i64 b2).wf=true):
 prog.keyLits (prog.types.size+1) 24 [.int .i64 b1,.int .i64 b2,.bool b3]=some [.int .i64 b1,.int .i64 b2,.bool b3]:=by
 have hr:=Dp;generalize prog.types.size=n at*;obtain⟨d,rfl⟩:∃d,n=d+1:=⟨n-1,by omega⟩
 simp[Program.keyLits,underlying24,Ju,Il,Ly,Kf,Kx,h1,h2]
def Iq(b:Ks):∃l,keyOf prog 24 (kvS b)=some l:=by
 obtain⟨⟨b1,b2,b3⟩,h1,h2⟩:=b;have hf:(kvS ⟨⟨b1,b2,b3⟩,h1,h2⟩).formed prog 24=true:=by kernel_rfl
 unfold keyOf;rw[underlying24];simp only[Kh,hf,Bool.and_self,if_true];have hc:(kvS ⟨⟨b1,b2,b3⟩,h1,h2⟩).cells.toList=[.int .i64 b1,.int .i64 b2,.bool b3]:=rfl;rw[hc,Hx h1 h2];exact⟨_,rfl⟩
def Ik(a:Ks)(I:Mu)(ow:Nat->Prop)(w:World)(X:Value)(h:E' I ow w (aN a.1) X):X=kvS a:=by
 simp only[aN,E',aB,vI]at h;obtain⟨R6,rfl,⟨x,xs,rfl,rfl,y,ys,rfl,rfl,z,zs,rfl,rfl,rfl⟩,-⟩:=h;rfl
def bU(l:List R3):V:=.sl 3 (l.map aN)
def jl(l:List R3):eM false (bU l)=some (.int .i64 l.length):=by simp[bU,eM]
def iL{U:al}{l:List R3}{i:Nat}(h:i<l.length):bI U 3 (bU l) (.int .i64 i)=some (.rp (aN l[i])):=by simp[bU,bI,h,aN]
def mT(s:R3)(U:al):dr U true 3 (.rp (aN s))=some (aN s):=rfl
def lM(x:Ue×R3):V:=.agg [vI x.1.R4,vI x.1.Sy,vI x.2.atom,vI x.2.done,.bool x.2.free]
def eJ(x:Ue×R3):(lM x).cells=[vI x.1.R4,vI x.1.Sy,vI x.2.atom,vI x.2.done,.bool x.2.free]:=rfl
def eI(x:Ue×R3):(lM x).stays=true:=rfl
def dd(x:Ue):V:=.agg [vI x.R4,vI x.Sy]
def aT(x:Ue):(dd x).cells=[vI x.R4,vI x.Sy]:=rfl
def aS(x:Ue):(dd x).stays=true:=rfl
def qo(b:Bk)(im:Nat):List V:=[aQ b.nodes,bL b.atoms,dv b.SJ,vI b.h,.mp im]
def nh(b:Bk)(im:Nat):Ob:=⟨89,5,[.agg (qo b im)]⟩
structure fP(b:Bk)(K U:al)(i im:Nat):Prop where
 row:U i=some (nh b im)
 mp:∃g:Ks->Option V,oK kvS U im g/\∀s v,g s=some v->v=lM (eF b s.1)
 ni:K i=none
 nm:K im=none
 sub:aa K U
def fP.ne{b:Bk}{K U:al}{i im:Nat}(h:fP b K U i im):i≠im:=by
 obtain⟨g,h1,-⟩:=h.mp;exact h1.ne h.row (by decide)
def fP.mono{b:Bk}{K U J:al}{i im:Nat}(h:fP b K U i im)(hs:aa U J):fP b K J i im:=by
 obtain⟨g,h1,h2⟩:=h.mp;exact⟨hs _ _ h.row,⟨g,h1.sub hs,h2⟩,h.ni,h.nm,h.sub.trans hs⟩
def fP.less{b:Bk}{K K' U:al}{i im:Nat}(h:fP b K' U i im)(hk:aa K K'):fP b K U i im:=⟨h.row,h.mp,hk.none h.ni,hk.none h.nm,hk.trans h.sub⟩
def fP.neK{b:Bk}{K U:al}{i im j:Nat}{o:Ob}(h:fP b K U i im)(hj:K j=some o):j≠i/\j≠im:=by
 constructor
 .intro e;rw[e,h.ni]at hj;cases hj
 .intro e;rw[e,h.nm]at hj;cases hj
def qP(U:al)(i im:Nat):al:=λj=>if j=i\/j=im then none else U j
def eH{U:al}{i im j:Nat}(h1:j≠i)(h2:j≠im):qP U i im j=U j:=aK λh=>h.elim h1 h2
def fP.off{b:Bk}{K U:al}{i im:Nat}(h:fP b K U i im):fP b (qP U i im) U i im:=⟨h.row,h.mp,aI (.inl rfl),aI (.inr rfl),λj o hj=>by
 unfold qP at hj;split at hj
 .cases hj
 .exact hj⟩
def fP.lq{b:Bk}{K U:al}{i im:Nat}(h:fP b K U i im):aa K (qP U i im):=λj o hj=>by
 obtain⟨h1,h2⟩:=h.neK hj;rw[eH h1 h2];exact h.sub _ _ hj
open Go.Proofs
def DK:fX prog 24=true:=by kernel_rfl
def zG:prog.cellsOf 24=3:=by kernel_rfl
def By{n:Nat}{vs:List V}(h:iy prog (n+3) 36 vs):∃l:List R3,mi prog 36 vs=bU l:=by
 obtain⟨rows,rfl,_,h3⟩:=pj underlying36 h;obtain⟨l,rfl,-⟩:=tF (f:=aN) (p:=λ_=>True) λr hr=>by
  obtain⟨cs,hc,rfl⟩:=h3 r hr;obtain⟨a,d,fr,rfl⟩:=DD hc;exact⟨⟨a,d,fr⟩,by rw[DK];rfl,trivial⟩
 exact⟨l,by unfold mi;rw[show fX prog 36=false by kernel_rfl,zG];rfl⟩
def y9{n:Nat}{vs:List V}(h:iy prog (n+2) 44 vs):∃c:Ue,mi prog 44 vs=dd c:=by
 replace h:=lv underlying44 h;simp only[sT]at h;obtain⟨_,_,rfl,h1,_,_,rfl,h2,rfl⟩:=h;obtain⟨m1,rfl,_⟩:=db h1;obtain⟨m2,rfl,_⟩:=db h2;exact⟨⟨m1,m2⟩,by unfold mi;rw[show fX prog 44=true by kernel_rfl];rfl⟩
open Go.Proofs
def HV(l:List Tk)(k:Int):aX prog 102 [bL l,vI k] (.bool (decide (0<=k/\k<l.length))):=λU=>by
 refine Qf.q ?_;have hl:=iV l;refine ay.mix 5 ?_;by_cases h0:k>=0
 .have q0:(k>=0)=True:=RX h0;by_cases h1:k<l.length
  .have q1:(k<l.length)=True:=RX h1;apply sR;simp only[go_sem,seval,IZ,q0,q1,hl];exact aD.same (by simp[h0,h1])
  .have q1:(k<l.length)=False:=H' h1;apply sR;simp only[go_sem,seval,IZ,q0,q1,hl];exact aD.same (by simp[h1])
 .have q0:(k>=0)=False:=H' h0;apply sR;simp only[go_sem,seval,IZ,q0,hl];exact aD.same (by simp<;>omega)
def Kj(l:List Tk)(hl:lT l)(k:Nat)(hk:k<l.length):aX prog 62 [bL l,vI k] (vI (lP l k)):=λU=>by
 refine e62.q ?_;have hs:=aa.refl U;have hh:=HV l k;rw[Tv (show(0:Int)<=k/\(k:Int)<l.length by omega)]at hh;have SW:=λU=>fK (U:=U) hk;have hy:=hl.Xv _ (SU hk);have Ux:=hl.len;unfold lP;rw[aI (show(0:Int)<=k/\(k:Int)<l.length by omega),bx hk];refine mS 5 ?_;simp only[go_sem,seval,c62];refine pR rfl (hh _) ?_;by_cases h0:k=0
 .subst h0;have hix0:∀U,bI U 8 (bL l) (.int .i64 0)=some (.rp (bC l[0])):=SW;have hb:gF l ((0:Nat)-1:Int)=0:=by unfold gF;rw[aK (by omega)]
  rw[hb];apply sR;simp only[go_sem,seval,hix0,bC];exact aD.pure hs (by simp)
 .have q0:((k:Int)=0)=False:=H';have Tt:k-1<l.length:=by omega
  have hix1:=λU=>fK (U:=U) Tt;have hy1:=hl.Xv _ (SU Tt);have ek:((k:Int)-1)=((k-1:Nat):Int):=by omega
  have hb:gF l ((k:Int)-1)=l[k-1].y+l[k-1].h:=by unfold gF;rw[aI (by omega),ek,bx Tt]
  rw[hb];generalize l[k]=x at*;generalize l[k-1]=x1 at*;have r1:Sn .i64 ((k:Int)-1):=ar;have r2:Sn .i64 (x.y-x1.y):=ar;have r3:Sn .i64 (x.y-x1.y-x1.h):=ar;have e:x.y-(x1.y+x1.h)=x.y-x1.y-x1.h:=by omega
  rw[e];apply sR;simp only[go_sem,seval,q0,SW,r1,ek,hix1,r2,r3,bC];exact⟨ar,ar,aD.pure hs rfl⟩
def tE(l:List Tk)(s:R3):aX prog 28 [bL l,aN s] (.bool (decide (dc l s))):=λU=>by
 refine e28.q ?_;have hs:=aa.refl U;have hl:=iV l;obtain⟨a,d,fr⟩:=s;refine mS 5 ?_;simp only[go_sem,seval,c28,aN];refine aE hs λi3 Z3 s3 a3 f3 z3 hs=>?_;by_cases h0:a<0
 .have q0:(a<0)=True:=RX h0;simp only[go_sem,seval,a3,q0,hl];exact aD.pure hs (by rw[TE (λh:dc l ⟨a,d,fr⟩=>by have:=h.1.1;simp only at this;omega)])
 .have q0:(a<0)=False:=H' h0;by_cases h1:a>=l.length
  .have q1:(a>=l.length)=True:=RX h1;simp only[go_sem,seval,a3,q0,q1,hl];exact aD.pure hs (by rw[TE (λh:dc l ⟨a,d,fr⟩=>by have:=h.1.2;simp only at this;omega)])
  .have q1:(a>=l.length)=False:=H' h1;obtain⟨n,rfl⟩:∃n:Nat,a=n:=⟨a.toNat,by omega⟩
   have hn:n<l.length:=by omega
   have R0:=λU=>fK (U:=U) hn;have hg:=bx hn;have h00:(0:Int)<=n/\(n:Int)<l.length:=by omega
   by_cases h3:d=0
   .have q3:(d=0)=True:=RX h3;simp only[go_sem,seval,a3,q0,q1,q3,hl];have hh:dc l ⟨n,d,fr⟩:=⟨h00,by simp only;omega,.inl h3⟩
    exact aD.pure hs (by rw[Tv hh])
   .have q3:(d=0)=False:=H' h3;by_cases h2:d>0
    .have q2:(d>0)=True:=RX h2;by_cases h4:d<l[n].h
     .have q4:(d<l[n].h)=True:=RX h4;simp only[go_sem,seval,a3,q0,q1,q2,q3,q4,hl,R0,bC];have hh:dc l ⟨n,d,fr⟩:=⟨h00,by simp only;omega,.inr (by rw[hg];exact h4)⟩
      exact aD.pure hs (by rw[Tv hh])
     .have q4:(d<l[n].h)=False:=H' h4;simp only[go_sem,seval,a3,q0,q1,q2,q3,q4,hl,R0,bC];exact aD.pure hs (by rw[TE (λh:dc l ⟨n,d,fr⟩=>by rcases h.2.2 with h|h;exact h3 h;rw[hg]at h;exact h4 h)])
    .have q2:(d>0)=False:=H' h2;simp only[go_sem,seval,a3,q0,q1,q2,q3,hl];exact aD.pure hs (by rw[TE (λh:dc l ⟨n,d,fr⟩=>by have h5:=h.2.1;have h6:=h.2.2;simp only at h5 h6;omega)])
open Go.Proofs
def H4(l:List Tk)(hl:lT l)(s:R3)(Sf:Int):aX prog 29 [bL l,aN s,vI Sf] (vI (iz l s Sf)):=λU=>by
 refine e29.q ?_;have hs:=aa.refl U;have hc:=tE l s;unfold iz;refine ay.mix 8 ?_;by_cases hm:dc l s
 .rw[Tv hm]at hc;obtain⟨a,d,fr⟩:=s;have Yw:=hm;obtain⟨⟨h0,h1⟩,h2,h3⟩:=hm;simp only at h0 h1 h2 h3|-;obtain⟨n,rfl⟩:∃n:Nat,a=n:=⟨a.toNat,by omega⟩
  have hn:n<l.length:=by omega
  cases fr
  .rw[aK (by simp)];apply sR;simp only[go_sem,seval,c29,aN];refine aE hs λi4 Z4 s4 a4 f4 z4 hs=>?_;simp only[go_sem,seval,a4];refine pS rfl (hc _) ?_;simp only[go_sem,seval,a4];exact aD.pure hs rfl
  .by_cases hd:d>0
   .have qd:(d>0)=True:=RX hd;rw[aK (by intro h;have:=h.2.2.1;omega)];apply sR;simp only[go_sem,seval,c29,aN];refine aE hs λi4 Z4 s4 a4 f4 z4 hs=>?_;simp only[go_sem,seval,a4];refine pS rfl (hc _) ?_;simp only[go_sem,seval,a4,qd];exact aD.pure hs rfl
   .have qd:(d>0)=False:=H' hd;obtain rfl:d=0:=by omega
    have R0:=λU=>fK (U:=U) hn;have hy:=hl.Xv _ (SU hn);have YD:=Kj l hl n hn;have hgr:-1152921504606846976-2305843009213693952<=lP l n/\lP l n<=2305843009213693952:=by
     have:=od hl ((n:Int)-1);unfold lP;rw[aI ⟨h0,h1⟩,bx hn];omega
    rw[bx hn];generalize lP l n=g at*;generalize l[n]=x at*;have r1:Sn .i64 (g+x.h):=ar;apply sR;simp only[go_sem,seval,c29,aN];refine aE hs λi4 Z4 s4 a4 f4 z4 hs=>?_;simp only[go_sem,seval,a4];refine pS rfl (hc _) ?_;simp only[go_sem,seval,a4,qd];refine pR rfl (YD _) ?_;by_cases hg:g+x.h>Sf
    .have qg:(g+x.h>Sf)=True:=RX hg;rw[aK (by intro h;have h:=h.2;simp at h;omega)];apply sR;simp only[go_sem,seval,a4,R0,bC,r1,qg];exact aD.pure hs rfl
    .have qg:(g+x.h>Sf)=False:=H' hg;rw[aI (by refine⟨Yw,?_⟩;simp;omega)];apply sR;simp only[go_sem,seval,a4,R0,bC,r1,qg];exact aD.pure hs rfl
 .rw[TE hm]at hc;rw[aK (λh=>hm h.1)];obtain⟨a,d,fr⟩:=s;apply sR;simp only[go_sem,seval,c29,aN];refine aE hs λi4 Z4 s4 a4 f4 z4 hs=>?_;simp only[go_sem,seval,a4];refine pS rfl (hc _) ?_;simp only[go_sem,seval,a4];exact aD.pure hs rfl
def G9(l:List Tk)(hl:lT l)(s:R3)(hm:dc l s)(hd:s.done<=1152921504606846976)(kept shift:Int)(k:Nat)(hk:-1152921504606846976<=kept/\kept<=1152921504606846976)(hsh:0<=shift/\shift<=1152921504606846976)(Tt:s.atom<=k)(TK:k<l.length):
 aX prog 103 [bL l,aN s,vI kept,vI shift,vI k] (vI (fq l s kept shift k)):=λU=>by
 refine QG.q ?_;have hs:=aa.refl U;have hc:=tE l s;have Ux:=iV l;rw[Tv hm]at hc;unfold fq;rw[aI ⟨hm,Tt,by omega⟩];obtain⟨a,d,fr⟩:=s;obtain⟨⟨h0,h1⟩,h2,h3⟩:=hm;simp only at h0 h1 h2 h3 hd Tt|-;obtain⟨n,rfl⟩:∃n:Nat,a=n:=⟨a.toNat,by omega⟩
 have hn:n<l.length:=by omega
 have R0:=λU=>fK (U:=U) hn;have Zv:=λU=>fK (U:=U) TK;have hy:=hl.Xv _ (SU hn);have hy2:=hl.Xv _ (SU TK);unfold ig;rw[aI ⟨⟨h0,h1⟩,by omega,by omega⟩,bx hn,bx TK];generalize l[n]=x at*;generalize l[k]=x2 at*;have q1:((k:Int)<n)=False:=H';have q2:((k:Int)>=l.length)=False:=H';have r1:Sn .i64 (x2.y-x.y):=ar;have r2:Sn .i64 (x2.y-x.y-d):=ar;have r3:Sn .i64 (x2.y-x.y-d+kept):=ar;have r4:Sn .i64 (x2.y-x.y-d+kept+shift):=ar;refine mS 11 ?_;simp only[go_sem,seval,Oz,aN];refine aE hs λi6 Z6 s6 a6 f6 z6 hs=>?_;simp only[go_sem,seval,a6];refine pS rfl (hc _) ?_;simp only[go_sem,seval,a6,Ux,q1,q2,R0,Zv,bC,r1,r2,r3,r4];exact aD.pure hs rfl
def I4(l:List Tk)(hl:lT l)(s:R3)(hm:dc l s)(hd:s.done<=1152921504606846976)(kept shift body:Int)(k:Nat)(hk:-1152921504606846976<=kept/\kept<=1152921504606846976)(hsh:0<=shift/\shift<=1152921504606846976)(Tt:s.atom<=k)(TK:k<l.length):
 aX prog 63 [bL l,aN s,vI kept,vI shift,vI body,vI k] (.bool (decide (fq l s kept shift k+l[k].h<=body))):=λU=>by
 refine e63.q ?_;have hs:=aa.refl U;have hc:=G9 l hl s hm hd kept shift k hk hsh Tt TK;have Zv:=λU=>fK (U:=U) TK;have hy2:=hl.Xv _ (SU TK);have hpr:-4611686018427387904<=fq l s kept shift k/\fq l s kept shift k<=6917529027641081856:=by
  have Yw:=hm;obtain⟨⟨h0,h1⟩,h2,h3⟩:=hm;obtain⟨n,hn'⟩:∃n:Nat,s.atom=n:=⟨s.atom.toNat,by omega⟩
  have hn:n<l.length:=by omega
  have hy:=hl.Xv _ (SU hn);rw[fq,aI ⟨Yw,Tt,by omega⟩,ig,aI ⟨⟨h0,h1⟩,by omega,by omega⟩,hn',bx hn,bx TK];omega
 obtain⟨a,d,fr⟩:=s;generalize fq l ⟨a,d,fr⟩ kept shift k=p at*;generalize l[k]=x2 at*;have r1:Sn .i64 (p+x2.h):=ar;refine mS 13 ?_;simp only[go_sem,seval,c63,aN];refine aE hs λi7 Z7 s7 a7 f7 z7 hs=>?_;simp only[go_sem,seval,a7];refine pJ rfl hc ?_;apply sG;simp only[go_sem,seval,a7,Zv,bC,r1];exact aD.pure hs rfl
end Go.Vc
