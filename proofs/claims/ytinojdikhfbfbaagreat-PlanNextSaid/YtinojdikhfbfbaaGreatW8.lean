import Derived.Test.YtinojdikhfbfbaaGreatW7
set_option linter.all false
set_option maxHeartbeats 8000000
set_option maxRecDepth 100000
open Go.Proofs.Tryz
namespace Go.Vc
open Go.Proofs
def sy(l:List Nd)(of:List Int):List Int:=(List.range (of.length+1)).map (mo l of)
def JU(l:List Nd)(hl:dq l)(hb:Sc l=true)(of:List Int)(SB:of.length<=1000000)(Sv:∀x∈of,0<=x/\x<l.length)(hm:qC l of=true):
 aV prog 117 [aQ l,aX of] (.RM [aX (sy l of),vI 0]):=λU=>by
 refine OS.q ?_;have hs:=aa.refl U;have SD:=db of;refine mS 11 ?_;simp only[go_sem,seval,LY];refine pR rfl (qx l hl hb of SB hm _) ?_;have q0:((0:Int)≠0)=False:=H' (λh=>h rfl);have r0:R0 .i64 ((of.length:Int)+1):=ao;apply sR;simp only[go_sem,seval,q0,SD,r0];refine aq.kE (λst=>aa U st.U/\aP U st.U 3 1 (st.s 7) ((sy l of).map vI))
  (λm st=>∃j:Nat,j<=of.length+1/\m=of.length+1-j/\aa U st.U/\aP U st.U 3 1 (st.s 7) (((List.range j).map (mo l of)).map vI)/\st.s 0=aQ l/\st.s 1=aX of/\st.s 19=vI ((of.length:Int)+1)/\st.s 20=vI j) (of.length+1) ?_ ?_ ?_
 .exact⟨0,by omega,rfl,hs,aP.start,rfl,rfl,rfl,rfl⟩
 .clear hs;rintro m ⟨S,J⟩ ⟨j,hj,rfl,hs,ho,t0,t1,t19,t20⟩;simp only at hs ho t0 t1 t19 t20;generalize TX:S 7=v7 at ho;refine aq.mix 11 ?_;by_cases u':j<of.length+1
  .have q:((j:Int)<of.length+1)=True:=RA;have r1:=rI j;have Sa:(((List.range (j+1)).map (mo l of)).map vI)=(((List.range j).map (mo l of)).map vI)++[vI (mo l of j)]:=by
    rw[List.range_succ];simp
   have Uh:(((List.range j).map (mo l of)).map vI).length=j:=by simp
   apply sR;simp only[go_sem,seval,t0,t1,t19,t20,q];refine pR rfl (On l hl hb of SB Sv hm j (by omega) _) ?_;generalize ((List.range j).map (mo l of)).map vI=rows at*;apply sR;simp only[go_sem,seval,t0,t1,t19,t20,TX];refine aD λi32 Z32 s32 a32 f32=>?_;obtain⟨idA,SE,RO,TW,VY⟩:=ho.nM s32;have Sh:(rows.length+1)*9<=140737488355328:=by omega
   simp only[go_sem,seval,t0,t1,t19,t20,TX,SE,bN a32,Sh];refine bk λi33 Z33 s33 a33 f33=>?_;have k33:=(RO U (aa.refl _) Z32 (hs.trans s32)).trans s33;have n33:U i33=none:=(hs.trans s32).none f33;simp only[go_sem,seval,t0,t1,t19,t20,r1];refine⟨_,?_,j+1,by omega,rfl,k33,?_,by simp[t0,t1,t19]⟩
   .omega
   .rw[Sa];exact aP.new (by simp) a33 n33
  .have q:((j:Int)<of.length+1)=False:=H';have TT:j=of.length+1:=by omega
   subst TT;apply sR;simp only[go_sem,seval,t0,t1,t19,t20,q];exact⟨hs,TX▸ho⟩
 .rintro⟨S,J⟩ ⟨hs,ho⟩;simp only at hs ho;generalize TX:S 7=v7 at ho;refine mS 11 ?_;simp only[go_sem,seval,TX];exact⟨_,U,hs,Wk.RM (vs':=[aX (sy l of),vI 0]) ⟨ho.wk (aa.refl _) hs,Wk.refl hs _,trivial⟩,rfl,rfl⟩
open Go.Proofs
structure UH where
 (cls forced rank:Int)
deriving DecidableEq
def da(x:UH):V:=.agg [vI x.cls,vI x.forced,vI x.rank]
def dh(l:List UH):V:=.sl 3 (l.map da)
def aE(l:List UH):(dh l).cells=[dh l]:=rfl
def aF(l:List UH):(dh l).stays=true:=rfl
def GJ(l:List UH):ej false (dh l)=some (.int .i64 l.length):=by simp[dh,ej]
def BQ{U:ak}{l:List UH}{i:Nat}(h:i<l.length):bG U 3 (dh l) (.int .i64 i)=some (.rp (da l[i])):=by simp[dh,bG,h,da]
def dg(of:List Int)(k:Nat):Int:=if k=0 then 0 else if k=of.length then 3 else if of.getD k 0=of.getD (k-1) 0 then 2 else 1
def Iu(of:List Int)(SB:of.length<=1000000)(k:Nat)(hk:k<=of.length):aV prog 118 [aX of,vI k] (vI (dg of k)):=λU=>by
 refine PH.q ?_;have SD:=db of;refine aq.mix 6 ?_;unfold dg;rcases Nat.eq_zero_or_pos k with rfl|h0
 .have q1:(((0:Nat):Int)=0)=True:=RA rfl;apply sR;simp only[go_sem,seval,E8,q1];exact az.same rfl
 have q1:((k:Int)=0)=False:=H';rw[aM (by omega)];by_cases SV:k=of.length
 .have q2:((k:Int)=of.length)=True:=RA;rw[aK SV];apply sR;simp only[go_sem,seval,E8,q1,q2,SD];exact az.same rfl
 have q2:((k:Int)=of.length)=False:=H';rw[aM SV];have h1:k<of.length:=by omega
 have q5:=ao (m:=((k-1:Nat):Int)) (by omega) (by omega);have q6:((k:Int)-1)=((k-1:Nat):Int):=by omega
 have q7:=λU=>dp (U:=U) h1;have q8:=λU=>dp (U:=U) (l:=of) (i:=k-1) (by omega);have g1:of.getD k 0=of[k]:=by simp[h1]
 have g2:of.getD (k-1) 0=of[k-1]:=by
  have:k-1<of.length:=by omega
  simp[this]
 rw[g1,g2];by_cases h2:of[k]=of[k-1]
 .have q9:(of[k]=of[k-1])=True:=RA h2;rw[aK h2];apply sR;simp only[go_sem,seval,E8,q1,q2,SD,q5,q6,q7,q8,q9];exact az.same rfl
 .have q9:(of[k]=of[k-1])=False:=H' h2;rw[aM h2];apply sR;simp only[go_sem,seval,E8,q1,q2,SD,q5,q6,q7,q8,q9];exact az.same rfl
open Go.Proofs
def U'(l:List Nd)(of:List Int)(k:Nat):UH:=⟨dg of k,iO l of k,if iO l of k=0 then mo l of k else 0⟩
def oU(l:List Nd)(of:List Int):List UH:=(List.range (of.length+1)).map (U' l of)
def Cz{U:ak}{f:Nat->Int}{n j:Nat}(h:j<n):bG U 1 (aX ((List.range n).map f)) (.int .i64 j)=some (.rp (vI (f j))):=by
 rw[dp (by simpa using h)];simp
def Kd(U:ak)(l:List Nd)(hl:dq l)(hb:Sc l=true)(of:List Int)(SB:of.length<=1000000)(Sv:∀x∈of,0<=x/\x<l.length)(hm:qC l of=true):
 aB prog 82 [aQ l,aX of] U λr Z'=>aa U Z'/\∃vb,r=.RM [vb,vI 0]/\aP U Z' 77 3 vb ((oU l of).map da):=by
 refine e82.q ?_;have hs:=aa.refl U;have SD:=db of;refine mS 14 ?_;simp only[go_sem,seval,c82];refine pR rfl (qx l hl hb of SB hm _) ?_;have q0:((0:Int)≠0)=False:=H' (λh=>h rfl);have r0:R0 .i64 ((of.length:Int)+1):=ao;apply sR;simp only[go_sem,seval,q0,SD,r0];refine pS rfl (J1 l hl hb of SB Sv hm _) ?_;simp only[go_sem,seval];refine pS rfl (JU l hl hb of SB Sv hm _) ?_;simp only[go_sem,seval,SD,r0];refine aq.kE (λst=>aa U st.U/\aP U st.U 77 3 (st.s 11) ((oU l of).map da))
  (λm st=>∃j:Nat,j<=of.length+1/\m=of.length+1-j/\aa U st.U/\aP U st.U 77 3 (st.s 11) (((List.range j).map (U' l of)).map da)/\st.s 0=aQ l/\st.s 1=aX of/\st.s 7=aX (rM l of)/\st.s 9=aX (sy l of)/\st.s 34=vI ((of.length:Int)+1)/\st.s 35=vI j) (of.length+1) ?_ ?_ ?_
 .exact⟨0,by omega,rfl,hs,aP.start,rfl,rfl,rfl,rfl,rfl,rfl⟩
 .clear hs;rintro m ⟨S,J⟩ ⟨j,hj,rfl,hs,ho,t0,t1,t7,t9,t34,t35⟩;simp only at hs ho t0 t1 t7 t9 t34 t35;generalize XZ:S 11=v11 at ho;refine aq.mix 14 ?_;by_cases u':j<of.length+1
  .have q:((j:Int)<of.length+1)=True:=RA;have r1:=rI j;have Sa:(((List.range (j+1)).map (U' l of)).map da)=(((List.range j).map (U' l of)).map da)++[da (U' l of j)]:=by
    rw[List.range_succ];simp
   have Uh:(((List.range j).map (U' l of)).map da).length=j:=by simp
   have hi7:∀U,bG U 1 (aX (rM l of)) (.int .i64 j)=some (.rp (vI (iO l of j))):=λU=>Cz u';have hi9:∀U,bG U 1 (aX (sy l of)) (.int .i64 j)=some (.rp (vI (mo l of j))):=λU=>Cz u';apply sR;simp only[go_sem,seval,t0,t1,t7,t9,XZ,t34,t35,q];refine pJ rfl (Iu of SB j (by omega)) ?_;apply sG;simp only[go_sem,seval,t0,t1,t7,t9,XZ,t34,t35,hi7];refine bJ λi13 Y13 s13 Uw f13=>?_;by_cases hz:iO l of j=0
   .have q2:(iO l of j=0)=True:=RA hz;have Vg:da (U' l of j)=.agg [vI (dg of j),vI (iO l of j),vI (mo l of j)]:=by rw[U',aK hz];rfl
    simp only[go_sem,seval,Uw,t0,t1,t7,t9,XZ,t34,t35,hi7,hi9,q2];generalize X6:C' _ i13 _=Z13;have ZH:aa J Z13:=by rw[<-X6];exact s13.aL f13
    clear X6;refine aD λi58 WL TV WM f58=>?_;obtain⟨idA,SE,RO,TW,VY⟩:=ho.nM (ZH.trans TV);generalize ((List.range j).map (U' l of)).map da=rows at*;have Sh:(rows.length+1)*25<=140737488355328:=by omega
    simp only[go_sem,seval,t0,t1,t7,t9,XZ,t34,t35,SE,bN WM,Sh];refine bk λi59 Z59 WN a59 f59=>?_;have WO:=(RO U (aa.refl _) WL (hs.trans (ZH.trans TV))).trans WN;have V9:U i59=none:=(hs.trans (ZH.trans TV)).none f59;simp only[go_sem,seval,t0,t1,t7,t9,t34,t35,r1];refine⟨_,?_,j+1,by omega,rfl,WO,?_,by simp[t0,t1,t7,t9,t34]⟩
    .omega
    .rw[Sa,Vg];exact aP.new (by simp) a59 V9
   .have q2:(iO l of j=0)=False:=H' hz;have Vg:da (U' l of j)=.agg [vI (dg of j),vI (iO l of j),vI 0]:=by rw[U',aM hz];rfl
    simp only[go_sem,seval,Uw,t0,t1,t7,t9,XZ,t34,t35,hi7,hi9,q2];generalize X6:C' _ i13 _=Z13;have ZH:aa J Z13:=by rw[<-X6];exact s13.aL f13
    clear X6;refine aD λi58 WL TV WM f58=>?_;obtain⟨idA,SE,RO,TW,VY⟩:=ho.nM (ZH.trans TV);generalize ((List.range j).map (U' l of)).map da=rows at*;have Sh:(rows.length+1)*25<=140737488355328:=by omega
    simp only[go_sem,seval,t0,t1,t7,t9,XZ,t34,t35,SE,bN WM,Sh];refine bk λi59 Z59 WN a59 f59=>?_;have WO:=(RO U (aa.refl _) WL (hs.trans (ZH.trans TV))).trans WN;have V9:U i59=none:=(hs.trans (ZH.trans TV)).none f59;simp only[go_sem,seval,t0,t1,t7,t9,t34,t35,r1];refine⟨_,?_,j+1,by omega,rfl,WO,?_,by simp[t0,t1,t7,t9,t34]⟩
    .omega
    .rw[Sa,Vg];exact aP.new (by simp) a59 V9
  .have q:((j:Int)<of.length+1)=False:=H';have TT:j=of.length+1:=by omega
   subst TT;apply sR;simp only[go_sem,seval,t0,t1,t7,t9,t34,t35,q];exact⟨hs,XZ▸ho⟩
 .rintro⟨S,J⟩ ⟨hs,ho⟩;simp only at hs ho;generalize XZ:S 11=v11 at ho;refine mS 14 ?_;simp only[go_sem,seval,XZ];exact SG ⟨hs,v11,rfl,ho⟩
open Go.Proofs
def uR(x:UH)(first last:Bool):Prop:=
 (first=true->x.cls=0)/\(first=false->last=true->x.cls=3)/\(first=false->last=false->x.cls=1\/x.cls=2)/\
 (x.forced=0\/(2<=x.forced/\x.forced<=4/\x.cls≠3/\x.cls≠2))/\(x.rank=0\/((x.cls=1\/x.cls=2)/\x.forced=0/\0<x.rank/\x.rank<8))
instance (x:UH) (a b:Bool):Decidable (uR x a b):=by unfold uR;infer_instance
open Go.Proofs
def Um(b:List UH)(i:Nat):UH:=b.getD i ⟨0,0,0⟩
def xR(b:List UH)(i:Nat):Bool:=decide (uR (Um b i) (decide ((i:Int)=0)) (decide ((i:Int)=(b.length:Int)-1)))
def F8(b:List UH):Bool:=(List.range b.length).all (xR b)&&decide ((b.length:Int)>0)
open Go.Proofs
def j3(b:List UH)(i:Nat):V:=.agg [vI (Um b i).cls,vI (Um b i).forced,vI (Um b i).rank,vI i]
def vL(b:List UH)(dW to:Int):Nat:=(min to ((b.length:Int)-1)+1-max dW 0).toNat
def btw(b:List UH)(dW to:Int):List Nat:=List.range' (max dW 0).toNat (vL b dW to)
def Nq(U:ak)(b:List UH):cQ U false 1 (.rp (dh b))=some (dh b):=rfl
def range_split:∀(j s n:Nat),j<n->List.range' s n=List.range' s j++(s+j)::List.range' (s+j+1) (n-j-1)
 |0,s,n+1,_=>by simp[List.range']
 |j+1,s,n+1,h=>by
  have:=range_split j (s+1) n (by omega);rw[List.range',this,List.range'];have e1:s+1+j=s+(j+1):=by omega
  have e2:n-j-1=n+1-(j+1)-1:=by omega
  rw[e1,e2];rfl
def rF(s j:Nat):List.range' s (j+1)=List.range' s j++[s+j]:=by
 rw[range_split j s (j+1) (by omega),show j+1-j-1=0 by omega];rfl
def GZ(b:List UH)(hb:b.length<=1000000)(dW to:Int):Iter prog 125 [.rp (vI dW),.rp (vI to),.rp (dh b)] ((btw b dW to).map λi=>[j3 b i]):=by
 refine⟨Oo.c,λSo τ Jx Z0 hy hJ=>?_⟩;refine(Oo.q ?_).2;have hlb:=GJ b;refine mS 6 ?_;simp only[go_sem,seval,NL,bW];obtain⟨s,hsv⟩:∃s:Nat,s=(max dW 0).toNat:=⟨_,rfl⟩
 have Ty:max dW 0=(s:Int):=by omega
 obtain⟨n,hnv⟩:∃n:Nat,n=vL b dW to:=⟨_,rfl⟩
 have hn1:∀j:Nat,(((s+j:Nat):Int)<=min to ((b.length:Int)-1))↔j<n:=λj=>by rw[hnv,vL,Ty];omega
 rw[btw,<-hsv,<-hnv]at hy|-;rw[Ty];refine aq.loop (λm st=>∃(j:Nat) (ZJ:ak),j<=n/\m=n-j/\τ ((List.range' s j).map λi=>[j3 b i]) ZJ/\aa ZJ st.U/\st.s 0=.yl So/\st.s 1=.rp (vI dW)/\st.s 2=.rp (vI to)/\st.s 3=.rp (dh b)/\st.s 5=vI (s+j:Nat)) n ?_ ?_
 .exact⟨0,Z0,by omega,rfl,by simpa using hJ,aa.refl _,rfl,rfl,rfl,rfl,rfl⟩
 .rintro m ⟨S,J⟩ ⟨j,ZJ,hj,rfl,Us,G',t0,t1,t2,t3,t5⟩;simp only at G' t0 t1 t2 t3 t5;refine aq.mix 6 ?_;have r2:R0 .i64 ((b.length:Int)-1):=ao;by_cases u':j<n
  .have hle:=(hn1 j).2 u';have SX:s+j<b.length:=by omega
   have q:(((s+j:Nat):Int)<=min to ((b.length:Int)-1))=True:=RA hle;have r1:R0 .i64 (((s+j:Nat):Int)+1):=ao;have RF:=λU=>BQ (U:=U) SX;have hg:Um b (s+j)=b[s+j]:=by simp[Um,SX]
   have hfd:j3 b (s+j)=.agg [vI b[s+j].cls,vI b[s+j].forced,vI b[s+j].rank,vI (s+j:Nat)]:=by rw[j3,hg]
   have e:((List.range' s n).map λi=>[j3 b i])=((List.range' s j).map λi=>[j3 b i])++[j3 b (s+j)]::((List.range' (s+j+1) (n-j-1)).map λi=>[j3 b i]):=by
    rw[range_split j s n u'];simp
   have Sd:((List.range' s (j+1)).map λi=>[j3 b i])=((List.range' s j).map λi=>[j3 b i])++[[j3 b (s+j)]]:=by rw[rF];simp
   have q5:s+(j+1)=s+j+1:=by omega
   generalize s+j=sj at*;apply sR;simp only[go_sem,seval,t0,t1,t2,t3,t5,Nq,hlb,r2,eh,q,RF,da];rw[<-hfd];refine aq.qq (Post:=λb' Z2=>∃Sp,bE ZJ J Sp Z2/\((b'=true/\τ (((List.range' s j).map λi=>[j3 b i])++[[j3 b sj]]) Sp)\/(b'=false/\Jx (((List.range' s j).map λi=>[j3 b i])++[[j3 b sj]]) Sp))) rfl rfl rfl (hy _ [j3 b sj] _ ZJ J e Us G') ?_;rintro b' Z2 ⟨Sp,Uv,Ui⟩;rcases Ui with⟨rfl,Ui⟩|⟨rfl,Ui⟩
   .apply sR;simp only[go_sem,seval,t0,t1,t2,t3,t5,r1];refine⟨_,?_,j+1,Sp,by omega,rfl,by rw[Sd];exact Ui,Uv.1,by simp[t0,t1,t2,t3,q5]⟩;omega
   .apply sR;simp only[go_sem,seval,t0,t1,t2,t3,t5];exact⟨_,Sp,Uv.1,Wk.refl Uv.1 _,.inr ⟨_,⟨_,by rw[e,mR];rfl⟩,Ui⟩⟩
  .have q:(((s+j:Nat):Int)<=min to ((b.length:Int)-1))=False:=H' (λh=>u' ((hn1 j).1 h));have TT:j=n:=by omega
   subst TT;generalize s+j=sj at*;apply sR;simp only[go_sem,seval,t0,t1,t2,t3,t5,Nq,hlb,r2,eh,q];exact⟨_,ZJ,G',Wk.refl G' _,.inl Us⟩
open Go.Proofs
structure Fd where
 (b:UH)(i:Int)
def iZ(x:Fd):V:=.agg [vI x.b.cls,vI x.b.forced,vI x.b.rank,vI x.i]
def kj(ah:Fd->Fd->Bool->Bool)(p:Fd×Bool)(x:Fd):Fd×Bool:=if ah x p.1 p.2 then(x,true)else p
def hU(ah:Fd->Fd->Bool->Bool)(xs:List Fd)(d:Fd):Fd×Bool:=xs.foldl (kj ah) (d,false)
def B8(ah:Fd->Fd->Bool->Bool)(xs:List Fd)(x:Fd)(d:Fd):hU ah (xs++[x]) d=kj ah (hU ah xs d) x:=by simp[hU,nT]
def EF{g f:FuncId}{caps:List V}{xs:List Fd}(Yc:Iter prog g caps (xs.map λx=>[iZ x]))(d:Fd)(ah:Fd->Fd->Bool->Bool)
 (hf:∀x y s,aV prog f [iZ x,iZ y,.bool s] (.bool (ah x y s))):
 aV prog 99 [.fn g caps,iZ d,.fn f []] (iZ (hU ah xs d).1):=λU=>by
 refine e99.q ?_;have hs:=aa.refl U;have ZI:(V.fn f []).cells=[.fn f []]:=rfl;have W4:(V.fn f []).stays=true:=rfl;refine mS 10 ?_;simp only[go_sem,seval,c99,iZ,ZI,W4];refine aG hs λi4 Z4 s4 a4 f4 z4 hs=>?_;simp only[go_sem,seval,ZI,W4];refine aG hs λi5 Z5 s5 a5 f5 z5 hs=>?_;obtain⟨V6,a4⟩:=RC a4 f5 s5;simp only[go_sem,seval,ZI,W4];refine aG hs λi6 Z6 s6 a6 f6 z6 hs=>?_;obtain⟨n46,a4⟩:=RC a4 f6 s6;obtain⟨n56,a5⟩:=RC a5 f6 s6;simp only[go_sem,seval,a4,ZI,W4];have XA:=aa.refl Z6;refine aD λi7 Z7 s7 a7 f7=>?_;simp only[go_sem,seval,a7,ZI,W4];refine aD λi8 Z8 s8 a8 f8=>?_;have VA:i7≠i8:=bb a7 f8;have b7:=s8 _ _ a7;simp only[go_sem,seval,b7,a8,ab VA,ab VA.symm,ZI,W4];generalize hS:mix 10 _ _=S;have S5:S 5=.ptr i5 0 0:=by rw[<-hS];rfl
 have S6:S 6=.ptr i6 0 0:=by rw[<-hS];rfl
 have S7:S 7=.ptr i7 0 0:=by rw[<-hS];rfl
 have S8:S 8=.ptr i8 0 0:=by rw[<-hS];rfl
 have S11:S 11=.fn g caps:=by rw[<-hS];rfl
 clear hS;refine aq.gi (g:=.t 11) (caps:=caps) S11 Yc (λy hy=>?_) [] (λpre ZJ=>ZJ i7=some ⟨149,4,[iZ (hU ah (xs.take pre.length) d).1]⟩/\ZJ i8=some ⟨4,1,[.bool (hU ah (xs.take pre.length) d).2]⟩/\aa Z6 ZJ)
  (λ_ _ _=>False) ?_ ?_ ?_ ?_ ?_
 .obtain⟨t,_,rfl⟩:=iD.1 hy;rfl
 .refine⟨(ab VA).trans av,av,?_⟩;have h7:=(s7.trans s8).aL (id:=i7) (o:=⟨149,4,[.agg [vI d.b.cls,vI d.b.forced,vI d.b.rank,vI d.i]]⟩) f7;exact h7.aL (s7.none f8)
 .rintro pre y post ZJ ZB U6 ⟨J7,J8,Js⟩ G';obtain⟨t,hti,rfl⟩:=xI (f:=iZ) U6;have Sd:hU ah (xs.take (pre.length+1)) d=kj ah (hU ah (xs.take pre.length) d) t:=by rw[J9,hti];exact B8 _ _ _ _
  have hlen:(pre++[[iZ t]]).length=pre.length+1:=by simp
  rw[hlen,Sd];generalize hU ah (xs.take pre.length) d=p at*;obtain⟨p1,p2⟩:=p;simp only at J7 J8;have c7:=G' _ _ J7;have c8:=G' _ _ J8;have c5:=G' _ _ (Js _ _ a5);generalize UL:pz S [12] [iZ t]=S0;have T5:S0 5=.ptr i5 0 0:=by rw[<-UL];exact S5
  have T7:S0 7=.ptr i7 0 0:=by rw[<-UL];exact S7
  have T8:S0 8=.ptr i8 0 0:=by rw[<-UL];exact S8
  have T12:S0 12=iZ t:=by rw[<-UL];rfl
  clear UL;rw[iZ]at c7 T12;refine mS 10 ?_;simp only[go_sem,seval,T5,T7,T8,T12];rw[aH];intro i9 f9;have m7:i7≠i9:=bb c7 f9;have m8:i8≠i9:=bb c8 f9;have m5:i5≠i9:=bb c5 f9;simp only[go_sem,seval,T5,T7,T8,T12];have YI:=(bE.refl G').Hn (o:=⟨149,4,[.agg [vI t.b.cls,vI t.b.forced,vI t.b.rank,vI t.i]]⟩) f9;have d7:=(ab (o:=⟨149,4,[.agg [vI t.b.cls,vI t.b.forced,vI t.b.rank,vI t.i]]⟩) m7).trans c7;have d8:=(ab (o:=⟨149,4,[.agg [vI t.b.cls,vI t.b.forced,vI t.b.rank,vI t.i]]⟩) m8).trans c8;have d5:=(ab (o:=⟨149,4,[.agg [vI t.b.cls,vI t.b.forced,vI t.b.rank,vI t.i]]⟩) m5).trans c5;have d9:C' ZB i9 ⟨149,4,[.agg [vI t.b.cls,vI t.b.forced,vI t.b.rank,vI t.i]]⟩ i9=_:=av;generalize C' ZB i9 ⟨149,4,[.agg [vI t.b.cls,vI t.b.forced,vI t.b.rank,vI t.i]]⟩=Z9 at*;apply sR;simp only[go_sem,seval,T5,T7,T8,d5,d7,d8,d9];refine pR rfl (hf t p1 p2 _) ?_;cases hv:ah t p1 p2
  .apply sR;simp only[go_sem,seval,T5,T7,T8];refine⟨_,YI,?_,?_,Js⟩
   .rw[kj,hv];exact J7
   .rw[kj,hv];exact J8
  .apply sR;simp only[go_sem,seval,T5,T7,T8,d5,d7,d8,d9,ab VA,ab VA.symm];refine⟨_,(YI.set (id:=i7) J7).set (id:=i8) (by rw[ab VA.symm];exact J8),?_,?_,?_⟩
   .rw[kj,hv];exact(ab VA).trans av
   .rw[kj,hv];exact av
   .exact(Js.aL f7).aL (s7.none f8)
 .rintro Z' ⟨J7,J8,Js⟩;rw[dC,ik]at J7 J8;rw[iZ]at J7;have e6:=Js _ _ a6;refine mS 10 ?_;simp only[go_sem,seval,S6,S7,J7,e6];exact az.pure ((hs.trans Js).aL z6) rfl
 .intro id h;cases h
 .rintro pre Z' _ ⟨⟩
open Go.Proofs
def DM(b:List UH)(dW to:Int):aV prog 100 [dh b,vI dW,vI to] (.fn 125 [.rp (vI dW),.rp (vI to),.rp (dh b)]):=λU=>by
 refine Qy.q ?_;refine aq.mix 7 ?_;have q1:=aE b;have q2:=aF b;generalize dh b=x at*;apply sR;simp only[go_sem,seval,Mr,q1,q2];refine aD λVz Z1 s1 a1 f1=>?_;simp only[go_sem,seval,q1,q2];refine aD λWY Z2 s2 a2 f2=>?_;simp only[go_sem,seval,q1,q2];refine aD λid3 Z3 s3 a3 f3=>?_;simp only[go_sem,seval,q1,q2];have hs:=(s1.trans s2).trans s3;exact⟨_,U,hs,Wk.fn (vs':=[.rp (vI dW),.rp (vI to),.rp x]) ⟨Wk.ptr hs (s3 _ _ a2) (s1.none f2),Wk.ptr hs a3 ((s1.trans s2).none f3),Wk.ptr hs (s3 _ _ (s2 _ _ a1)) f1,trivial⟩,rfl,rfl⟩
def pF(b:List UH)(i:Nat):Fd:=⟨Um b i,i⟩
def yg:Fd:=⟨⟨0,0,0⟩,-1⟩
def fD(x _y:Fd)(s:Bool):Bool:=!s&&decide (x.b.forced≠0)
def Gh(x y:Fd)(s:Bool):aV prog 101 [iZ x,iZ y,.bool s] (.bool (fD x y s)):=λU=>by
 refine Qg.q ?_;have hs:=aa.refl U;obtain⟨⟨c,f,r⟩,i⟩:=x;obtain⟨⟨c',f',r'⟩,i'⟩:=y;refine mS 7 ?_;simp only[go_sem,seval,MM,iZ];refine aG hs λi3 Z3 s3 a3 f3 z3 hs=>?_;simp only[go_sem,seval];refine aG hs λi4 Z4 s4 a4 f4 z4 hs=>?_;obtain⟨Ye,a3⟩:=RC a3 f4 s4;cases s
 .by_cases h:f≠0
  .have q:(f≠0)=True:=RA h;simp only[go_sem,seval,a3,a4,q];exact az.pure hs (by simp[fD,h])
  .have q:(f≠0)=False:=H' h;simp only[go_sem,seval,a3,a4,q];exact az.pure hs (by simp[fD,h])
 .simp only[go_sem,seval,a3,a4];exact az.pure hs (by simp[fD])
def fe(b:List UH)(dW to:Int):Int:=(hU fD ((btw b dW to).map (pF b)) yg).1.i
def DY(b:List UH)(hb:b.length<=1000000)(dW to:Int):Iter prog 125 [.rp (vI dW),.rp (vI to),.rp (dh b)] (((btw b dW to).map (pF b)).map λx=>[iZ x]):=by
 have h:=GZ b hb dW to;rw[List.map_map];exact h
def HY(b:List UH)(hb:b.length<=1000000)(dW to:Int):aV prog 60 [dh b,vI dW,vI to] (vI (fe b dW to)):=λU=>by
 refine e60.q ?_;have hs:=aa.refl U;refine mS 8 ?_;simp only[go_sem,seval,c60];refine pS rfl (DM b dW to _) ?_;simp only[go_sem,seval];refine pR rfl (EF (DY b hb dW to) yg fD Gh _) ?_;have SU:∀x,(iZ x).cells=[vI x.b.cls,vI x.b.forced,vI x.b.rank,vI x.i]:=λ_=>rfl;apply sR;simp only[go_sem,seval,iZ];refine aG hs λi7 Z7 s7 a7 f7 z7 hs=>?_;simp only[go_sem,seval,a7];exact az.pure (hs.aL z7) rfl
open Go.Proofs
structure Kp where
 (Tk:List Int)
 (high body:Int)
def jo(l:List Nd)(x:Kp)(a:Int):Kp:=if(T9 l a).head<1\/x.body-(T9 l a).head<1 then x else⟨x.Tk++[a],x.high+(T9 l a).head,x.body-(T9 l a).head⟩
structure KpJ(Z0:ak)(i7:Nat)(x:Kp)(U:ak):Prop where
 row:∃v,U i7=some ⟨179,3,[.agg [v,vI x.high,vI x.body]]⟩/\aP (cg Z0 i7) U 3 1 v (x.Tk.map vI)
 sub:aa Z0 U
 no:Z0 i7=none
def Il(l:List Nd)(hb:Sc l=true)(x:Kp)(hlen:x.Tk.length<=1000000)(h0:0<=x.high)(h1:x.high<=4398046511104)(h2:0<=x.body)(h3:x.body<=4398046511104)(a:Nat)(ha:a<l.length)
 {Z0 ZJ ZB:ak}{i7:Nat}(hJ:KpJ Z0 i7 x ZJ)(G':aa ZJ ZB):
 aB prog 121 [.ptr i7 0 0,aQ l,vI a] ZB λ_ Z'=>∃Sp,bE ZJ ZB Sp Z'/\KpJ Z0 i7 (jo l x a) Sp:=by
 refine OP.q ?_;have R9:=(eJ hb ha).st.head;have SI:=λU=>bI (U:=U) (l:=l) (a:=a) ha;obtain⟨⟨v,J7,Jo⟩,Js,Jn⟩:=hJ;obtain⟨hds,high,body⟩:=x;simp only at hlen h0 h1 h2 h3 J7 Jo;have Xd:v.cells=[v]:=by rcases Jo with⟨rfl,_⟩|⟨_,rfl,_⟩<;>rfl
 have c7:=G' _ _ J7;unfold jo;rw[fX ha];simp only;have same:(l[a].st.head<1\/body-l[a].st.head<1)->az (.RM []) ZB λ_ Z'=>∃Sp,bE ZJ ZB Sp Z'/\KpJ Z0 i7 (if l[a].st.head<1\/body-l[a].st.head<1 then⟨hds,high,body⟩else⟨hds++[(a:Int)],high+l[a].st.head,body-l[a].st.head⟩) Sp:=λh=>by
  rw[aK h];exact⟨_,ZB,aa.refl _,Wk.refl (aa.refl _) _,ZJ,bE.refl G',⟨v,J7,Jo⟩,Js,Jn⟩
 refine aq.mix 7 ?_;have r1:R0 .i64 (body-l[a].st.head):=ao;have r2:R0 .i64 (high+l[a].st.head):=ao;by_cases hn:l[a].st.head<1
 .have q1:(l[a].st.head<1)=True:=RA hn;have fin:=same (.inl hn);generalize hX:(if l[a].st.head<1\/body-l[a].st.head<1 then(⟨hds,high,body⟩:Kp)else⟨hds++[(a:Int)],high+l[a].st.head,body-l[a].st.head⟩)=X at*;apply sR;simp only[go_sem,seval,HV,SI,Nd.cells,q1,c7,Xd];exact fin
 have q1:(l[a].st.head<1)=False:=H' hn;by_cases WT:body-l[a].st.head<1
 .have q2:(body-l[a].st.head<1)=True:=RA WT;have fin:=same (.inr WT);generalize hX:(if l[a].st.head<1\/body-l[a].st.head<1 then(⟨hds,high,body⟩:Kp)else⟨hds++[(a:Int)],high+l[a].st.head,body-l[a].st.head⟩)=X at*;apply sR;simp only[go_sem,seval,HV,SI,Nd.cells,q1,r1,q2,c7,Xd];exact fin
 have q2:(body-l[a].st.head<1)=False:=H' WT;rw[aM (by omega)];clear same;apply sR;simp only[go_sem,seval,HV,SI,Nd.cells,q1,r1,q2,c7,Xd];rw[aH];intro VC f28;have XI:(hds.map vI).length<=1000000:=by simpa using hlen
 have Sa:((hds++[(a:Int)]).map vI)=hds.map vI++[vI a]:=by simp
 generalize hds.map vI=rows at*;have YI:=(bE.refl G').Hn (o:=⟨3,1,[vI (a:Int)]⟩) f28;have y2:C' ZB VC ⟨3,1,[vI (a:Int)]⟩ i7=_:=(ab (bb c7 f28)).trans c7;have a28:C' ZB VC ⟨3,1,[vI (a:Int)]⟩ VC=some ⟨3,1,[vI (a:Int)]⟩:=av;generalize C' ZB VC ⟨3,1,[vI (a:Int)]⟩=Z8 at*;obtain⟨idA,SE,YU⟩:=Jo.Jc YI.1;have Sh:(rows.length+1)*9<=140737488355328:=by omega
 have k2:cg Z0 i7 i7≠none:=λh=>(bh.1 h).1 rfl;have YY:∀(i:Nat) (Zx:ak),cg Z0 i7 i≠none->Vc.bR Zx idA i=Zx i:=λi Zx hk=>by
  cases idA with
  |none=>rfl
  |some a=>exact eT (λe=>hk (by rw[e];exact(YU a rfl).1))
 simp only[go_sem,seval,SE,bN a28,Sh];rw[aH];intro TU f29;have f29:Z8 TU=none:=f29;have m29:i7≠TU:=bb y2 f29;have f29':Vc.bR Z8 idA TU=none:=by
  cases idA with
  |none=>exact f29
  |some a=>simp only[Vc.bR,del];split<;>first|rfl|exact f29
 have y2':C' (Vc.bR Z8 idA) TU ⟨3,1,rows++[vI (a:Int)]⟩ i7=some ⟨179,3,[.agg [v,vI high,vI body]]⟩:=by rw[ab m29,YY _ _ k2];exact y2
 have hB9:=((YI.JT (e:=idA) λi h=>(YU i h).2).new (o:=⟨3,1,rows++[vI (a:Int)]⟩) f29').set (id:=i7) (o:=⟨179,3,[.agg [v,vI high,vI body]]⟩) (o':=⟨179,3,[.agg [.own TU 0 (rows.length+1),vI (high+l[a].st.head),vI (body-l[a].st.head)]]⟩) (by rw[ab m29,YY _ _ k2];exact J7);simp only[go_sem,seval,Xd,y2',r1,r2];refine SG ⟨_,hB9,⟨.own TU 0 (rows.length+1),av,?_⟩,?_,Jn⟩
 .rw[Sa];refine aP.new (by simp) (by rw[ab m29.symm,av]) ?_;rw[bh];refine⟨m29.symm,?_⟩;cases h:Z0 TU with
  |none=>rfl
  |some o=>rw[YI.1 _ _ (Js _ _ h)]at f29;cases f29
 .refine aa.aL (λi o h=>?_) Jn;have h1:=Js _ _ h;rw[ab (bb (YI.1 _ _ h1) f29),YY _ _ (λhk=>by rw[(bh.1 hk).2]at h;cases h)];exact h1
open Go.Proofs
def bwd(L:List Int):List (List V):=(List.range' 0 L.length).map λq=>[vI ((L.length-1-q:Nat):Int),vI (L.getD (L.length-1-q) 0)]
def Gr(L:List Int)(hL:L.length<=1000000):Iter prog 153 [.rp (aX L)] (bwd L):=by
 refine⟨MY.c,λSo τ Jx Z0 hy hJ=>?_⟩;refine(MY.q ?_).2;have hlL:=db L;have ldI:∀(U:ak) (X:List Int),cQ U false 1 (.rp (aX X))=some (aX X):=λU X=>rfl;have r2:R0 .i64 ((L.length:Int)-1):=ao;refine mS 4 ?_;simp only[go_sem,seval,M1,ldI,hlL,r2];generalize hT:bwd L=T at hy|-
 let F:Nat->List V:=λq=>[vI ((L.length-1-q:Nat):Int),vI (L.getD (L.length-1-q) 0)]
 have hTF:T=(List.range' 0 L.length).map F:=hT.symm;refine aq.loop (λm st=>∃(j:Nat) (ZJ:ak),j<=L.length/\m=L.length-j/\τ ((List.range' 0 j).map F) ZJ/\aa ZJ st.U/\st.s 0=.yl So/\st.s 1=.rp (aX L)/\st.s 3=vI ((L.length:Int)-1-j)) L.length ?_ ?_
 .exact⟨0,Z0,by omega,rfl,by simpa using hJ,aa.refl _,rfl,rfl,by simp[aY,mix]⟩
 .rintro m ⟨S,J⟩ ⟨j,ZJ,hj,rfl,Us,G',t0,t1,t3⟩;simp only at G' t0 t1 t3;refine aq.mix 4 ?_;by_cases u':j<L.length
  .obtain⟨i,hi⟩:∃i:Nat,i=L.length-1-j:=⟨_,rfl⟩
   have TM:i<L.length:=by omega
   have t3':S 3=vI (i:Int):=by rw[t3];congr 1;omega
   have q:((i:Int)>=0)=True:=RA;have r1:R0 .i64 ((i:Int)-1):=ao;have RF:=λU=>dp (U:=U) TM;have hF:F j=[vI (i:Int),vI L[i]]:=by
    show[vI ((L.length-1-j:Nat):Int),vI (L.getD (L.length-1-j) 0)]=_;rw[<-hi];simp[TM]
   have e:T=((List.range' 0 j).map F)++[vI (i:Int),vI L[i]]::((List.range' (0+j+1) (L.length-j-1)).map F):=by
    rw[hTF,range_split j 0 L.length u',eQ,fC,lF,hF]
   have Sd:((List.range' 0 (j+1)).map F)=((List.range' 0 j).map F)++[[vI (i:Int),vI L[i]]]:=by rw[rF,eQ,lF,fC,hF];rfl
   have q5:(i:Int)-1=(L.length:Int)-1-((j+1:Nat):Int):=by omega
   apply sR;simp only[go_sem,seval,t0,t1,t3',ldI,q,RF];refine aq.qq (Post:=λb' Z2=>∃Sp,bE ZJ J Sp Z2/\((b'=true/\τ (((List.range' 0 j).map F)++[[vI (i:Int),vI L[i]]]) Sp)\/(b'=false/\Jx (((List.range' 0 j).map F)++[[vI (i:Int),vI L[i]]]) Sp))) rfl rfl rfl (hy _ [vI (i:Int),vI L[i]] _ ZJ J e Us G') ?_;rintro b' Z2 ⟨Sp,Uv,Ui⟩;rcases Ui with⟨rfl,Ui⟩|⟨rfl,Ui⟩
   .apply sR;simp only[go_sem,seval,t0,t1,t3',r1];refine⟨_,?_,j+1,Sp,by omega,rfl,by rw[Sd];exact Ui,Uv.1,by simp[t0,t1,q5]⟩;omega
   .apply sR;simp only[go_sem,seval,t0,t1,t3'];exact⟨_,Sp,Uv.1,Wk.refl Uv.1 _,.inr ⟨_,⟨_,by rw[e,mR];rfl⟩,Ui⟩⟩
  .have TT:j=L.length:=by omega
   subst TT;have q:((L.length:Int)-1-(L.length:Int)>=0)=False:=H';apply sR;simp only[go_sem,seval,t0,t1,t3,q];exact⟨_,ZJ,G',Wk.refl G' _,.inl (hTF▸Us)⟩
def ME(L:List Int):aV prog 119 [aX L] (.fn 153 [.rp (aX L)]):=λU=>by
 refine PL.q ?_;refine mS 3 ?_;simp only[go_sem,seval,M4,ae,af];refine aD λVz Z1 s1 a1 f1=>?_;simp only[go_sem,seval,ae,af];exact⟨_,U,s1,Wk.fn (vs':=[.rp (aX L)]) ⟨Wk.ptr s1 a1 f1,trivial⟩,rfl,rfl⟩
open Go.Proofs
def kH(x:Kp):V:=.agg [aX x.Tk,vI x.high,vI x.body]
def j0(l:List Nd)(L:List Int)(h:Int):Nat->Kp
 |0=>⟨[],0,h⟩
 |m+1=>jo l (j0 l L h m) (L.getD (L.length-1-m) 0)
def Dr{l:List Nd}{x:Kp}{a:Int}{m:Nat}{h:Int}(h0:0<=(T9 l a).head)(hx:x.Tk.length<=m/\0<=x.high/\0<=x.body/\x.high+x.body=h):(jo l x a).Tk.length<=m+1/\0<=(jo l x a).high/\0<=(jo l x a).body/\(jo l x a).high+(jo l x a).body=h:=by
 obtain⟨h1,h2,h3,h4⟩:=hx;unfold jo;split
 .exact⟨by omega,h2,h3,h4⟩
 .simp only[kI,TI,List.length_nil];omega
def Ax{l:List Nd}(hb:Sc l=true){L:List Int}(hL:∀x∈L,∃n:Nat,x=n/\n<l.length){h:Int}(hh:0<=h):∀m,m<=L.length->(j0 l L h m).Tk.length<=m/\0<=(j0 l L h m).high/\0<=(j0 l L h m).body/\(j0 l L h m).high+(j0 l L h m).body=h
 |0,_=>by simp[j0];omega
 |m+1,hm=>by
  have ih:=Ax hb hL hh m (by omega);rw[j0];refine Dr ?_ ih;have u':L.length-1-m<L.length:=by omega
  have hg:L.getD (L.length-1-m) 0=L[L.length-1-m]:=by simp[u']
  rw[hg];obtain⟨n,hn,TK⟩:=hL _ (Sx u');rw[hn,fX TK];exact(eJ hb TK).st.head.1
def pX(l:List Nd)(a:Nat)(h:Int):Kp:=j0 l (Xe l a) h (Xe l a).length
def F6(l:List Nd)(hl:dq l)(hb:Sc l=true)(hn:l.length<=100000)(a:Nat)(ha:a<l.length)(h:Int)(h0:0<=h)(h1:h<=2199023255552):
 aV prog 89 [aQ l,vI a,vI h] (kH (pX l a h)):=λU=>by
 refine e89.q ?_;have hs:=aa.refl U;refine mS 10 ?_;simp only[go_sem,seval,c89,ad,al];refine aG hs λi3 Z3 s3 a3 f3 z3 hs=>?_;simp only[go_sem,seval];refine aG hs λi6 Z6 s6 a6 f6 z6 hs=>?_;obtain⟨Xv,a3⟩:=RC a3 f6 s6;simp only[go_sem,seval,a3,ad];refine aD λi7 Z7 s7 a7 f7=>?_;have n37:i3≠i7:=bb a3 f7;have TH:i6≠i7:=bb a6 f7;have b3:=s7 _ _ a3;simp only[go_sem,seval,a7,b3,ab n37,ad,al];have h7:KpJ Z6 i7 ⟨[],0,h⟩ (C' Z7 i7 ⟨179,3,[.agg [.bj,vI 0,vI h]]⟩):=⟨⟨.bj,av,aP.start⟩,s7.aL f7,f7⟩
 have e3:C' Z7 i7 ⟨179,3,[.agg [.bj,vI 0,vI h]]⟩ i3=_:=(ab n37).trans b3;generalize C' Z7 i7 ⟨179,3,[.agg [.bj,vI 0,vI h]]⟩=Y7 at*;refine pR rfl (zA l hl hb hn a ha _) ?_;have hrg:∀x∈Xe l a,∃n:Nat,x=n/\n<l.length:=λx hx=>by
  obtain⟨n,h1,h2⟩:=yw ha x hx;exact⟨n,h1,by omega⟩
 have hlL:(Xe l a).length<=l.length+1:=kD _ _ _;unfold pX;generalize Xe l a=L at*;apply sR;simp only[go_sem,seval];refine pS rfl (ME L _) ?_;simp only[go_sem,seval];generalize hS:mix 10 _ _=S;have S3:S 3=.ptr i3 0 0:=by rw[<-hS];rfl
 have S6:S 6=.ptr i6 0 0:=by rw[<-hS];rfl
 have S7:S 7=.ptr i7 0 0:=by rw[<-hS];rfl
 have S16:S 16=.fn 153 [.rp (aX L)]:=by rw[<-hS];rfl
 clear hS;refine aq.gi (g:=.t 16) (caps:=[.rp (aX L)]) S16 (Gr L (by omega)) (λy hy=>?_) [] (λpre ZJ=>KpJ Z6 i7 (j0 l L h pre.length) ZJ)
  (λ_ _ _=>False) ?_ ?_ ?_ ?_ ?_
 .obtain⟨t,_,rfl⟩:=iD.1 hy;rfl
 .exact h7
 .rintro pre y post ZJ ZB U6 hJ G';have V2:pre.length<L.length:=by
   have:=congrArg List.length U6;simp[bwd]at this;omega
  obtain⟨i,hi⟩:∃i:Nat,i=L.length-1-pre.length:=⟨_,rfl⟩
  have TM:i<L.length:=by omega
  have hy:y=[vI (i:Int),vI (L.getD i 0)]:=by
   have h1:(bwd L)[pre.length]?=some y:=by rw[U6];simp
   simp[bwd,V2]at h1;rw[<-h1,hi];simp
  have hlen:(pre++[y]).length=pre.length+1:=by simp
  have hinv:=Ax hb hrg h0 pre.length (by omega);have RR:j0 l L h (pre.length+1)=jo l (j0 l L h pre.length) (L.getD i 0):=by rw[j0,hi]
  have hg:L.getD i 0=L[i]:=by simp[TM]
  obtain⟨n,RU,TK⟩:=hrg _ (Sx TM);rw[hlen,RR,hg,RU];rw[hg,RU]at hy;subst hy;generalize j0 l L h pre.length=x at*;have c3:=G' _ _ (hJ.sub _ _ a3);generalize UL:pz S [17,18] [vI (i:Int),vI (n:Int)]=S0;have T3:S0 3=.ptr i3 0 0:=by rw[<-UL];exact S3
  have T7:S0 7=.ptr i7 0 0:=by rw[<-UL];exact S7
  have T18:S0 18=vI (n:Int):=by rw[<-UL];rfl
  clear UL;refine mS 10 ?_;simp only[go_sem,seval,T3,T7,T18];apply sR;simp only[go_sem,seval,T3,T7,T18,c3,ad];have hc:=Il l hb x (by omega) (by omega) (by omega) (by omega) (by omega) n TK hJ G';rw[<-T7]at hc;refine Tx rfl hc ?_;rintro-Z2 ⟨Sp,hB,V0⟩;apply sR;simp only[go_sem,seval];exact⟨_,hB,V0⟩
 .rintro Z' hJ;have SX:(bwd L).length=L.length:=by simp[bwd]
  rw[SX]at hJ;obtain⟨⟨v,J7,Jo⟩,Js,Jn⟩:=hJ;have Xd:v.cells=[v]:=by rcases Jo with⟨rfl,_⟩|⟨_,rfl,_⟩<;>rfl
  have e6:=Js _ _ a6;refine mS 10 ?_;simp only[go_sem,seval,S6,S7,J7,e6,Xd];have RR:=(hs.trans Js).aL (o:=⟨63,3,[.agg [v,vI (j0 l L h L.length).high,vI (j0 l L h L.length).body]]⟩) z6;have Jo':aP (cg Z6 i7) (C' Z' i6 ⟨63,3,[.agg [v,vI (j0 l L h L.length).high,vI (j0 l L h L.length).body]]⟩) 3 1 v ((j0 l L h L.length).Tk.map vI):=by
   rcases Jo with h|⟨id,g1,g2,g3⟩
   .exact .inl h
   .refine .inr ⟨id,g1,?_,g3⟩;rw[ab (λe=>by rw[e,bh]at g3;rw[a6]at g3;cases g3.2)];exact g2
  have hK:aa U (cg Z6 i7):=λi o hh=>by
   rw[cg,aM (λe=>by rw[e,hs.none f7]at hh;cases hh)];exact hs _ _ hh
  exact⟨_,U,RR,Wk.agg (vs':=[aX (j0 l L h L.length).Tk,vI (j0 l L h L.length).high,vI (j0 l L h L.length).body]) ⟨Jo'.wk hK RR,Wk.refl RR _,Wk.refl RR _,trivial⟩,rfl,rfl⟩
 .intro id h;cases h
 .rintro pre Z' _ ⟨⟩
open Go.Proofs
def fW(l:List Nd)(h:Int):Bool:=decide (1<=h/\h<=1099511627776)&&Sc l
def GD(l:List Nd)(hl:dq l)(h:Int):aV prog 88 [aQ l,vI h] (.bool (fW l h)):=λU=>by
 refine e88.q ?_;refine mS 5 ?_;simp only[go_sem,seval,c88];refine pR rfl (qD h _) ?_;unfold fW;cases hd:decide (1<=h/\h<=1099511627776)
 .apply sR;simp only[go_sem,seval];exact az.same (by simp)
 .apply sR;simp only[go_sem,seval];refine pS rfl (Cn l hl _) ?_;simp only[go_sem,seval];exact az.same (by simp)
def vX(l:List Nd)(a h:Int):Kp:=if fW l h=true/\0<=a/\a<l.length then pX l a.toNat h else⟨[],0,0⟩
def Nb(l:List Nd)(hl:dq l)(a h:Int):aV prog 56 [aQ l,vI a,vI h] (kH (vX l a h)):=λU=>by
 refine e56.q ?_;have hs:=aa.refl U;have T1:=bO l;have hn:l.length<=100000:=by have:=hl.1;omega
 refine mS 7 ?_;simp only[go_sem,seval,c56];refine aG hs λi6 Z6 s6 a6 f6 z6 hs=>?_;simp only[go_sem,seval];refine pR rfl (GD l hl h _) ?_;have bad:¬(fW l h=true/\0<=a/\a<l.length)->az (.agg [.bj,vI 0,vI 0]) Z6 λr Z'=>r=kH (vX l a h)/\Z'=U:=λhb=>by
  rw[vX,aM hb];exact⟨_,U,hs,Wk.agg (vs':=[aX [],vI 0,vI 0]) ⟨Wk.bj 1,Wk.refl hs _,Wk.refl hs _,trivial⟩,rfl,rfl⟩
 have a6':C' Z6 i6 ⟨63,3,[.agg [.bj,vI 0,vI 0]]⟩=Z6:=by
  funext i;by_cases hi:i=i6
  .rw[hi,av];exact a6.symm
  .rw[ab hi]
 cases hm:fW l h
 .have fin:=bad (by simp[hm]);apply sR;simp only[go_sem,seval,a6];rw[a6'];exact fin
 by_cases h0:a<0
 .have q0:(a<0)=True:=RA h0;have fin:=bad (by omega);apply sR;simp only[go_sem,seval,a6,q0];rw[a6'];exact fin
 have q0:(a<0)=False:=H' h0;by_cases h1:a>=l.length
 .have q1:(a>=l.length)=True:=RA h1;have fin:=bad (by omega);apply sR;simp only[go_sem,seval,a6,q0,q1,T1];rw[a6'];exact fin
 have q1:(a>=l.length)=False:=H' h1;clear bad a6';obtain⟨n,rfl⟩:∃n:Nat,a=n:=⟨a.toNat,by omega⟩
 have hb:Sc l=true:=by unfold fW at hm;simp at hm;exact hm.2
 have hh:1<=h/\h<=1099511627776:=by unfold fW at hm;simp at hm;exact hm.1
 have hr:vX l n h=pX l n h:=by rw[vX,aK ⟨hm,by omega,by omega⟩,gu]
 rw[hr];apply sR;simp only[go_sem,seval,a6,q0,q1,T1];refine pS rfl (F6 l hl hb hn n (by omega) h (by omega) (by omega) _) ?_;simp only[go_sem,seval,a6,kH,ae,af];exact az.pure (hs.aL z6) rfl
def fp(l:List Nd)(h:Int):Nat->Int
 |0=>h
 |j+1=>if(R4 l j).kind=2\/(R4 l j).kind=3 then min (fp l h j) (pX l j h).body else fp l h j
def cP(l:List Nd)(h:Int):Int:=if fW l h=true then fp l h l.length else 0
def FV(l:List Nd)(hl:dq l)(h:Int):aV prog 78 [aQ l,vI h] (vI (cP l h)):=λU=>by
 refine e78.q ?_;have hs:=aa.refl U;have T1:=bO l;have hn:l.length<=100000:=by have:=hl.1;omega
 refine mS 8 ?_;simp only[go_sem,seval,c78];refine pR rfl (GD l hl h _) ?_;unfold cP;cases hm:fW l h
 .apply sR;simp only[go_sem,seval];exact az.same rfl
 have hb:Sc l=true:=by unfold fW at hm;simp at hm;exact hm.2
 have hh:1<=h/\h<=1099511627776:=by unfold fW at hm;simp at hm;exact hm.1
 rw[aK rfl];apply sR;simp only[go_sem,seval,T1];refine aq.loop (λm st=>∃j:Nat,j<=l.length/\m=l.length-j/\aa U st.U/\st.s 0=aQ l/\st.s 1=vI h/\st.s 5=vI (fp l h j)/\st.s 13=aQ l/\st.s 14=vI l.length/\st.s 15=vI j) l.length ?_ ?_
 .exact⟨0,by omega,rfl,hs,rfl,rfl,rfl,rfl,rfl,rfl⟩
 .clear hs;rintro m ⟨S,J⟩ ⟨j,hj,rfl,hs,t0,t1,t5,t13,t14,t15⟩;simp only at hs t0 t1 t5 t13 t14 t15;refine aq.mix 8 ?_;by_cases u':j<l.length
  .have q:=qT u';have r1:=rI j;have SI:=λU=>bI (U:=U) (l:=l) (a:=j) u';have RR:fp l h (j+1)=if l[j].kind=2\/l[j].kind=3 then min (fp l h j) (pX l j h).body else fp l h j:=by rw[fp,gx u']
   apply sR;simp only[go_sem,seval,t0,t1,t5,t13,t14,t15,q,SI,Nd.cells];refine aD λi7 Z7 s7 a7 f7=>?_;by_cases hk:l[j].kind=2
   .have q1:(l[j].kind=2)=True:=RA hk;simp only[go_sem,seval,a7,q1,t0,t1,t5,t13,t14,t15,ae,af];refine pS rfl (F6 l hl hb hn j u' h (by omega) (by omega) _) ?_;simp only[go_sem,seval,t0,t1,t5,t13,t14,t15,kH,r1,eh,ae,af];refine⟨_,?_,j+1,by omega,rfl,hs.trans (s7.aL f7),by simp[t0,t1,t13,t14,RR,hk]⟩;omega
   .have q1:(l[j].kind=2)=False:=H' hk;by_cases W6:l[j].kind=3
    .have q2:(l[j].kind=3)=True:=RA W6;have hk:=W6;simp only[go_sem,seval,a7,q1,q2,t0,t1,t5,t13,t14,t15,ae,af];refine pS rfl (F6 l hl hb hn j u' h (by omega) (by omega) _) ?_;simp only[go_sem,seval,t0,t1,t5,t13,t14,t15,kH,r1,eh,ae,af];refine⟨_,?_,j+1,by omega,rfl,hs.trans (s7.aL f7),by simp[t0,t1,t13,t14,RR,hk]⟩;omega
    .have q2:(l[j].kind=3)=False:=H' W6;simp only[go_sem,seval,a7,q1,q2,t0,t1,t5,t13,t14,t15,r1,ae,af];refine⟨_,?_,j+1,by omega,rfl,hs.trans (s7.aL f7),by simp[t0,t1,t13,t14,RR,hk,W6]⟩;omega
  .have q:=qF u';have TT:j=l.length:=by omega
   apply sR;simp only[go_sem,seval,t0,t1,t5,t13,t14,t15,q];exact az.pure hs (by rw[TT])
open Go.Proofs
def ag(l:List SK):(bK l).cells=[bK l]:=rfl
def ai(l:List SK):(bK l).stays=true:=rfl
def jw(l:List SK):ej false (bK l)=some (.int .i64 l.length):=by simp[bK,ej]
def fg{U:ak}{l:List SK}{i:Nat}(h:i<l.length):bG U 8 (bK l) (.int .i64 i)=some (.rp (bz l[i])):=by simp[bK,bG,h,bz]
structure lS(l:List SK):Prop where
 len:l.length<=1000000000
 WZ:∀a∈l,-1152921504606846976<=a.y/\a.y<=1152921504606846976/\0<=a.h/\a.h<=1152921504606846976
def xN(l:List SK)(k:Int):aV prog 122 [bK l,vI k] (.bool (decide (0<=k/\k<l.length))):=λU=>by
 refine Pv.q ?_;have hl:=jw l;refine aq.mix 5 ?_;by_cases h0:k>=0
 .have q0:(k>=0)=True:=RA h0;by_cases h1:k<l.length
  .have q1:(k<l.length)=True:=RA h1;apply sR;simp only[go_sem,seval,Hv,q0,q1,hl];exact az.same (by simp[h0,h1])
  .have q1:(k<l.length)=False:=H' h1;apply sR;simp only[go_sem,seval,Hv,q0,q1,hl];exact az.same (by simp[h1])
 .have q0:(k>=0)=False:=H' h0;apply sR;simp only[go_sem,seval,Hv,q0,hl];exact az.same (by simp<;>omega)
def DV(a:SK)(h:-1152921504606846976<=a.y/\a.y<=1152921504606846976/\0<=a.h/\a.h<=1152921504606846976):aV prog 156 [bz a] (vI (a.y+a.h)):=λU=>by
 refine PA.q ?_;have hs:=aa.refl U;have r1:R0 .i64 (a.y+a.h):=ao;refine mS 3 ?_;simp only[go_sem,seval,LA,bz];refine aG hs λi1 Z1 s1 a1 f1 z1 hs=>?_;simp only[go_sem,seval,a1,r1];exact az.pure hs rfl
def UZ(l:List SK)(k:Int):SK:=l.getD k.toNat ⟨0,0,0,0,0,0,0,0⟩
def fU(l:List SK)(k:Int):Int:=if 0<=k/\k<l.length then(UZ l k).y+(UZ l k).h else 0
def lC(l:List SK)(k:Int):Int:=if 0<=k/\k<l.length then(UZ l k).y-fU l (k-1)else 0
def gF(l:List SK)(i k:Int):Int:=if(0<=i/\i<l.length)/\(0<=k/\k<l.length)then(UZ l k).y-(UZ l i).y else 0
def bp{l:List SK}{k:Nat}(h:k<l.length):UZ l k=l[k]:=by simp[UZ,h]
def nG{l:List SK}(hl:lS l)(k:Int):-1152921504606846976<=fU l k/\fU l k<=2305843009213693952:=by
 unfold fU;split
 .rename_i h;obtain⟨n,rfl⟩:∃n:Nat,k=n:=⟨k.toNat,by omega⟩
  have hn:n<l.length:=by omega
  rw[bp hn];have:=hl.WZ _ (Sx hn);omega
 .omega
def DA(l:List SK)(hl:lS l)(k:Int):aV prog 123 [bK l,vI k] (vI (fU l k)):=λU=>by
 refine Pp.q ?_;refine mS 5 ?_;simp only[go_sem,seval,MN];refine pR rfl (xN l k _) ?_;unfold fU;by_cases h:0<=k/\k<l.length
 .obtain⟨n,rfl⟩:∃n:Nat,k=n:=⟨k.toNat,by omega⟩
  have hn:n<l.length:=by omega
  have hd:decide (0<=(n:Int)/\(n:Int)<l.length)=true:=by simp;omega
  have RF:=λU=>fg (U:=U) hn;rw[hd,aK h,bp hn];apply sR;simp only[go_sem,seval,RF,bz];refine pS rfl (DV l[n] (hl.WZ _ (Sx hn)) _) ?_;simp only[go_sem,seval];exact az.same rfl
 .have hd:decide (0<=k/\k<l.length)=false:=by simpa using h
  rw[hd,aM h];apply sR;simp only[go_sem,seval];exact az.same rfl
def Kk(l:List SK)(hl:lS l)(k:Int):aV prog 90 [bK l,vI k] (vI (lC l k)):=λU=>by
 refine e90.q ?_;refine mS 5 ?_;simp only[go_sem,seval,c90];refine pR rfl (xN l k _) ?_;unfold lC;by_cases h:0<=k/\k<l.length
 .obtain⟨n,rfl⟩:∃n:Nat,k=n:=⟨k.toNat,by omega⟩
  have hn:n<l.length:=by omega
  have hd:decide (0<=(n:Int)/\(n:Int)<l.length)=true:=by simp;omega
  have RF:=λU=>fg (U:=U) hn;have hll:=hl.len;have hy:=hl.WZ _ (Sx hn);have hbr:=nG hl ((n:Int)-1);have r1:R0 .i64 ((n:Int)-1):=ao;have r2:R0 .i64 (l[n].y-fU l ((n:Int)-1)):=ao;rw[hd,aK h,bp hn];apply sR;simp only[go_sem,seval,RF,bz,r1];refine pJ rfl (DA l hl ((n:Int)-1)) ?_;apply sG;simp only[go_sem,seval,r2];exact az.same rfl
 .have hd:decide (0<=k/\k<l.length)=false:=by simpa using h
  rw[hd,aM h];apply sR;simp only[go_sem,seval];exact az.same rfl
def Dp(l:List SK)(hl:lS l)(i k:Int):aV prog 124 [bK l,vI i,vI k] (vI (gF l i k)):=λU=>by
 refine OY.q ?_;refine mS 8 ?_;simp only[go_sem,seval,Ol];refine pR rfl (xN l i _) ?_;unfold gF;by_cases h:0<=i/\i<l.length
 .have hd:decide (0<=i/\i<l.length)=true:=by simp;omega
  rw[hd];apply sR;simp only[go_sem,seval];refine pR rfl (xN l k _) ?_;by_cases h2:0<=k/\k<l.length
  .obtain⟨m,rfl⟩:∃m:Nat,i=m:=⟨i.toNat,by omega⟩
   obtain⟨n,rfl⟩:∃n:Nat,k=n:=⟨k.toNat,by omega⟩
   have hm:m<l.length:=by omega
   have hn:n<l.length:=by omega
   have VY:decide (0<=(n:Int)/\(n:Int)<l.length)=true:=by simp;omega
   have RF:=λU=>fg (U:=U) hn;have YN:=λU=>fg (U:=U) hm;have hy:=hl.WZ _ (Sx hn);have hy2:=hl.WZ _ (Sx hm);have r1:R0 .i64 (l[n].y-l[m].y):=ao;rw[VY,aK ⟨h,h2⟩,bp hn,bp hm];apply sR;simp only[go_sem,seval,RF,YN,bz,r1];exact az.same rfl
  .have VY:decide (0<=k/\k<l.length)=false:=by simpa using h2
   rw[VY,aM (λh=>h2 h.2)];apply sR;simp only[go_sem,seval];exact az.same rfl
 .have hd:decide (0<=i/\i<l.length)=false:=by simpa using h
  rw[hd,aM (λh'=>h h'.1)];apply sR;simp only[go_sem,seval];exact az.same rfl
open Go.Proofs
structure RG where
 (atom done:Int)
 free:Bool
def aO(s:RG):V:=.agg [vI s.atom,vI s.done,.bool s.free]
def wK(s:RG)(l:List SK):V:=.agg [vI s.atom,vI s.done,.bool s.free,bK l]
def de(l:List SK)(s:RG):Prop:=(0<=s.atom/\s.atom<l.length)/\0<=s.done/\(s.done=0\/s.done<(UZ l s.atom).h)
instance (l:List SK) (s:RG):Decidable (de l s):=by unfold de;infer_instance
def FM(l:List SK)(s:RG):aV prog 87 [wK s l] (.bool (decide (de l s))):=λU=>by
 refine e87.q ?_;have hs:=aa.refl U;have hl:=jw l;obtain⟨a,d,fr⟩:=s;refine mS 3 ?_;simp only[go_sem,seval,c87,wK,ag,ai];refine aG hs λi1 Z1 s1 a1 f1 z1 hs=>?_;by_cases h0:a>=0
 .have q0:(a>=0)=True:=RA h0;by_cases h1:a<l.length
  .have q1:(a<l.length)=True:=RA h1;obtain⟨n,rfl⟩:∃n:Nat,a=n:=⟨a.toNat,by omega⟩
   have hn:n<l.length:=by omega
   have RF:=λU=>fg (U:=U) hn;have hg:=bp hn;by_cases h2:d>=0
   .have q2:(d>=0)=True:=RA h2;by_cases h3:d=0
    .have q3:(d=0)=True:=RA h3;simp only[go_sem,seval,a1,q0,q1,q2,q3,hl,ag,ai];have hh:de l ⟨n,d,fr⟩:=⟨⟨h0,h1⟩,h2,.inl h3⟩
     exact az.pure hs (by rw[Tl hh])
    .have q3:(d=0)=False:=H' h3;by_cases h4:d<l[n].h
     .have q4:(d<l[n].h)=True:=RA h4;simp only[go_sem,seval,a1,q0,q1,q2,q3,q4,hl,RF,bz,ag,ai];have hh:de l ⟨n,d,fr⟩:=⟨⟨h0,h1⟩,h2,.inr (by rw[hg];exact h4)⟩
      exact az.pure hs (by rw[Tl hh])
     .have q4:(d<l[n].h)=False:=H' h4;simp only[go_sem,seval,a1,q0,q1,q2,q3,q4,hl,RF,bz,ag,ai];exact az.pure hs (by rw[Tw (λh:de l ⟨n,d,fr⟩=>by rcases h.2.2 with h|h;exact h3 h;rw[hg]at h;exact h4 h)])
   .have q2:(d>=0)=False:=H' h2;simp only[go_sem,seval,a1,q0,q1,q2,hl,ag,ai];exact az.pure hs (by rw[Tw (λh:de l ⟨n,d,fr⟩=>h2 h.2.1)])
  .have q1:(a<l.length)=False:=H' h1;simp only[go_sem,seval,a1,q0,q1,hl,ag,ai];exact az.pure hs (by rw[Tw (λh:de l ⟨a,d,fr⟩=>h1 h.1.2)])
 .have q0:(a>=0)=False:=H' h0;simp only[go_sem,seval,a1,q0,hl,ag,ai];exact az.pure hs (by rw[Tw (λh:de l ⟨a,d,fr⟩=>h0 h.1.1)])
def xH(l:List SK)(s:RG):aV prog 55 [bK l,aO s] (.bool (decide (de l s))):=λU=>by
 refine e55.q ?_;have hs:=aa.refl U;have hc:=FM l s;obtain⟨a,d,fr⟩:=s;rw[wK]at hc;refine mS 5 ?_;simp only[go_sem,seval,c55,aO,ag,ai];refine aG hs λi3 Z3 s3 a3 f3 z3 hs=>?_;simp only[go_sem,seval,a3,ag,ai];refine pS rfl (hc _) ?_;simp only[go_sem,seval];exact az.pure hs rfl
def Hq(l:List SK)(hl:lS l)(s:RG)(h:de l s)(hd:s.done<=1152921504606846976):aV prog 91 [wK s l] (vI ((UZ l s.atom).h-s.done)):=λU=>by
 refine e91.q ?_;have hs:=aa.refl U;obtain⟨a,d,fr⟩:=s;obtain⟨⟨h0,h1⟩,h2,h3⟩:=h;simp only at h0 h1 h2 h3 hd|-;obtain⟨n,rfl⟩:∃n:Nat,a=n:=⟨a.toNat,by omega⟩
 have hn:n<l.length:=by omega
 have RF:=λU=>fg (U:=U) hn;have hy:=hl.WZ _ (Sx hn);rw[bp hn];have r1:R0 .i64 (l[n].h-d):=ao;refine mS 3 ?_;simp only[go_sem,seval,c91,wK,ag,ai];refine aG hs λi1 Z1 s1 a1 f1 z1 hs=>?_;simp only[go_sem,seval,a1,RF,r1,bz,ag,ai];exact az.pure hs rfl
def ij(l:List SK)(s:RG)(RQ:Int):Int:=if de l s/\s.free=true/\s.done=0/\lC l s.atom+((UZ l s.atom).h-s.done)<=RQ then lC l s.atom else 0
def Gt{l:List SK}(hl:lS l)(k:Int):-3458764513820540928<=lC l k/\lC l k<=2305843009213693952:=by
 unfold lC;have hb:=nG hl (k-1);split
 .rename_i h;obtain⟨n,rfl⟩:∃n:Nat,k=n:=⟨k.toNat,by omega⟩
  have hn:n<l.length:=by omega
  rw[bp hn];have:=hl.WZ _ (Sx hn);omega
 .omega
def Jb(l:List SK)(hl:lS l)(s:RG)(RQ:Int):aV prog 57 [bK l,aO s,vI RQ] (vI (ij l s RQ)):=λU=>by
 refine e57.q ?_;have hs:=aa.refl U;have hc:=FM l s;have XX:=λh hd=>Hq l hl s h hd;have hgr:=Gt hl s.atom;obtain⟨a,d,fr⟩:=s;rw[wK]at hc XX;simp only at hgr XX;refine mS 9 ?_;simp only[go_sem,seval,c57,aO,ag,ai];refine aG hs λi4 Z4 s4 a4 f4 z4 hs=>?_;simp only[go_sem,seval,a4,ag,ai];refine aG hs λi7 Z7 s7 a7 f7 z7 hs=>?_;obtain⟨Wo,a4⟩:=RC a4 f7 s7;simp only[go_sem,seval,a7,a4,ag,ai];refine pR rfl (hc _) ?_;have bad:¬(de l ⟨a,d,fr⟩/\fr=true/\d=0/\lC l a+((UZ l a).h-d)<=RQ)->ij l ⟨a,d,fr⟩ RQ=0:=λh=>aM h;by_cases hm:de l ⟨a,d,fr⟩
 .rw[Tl hm];cases fr
  .apply sR;simp only[go_sem,seval,a7,ag,ai];exact az.pure (hs.aL z7) (by rw[bad (λh=>by cases h.2.1)])
  have Wm:=hm.2.1;simp only at Wm;by_cases hd:d>0
  .have q:(d>0)=True:=RA hd;apply sR;simp only[go_sem,seval,a7,q,ag,ai];exact az.pure (hs.aL z7) (by rw[bad (λh=>by have:=h.2.2.1;omega)])
  .have q:(d>0)=False:=H' hd;obtain rfl:d=0:=by omega
   apply sR;simp only[go_sem,seval,a7,q,ag,ai];refine pR rfl (Kk l hl a _) ?_;have hlf':=XX hm (by omega);have hy:0<=(UZ l a).h/\(UZ l a).h<=1152921504606846976:=by
    obtain⟨h0,h1⟩:=hm.1;simp only at h0 h1;obtain⟨n,rfl⟩:∃n:Nat,a=n:=⟨a.toNat,by omega⟩
    have hn:n<l.length:=by omega
    rw[bp hn];exact(hl.WZ _ (Sx hn)).2.2
   have r1:R0 .i64 (lC l a+((UZ l a).h-0)):=ao;apply sR;simp only[go_sem,seval,a7,av,ag,ai];refine pR rfl (hlf' _) ?_;by_cases h4:lC l a+((UZ l a).h-0)<=RQ
   .have q4:(lC l a+((UZ l a).h-0)<=RQ)=True:=RA h4;have hk:ij l ⟨a,0,true⟩ RQ=lC l a:=aK ⟨hm,rfl,rfl,h4⟩;rw[hk];apply sR;simp only[go_sem,seval,r1,q4];exact az.pure (hs.aL z7) rfl
   .have q4:(lC l a+((UZ l a).h-0)<=RQ)=False:=H' h4;rw[bad (λh=>h4 h.2.2.2)];apply sR;simp only[go_sem,seval,r1,q4];exact az.pure (hs.aL z7) rfl
 .rw[Tw hm];apply sR;simp only[go_sem,seval,a7,ag,ai];exact az.pure (hs.aL z7) (by rw[bad (λh=>hm h.1)])
open Go.Proofs
def eL(l:List SK)(s:RG)(kept shift k:Int):Int:=if de l s/\s.atom<=k/\k<l.length then gF l s.atom k-s.done+kept+shift else 0
def sc{l:List SK}(hl:lS l)(i k:Int):-2305843009213693952<=gF l i k/\gF l i k<=2305843009213693952:=by
 unfold gF;split
 .rename_i h;obtain⟨n,rfl⟩:∃n:Nat,k=n:=⟨k.toNat,by omega⟩
  obtain⟨m,rfl⟩:∃m:Nat,i=m:=⟨i.toNat,by omega⟩
  have hn:n<l.length:=by omega
  have hm:m<l.length:=by omega
  rw[bp hn,bp hm];have h1:=hl.WZ _ (Sx hn);have h2:=hl.WZ _ (Sx hm);omega
 .omega
def Ft(l:List SK)(hl:lS l)(s:RG)(hd:s.done<=1152921504606846976)(kept shift k:Int)(hk:-1152921504606846976<=kept/\kept<=2305843009213693952)(hsh:0<=shift/\shift<=1152921504606846976):
 aV prog 94 [bK l,aO s,vI kept,vI shift,vI k] (vI (eL l s kept shift k)):=λU=>by
 refine e94.q ?_;have hs:=aa.refl U;have hc:=xH l s;have hor:=sc hl s.atom k;have hlen:=jw l;have bad:¬(de l s/\s.atom<=k/\k<l.length)->eL l s kept shift k=0:=λh=>aM h;have good:(de l s/\s.atom<=k/\k<l.length)->eL l s kept shift k=gF l s.atom k-s.done+kept+shift:=λh=>aK h;generalize eL l s kept shift k=P at*;obtain⟨a,d,fr⟩:=s;rw[aO]at hc;simp only at hor hd good bad;refine mS 11 ?_;simp only[go_sem,seval,c94,aO,ag,ai];refine aG hs λi6 Z6 s6 a6 f6 z6 hs=>?_;simp only[go_sem,seval,a6,ag,ai];refine pR rfl (hc _) ?_;by_cases hm:de l ⟨a,d,fr⟩
 .rw[Tl hm];by_cases h1:k<a
  .have q1:(k<a)=True:=RA h1;apply sR;simp only[go_sem,seval,a6,q1,ag,ai];exact az.pure hs (by rw[bad (λh=>by omega)])
  have q1:(k<a)=False:=H' h1;by_cases h2:k>=l.length
  .have q2:(k>=l.length)=True:=RA h2;apply sR;simp only[go_sem,seval,a6,q1,q2,hlen,ag,ai];exact az.pure hs (by rw[bad (λh=>by omega)])
  have q2:(k>=l.length)=False:=H' h2;rw[good ⟨hm,by omega,by omega⟩];have Wm:=hm.2.1;simp only at Wm;have r1:R0 .i64 (gF l a k-d):=ao;have r2:R0 .i64 (gF l a k-d+kept):=ao;have r3:R0 .i64 (gF l a k-d+kept+shift):=ao;apply sR;simp only[go_sem,seval,a6,q1,q2,hlen,ag,ai];refine pJ rfl (Dp l hl a k) ?_;apply sG;simp only[go_sem,seval,a6,r1,r2,r3];exact az.pure hs rfl
 .rw[Tw hm];apply sR;simp only[go_sem,seval,a6,ag,ai];exact az.pure hs (by rw[bad (λh=>hm h.1)])
open Go.Proofs
def Ir{m:Int}(h1:0<=m)(h2:m<=18446744073709551615):R0 .u64 m:=by
 unfold R0 IntKind.wrap;simp only[IntKind.signed,IntKind.bits];simp;omega
def lv(p:Nat->Bool):Nat->Nat->Nat->Nat
 |0,i,_=>i
 |f+1,i,j=>if i<j then if p ((i+j)/2)then lv p f i ((i+j)/2)else lv p f ((i+j)/2+1) j else i
def BY(p:Nat->Bool)(n:Nat):Nat:=lv p n 0 n
def nZ(p:Nat->Bool):∀(f g i j:Nat),j-i<=f->j-i<=g->lv p f i j=lv p g i j
 |0,0,_,_,_,_=>rfl
 |0,g+1,i,j,h,_=>by rw[lv,lv,aM (by omega)]
 |f+1,0,i,j,_,h=>by rw[lv,lv,aM (by omega)]
 |f+1,g+1,i,j,h1,h2=>by
  rw[lv,lv];split
  .rename_i u';split
   .exact nZ p f g i ((i+j)/2) (by omega) (by omega)
   .exact nZ p f g ((i+j)/2+1) j (by omega) (by omega)
  .rfl
def Ff{f:FuncId}{caps:List V}(p:Nat->Bool)(n:Nat)(hn:n<=1000000000){U:ak}(hf:∀i:Nat,i<n->aB prog f (vI i::caps) U λr Z'=>r=.bool (p i)/\Z'=U):
 aB prog 92 [vI n,.fn f caps] U λr Z'=>r=vI (BY p n)/\Z'=U:=by
 refine e92.q ?_;refine mS 8 ?_;simp only[go_sem,seval,c92];refine aq.loop (λm st=>∃i j:Nat,i<=j/\j<=n/\m=j-i/\BY p n=lv p (j-i) i j/\st.U=U/\st.s 1=.fn f caps/\st.s 5=vI i/\st.s 6=vI j) n ?_ ?_
 .exact⟨0,n,by omega,by omega,rfl,rfl,rfl,rfl,rfl,rfl⟩
 .rintro m ⟨S,J⟩ ⟨i,j,Xu,hjn,rfl,heq,R8,t1,t5,t6⟩;simp only at R8 t1 t5 t6;subst R8;refine aq.mix 8 ?_;by_cases u':i<j
  .have q:((i:Int)<j)=True:=RA;have r1:R0 .i64 ((i:Int)+j):=ao;apply sR;simp only[go_sem,seval,t1,t5,t6,q,r1];have hh:((i:Int)+j).fdiv (2^min 1 64)=(((i+j)/2:Nat):Int):=by
    rw[show(2^min 1 64:Int)=2 from rfl,Int.fdiv_eq_ediv_of_nonneg _ (by decide)];omega
   rw[hh];refine⟨Ir (by omega) (by omega),ao,?_⟩;obtain⟨k,hk⟩:∃k:Nat,k=(i+j)/2:=⟨_,rfl⟩
   rw[<-hk];obtain⟨w,hw⟩:∃w:Nat,j-i=w+1:=⟨j-i-1,by omega⟩
   rw[hw,lv,aK u',<-hk]at heq;refine pR rfl (hf k (by omega)) ?_;have r2:=rI k;cases hp:p k
   .rw[hp]at heq;apply sR;simp only[go_sem,seval,t1,t5,t6,r2];refine⟨_,?_,k+1,j,by omega,hjn,rfl,?_,by simp[t1,t6]⟩
    .omega
    .rw[heq];exact nZ p _ _ _ _ (by omega) (by omega)
   .rw[hp]at heq;apply sR;simp only[go_sem,seval,t1,t5,t6];refine⟨_,?_,i,k,by omega,by omega,rfl,?_,by simp[t1,t5]⟩
    .omega
    .rw[heq];exact nZ p _ _ _ _ (by omega) (by omega)
  .have q:((i:Int)<j)=False:=H';have Uf:i=j:=by omega
   subst Uf;apply sR;simp only[go_sem,seval,t1,t5,t6,q];refine az.same ?_;rw[heq,Nat.sub_self];rfl
open Go.Proofs
def gC(l:List SK)(s:RG)(kept shift body:Int)(n:Nat):Bool:=decide (eL l s kept shift (s.atom+n)+(UZ l (s.atom+n)).h>body)
def nR(l:List SK)(s:RG)(kept shift body:Int):Int:=if de l s then s.atom+BY (gC l s kept shift body) (l.length-s.atom.toNat)else 0
def yz(p:Nat->Bool):∀(f i j:Nat),i<=j->lv p f i j<=j
 |0,i,j,h=>h
 |f+1,i,j,h=>by
  rw[lv];split
  .split
   .exact l9 (yz p f _ _ (by omega)) (by omega)
   .exact yz p f _ _ (by omega)
  .exact h
def H3(p:Nat->Bool)(n:Nat):BY p n<=n:=yz p n 0 n (Nat.zero_le n)
def Bz{l:List SK}(hl:lS l){s:RG}(hd:s.done<=1152921504606846976){kept shift:Int}(hk:-1152921504606846976<=kept/\kept<=2305843009213693952)(hsh:0<=shift/\shift<=1152921504606846976)(k:Int):
 -4611686018427387904<=eL l s kept shift k/\eL l s kept shift k<=5764607523034234880:=by
 unfold eL;have h1:=sc hl s.atom k;split
 .rename_i h;have:=h.1.2.1;omega
 .omega
def GY(l:List SK)(hl:lS l)(s:RG)(hm:de l s)(hd:s.done<=1152921504606846976)(kept shift body:Int)(hk:-1152921504606846976<=kept/\kept<=2305843009213693952)(hsh:0<=shift/\shift<=1152921504606846976)
 {U:ak}{i5 i6 i7 i8 i9:Nat}(a5:U i5=some ⟨25,1,[bK l]⟩)(a6:U i6=some ⟨24,3,[aO s]⟩)(a7:U i7=some ⟨3,1,[vI kept]⟩)(a8:U i8=some ⟨3,1,[vI shift]⟩)(a9:U i9=some ⟨3,1,[vI body]⟩)
 (n:Nat)(hn:n<l.length-s.atom.toNat):
 aB prog 93 [vI n,.ptr i6 0 0,.ptr i5 0 0,.ptr i7 0 0,.ptr i8 0 0,.ptr i9 0 0] U λr Z'=>r=.bool (gC l s kept shift body n)/\Z'=U:=by
 refine e93.q ?_;have hpr:=Bz hl hd hk hsh (s.atom+n);have hpc:=Ft l hl s hd kept shift (s.atom+n) hk hsh;unfold gC;have hll:=hl.len;obtain⟨a,d,fr⟩:=s;obtain⟨h0,h1⟩:=hm.1;rw[aO]at a6 hpc;simp only at h0 h1 hn hpr hpc|-;obtain⟨m,rfl⟩:∃m:Nat,a=m:=⟨a.toNat,by omega⟩
 have e1:(m:Int)+(n:Int)=((m+n:Nat):Int):=by omega
 rw[e1]at hpr hpc|-;have hmn:m+n<l.length:=by omega
 have RF:=λU=>fg (U:=U) hmn;have hy:=hl.WZ _ (Sx hmn);rw[bp hmn];have r1:R0 .i64 ((m+n:Nat):Int):=ao;generalize eL l ⟨m,d,fr⟩ kept shift ((m+n:Nat):Int)=P at*;have r2:R0 .i64 (P+l[m+n].h):=ao;generalize m+n=q at*;refine aq.mix 9 ?_;by_cases hb:P+l[q].h>body
 .have q1:(P+l[q].h>body)=True:=RA hb;apply sR;simp only[go_sem,seval,c93,a5,a6,a7,a8,a9,e1,r1,ag,ai];refine pJ rfl hpc ?_;apply sG;simp only[go_sem,seval,a5,a6,a7,a8,a9,r2,RF,bz,q1,ag,ai];exact az.same rfl
 .have q1:(P+l[q].h>body)=False:=H' hb;apply sR;simp only[go_sem,seval,c93,a5,a6,a7,a8,a9,e1,r1,ag,ai];refine pJ rfl hpc ?_;apply sG;simp only[go_sem,seval,a5,a6,a7,a8,a9,r2,RF,bz,q1,ag,ai];exact az.same rfl
def Fj(l:List SK)(hl:lS l)(s:RG)(hd:s.done<=1152921504606846976)(kept shift body:Int)(hk:-1152921504606846976<=kept/\kept<=2305843009213693952)(hsh:0<=shift/\shift<=1152921504606846976):
 aV prog 58 [bK l,aO s,vI kept,vI shift,vI body] (vI (nR l s kept shift body)):=λU=>by
 refine e58.q ?_;have hs:=aa.refl U;have hc:=xH l s;have hlen:=jw l;have hll:=hl.len;refine aq.mix 12 ?_;have hsc:(aO s).cells=[vI s.atom,vI s.done,.bool s.free]:=rfl;have hss:(aO s).stays=true:=rfl;apply sR;simp only[go_sem,seval,c58,hsc,hss,ag,ai];refine aG hs λi5 Z5 s5 a5 f5 z5 hs=>?_;simp only[go_sem,seval,hsc,hss,ag,ai];refine aG hs λi6 Z6 s6 a6 f6 z6 hs=>?_;obtain⟨n56,a5⟩:=RC a5 f6 s6;simp only[go_sem,seval,hsc,hss,ag,ai];refine aG hs λi7 Z7 s7 a7 f7 z7 hs=>?_;obtain⟨n57,a5⟩:=RC a5 f7 s7;obtain⟨TH,a6⟩:=RC a6 f7 s7;simp only[go_sem,seval,hsc,hss,ag,ai];refine aG hs λi8 Z8 s8 a8 f8 z8 hs=>?_;obtain⟨n58,a5⟩:=RC a5 f8 s8;obtain⟨VU,a6⟩:=RC a6 f8 s8;obtain⟨VA,a7⟩:=RC a7 f8 s8;simp only[go_sem,seval,hsc,hss,ag,ai];refine aG hs λi9 Y9 s9 a9 f9 z9 hs=>?_;obtain⟨V9,a5⟩:=RC a5 f9 s9;obtain⟨XO,a6⟩:=RC a6 f9 s9;obtain⟨WX,a7⟩:=RC a7 f9 s9;obtain⟨n89,a8⟩:=RC a8 f9 s9;have b6:=a6;rw[aO]at b6;simp only[go_sem,seval,a5,b6,ag,ai];refine pR rfl (hc _) ?_;unfold nR;by_cases hm:de l s
 .obtain⟨h0,h1⟩:=hm.1;obtain⟨m,hmm⟩:∃m:Nat,s.atom=m:=⟨s.atom.toNat,by omega⟩
  have hn:((l.length:Int)-s.atom)=((l.length-s.atom.toNat:Nat):Int):=by omega
  have r1:R0 .i64 ((l.length-s.atom.toNat:Nat):Int):=ao;rw[Tl hm,aK hm];apply sR;simp only[go_sem,seval,a5,b6,hlen,hn,r1,ag,ai];refine pR rfl (Ff (gC l s kept shift body) (l.length-s.atom.toNat) (by omega) (λi hi=>GY l hl s hm hd kept shift body hk hsh a5 a6 a7 a8 a9 i hi)) ?_;have hse:=H3 (gC l s kept shift body) (l.length-s.atom.toNat);have r2:R0 .i64 (s.atom+(BY (gC l s kept shift body) (l.length-s.atom.toNat):Nat)):=ao;apply sR;simp only[go_sem,seval,b6,r2];exact az.pure hs rfl
 .rw[Tw hm,aM hm];apply sR;simp only[go_sem,seval];exact az.pure hs rfl
open Go.Proofs
structure Zf where
 (node atom fr x y w h:Int)
deriving DecidableEq
def cd(f:Zf):V:=.agg [vI f.node,vI f.atom,vI f.fr,vI f.x,vI f.y,vI f.w,vI f.h]
def oP(l:List SK)(k:Int):Zf:=⟨(UZ l k).node,k,0,(UZ l k).x,0,(UZ l k).w,(UZ l k).h⟩
def Zf.dW(f:Zf)(d:Int):Zf:={ f with fr:=d,h:=f.h-d }
def Zf.cut(f:Zf)(a:Int):Zf:={ f with h:=min f.h a }
def jI(l:List SK)(f:Zf):RG:=if f.fr+f.h<(UZ l f.atom).h then⟨f.atom,f.fr+f.h,false⟩else⟨f.atom+1,0,false⟩
def J5(l:List SK)(k:Nat)(hk:k<l.length):aV prog 95 [bK l,vI k] (cd (oP l k)):=λU=>by
 refine e95.q ?_;have hs:=aa.refl U;have RF:=λU=>fg (U:=U) hk;rw[oP,bp hk];refine mS 6 ?_;simp only[go_sem,seval,c95];refine aG hs λi4 Z4 s4 a4 f4 z4 hs=>?_;simp only[go_sem,seval,RF,bz,ag,ai];refine aG hs λi5 Z5 s5 a5 f5 z5 hs=>?_;obtain⟨V6,a4⟩:=RC a4 f5 s5;simp only[go_sem,seval,a5,a4,ab V6,ag,ai];exact az.pure ((hs.aL z5).aL z4) rfl
def FC(f:Zf)(d:Int)(hr:R0 .i64 (f.h-d)){U:ak}{i:Nat}(h:U i=some ⟨144,7,[cd f]⟩):
 aB prog 96 [.ptr i 0 0,vI d] U λ_ Z'=>Z'=C' U i ⟨144,7,[cd (f.dW d)]⟩:=by
 refine e96.q ?_;rw[cd]at h;refine aq.mix 4 ?_;generalize hX:(C' U i ⟨144,7,[cd (f.dW d)]⟩)=X;apply sR;simp only[go_sem,seval,c96,h,hr];exact SG hX
def H0(f:Zf)(a:Int){U:ak}{i:Nat}(h:U i=some ⟨144,7,[cd f]⟩):
 aB prog 97 [.ptr i 0 0,vI a] U λ_ Z'=>Z'=C' U i ⟨144,7,[cd (f.cut a)]⟩:=by
 refine e97.q ?_;rw[cd]at h;refine aq.mix 4 ?_;generalize hX:(C' U i ⟨144,7,[cd (f.cut a)]⟩)=X;apply sR;simp only[go_sem,seval,c97,h,eh];exact SG hX
def B5(l:List SK)(f:Zf)(k:Nat)(hf:f.atom=k)(hk:k<l.length)(hl:l.length<=1000000000)(hr:R0 .i64 (f.fr+f.h)){U:ak}{i:Nat}(h:U i=some ⟨144,7,[cd f]⟩):
 aB prog 98 [.ptr i 0 0,bK l] U λr Z'=>r=aO (jI l f)/\Z'=U:=by
 refine e98.q ?_;have hs:=aa.refl U;have RF:=λU=>fg (U:=U) hk;obtain⟨nd,Sl,fr,x,y,w,hh⟩:=f;simp only at hf hr;subst hf;rw[cd]at h;unfold jI;simp only;rw[bp hk];have r1:=rI k;refine mS 6 ?_;simp only[go_sem,seval,c98];refine aG hs λi4 Z4 s4 a4 f4 z4 hs=>?_;have b:=s4 _ _ h;have n4:i≠i4:=bb h f4;by_cases hc:fr+hh<l[k].h
 .have q:(fr+hh<l[k].h)=True:=RA hc;rw[aK hc];simp only[go_sem,seval,a4,b,hr,r1,q,RF,bz];exact az.pure (hs.aL z4) rfl
 .have q:(fr+hh<l[k].h)=False:=H' hc;rw[aM hc];simp only[go_sem,seval,a4,b,hr,r1,q,RF,bz];exact az.pure (hs.aL z4) rfl
open Go.Proofs
def iu{s:Nat->V}{U:ak}{a1 a2:Bool}{n1 n2 d e:Nat}{Post:V->ak->Prop}:
 Wq [.cell a1 n1 (.t d),.cell a2 n2 (.t e)] ⟨s,U⟩ Post=dQ (cQ U a1 n1 (s d)) λv=>dQ (cQ U a2 n2 (s e)) λw=>az (.RM [v,w]) U Post:=by
 unfold Wq az tf;simp only[iy,jA,VX.ev];cases cQ U a1 n1 (s d)<;>cases cQ U a2 n2 (s e)<;>simp[dQ]
def ez(l:List SK)(s:RG)(RQ:Int):Zf:=((oP l s.atom).dW s.done).cut RQ
def zd(l:List SK)(s:RG)(RQ:Int):Prop:=de l s/\1<=RQ
instance (l:List SK) (s:RG) (RQ:Int):Decidable (zd l s RQ):=by unfold zd;infer_instance
def qn(l:List SK)(s:RG)(RQ:Int):Zf:=if zd l s RQ then ez l s RQ else⟨0,0,0,0,0,0,0⟩
def fo(l:List SK)(s:RG)(RQ:Int):RG:=if zd l s RQ then jI l (ez l s RQ)else⟨0,0,false⟩
def Ld(l:List SK)(hl:lS l)(s:RG)(hd:s.done<=1152921504606846976)(RQ:Int):aV prog 59 [bK l,aO s,vI RQ] (.RM [cd (qn l s RQ),aO (fo l s RQ)]):=λU=>by
 refine e59.q ?_;have hs:=aa.refl U;have hll:=hl.len;have hsc:(aO s).cells=[vI s.atom,vI s.done,.bool s.free]:=rfl;have hss:(aO s).stays=true:=rfl;refine mS 9 ?_;simp only[go_sem,seval,c59,hsc,hss,ag,ai];refine aG hs λi4 Z4 s4 a4 f4 z4 hs=>?_;simp only[go_sem,seval];refine aG hs λi6 Z6 s6 a6 f6 z6 hs=>?_;obtain⟨n46,a4⟩:=RC a4 f6 s6;simp only[go_sem,seval];refine aG hs λi7 Z7 s7 a7 f7 z7 hs=>?_;obtain⟨Wo,a4⟩:=RC a4 f7 s7;obtain⟨TH,a6⟩:=RC a6 f7 s7;have b4:=a4;rw[aO]at b4;simp only[go_sem,seval,b4,ag,ai];refine pR rfl (xH l s _) ?_;have bad:¬zd l s RQ->(cd (qn l s RQ)=.agg [vI 0,vI 0,vI 0,vI 0,vI 0,vI 0,vI 0]/\aO (fo l s RQ)=.agg [vI 0,vI 0,.bool false]):=λh=>by
  rw[qn,fo,aM h,aM h];exact⟨rfl,rfl⟩
 have good:zd l s RQ->(qn l s RQ=ez l s RQ/\fo l s RQ=jI l (ez l s RQ)):=λh=>⟨aK h,aK h⟩
 generalize qn l s RQ=X at*;generalize fo l s RQ=Y at*;by_cases hm:de l s
 .rw[Tl hm];by_cases h1:RQ<1
  .have q1:(RQ<1)=True:=RA h1;obtain⟨e1,e2⟩:=bad (λh=>by have:=h.2;omega);rw[e1,e2];apply sR;simp only[go_sem,seval,a6,a7,ab TH,ab TH.symm,q1,iu];exact az.pure ((hs.aL z6).aL z7) rfl
  have q1:(RQ<1)=False:=H' h1;obtain⟨rfl,rfl⟩:=good ⟨hm,by omega⟩;clear good bad;obtain⟨h0,h2⟩:=hm.1;obtain⟨k,hk⟩:∃k:Nat,s.atom=k:=⟨s.atom.toNat,by omega⟩
  have Uj:k<l.length:=by omega
  apply sR;simp only[go_sem,seval,b4,hk,q1,ag,ai];refine pR rfl (J5 l k Uj _) ?_;have ZI:∀f,(cd f).cells=[vI f.node,vI f.atom,vI f.fr,vI f.x,vI f.y,vI f.w,vI f.h]:=λ_=>rfl;apply sR;simp only[go_sem,seval];refine aG hs λi8 Z8 s8 a8 f8 z8 hs=>?_;obtain⟨Vt,a4⟩:=RC a4 f8 s8;obtain⟨VU,a6⟩:=RC a6 f8 s8;obtain⟨VA,a7⟩:=RC a7 f8 s8;have Wm:=hm.2.1;have hy:=hl.WZ _ (Sx Uj);have hdh:s.done=0\/s.done<l[k].h:=by have:=hm.2.2;rw[hk,bp Uj]at this;exact this
  have hph:(oP l k).h=l[k].h:=by rw[oP,bp Uj]
  have W4:∀f,(cd f).stays=true:=λ_=>rfl;rw[aO]at a4;simp only[go_sem,seval,a8,a4,ab Vt,ZI,W4];generalize Vf:C' _ i8 _=Y8;replace a8:=SR Vf;replace a4:=R6 Vf Vt a4;replace a6:=R6 Vf VU a6;replace a7:=R6 Vf VA a7;replace hs:=SL Vf hs z8;have h8:Y8 i8=some ⟨144,7,[cd (oP l k)]⟩:=a8;refine Tx rfl (FC (oP l k) s.done (ao) h8) ?_;rintro-Y9 rfl;generalize Vf:C' _ i8 _=Y8;replace a8:=SR Vf;replace a4:=R6 Vf Vt a4;replace a6:=R6 Vf VU a6;replace a7:=R6 Vf VA a7;replace hs:=SL Vf hs z8;apply sR;simp only[go_sem,seval];refine Tx rfl (H0 ((oP l k).dW s.done) RQ a8) ?_;rintro-Y9 rfl;generalize Vf:C' _ i8 _=Y8;replace a8:=SR Vf;replace a4:=R6 Vf Vt a4;replace a6:=R6 Vf VU a6;replace a7:=R6 Vf VA a7;replace hs:=SL Vf hs z8;have Wx:((oP l k).dW s.done).cut RQ=ez l s RQ:=by rw[ez,hk]
  rw[Wx]at a8;have ha:(ez l s RQ).atom=k:=by rw[<-Wx];rfl
  have Wz:(ez l s RQ).fr=s.done:=by rw[<-Wx];rfl
  have hhh:(ez l s RQ).h=min (l[k].h-s.done) RQ:=by rw[<-Wx,<-hph];rfl
  have Wr:=λ(Z1:ak) (h1:aa Y8 Z1)=>B5 l (ez l s RQ) k ha Uj hll (ao) (h1 _ _ a8);generalize jI l (ez l s RQ)=Y at*;generalize ez l s RQ=X at*;have b8:=a8;rw[cd]at b8;apply sR;simp only[go_sem,seval,b8];refine Go.xB rfl rfl rfl (λZ1 h1=>Wr Z1 h1) ?_;have hyc:(aO Y).cells=[vI Y.atom,vI Y.done,.bool Y.free]:=rfl;have hys:(aO Y).stays=true:=rfl;apply sG;simp only[go_sem,seval,a6,a7,ab TH,ab TH.symm,hyc,hys,iu];exact az.pure ((hs.aL z6).aL z7) rfl
 .rw[Tw hm];obtain⟨e1,e2⟩:=bad (λh=>hm h.1);rw[e1,e2];apply sR;simp only[go_sem,seval,a6,a7,ab TH,ab TH.symm,iu];exact az.pure ((hs.aL z6).aL z7) rfl
open Go.Proofs
def mulR(a n:Int):Int:=
 if dt n≠0/\(dt a>(1099511627776:Int).tdiv (max (dt n) (-dt n))\/dt a<(-1099511627776:Int).tdiv (max (dt n) (-dt n)))then
  (if decide (dt a<0)=decide (dt n<0)then 1099511627776 else -1099511627776)
 else dt a*dt n
def HA{A B:Int}(h1:A<=(1099511627776:Int).tdiv (max B (-B)))(h2:(-1099511627776:Int).tdiv (max B (-B))<=A)(hB:B≠0):-1099511627776<=A*B/\A*B<=1099511627776:=by
 obtain⟨M,hM⟩:∃M,M=max B (-B):=⟨_,rfl⟩
 rw[<-hM]at h1 h2;have hM1:1<=M:=by omega
 rw[Int.neg_tdiv]at h2;rw[Int.tdiv_eq_ediv_of_nonneg (by omega)]at h1 h2;have h3:(1099511627776:Int)/M*M<=1099511627776:=Int.ediv_mul_le _ (by omega);have h4:=Int.mul_le_mul_of_nonneg_right h1 (by omega:0<=M);have h5:=Int.mul_le_mul_of_nonneg_right h2 (by omega:0<=M);rw[Int.neg_mul]at h5;rcases(by omega:M=B\/M=-B)with e|e
 .rw[e]at h4 h5 h3;omega
 .have hb:B=-M:=by omega
  rw[hb,Int.mul_neg];omega
def Ow(a n:Int):aV prog 77 [vI a,vI n] (vI (mulR a n)):=λU=>by
 refine e77.q ?_;refine mS 5 ?_;simp only[go_sem,seval,c77];refine pS rfl (Ao a _) ?_;simp only[go_sem,seval];refine pR rfl (Ao n _) ?_;unfold mulR;have hA:-1099511627776<=dt a/\dt a<=1099511627776:=by unfold dt;omega
 have hB:-1099511627776<=dt n/\dt n<=1099511627776:=by unfold dt;omega
 generalize dt a=A at*;generalize dt n=B at*;have b1:(true==true)=true:=rfl;have b2:(true==false)=false:=rfl;have b3:(false==true)=false:=rfl;have b4:(false==false)=true:=rfl;by_cases h0:B=0
 .subst h0;have q0:((0:Int)≠0)=False:=H' (λh=>h rfl);have r1:R0 .i64 (A*0):=ao;apply sR;simp only[go_sem,seval,q0,r1];exact az.same (by rw[aM (by simp)])
 have q0:(B≠0)=True:=RA h0;have hM1:1<=max B (-B)/\max B (-B)<=1099511627776:=by omega
 have qM:(max B (-B)=0)=False:=H';have rn:R0 .i64 (-B):=ao;have t1:0<=(1099511627776:Int).tdiv (max B (-B))/\(1099511627776:Int).tdiv (max B (-B))<=1099511627776:=by
  rw[Int.tdiv_eq_ediv_of_nonneg (by omega)];exact⟨Int.ediv_nonneg (by omega) (by omega),Int.ediv_le_self _ (by omega)⟩
 have t2:(-1099511627776:Int).tdiv (max B (-B))=-((1099511627776:Int).tdiv (max B (-B))):=Int.neg_tdiv ..;have hr:=HA (A:=A) (B:=B);have rq1:R0 .i64 ((1099511627776:Int).tdiv (max B (-B))):=ao;have rq2:R0 .i64 ((-1099511627776:Int).tdiv (max B (-B))):=ao;by_cases h1:A>(1099511627776:Int).tdiv (max B (-B))
 .have q1:(A>(1099511627776:Int).tdiv (max B (-B)))=True:=RA h1;rw[aK ⟨h0,.inl h1⟩];by_cases sA:A<0
  .have qA:(A<0)=True:=RA sA;by_cases sB:B<0
   .have qB:(B<0)=True:=RA sB;apply sR;simp only[go_sem,seval,q0,Int.zero_sub,rn,bW,qM,rq1,q1,qA,qB,b1,b2,b3,b4];exact az.same (by first|rfl|simp[sA,sB])
   .have qB:(B<0)=False:=H' sB;apply sR;simp only[go_sem,seval,q0,Int.zero_sub,rn,bW,qM,rq1,q1,qA,qB,b1,b2,b3,b4];exact az.same (by first|rfl|simp[sA,sB])
  .have qA:(A<0)=False:=H' sA;by_cases sB:B<0
   .have qB:(B<0)=True:=RA sB;apply sR;simp only[go_sem,seval,q0,Int.zero_sub,rn,bW,qM,rq1,q1,qA,qB,b1,b2,b3,b4];exact az.same (by first|rfl|simp[sA,sB])
   .have qB:(B<0)=False:=H' sB;apply sR;simp only[go_sem,seval,q0,Int.zero_sub,rn,bW,qM,rq1,q1,qA,qB,b1,b2,b3,b4];exact az.same (by first|rfl|simp[sA,sB])
 have q1:(A>(1099511627776:Int).tdiv (max B (-B)))=False:=H' h1;by_cases h2:A<(-1099511627776:Int).tdiv (max B (-B))
 .have q2:(A<(-1099511627776:Int).tdiv (max B (-B)))=True:=RA h2;rw[aK ⟨h0,.inr h2⟩];by_cases sA:A<0
  .have qA:(A<0)=True:=RA sA;by_cases sB:B<0
   .have qB:(B<0)=True:=RA sB;apply sR;simp only[go_sem,seval,q0,Int.zero_sub,rn,bW,qM,rq1,q1,rq2,q2,qA,qB,b1,b2,b3,b4];exact az.same (by first|rfl|simp[sA,sB])
   .have qB:(B<0)=False:=H' sB;apply sR;simp only[go_sem,seval,q0,Int.zero_sub,rn,bW,qM,rq1,q1,rq2,q2,qA,qB,b1,b2,b3,b4];exact az.same (by first|rfl|simp[sA,sB])
  .have qA:(A<0)=False:=H' sA;by_cases sB:B<0
   .have qB:(B<0)=True:=RA sB;apply sR;simp only[go_sem,seval,q0,Int.zero_sub,rn,bW,qM,rq1,q1,rq2,q2,qA,qB,b1,b2,b3,b4];exact az.same (by first|rfl|simp[sA,sB])
   .have qB:(B<0)=False:=H' sB;apply sR;simp only[go_sem,seval,q0,Int.zero_sub,rn,bW,qM,rq1,q1,rq2,q2,qA,qB,b1,b2,b3,b4];exact az.same (by first|rfl|simp[sA,sB])
 have q2:(A<(-1099511627776:Int).tdiv (max B (-B)))=False:=H' h2;have hr':=hr (by omega) (by omega) h0;have r3:R0 .i64 (A*B):=ao;rw[aM (λh=>by rcases h.2 with h|h;exact h1 h;exact h2 h)]
 apply sR;simp only[go_sem,seval,q0,Int.zero_sub,rn,bW,qM,rq1,q1,rq2,q2,r3];exact az.same rfl
open Go.Proofs
def E4(l:List SK)(hl:l.length<=1000000000):aV prog 84 [bK l] (bK l):=
 zM func84 (e84.b.trans rfl) e84.c (l.map bz) (by simp;omega)
def E7(l:List RS)(hl:l.length<=1000000000):aV prog 85 [bg l] (bg l):=
 zM func85 (e85.b.trans rfl) e85.c (l.map bl) (by simp;omega)
open Go
def TE.same{U:ak}{N:Nat->Prop}:∀(vs:List V),mH vs=true->TE U N vs vs
 |[],_=>.nil
 |v::vs,h=>by
  simp only[mH,Ba]at h;exact .cons _ _ _ _ (.same v h.1) (TE.same vs h.2)
def TE.app{U:ak}{N:Nat->Prop}:∀{a b c d:List V},TE U N a b->TE U N c d->TE U N (a++c) (b++d)
 |_,_,_,_,.nil,h=>h
 |_,_,_,_,.cons v u vs us h h',h2=>.cons v u _ _ h (TE.app h' h2)
def TE.one{U:ak}{N:Nat->Prop}{v u:V}(h:Fz U N v u):TE U N [v] [u]:=.cons _ _ _ _ h .nil
def aP.ab{K U:ak}{e sz:Nat}{v:V}{rows:List V}(h:aP K U e sz v rows){id:Nat}{o:Ob}(hK:K id≠none):aP K (C' U id o) e sz v rows:=by
 rcases h with h|⟨q,h1,h2,h3⟩
 .exact .inl h
 .have:q≠id:=λe=>hK (by rw[<-e];exact h3);exact .inr ⟨q,h1,by rw[Vc.ab this];exact h2,h3⟩
def aP.src{K U:ak}{e sz:Nat}{v:V}{rows:List V}(h:aP K U e sz v rows){Z1:ak}(hs:aa U Z1):cB Z1 sz v=some rows:=by
 rcases h with⟨rfl,rfl⟩|⟨id,rfl,ho,hk⟩
 .rfl
 .simp only[cB,hs _ _ ho];rw[aK (by simp)];simp
def Dm(l:List Int):mH (l.map vI)=true:=by
 induction l with
 |nil=>rfl
 |cons x l ih=>rw[fC,mH,ih];rfl
abbrev Lz(x:Nd):List V:=[vI x.kind,vI x.size,vI x.st.top,vI x.st.RX,vI x.st.RH,vI x.st.O',vI x.st.Si,vI x.st.RL,vI x.st.RY,vI x.st.head,vI x.st.before,vI x.st.after,vI x.st.inside,vI x.st.clear,vI x.line,vI x.space]
def ndW(x:Nd)(v:V):V:=.agg [vI x.kind,vI x.size,vI x.st.top,vI x.st.RX,vI x.st.RH,vI x.st.O',vI x.st.Si,vI x.st.RL,vI x.st.RY,vI x.st.head,vI x.st.before,vI x.st.after,vI x.st.inside,vI x.st.clear,vI x.line,vI x.space,v,vI x.side,vI x.w,vI x.h]
def LS{U:ak}{N:Nat->Prop}{x:Nd}{v:V}(h:Fz U N v (aX x.words)):Fz U N (ndW x v) (gz x):=by
 refine .agg _ _ ?_;exact(TE.same (Lz x) rfl).app ((TE.one h).app (TE.same [vI x.side,vI x.w,vI x.h] rfl))
def gm(K U:ak):List Nd->List V->Prop
 |[],[]=>True
 |x::l,r::rows=>(∃w,r=ndW x w/\aP K U 3 1 w (x.words.map vI))/\gm K U l rows
 |_,_=>False
def aP.kept{K U Z':ak}{id e:Nat}{w:V}{rows rows0:List V}(h:aP K U 3 1 w rows)(ho:U id=some ⟨e,20,rows0⟩)(hs:∀i,i≠id->∀o,U i=some o->Z' i=some o):aP K Z' 3 1 w rows:=by
 rcases h with h|⟨i,h1,h2,h3⟩
 .exact .inl h
 .have RU:i≠id:=λe=>by subst e;rw[ho]at h2;simp at h2
  exact .inr ⟨i,h1,hs i RU _ h2,h3⟩
def gm.kept{K U Z':ak}{id e:Nat}{rows0:List V}(ho:U id=some ⟨e,20,rows0⟩)(hs:∀i,i≠id->∀o,U i=some o->Z' i=some o):∀{l:List Nd} {rows:List V},gm K U l rows->gm K Z' l rows
 |[],[],_=>trivial
 |_::_,_::_,⟨⟨w,h1,h2⟩,h⟩=>⟨⟨w,h1,h2.kept ho hs⟩,gm.kept ho hs h⟩
 |[],_::_,h=>h.elim
 |_::_,[],h=>h.elim
def gm.mono{K U Z':ak}(hs:aa U Z'):∀{l:List Nd} {rows:List V},gm K U l rows->gm K Z' l rows
 |[],[],_=>trivial
 |_::_,_::_,⟨⟨w,h1,h2⟩,h⟩=>⟨⟨w,h1,h2.mono hs⟩,gm.mono hs h⟩
 |[],_::_,h=>h.elim
 |_::_,[],h=>h.elim
def aP.nP{K K' U:ak}{e sz:Nat}{v:V}{rows:List V}(h:aP K U e sz v rows)(hk:aa K' K):aP K' U e sz v rows:=by
 rcases h with h|⟨i,h1,h2,h3⟩
 .exact .inl h
 .exact .inr ⟨i,h1,h2,hk.none h3⟩
def gm.app{K U:ak}:∀{l l2:List Nd} {rows rows2:List V},gm K U l rows->gm K U l2 rows2->gm K U (l++l2) (rows++rows2)
 |[],_,[],_,_,h2=>h2
 |_::_,_,_::_,_,⟨h1,h⟩,h2=>⟨h1,gm.app h h2⟩
 |[],_,_::_,_,h,_=>h.elim
 |_::_,_,[],_,h,_=>h.elim
def xS(K U:ak)(v:V)(l:List Nd):Prop:=∃rows,aP K U 59 20 v rows/\gm K U l rows
def xS.mono{K U Z':ak}{v:V}{l:List Nd}(h:xS K U v l)(hs:aa U Z'):xS K Z' v l:=by
 obtain⟨rows,ho,hr⟩:=h;exact⟨rows,ho.mono hs,hr.mono hs⟩
open Go.Proofs
def H7(l:List Nd)(hl:l.length<=10000)(U:ak):aB prog 79 [aQ l] U λr Z'=>aa U Z'/\aP U Z' 59 20 r (l.map gz):=by
 refine e79.q ?_;refine aq.mix 3 ?_
 (refine aq.bx Th.nothing 8 ?_;simp only[go_sem,seval,pA,c79])
 refine aq.Em rfl rfl rfl λb hb=>?_;cases b
 .apply sR;simp only[go_sem,seval];refine aD λVz Z1 s1 a1 f1=>?_;obtain⟨idA,hd,RO⟩:=(aP.new (K:=U) (e:=59) (sz:=20) (n:=0) (rows:=[]) rfl a1 f1).dst (aa.refl _);have XJ:∀U,cB U 20 (aQ l)=some (l.map gz):=λU=>by simp[aQ,cB]
  have Sh:l.length*177<=140737488355328:=by omega
  simp only[go_sem,seval,hd,XJ,dC,Sh];refine bk λWY Z2 s2 a2 f2=>?_;have UF:=(RO U (aa.refl _) Z1 s1).trans s2;simp only[go_sem,seval];refine SG ⟨UF,aP.new (by simp) a2 (s1.none f2)⟩
 .apply sR;simp only[go_sem,seval];refine SG ⟨aa.refl _,?_⟩;have:l.map gz=[]:=hb rfl;rw[this];exact aP.start
def G0(l:List Int)(hl:l.length<=1000000000)(U:ak):aB prog 80 [aX l] U λr Z'=>aa U Z'/\aP U Z' 3 1 r (l.map vI):=by
 refine e80.q ?_;refine aq.mix 3 ?_
 (refine aq.bx Th.nothing 8 ?_;simp only[go_sem,seval,pA,c80])
 refine aq.Em rfl rfl rfl λb hb=>?_;cases b
 .apply sR;simp only[go_sem,seval];refine aD λVz Z1 s1 a1 f1=>?_;obtain⟨idA,hd,RO⟩:=(aP.new (K:=U) (e:=3) (sz:=1) (n:=0) (rows:=[]) rfl a1 f1).dst (aa.refl _);have Sh:l.length*9<=140737488355328:=by omega
  simp only[go_sem,seval,hd,x6,dC,Sh];refine bk λWY Z2 s2 a2 f2=>?_;have UF:=(RO U (aa.refl _) Z1 s1).trans s2;simp only[go_sem,seval];exact SG ⟨UF,aP.new (by simp) a2 (s1.none f2)⟩
 .apply sR;simp only[go_sem,seval];have:l.map vI=[]:=hb rfl;refine SG ⟨aa.refl _,?_⟩;rw[this];exact aP.start
open Go.Proofs
def fw(v u:V):Prop:=∀a n b m,v=.own a 0 n->u=.own b 0 m->a≠b
def fw.symm{v u:V}(h:fw v u):fw u v:=λa n b m h1 h2 e=>h b m a n h2 h1 e.symm
def fw.bj(u:V):fw .bj u:=λ_ _ _ _ h _=>by cases h
def aP.QS{K ZJ Z1:ak}{e sz:Nat}{v:V}{rows:List V}(h:aP K ZJ e sz v rows)(hs:aa ZJ Z1):
 ∃idA,cm Z1 e sz v=some (rows,idA)/\∀i,idA=some i->K i=none/\(∃o,ZJ i=some o)/\v=.own i 0 rows.length:=by
 rcases h with⟨rfl,rfl⟩|⟨id,rfl,ho,hk⟩
 .exact⟨none,rfl,λ_ h=>by cases h⟩
 .refine⟨some id,?_,λi h=>by cases h;exact⟨hk,⟨_,ho⟩,rfl⟩⟩;simp only[cm,hs _ _ ho];rw[aK ⟨trivial,trivial,trivial,Sf _⟩,ik]
def fw.new{U K:ak}{e sz id n:Nat}{u:V}{rows:List V}(hu:aP K U e sz u rows)(h:U id=none):fw (.own id 0 n) u:=by
 rintro a k b m h1 rfl e;cases h1;subst e;rcases hu with⟨h,_⟩|⟨i,h,h2,_⟩
 .cases h
 .cases h;rw[h]at h2;cases h2
open Go.Proofs
structure Bk where
 nodes:List Nd
 (w h:Int)
 atoms:List SK
 V1:List RS
 RD:Int
 Sk:List UH
def di(b:Bk):V:=.agg [aQ b.nodes,vI b.w,vI b.h,bK b.atoms,bg b.V1,vI b.RD,dh b.Sk]
open Go.Proofs
structure BkOk(b:Bk):Prop where
 Sl:lS b.atoms
 tight:∀a∈b.atoms,-18014398509481984<=a.y/\a.y<=18014398509481984/\0<=a.h/\a.h<=18014398509481984
 len:b.atoms.length<=900000
 flen:b.V1.length<=1000000
 flo:∀f∈b.V1,f.ok
 brk:b.Sk.length=b.atoms.length+1
def Nz(l:List UH)(U:ak):cQ U false 1 (.rp (dh l))=some (dh l):=rfl
open Go.Proofs
section
variable {P:Program} {n:Nat} {t:TypeId} {vs:List V}
def Ej(ht:P.underlying t=some .bool)(h:iH P (n+1) t vs):∃b,vs=[.bool b]:=by
 simpa only[iH,ht]using h
end
def Dz{n:Nat}{vs:List V}(h:iH prog (n+2) 24 vs):∃a d fr,vs=[vI a,vI d,.bool fr]:=by
 replace h:=ny underlying24 h;simp only[uF]at h;obtain⟨_,_,rfl,h1,_,_,rfl,h2,_,_,rfl,h3,rfl⟩:=h;obtain⟨m1,rfl,_⟩:=dk h1;obtain⟨m2,rfl,_⟩:=dk h2;obtain⟨b,rfl⟩:=Ej underlying4 h3;exact⟨m1,m2,b,rfl⟩
def CE{n:Nat}{vs:List V}(h:iH prog (n+1) 3 vs):∃m,nC prog 3 vs=vI m:=by
 obtain⟨m,rfl,-⟩:=dk h;exact⟨m,by unfold nC;rw[Jt];rfl⟩
open Go.Proofs
def bP.rt:bP->bP
 |.seq _ b=>b
 |c=>c
def ig{i j:Nat}(h:i≠j):(∀(U:ak) (o:Ob),C' U i o j=U j)/\∀(U:ak) (o:Ob),C' U j o i=U i:=⟨λ_ _=>ab h.symm,λ_ _=>ab h⟩
open Go.Proofs
def oN{b:Bk}(hb:BkOk b)(k:Int):-18014398509481984<=fU b.atoms k/\fU b.atoms k<=36028797018963968:=by
 unfold fU;split
 .rename_i h;obtain⟨n,rfl⟩:∃n:Nat,k=n:=⟨k.toNat,by omega⟩
  have hn:n<b.atoms.length:=by omega
  have:=hb.tight _ (Sx hn);rw[bp hn];omega
 .omega
def DE{b:Bk}(hb:BkOk b)(s:RG)(RQ:Int):-1152921504606846976<=ij b.atoms s RQ/\ij b.atoms s RQ<=2305843009213693952:=by
 unfold ij lC;split
 .split
  .rename_i h;have h1:=oN hb (s.atom-1);obtain⟨n,hn⟩:∃n:Nat,s.atom=n:=⟨s.atom.toNat,by omega⟩
   have TK:n<b.atoms.length:=by omega
   have:=hb.tight _ (Sx TK);rw[hn]at h1|-;rw[bp TK];omega
  .omega
 .omega
open Go.Proofs
def bP.lt:bP->bP
 |.seq a _=>a
 |c=>c
structure BkFull(b:Bk):Prop extends BkOk b where
 ry:dq b.nodes
 Zc:Sc b.nodes=true
 h1:1<=b.h
 h2:b.h<=1099511627776
 nod:∀a∈b.atoms,0<=a.node/\a.node<b.nodes.length
def du(b:Bk)(s:RG):Kp:=if b.atoms=[]then⟨[],0,b.h⟩else vX b.nodes (UZ b.atoms (min s.atom ((b.atoms.length:Int)-1))).node b.h
open Go.Proofs
def bkE(b:Bk):di b=.agg [aQ b.nodes,vI b.w,vI b.h,bK b.atoms,bg b.V1,vI b.RD,dh b.Sk]:=rfl
def Dk(b:Bk)(hb:1<=b.h):aV prog 83 [.rp (di b)] (.bool false):=λU=>by
 refine e83.q ?_;have q:(b.h=0)=False:=H';refine mS 3 ?_;simp only[go_sem,seval,c83,bkE,q,E6];exact az.same rfl
def DZ(b:Bk)(hb:BkFull b)(U:ak):aB prog 54 [.rp (di b)] U λr Z'=>aa U Z'/\aP U Z' 77 3 r (b.Sk.map da):=by
 refine e54.q ?_;have h1:=hb.brk;have h2:=hb.len;refine mS 3 ?_;simp only[go_sem,seval,c54];refine pS rfl (Dk b hb.h1 _) ?_;simp only[go_sem,seval,bkE,Nz];refine Tx rfl (AH func86 (e86.b.trans rfl) e86.c (b.Sk.map da) (by simp;omega) _) ?_;rintro r Z' ⟨hs,ho⟩;apply sR;simp only[go_sem,seval];exact SG ⟨hs,ho⟩
def tU(b:Bk):V:=.agg [bK b.atoms,bg b.V1,vI b.RD]
def wF(b:Bk)(hb:BkFull b):aV prog 53 [.rp (di b)] (tU b):=λU=>by
 refine e53.q ?_;have hs:=aa.refl U;have h2:=hb.len;have h3:=hb.flen;refine mS 4 ?_;simp only[go_sem,seval,c53];refine aG hs λi2 Z2 s2 a2 f2 z2 hs=>?_;simp only[go_sem,seval];refine pS rfl (Dk b hb.h1 _) ?_;simp only[go_sem,seval,bkE];refine aG hs λi3 Z3 s3 a3 f3 z3 hs=>?_;obtain⟨n23,a2⟩:=RC a2 f3 s3;simp only[go_sem,seval,a3,ag,aA,ai,aC];generalize hq3:C' _ i3 _=X3;replace a3:=SR hq3;replace a2:=R6 hq3 n23 a2;replace hs:=SL hq3 hs z3;refine pJ rfl (E4 b.atoms (by omega)) ?_;apply sG;simp only[go_sem,seval,a3];refine pJ rfl (E7 b.V1 (by omega)) ?_;apply sG;simp only[go_sem,seval,a3,a2,ag,aA,ai,aC,ab n23,ab n23];exact az.pure ((hs.aL z3).aL z2) rfl
open Go.Proofs
def B3{l:List Nd}{x:Kp}{a:Int}(h:1<=x.body):1<=(jo l x a).body:=by
 unfold jo;split
 .exact h
 .simp only;omega
def qW{l:List Nd}{L:List Int}{h:Int}(hh:1<=h):∀m,1<=(j0 l L h m).body
 |0=>hh
 |m+1=>B3 (qW hh m)
def xc{b:Bk}(hb:BkFull b)(s:RG)(h0:0<=s.atom):1<=(du b s).body:=by
 have h1:=hb.h1;unfold du;split
 .exact h1
 .rename_i he;have hl0:0<b.atoms.length:=BS.2 he;obtain⟨k,hk⟩:∃k:Nat,min s.atom ((b.atoms.length:Int)-1)=k:=⟨(min s.atom ((b.atoms.length:Int)-1)).toNat,by omega⟩
  have Uj:k<b.atoms.length:=by omega
  have hn:=hb.nod _ (Sx Uj);rw[hk,bp Uj];have hm:fW b.nodes b.h=true:=by simp[fW,hb.Zc,hb.h1,hb.h2]
  unfold vX;rw[aK ⟨hm,hn⟩];exact qW h1 _
def Yj(cnt:Nat->Nat)(a n:Nat):List Int:=(List.range' a n).flatMap λi=>List.replicate (cnt i) (i:Int)
def kL(cnt:Nat->Nat)(a:Nat):Yj cnt a 0=[]:=rfl
def jb(cnt:Nat->Nat)(a n:Nat):Yj cnt a (n+1)=List.replicate (cnt a) (a:Int)++Yj cnt (a+1) n:=by
 simp[Yj,List.range'_succ]
def nW{f g:Nat->Nat}:∀(n a:Nat),(∀i,a<=i->i<a+n->f i=g i)->Yj f a n=Yj g a n
 |0,_,_=>rfl
 |n+1,a,h=>by
  rw[jb,jb,h a (Sf a) (by omega),nW n (a+1) (λi h1 h2=>h i (by omega) (by omega))]
def A6(cnt:Nat->Nat):∀(n a m:Nat),Yj cnt a (n+m)=Yj cnt a n++Yj cnt (a+n) m
 |0,a,m=>by simp[kL]
 |n+1,a,m=>by
  rw[show n+1+m=(n+m)+1 by omega,jb,jb,A6 cnt n (a+1) m,mR,show a+1+n=a+(n+1) by omega]
def HG(f g:Nat->Nat)(a n m:Nat):Yj f a n++Yj g (a+n) m=Yj (λi=>if i<a+n then f i else g i) a (n+m):=by
 rw[A6];congr 1
 .exact nW n a λi h1 h2=>by simp[h2]
 .exact nW m (a+n) λi h1 h2=>by simp[show¬i<a+n by omega]
structure AtI(C:Int)(x:SK):Prop where
 y0:0<=x.y
 y1:x.y<=C
 h0:1<=x.h
 h1:x.h<=1099511627776
def AtI.mono{B C:Int}{x:SK}(h:AtI B x)(hB:B<=C):AtI C x:=⟨h.y0,Int.le_trans h.y1 hB,h.h0,h.h1⟩
def nH(a:Nat)(h:Int):∀(L:List Ln) (s:WS),(eI a h s L).atoms=s.atoms++L.map (eM a h)
 |[],s=>by simp[eI]
 |x::L,s=>by
  have:=nH a h L (s.put (eM a h x));simp only[eI,jK]at this|-;rw[this];simp[WS.put]
def I0(a:Nat)(h:Int)(L:List Ln):(L.map (eM a h)).map (·.node)=List.replicate L.length (a:Int):=by
 rw[List.map_map]
 induction L with
 |nil=>rfl
 |cons x L ih=>rw[fC,ih];rfl
def DJ{l:List Nd}{a e:Nat}(he:e<=l.length)(h:bC l a e=true)(WD:a<e)(hk:(R4 l a).kind≠1):RJ l a<=1:=by
 have ha:a<l.length:=by omega
 rw[gx ha]at hk;rw[bC,dif_pos WD]at h;simp only[VH ha]at h;split at h
 .simp only[Ba,kO,Uy]at h;have:=h.1.1.resolve_left hk;simp only[RJ,VH ha,Option.map_some,Option.getD_some];omega
 .cases h
structure y4(l:List Nd)(s t:WS)(a e C:Nat):Prop where
 Sl:∀x∈t.atoms,AtI (1099511627776*(C:Int)) x
 nodes:∃cnt,t.atoms.map (·.node)=s.atoms.map (·.node)++Yj cnt a (e-a)/\∀i,a<=i->i<e->okN (R4 l i) (cnt i)=true
def y4.join{l:List Nd}{s t u:WS}{a m e C D:Nat}(h1:a<=m)(h2:m<=e)(hA:y4 l s t a m C)(hB:y4 l t u m e D):y4 l s u a e D:=by
 obtain⟨_,f,hf,W5⟩:=hA;obtain⟨UK,g,hg,TY⟩:=hB;refine⟨UK,λi=>if i<m then f i else g i,?_,λi h3 h4=>?_⟩
 .rw[hg,hf,mR];congr 1;obtain⟨n,rfl⟩:∃n,m=a+n:=⟨m-a,by omega⟩
  obtain⟨k,rfl⟩:∃k,e=a+n+k:=⟨e-(a+n),by omega⟩
  rw[show a+n-a=n by omega,show a+n+k-(a+n)=k by omega,show a+n+k-a=n+k by omega,HG]
 .simp only;split
  .exact W5 i h3 (by omega)
  .exact TY i (by omega) h4
def tr{l:List Nd}{rs:List Rm}(hD:Zb l rs):∀(k a e:Nat) (s:WS) (C:Nat),e-a<=k->a<=e->e<=l.length->bC l a e=true->fk s C->(∀x∈s.atoms,AtI (1099511627776*(C:Int)) x)->y4 l s (cM l rs k a e s) a e (C+Ss l a e)
 |0,a,e,s,C,hk,WD,_,_,h,hx=>by
  obtain rfl:a=e:=by omega
  refine⟨λx Sg=>(hx x Sg).mono (by omega),λ_=>0,by simp[cM,kL],λi h1 h2=>by omega⟩
 |k+1,a,e,s,C,hk,WD,he,hr,h,hx=>by
  rw[cM];by_cases u':a<e
  .rw[aK u'];obtain⟨h1,h2⟩:=bS he hr (Sf a) u';obtain⟨h3,h4⟩:=cE he hr u';have R9:YZ (R4 l a):=by rw[gx (by omega)];exact eJ hD.Zc (by omega)
   have Yn:Ss l a e=Ss l a (a+(RJ l a).toNat)+Ss l (a+(RJ l a).toNat) e:=et (by omega) (by omega) he;have YQ:Ss l a (a+(RJ l a).toNat)=4+(R4 l a).words.length+Ss l (a+1) (a+(RJ l a).toNat):=nA (by omega) (by omega);have step:∀t,fk t (C+Ss l a (a+(RJ l a).toNat))->y4 l s t a (a+(RJ l a).toNat) (C+Ss l a (a+(RJ l a).toNat))->y4 l s (cM l rs k (a+(RJ l a).toNat) e t) a e (C+Ss l a e):=λt ht hA=>by
    rw[Yn,<-Nat.add_assoc];exact hA.join (by omega) (by omega) (tr hD k _ e t _ (by omega) (by omega) he h3 ht hA.Sl)
   have one:∀(t:WS) (n:Nat),okN (R4 l a) n=true->(RJ l a).toNat=1->t.atoms.map (·.node)=s.atoms.map (·.node)++List.replicate n (a:Int)->(∀x∈t.atoms,AtI (1099511627776*((C+Ss l a (a+(RJ l a).toNat):Nat):Int)) x)->y4 l s t a (a+(RJ l a).toNat) (C+Ss l a (a+(RJ l a).toNat)):=λt n hn Tg hm UK=>by
    refine⟨UK,λ_=>n,?_,λi h5 h6=>?_⟩
    .rw[hm,Tg,show a+1-a=1 by omega,jb,kL,j6]
    .obtain rfl:i=a:=by omega
     exact hn
   obtain⟨⟨hf,p1,p2,p3,p4⟩,p5,p6⟩:=h;have hI:fk s C:=⟨⟨hf,p1,p2,p3,p4⟩,p5,p6⟩
   by_cases k1:(R4 l a).kind=1
   .rw[aK k1];have ZW:=fZ hD k (a+1) (a+(RJ l a).toNat) _ _ (by omega) (by omega) (by omega) h4 (eu hI R9.st);have hA2:=tr hD k (a+1) (a+(RJ l a).toNat) (s.enter (R4 l a).st) (C+2) (by omega) (by omega) (by omega) h4 (eu hI R9.st) (λx Sg=>(hx x Sg).mono (by omega));refine step _ ((jB ZW R9.st).more (by omega)) ?_;obtain⟨UK,cnt,hc,hco⟩:=hA2;refine⟨λx Sg=>(UK x Sg).mono (by omega),λi=>if i=a then 0 else cnt i,?_,λi h5 h6=>?_⟩
    .have e1:(s.enter (R4 l a).st).atoms=s.atoms:=rfl;rw[e1]at hc;show(cM l rs k (a+1) (a+(RJ l a).toNat) (s.enter (R4 l a).st)).atoms.map (·.node)=_;rw[hc];congr 1;obtain⟨m,hm⟩:∃m,(RJ l a).toNat=m+1:=⟨(RJ l a).toNat-1,by omega⟩
     rw[hm,show a+(m+1)-(a+1)=m by omega,show a+(m+1)-a=m+1 by omega,jb];simp only[if_true,List.replicate_zero,mL];exact nW m (a+1) λi h5 h6=>by simp[show i≠a by omega]
    .simp only;split
     .rename_i e;subst e;simp[okN,k1]
     .exact hco i (by omega) h6
   .rw[aM k1];have Tg:(RJ l a).toNat=1:=by
     have:=DJ he hr u' k1;omega
    by_cases k2:(R4 l a).kind=2
    .rw[aK k2];refine step _ ((ke hI R9 a).more (by omega)) ?_;have hl:=R9.line;obtain⟨hw0,hl1⟩:=R9.text k2;have hLl:=jt s.g' (R4 l a).words (R4 l a).space (R4 l a).line (eo rs a) (R4 l a).words.length 0 (s.P'.y+s.P'.m);have hLb:=iY (ws:=(R4 l a).words) (space:=(R4 l a).space) (s:=eo rs a) (λf Xf=>(hf f Xf).yB) hl.1 (R4 l a).words.length 0 (s.P'.y+s.P'.m);have hLn:cA s.g' (R4 l a).words (R4 l a).space (R4 l a).line (eo rs a) (R4 l a).words.length 0 (s.P'.y+s.P'.m)≠[]:=by
      obtain⟨m,hm⟩:∃m,(R4 l a).words.length=m+1:=⟨(R4 l a).words.length-1,by omega⟩
      rw[hm,cA,aK (by omega)];simp
     have hte:(s.text rs a (R4 l a)).atoms=s.atoms++(cA s.g' (R4 l a).words (R4 l a).space (R4 l a).line (eo rs a) (R4 l a).words.length 0 (s.P'.y+s.P'.m)).map (eM a (R4 l a).line):=nH a _ _ s;generalize cA s.g' (R4 l a).words (R4 l a).space (R4 l a).line (eo rs a) (R4 l a).words.length 0 (s.P'.y+s.P'.m)=L at*;have hL0:=BS.2 hLn;have hmul:(R4 l a).line*((R4 l a).words.length:Int)<=1099511627776*((R4 l a).words.length:Int):=Int.mul_le_mul_of_nonneg_right hl.2 (by omega);refine one _ L.length (by simp only[okN,k2,if_true,Uy];omega) Tg (by rw[hte,eQ,I0]) (λx Sg=>?_);rw[hte]at Sg;rcases fH.1 Sg with Sg|Sg
     .exact(hx x Sg).mono (by omega)
     .obtain⟨y,hy,rfl⟩:=iD.1 Sg;have:=hLb y hy;refine⟨?_,?_,hl1,hl.2⟩<;>simp only[eM]<;>omega
    .rw[aM k2];by_cases k3:(R4 l a).kind=3
     .rw[aK k3];refine step _ ((kf hI R9 a).more (by omega)) ?_;have hyr:=eX (w:=(R4 l a).w) (high:=(R4 l a).h) (y:=s.P'.y+s.P'.m) (s:=eo rs a) (λf Xf=>(hf f Xf).yB);have hbx:=R9.box (.inl k3);have hh:=R9.h;refine one _ 1 (by simp[okN,k3]) Tg (by simp[WS.mono,WS.put]) (λx Sg=>?_);simp only[WS.mono,WS.put]at Sg;rcases fH.1 Sg with Sg|Sg
      .exact(hx x Sg).mono (by omega)
      .simp only[jY]at Sg;subst Sg;refine⟨?_,?_,?_,?_⟩<;>simp only<;>omega
     .rw[aM k3];have k4:(R4 l a).kind=4:=by rcases R9.kind with h|h|h|h;exact absurd h k1;exact absurd h k2;exact absurd h k3;exact h
      refine step _ ((jx hD hI (by omega) R9 k4).more (by omega)) ?_;exact one _ 0 (by simp[okN,k4]) Tg (by simp[WS.float]) (λx Sg=>(hx x Sg).mono (by omega))
  .rw[aM u'];obtain rfl:a=e:=by omega
   exact⟨λx Sg=>(hx x Sg).mono (by omega),λ_=>0,by simp[kL],λi h1 h2=>by omega⟩
def Fw(i:Int)(L:List Int)(h:∀x∈L,x≠i):∀k,tG i (List.replicate k i++L)=k
 |0=>by
  cases L with
  |nil=>rfl
  |cons x L=>rw[List.replicate_zero,mL,tG,aM (h x (by simp))]
 |k+1=>by rw[List.replicate_succ,List.cons_append,tG,aK rfl,Fw i L h k]
def yn{cnt:Nat->Nat}:∀{n a:Nat} {x:Int},x∈Yj cnt a n->∃i:Nat,x=i/\a<=i/\i<a+n
 |0,_,_,h=>by simp[kL]at h
 |n+1,a,x,h=>by
  rw[jb]at h;rcases fH.1 h with h|h
  .exact⟨a,(List.mem_replicate.1 h).2,by omega,by omega⟩
  .obtain⟨i,h1,h2,h3⟩:=yn h;exact⟨i,h1,by omega,by omega⟩
def zu{cnt:Nat->Nat}{of:List Int}:∀(r:List Nd) (i Sl:Nat),of.drop Sl=Yj cnt i r.length->Sl<=of.length->(∀j (h:j<r.length),okN r[j] (cnt (i+j))=true)->AQ of r i Sl=true
 |[],i,Sl,h,hl,_=>by
  have:of.length<=Sl:=by
   have:=congrArg List.length h;simp[kL]at this;omega
  simp[AQ];omega
 |x::r,i,Sl,h,hl,ho=>by
  rw[TI,jb]at h;have ht:me of Sl i=cnt i:=by
   rw[me,h];exact Fw _ _ (λy hy=>by obtain⟨j,h1,h2,_⟩:=yn hy;omega) _
  rw[AQ,ht];have h0:=ho 0 (by simp);simp only[List.getElem_cons_zero,Nat.add_zero]at h0;rw[h0,Bool.true_and];have hd:of.drop (Sl+cnt i)=Yj cnt (i+1) r.length:=by
   rw[<-List.drop_drop,h,Ad (by simp)];simp
  refine zu r (i+1) _ hd ?_ (λj hj=>?_)
  .have:=congrArg List.length h;simp at this;omega
  .have:=ho (j+1) (by simpa using hj);simp only[List.getElem_cons_succ]at this
   rwa [show i+1+j=i+(j+1) by omega]
structure Mv(l:List Nd)(w:Int):Prop where
 may:qC l ((cJ l w).atoms.map (·.node))=true
 nod:∀a∈(cJ l w).atoms,0<=a.node/\a.node<l.length
 Sl:∀x∈(cJ l w).atoms,AtI (1099511627776*((Ss l 0 l.length:Nat):Int)) x
 len:(cJ l w).atoms.length<=Ss l 0 l.length
 flen:(cJ l w).g'.length<=Ss l 0 l.length
 flo:∀f∈(cJ l w).g',FOk (1099511627776*((Ss l 0 l.length:Nat):Int)) f
def tS{l:List Nd}(hb:Sc l=true)(hn:l.length<=2000){w:Int}(h1:1<=w)(h2:w<=1099511627776):Mv l w:=by
 have hD:=nI hb hn h1 h2;have hr:bC l 0 l.length=true:=by simp only[Sc,Ba]at hb;exact hb.2
 have hI:fk ⟨[],[],0,⟨0,0⟩⟩ 0:=⟨⟨by simp,by simp,by simp,by simp,by simp⟩,by simp,by simp⟩
 have hA:=tr hD l.length 0 l.length ⟨[],[],0,⟨0,0⟩⟩ 0 (by omega) (by omega) (Sf _) hr hI (by simp);have hJ:=fZ hD l.length 0 l.length ⟨[],[],0,⟨0,0⟩⟩ 0 (by omega) (by omega) (Sf _) hr hI;rw[lF]at hA hJ;have ha:(cJ l w).atoms=(cM l (ct l w) l.length 0 l.length ⟨[],[],0,⟨0,0⟩⟩).atoms:=rfl;have hf:(cJ l w).g'=(cM l (ct l w) l.length 0 l.length ⟨[],[],0,⟨0,0⟩⟩).g'.map (lK (cM l (ct l w) l.length 0 l.length ⟨[],[],0,⟨0,0⟩⟩).atoms.length):=rfl;obtain⟨UK,cnt,hc,hco⟩:=hA;rw[List.map_nil,mL,Nat.sub_zero]at hc;refine⟨?_,λa hm=>?_,by rw[ha];exact UK,by rw[ha];exact hJ.Sl,by rw[hf,dC];exact hJ.fl,λf hm=>?_⟩
 .rw[ha,hc];refine zu (cnt:=cnt) l 0 0 (by simpa using hc) (Nat.zero_le _) (λj hj=>?_);have:=hco j (Nat.zero_le _) hj;rw[gx hj]at this
  rwa [lF]
 .have hm':a.node∈Yj cnt 0 l.length:=by rw[<-hc,<-ha];exact List.mem_map_of_mem hm
  obtain⟨i,e,_,hi⟩:=yn hm';omega
 .rw[hf]at hm;obtain⟨g,hg,rfl⟩:=iD.1 hm;have:=hJ.bd.fl g hg;exact⟨this.1,this.2,this.3,this.4,this.5,this.6,this.7,this.8⟩
def uI:∀(l:List Nd),(∀x∈l,YZ x)->((l.map λn=>4+n.words.length).sum:Nat)<=4*(l.length:Int)+lp l/\∀x∈l,(x.words.length:Int)<=lp l
 |[],_=>by simp[lp]
 |x::l,h=>by
  obtain⟨h1,h2⟩:=uI l (λy hy=>h y (by simp[hy]));have hx:=h x (by simp);have hp:(x.words.length:Int)<=pof x/\0<=pof x:=by
   unfold pof;by_cases k1:x.kind=1
   .have:=hx.nowords (by omega);simp[k1,this]
   .by_cases k2:x.kind=2
    .simp[k2]
    .have:=hx.nowords k2;simp[k1,k2,this]
  have hp0:0<=lp l:=by
   have:∀l:List Nd,0<=lp l:=by
    intro l
    induction l with
    |nil=>simp[lp]
    |cons y l ih=>
     have:0<=pof y:=by unfold pof;split;omega;split;omega;omega
     simp only[lp];omega
   exact this l
  refine⟨by simp only[fC,List.sum_cons,TI,lp];omega,λy hy=>?_⟩;rcases dZ.1 hy with rfl|hy
  .simp only[lp];omega
  .have:=h2 y hy;simp only[lp];omega
structure MJ(l:List Nd):Prop where
 Zc:Sc l=true
 len:l.length<=2000
 words:∀x∈l,x.words.length<=2000
 Ss:Ss l 0 l.length<=10000
def mv{l:List Nd}(h:dU l=0):MJ l:=by
 unfold dU at h;split at h
 .rename_i hb;split at h
  .cases h
  .rename_i hc;have Tf:l.all Nd.ok=true:=by simp only[Sc,Ba]at hb;exact hb.1
   rw[fS,aK hb,tP l Tf l.length (Sf _),ik]at hc;simp only[not_or]at hc;obtain⟨h1,h2⟩:=uI l (λx hx=>by obtain⟨i,hi,rfl⟩:=List.getElem_of_mem hx;exact eJ hb hi);refine⟨hb,by omega,λx hx=>by have:=h2 x hx;omega,?_⟩;have:Vc.Ss l 0 l.length=(l.map λn=>4+n.words.length).sum:=by unfold Vc.Ss;rw[ik,Ip]
   omega
 .cases h
mutual
/-- without frozen rows -/
def V.nf:V->Bool
 |.int ..|.bool _|.str _|.bj|.VJ|.Tc|.SY|.own ..|.ptr ..=>true
 |.agg cs|.RM cs=>W2 cs
 |.iface _ v=>v.nf
 |.sl _ rows=>rows.isEmpty
 |_=>false
def W2:List V->Bool
 |[]=>true
 |v::vs=>v.nf&&W2 vs
end
mutual
def E'.nf{I:Mu}{ow TA:Nat->Prop}{w:World}:∀{v:V} {x:Value},v.nf=true->E' I ow w v x->E' I TA w v x
 |.int ..,_,_,h=>by simpa[E']using h
 |.bool _,_,_,h=>by simpa[E']using h
 |.str _,_,_,h=>by simpa[E']using h
 |.bj,_,_,h=>by simpa[E']using h
 |.VJ,_,_,h=>by simpa[E']using h
 |.Tc,_,_,h=>by simpa[E']using h
 |.SY,_,_,h=>by simpa[E']using h
 |.agg cs,x,hv,h=>by
  simp only[V.nf]at hv;simp only[E']at h|-;obtain⟨RI,rfl,h1,h2⟩:=h;exact⟨RI,rfl,ax.nf hv h1,h2⟩
 |.RM cs,x,hv,h=>by
  simp only[V.nf]at hv;simp only[E']at h|-;obtain⟨RI,rfl,h1⟩:=h;exact⟨RI,rfl,ax.nf hv h1⟩
 |.iface t v,x,hv,h=>by
  simp only[V.nf]at hv;simp only[E']at h|-;obtain⟨y,rfl,h1⟩:=h;exact⟨y,rfl,E'.nf hv h1⟩
 |.undef,_,hv,_=>by simp[V.nf]at hv
 |.sl sz rows,_,hv,h=>by
  simp only[V.nf,List.isEmpty_iff]at hv;subst hv;simp only[E']at h|-;obtain⟨a,cap,h1,h2,_⟩:=h;exact⟨a,cap,h1,h2,.inl trivial⟩
 |.own ..,_,_,h=>by simpa only[E']using h
 |.ptr ..,_,_,h=>by simpa only[E']using h
 |.rp _,_,hv,_=>by simp[V.nf]at hv
 |.fn ..,_,hv,_=>by simp[V.nf]at hv
 |.bm ..,_,hv,_=>by simp[V.nf]at hv
 |.raw _,_,hv,_=>by simp[V.nf]at hv
 |.obj _,_,hv,_=>by simp[V.nf]at hv
 |.gp _,_,hv,_=>by simp[V.nf]at hv
 |.yl _,_,hv,_=>by simp[V.nf]at hv
 |.mp _,_,hv,_=>by simp[V.nf]at hv
def ax.nf{I:Mu}{ow TA:Nat->Prop}{w:World}:∀{vs:List V} {l:List Value},W2 vs=true->ax I ow w vs l->ax I TA w vs l
 |[],l,_,h=>by simpa[ax]using h
 |u::us,l,hv,h=>by
  simp only[W2,Ba]at hv;simp only[ax]at h|-;obtain⟨y,ys,rfl,h1,h2⟩:=h;exact⟨y,ys,rfl,E'.nf hv.1 h1,ax.nf hv.2 h2⟩
end
def aU.nf{I:Mu}{ow TA:Nat->Prop}{w:World}:∀{vs:List V} {b off:Nat},W2 vs=true->aU I ow w vs b off->aU I TA w vs b off
 |[],_,_,_,h=>by simp[aU]
 |v::vs,b,off,hv,h=>by
  simp only[W2,Ba]at hv;simp only[aU]at h|-;obtain⟨⟨x,h1,h2,h3⟩,h4⟩:=h;exact⟨⟨x,h1,E'.nf hv.1 h2,h3⟩,aU.nf hv.2 h4⟩
def GP{v:V}(h:v.nf=true):W2 v.cells=true:=by
 cases v<;>simp_all [V.nf,V.cells,W2]
def aZ.nf{I:Mu}{ow TA:Nat->Prop}{w:World}:∀{rs:List V} {b off sz:Nat},W2 rs=true->aZ I ow w rs b off sz->aZ I TA w rs b off sz
 |[],_,_,_,_,_=>by simp[aZ]
 |r::rs,b,off,sz,hv,h=>by
  simp only[W2,Ba]at hv;simp only[aZ]at h|-;exact⟨h.1,(dB ..).2 (aU.nf (GP hv.1) ((dB ..).1 h.2.1)),aZ.nf hv.2 h.2.2⟩
def mO.nf{I:Mu}{ow TA:Nat->Prop}{w:World}{o:Ob}{p:Pl}(hn:W2 o.rows=true)(hz:o.sz≠0)(h:mO I ow w o p):mO I TA w o p:=by
 cases p with
 |dF=>exact h
 |nil=>exact h
 |SC b sz cap=>
  rcases h with⟨cur,h1,h2,h3,h4,h5,h6,h7⟩|⟨_,h2,_⟩
  .exact .inl ⟨cur,h1,h2,h3,h4,h5,h6,aZ.nf hn h7⟩
  .exact absurd h2 hz
def aB.NJ{P:Program}{f:FuncId}{args args':List V}{U:ak}{Post0:V->ak->Prop}(hw:Yt U ic args args')(h:aB P f args' ic Post0)
 (hn:∀r Z',Post0 r Z'->r.nf=true/\∀id o,Z' id=some o->W2 o.rows=true/\o.sz≠0/\o.rows≠[]):
 aB P f args U λr Z2=>∃Z',Post0 r Z'/\aa U Z2/\aa Z' Z2/\∀id o,Z' id=some o->U id=none:=by
 refine⟨h.1,?_⟩;intro I w RI hs hr;have Ty:Sat w (aN I ic) I ic w:=by
  have:=hs.drop (jR U);exact⟨Sf _,rfl,rfl,rfl,λ_ _ _=>rfl,this.fin,this.inj,this.obj,λb hb _=>hb,this.mV⟩
 refine(h.2 I w RI Ty (Yt.all hs hw hr)).mono ?_;rintro e w' ⟨r,Z',Y',val,rfl,hp,hle,RV,Tu⟩;obtain⟨hrn,SB⟩:=hn r Z' hp;have R9:∀b,¬aN I ic b:=λb ⟨_,_,_,_,h,_⟩=>by simp[ic]at h
 have Tr:∀b,b<w.heap.size->w'.heap[b]?=w.heap[b]?:=λb hb=>RV.same b hb (R9 b);have Tq:∀id o,U id=some o->Y' id=I id:=λid o ho=>hle id (λe=>by
  have:=hs.obj id o ho;rw[e]at this;exact this)
 have UQ:∀b,aN Y' Z' b->w.heap.size<=b:=λb hb=>Nat.le_of_not_lt λhl=>R9 b (RV.fresh b hb hl);have hdis:∀id o,Z' id=some o->U id=none:=λid o ho=>by
  cases hc:U id with
  |none=>rfl
  |some o2=>
   exfalso;have e1:=Tq id o2 hc;have b1:=hs.obj id o2 hc;have b2:=RV.obj id o ho;rw[e1]at b2;cases hp:I id with
   |dF=>rw[hp]at b1;exact b1
   |nil=>rw[hp]at b2;exact(SB id o ho).2.2 b2
   |SC b sz cap=>
    have h1:=aN.lt hs ⟨id,o2,sz,cap,hc,hp⟩;have h2:=UQ b ⟨id,o,sz,cap,ho,e1.trans hp⟩;omega
 obtain⟨Z2,hZ2⟩:∃Z2:ak,Z2=λid=>(U id).or (Z' id):=⟨_,rfl⟩
 have k1:aa U Z2:=λid o ho=>by rw[hZ2];simp[ho]
 have k2:aa Z' Z2:=λid o ho=>by rw[hZ2];simp[hdis id o ho,ho]
 have hcase:∀id o,Z2 id=some o->U id=some o\/Z' id=some o:=λid o ho=>by
  rw[hZ2]at ho;cases hc:U id with
  |none=>simp only[hc,Option.none_or]at ho;exact .inr ho
  |some o2=>simp only[hc,Option.some_or]at ho;exact .inl ho
 have Yw:∀b,aN Y' Z2 b->b<w.heap.size->aN I U b:=λb ⟨id,o,sz,cap,g1,g2⟩ hb=>by
  rcases hcase id o g1 with g|g
  .exact⟨id,o,sz,cap,g,Tq id o g▸g2⟩
  .have:=UQ b ⟨id,o,sz,cap,g,g2⟩;omega
 have hk:dc (aN I U) (aN Y' Z2) w w':=λb hb hn=>⟨λho=>hn (Yw b ho hb),Tr b hb⟩
 refine⟨r,Z2,Y',val,rfl,⟨Z',hp,k1,k2,hdis⟩,hle,?_,E'.nf hrn Tu⟩;refine⟨RV.size,RV.os,RV.tape,RV.output,λb hb _=>Tr b hb,RV.fin,?_,?_,Yw,hs.UO⟩
 .intro id Ua o o' b sz cap Uu SZ h1 h2 h3 h4;rcases hcase id o h1 with g1|g1<;>rcases hcase Ua o' h2 with g2|g2
  .exact hs.inj id Ua o o' b sz cap Uu SZ g1 g2 (Tq id o g1▸h3) (Tq Ua o' g2▸h4)
  .have a1:=aN.lt hs ⟨id,o,sz,cap,g1,Tq id o g1▸h3⟩;have a2:=UQ b ⟨Ua,o',Uu,SZ,g2,h4⟩;omega
  .have a1:=aN.lt hs ⟨Ua,o',Uu,SZ,g2,Tq Ua o' g2▸h4⟩;have a2:=UQ b ⟨id,o,sz,cap,g1,h3⟩;omega
  .exact RV.inj id Ua o o' b sz cap Uu SZ g1 g2 h3 h4
 .intro id o ho;rcases hcase id o ho with g|g
  .rw[Tq id o g];refine(hs.obj id o g).mono hle hk RV.size λb sz cap hp=>Tr b ?_;exact aN.lt hs ⟨id,o,sz,cap,g,hp⟩
  .exact mO.nf (SB id o g).1 (SB id o g).2.1 (RV.obj id o g)
mutual
def Fz.mono{U J:ak}{N N':Nat->Prop}(hs:aa U J)(hN:∀id,N id->N' id):∀{v u:V},Fz U N v u->Fz J N' v u
 |_,_,.same v h=>.same v h
 |_,_,.own id off len ob rows h1 h2 h3 h4=>.own id off len ob rows (hs _ _ h1) (hN _ h2) h3 (TE.mono hs hN h4)
 |_,_,.nil sz=>.nil sz
 |_,_,.own0 id off sz=>.own0 id off sz
 |_,_,.sl sz rows rows' h=>.sl sz rows rows' (TE.mono hs hN h)
 |_,_,.agg cs ds h=>.agg cs ds (TE.mono hs hN h)
 |_,_,.RM cs ds h=>.RM cs ds (TE.mono hs hN h)
 |_,_,.ptr id i ob r u h1 h2 h3 h4=>.ptr id i ob r u (hs _ _ h1) (hN _ h2) h3 (Fz.mono hs hN h4)
 |_,_,.fn f cs ds h=>.fn f cs ds (TE.mono hs hN h)
 |_,_,.bm f cs ds h=>.bm f cs ds (TE.mono hs hN h)
 |_,_,.iface t v u h=>.iface t v u (Fz.mono hs hN h)
def TE.mono{U J:ak}{N N':Nat->Prop}(hs:aa U J)(hN:∀id,N id->N' id):∀{vs us:List V},TE U N vs us->TE J N' vs us
 |_,_,.nil=>.nil
 |_,_,.cons v u vs us h h'=>.cons v u vs us (Fz.mono hs hN h) (TE.mono hs hN h')
end
def o6(J:ak):ak:=λid=>(J id).bind λo=>if W2 o.rows=true/\o.sz≠0/\o.rows≠[]then some o else none
def yA{J:ak}{id:Nat}{o:Ob}(h:o6 J id=some o):J id=some o/\W2 o.rows=true/\o.sz≠0/\o.rows≠[]:=by
 unfold o6 at h;cases hc:J id with
 |none=>rw[hc]at h;cases h
 |some o'=>
  simp only[hc,Option.bind_some]at h;split at h
  .rename_i hq;cases h;exact⟨rfl,hq⟩
  .cases h
def CO{J:ak}{id:Nat}{o:Ob}(h:J id=some o)(h1:W2 o.rows=true)(h2:o.sz≠0)(h3:o.rows≠[]):o6 J id=some o:=by
 unfold o6;rw[h,Option.bind_some,aK ⟨h1,h2,h3⟩]
def aB.LB{P:Program}{f:FuncId}{args args':List V}{U:ak}{u:V}(hw:Yt U ic args args')
 (h:aB P f args' ic λr Z'=>r.nf=true/\Fz (o6 Z') (λid=>o6 Z' id≠none) r u):aB P f args U λr Z'=>r=u/\Z'=U:=by
 have h2:aB P f args' ic λr Z'=>r.nf=true/\Fz Z' (λid=>Z' id≠none) r u/\∀id o,Z' id=some o->W2 o.rows=true/\o.sz≠0/\o.rows≠[]:=
  h.yq λr Z' ⟨g1,g2⟩=>⟨r,o6 Z',λ_ _ h=>(yA h).1,Wk.refl (λ_ _ h=>(yA h).1) r,g1,g2,λ_ _ h=>(yA h).2⟩
 refine(aB.NJ hw h2 λr Z' ⟨g1,_,g3⟩=>⟨g1,g3⟩).yq ?_;rintro r Z2 ⟨Z',⟨_,g2,_⟩,k1,k2,k3⟩;refine⟨u,U,k1,(g2.mono (N':=λid=>U id=none) k2 λid hi=>?_).wk k1 λ_ h=>h,rfl,rfl⟩;cases hc:Z' id with
 |none=>exact absurd hc hi
 |some o=>exact k3 id o hc
open Go.Proofs
def aq.xC{P:Program}{n:Nat}{Q:St->Prop}{s:Nat->V}{U K:ak}{todo:List It}(l ds:List Nat){e sz:Nat}{v:V}{rows:List V}(hK:aa K U)(ho:aP K U e sz v rows)
 (hs:∀d∈ds,s d=v)(hr:aq P n todo ⟨λi=>if ds.contains i then .sl sz rows else AZ l s i,K⟩ Q):aq P n todo ⟨s,U⟩ Q:=by
 refine aq.weaken ⟨hK,λi=>?_⟩ hr;show Wk U K (s i) _;by_cases hi:ds.contains i=true
 .simp only[aK hi];rw[hs i (by simpa using hi)];exact ho.wk (aa.refl K) hK
 .simp only[aM hi];unfold AZ;split
  .exact Wk.refl hK _
  .exact Wk.undef _
def YO(l:List Nd)(w:Int):List Int:=(cJ l w).atoms.map (·.node)
def bH(l:List Nd)(w h:Int):Bk:=⟨l,w,h,(cJ l w).atoms,(cJ l w).g',(cJ l w).RD,oU l (YO l w)⟩
def mQ(n:Int):Prop:=1<=n/\n<=1099511627776
instance (n:Int):Decidable (mQ n):=by unfold mQ;infer_instance
def eF(l:List Nd)(w h:Int):Int:=if¬(mQ w/\mQ h)then 3 else if dU l≠0 then dU l else if(fS l).1.M'>mulR (cP l h) 32768 then 2 else 0
def yL(l:List Nd)(w h:Int):V:=if eF l w h=0 then .rp (di (bH l w h))else .VJ
def gm.Fc{K U:ak}{id:Nat}{o:Ob}(hK:K id≠none):∀{l:List Nd} {rows:List V},gm K U l rows->gm K (C' U id o) l rows
 |[],[],_=>trivial
 |_::_,_::_,⟨⟨w,h1,h2⟩,h⟩=>⟨⟨w,h1,h2.ab hK⟩,gm.Fc hK h⟩
 |[],_::_,h=>h.elim
 |_::_,[],h=>h.elim
def xS.Fc{K U:ak}{id:Nat}{o:Ob}(hK:K id≠none){v:V}{l:List Nd}(h:xS K U v l):xS K (C' U id o) v l:=by
 obtain⟨rows,ho,hr⟩:=h;exact⟨rows,ho.ab hK,hr.Fc hK⟩
def nE{α:Type}{f:α->V}(h:∀a,(f a).Dq=true):∀l:List α,mH (l.map f)=true
 |[]=>rfl
 |a::l=>by simp only[fC,mH,h a,nE h l,Bool.and_self]
def P3(l:List Int)(U:ak):cQ U false 1 (.rp (aX l))=some (aX l):=rfl
def oR(vn:V)(w h:Int)(va vf:V)(ht:Int)(vb:V):Ob:=⟨130,7,[.agg [vn,vI w,vI h,va,vf,vI ht,vb]]⟩
def vN{α:Type}{f:α->V}(h:∀a,(f a).nf=true):∀l:List α,W2 (l.map f)=true
 |[]=>rfl
 |a::l=>by simp only[fC,W2,h a,vN h l,Bool.and_self]
def NN(J:ak):Nat->Prop:=λid=>o6 J id≠none
def aP.fzN{K J:ak}{e sz:Nat}{v:V}{rows rows':List V}(h:aP K J e sz v rows)(hz:sz≠0)(hn:W2 rows=true)(hf:TE (o6 J) (NN J) rows rows'):Fz (o6 J) (NN J) v (.sl sz rows')/\v.nf=true:=by
 rcases h with⟨rfl,rfl⟩|⟨id,rfl,ho,_⟩
 .cases hf;exact⟨.nil sz,rfl⟩
 .cases rows with
  |nil=>cases hf;exact⟨.own0 ..,rfl⟩
  |cons r rs=>
   have hc:=CO ho hn hz (by simp);exact⟨.own id 0 _ ⟨e,sz,r::rs⟩ rows' hc (by rw[NN,hc];simp) (by simp) (by rw[Ip,ik];exact hf),rfl⟩
def gm.fzN{K J:ak}:∀{l:List Nd} {rows:List V},gm K J l rows->W2 rows=true/\TE (o6 J) (NN J) rows (l.map gz)
 |[],[],_=>⟨rfl,.nil⟩
 |x::_,_::_,⟨⟨w,h1,h2⟩,h⟩=>by
  obtain⟨g1,g2⟩:=h2.fzN (by decide) (vN (λ_=>rfl) _) (TE.same _ (Dm _));obtain⟨g3,g4⟩:=gm.fzN h;rw[h1];exact⟨by simp[ndW,W2,V.nf,g2,g3],.cons _ _ _ _ (LS g1) g4⟩
 |[],_::_,h=>h.elim
 |_::_,[],h=>h.elim
def EA{K K1 K2 J:ak}{ib:Nat}{b:Bk}{vn va vf vb:V}(hr:J ib=some (oR vn b.w b.h va vf b.RD vb))(ho:xS K J vn b.nodes)(ha:aP K1 J 66 8 va (b.atoms.map bz))(hf:aP K1 J 137 7 vf (b.V1.map bl))(hb:aP K2 J 77 3 vb (b.Sk.map da)):
 az (.RM [.ptr ib 0 0,vI 0]) J λr Z'=>r.nf=true/\Fz (o6 Z') (NN Z') r (.RM [.rp (di b),vI 0]):=by
 obtain⟨rows,ho,hrw⟩:=ho;obtain⟨n1,n2⟩:=ho.fzN (by decide) hrw.fzN.1 hrw.fzN.2;obtain⟨a1,a2⟩:=ha.fzN (by decide) (vN (λ_=>rfl) _) (TE.same _ (nE (λ_=>rfl) _));obtain⟨f1,f2⟩:=hf.fzN (by decide) (vN (λ_=>rfl) _) (TE.same _ (nE (λ_=>rfl) _));obtain⟨b1,b2⟩:=hb.fzN (by decide) (vN (λ_=>rfl) _) (TE.same _ (nE (λ_=>rfl) _));have hc:=CO hr (by simp[oR,W2,V.nf,n2,a2,f2,b2]) (by simp[oR]) (by simp[oR]);have i1:∀n:Int,Fz (o6 J) (NN J) (vI n) (vI n):=λ_=>.same _ rfl;exact⟨_,J,aa.refl J,Wk.refl (aa.refl J) _,rfl,.RM _ _ (.cons _ _ _ _ (.ptr ib 0 _ _ _ hc (by rw[NN,hc];simp) rfl (.agg _ _ (.cons _ _ _ _ n1 (.cons _ _ _ _ (i1 _) (.cons _ _ _ _ (i1 _) (.cons _ _ _ _ a1 (.cons _ _ _ _ f1 (.cons _ _ _ _ (i1 _) (.cons _ _ _ _ b1 .nil)))))))))
  (TE.same [vI 0] rfl))⟩
def tu{v:V}{J:ak}(h:v.nf=true)(h1:v.Dq=true):az v J λr Z'=>r.nf=true/\Fz (o6 Z') (NN Z') r v:=⟨_,J,aa.refl J,Wk.refl (aa.refl J) _,h,.same _ h1⟩
def OG(U:ak)(l:List Nd)(hl:dq l)(w h:Int):aB prog 52 [aQ l,vI w,vI h] U λr Z'=>r.nf=true/\Fz (o6 Z') (NN Z') r (.RM [yL l w h,vI (eF l w h)]):=by
 refine e52.q ?_;have hs:=aa.refl U;have bad:∀n:Int,eF l w h=n->n≠0->(yL l w h=.VJ/\eF l w h=n):=λn hn h0=>⟨by rw[yL,aM (by rw[hn];exact h0)],hn⟩
 refine aq.mix 16 ?_;by_cases hw:mQ w
 .have mw:=qD w;rw[show decide (1<=w/\w<=1099511627776)=true from Tl hw]at mw;apply sR;simp only[go_sem,seval,c52];refine pS rfl (mw _) ?_;simp only[go_sem,seval];by_cases hh:mQ h
  .have mh:=qD h;rw[show decide (1<=h/\h<=1099511627776)=true from Tl hh]at mh;refine pS rfl (mh _) ?_;simp only[go_sem,seval];refine pR rfl (zS l hl _) ?_;by_cases hc:dU l=0
   .have q:(dU l≠0)=False:=H' (λh=>h hc);have hck:=zS l hl;rw[hc]at hck q|-;apply sR;simp only[go_sem,seval,q];refine pS rfl (Av l hl _) ?_;simp only[go_sem,seval,Sm.cells];refine aG hs λi9 Y9 s9 a9 f9 z9 hs=>?_;simp only[go_sem,seval,a9];generalize Sy:C' _ i9 _=Z9;replace a9:=SR Sy;replace hs:=SL Sy hs z9;refine pJ rfl (FV l hl h) ?_;apply sG;simp only[go_sem,seval];refine pJ rfl (Ow (cP l h) 32768) ?_;have hE:eF l w h=if(fS l).1.M'>mulR (cP l h) 32768 then 2 else 0:=by rw[eF,aM (λh=>h ⟨hw,hh⟩),aM (λh=>h hc)]
    by_cases Xj:(fS l).1.M'>mulR (cP l h) 32768
    .have q1:((fS l).1.M'>mulR (cP l h) 32768)=True:=RA Xj;obtain⟨e1,e2⟩:=bad 2 (by rw[hE,aK Xj]) (by decide);rw[e1,e2];apply sG;simp only[go_sem,seval,a9,q1];exact tu rfl rfl
    have q1:((fS l).1.M'>mulR (cP l h) 32768)=False:=H' Xj;have e2:eF l w h=0:=by rw[hE,aM Xj]
    have e1:yL l w h=.rp (di (bH l w h)):=by rw[yL,aK e2]
    rw[e1,e2];obtain⟨T',WT,hwo,Xo⟩:=mv hc;have hG:=tS T' WT hw.1 hw.2;have hfl:=λs0=>Lf s0 l hl T' WT (λx hx=>by have:=hwo x hx;omega) (by omega) hck w hw.1 hw.2;apply sG;simp only[go_sem,seval,a9,q1];refine Tx rfl (H7 l hl.1 _) ?_;rintro vn XP ⟨hs10,ZK⟩;replace ZK:=ZK.nP hs;replace hs:=hs.trans hs10;obtain⟨cn,sn⟩:=ZK.vc;have TK:=ZK.len;rw[dC]at TK;apply sR;simp only[go_sem,seval,cn,sn];refine aG hs λi46 Z46 s46 a46 f46 z46 hs=>?_;have ho46:aP (cg U i46) Z46 59 20 vn (l.map gz):=by
     rcases ZK with h|⟨id,h3,h4,h5⟩
     .exact .inl h
     .exact .inr ⟨id,h3,s46 _ _ h4,bh.2 ⟨λe=>(by rw[e,f46]at h4;cases h4),h5⟩⟩
    have k46:cg U i46 i46≠none:=λh=>(bh.1 h).1 rfl;simp only[go_sem,seval,a46,TK];refine aq.kE (λst=>aa U st.U/\xS (cg U i46) st.U vn l/\st.U i46=some (oR vn w h .bj .bj 0 .bj)/\st.s 0=aQ l/\st.s 1=vI w/\st.s 11=.ptr i46 0 0)
     (λm st=>∃(i:Nat) (rows:List V),i<=l.length/\m=l.length-i/\aa U st.U/\aP (cg U i46) st.U 59 20 vn rows/\rows.length=l.length/\gm (cg U i46) st.U (l.take i) (rows.take i)/\rows.drop i=(l.drop i).map gz/\st.U i46=some (oR vn w h .bj .bj 0 .bj)/\
       st.s 0=aQ l/\st.s 1=vI w/\st.s 11=.ptr i46 0 0/\st.s 51=vI l.length/\st.s 52=vI i) l.length ?_ ?_ ?_
    .exact⟨0,l.map gz,by omega,rfl,hs,ho46,by simp,trivial,by simp,a46,rfl,rfl,rfl,rfl,rfl⟩
    .clear hs ho46 a46 ZK a9;rintro m ⟨S,J⟩ ⟨i,rows,hi,rfl,hs,ho,hn,hr,hd,hb,t0,t1,t11,t51,t52⟩;simp only at hs ho hr hb t0 t1 t11 t51 t52;refine aq.mix 60 ?_;by_cases u':i<l.length
     .have q:=qT u';obtain⟨id,rfl,L',Xb⟩:∃id,vn=.own id 0 rows.length/\J id=some ⟨59,20,rows⟩/\cg U i46 id=none:=by
       rcases ho with⟨_,h0⟩|h
       .rw[h0]at hn;simp at hn;omega
       .exact h
      have hdc:(l.drop i)=l[i]::l.drop (i+1):=jM u';have hw':=hwo _ (Sx u');have Sd:l.take (i+1)=l.take i++[l[i]]:=U0 u';have SI:=λU=>ix l u' U;generalize WG:l[i]=x at*;have hrow':rows[i]?=some (.agg x.cells):=by
       have:(rows.drop i)[0]?=some (gz x):=by rw[hd,hdc];rfl
       rw[JX]at this;exact this
      have RU:id≠i46:=(bh.1 Xb).1;have hio:∀X':ak,X' id=some ⟨59,20,rows⟩->bG X' 20 (.own id 0 rows.length) (.int .i64 i)=some (.ptr id i 0):=λX' h=>j5 h (by omega);have r1:=rI i;rw[oR]at hb;apply sR;simp only[go_sem,seval,t0,t1,t11,t51,t52,q,gq];refine aq.xG (by kernel_rfl) [0,1,2,3,4,5,6,7,8,9,10,11,12,13] [[],[0],[0,1],[0,1,2],[],[],[],[5,6],[5,6,7],[5,6,7,8],[5,6,7,8,9],[0,1,2,3,4,5,6,7,8,9,10],[0,1,2,3,4,5,6,7,8,9,10,11],[0,1,2,3,4,5,6,7,8,9,10,11,12]] [0,2,4,6,8,10,12,14,16,18,20,7,22,24,26] (by kernel_rfl) (by kernel_rfl) ?_;refine cU (n:=0) [20,7,22,24,26] [0,2,4,6,8,10,12,14,16,18] [_,_,_,_,_,_,_,_,_,_] rfl rfl ?_;simp only[go_sem,seval,t0,t11,hb,SI,Nd.cells,P3];refine RE.call rfl rfl rfl rfl rfl (G0 x.words (by omega) _) ?_;rintro wv Z2 ⟨UF,U3⟩;simp only at UF U3;have Zw:=UF _ _ L';have Sh:=UF _ _ hb;obtain⟨cw,sw⟩:=U3.vc;have hio2:=hio _ Zw;refine dI rfl (by simp only[go_sem,seval,t0,t11,Sh]) ?_;refine cU (n:=0) [] [22,24,26] [_,_,_] rfl rfl ?_;simp only[go_sem,seval,t0,t11,Sh,hio2,Zw,hrow',Nd.cells,cw,sw];have hk46:cg U i46 id=none:=Xb;have hsf:aa U (C' Z2 id ⟨59,20,rows.set i (ndW x wv)⟩):=(hs.trans UF).aL (bh.1 Xb).2;have Ti:∀j,j≠id->∀o,Z2 j=some o->C' Z2 id ⟨59,20,rows.set i (ndW x wv)⟩ j=some o:=λj hj o hjo=>by rw[ab hj];exact hjo
      have h1:=(hr.mono UF).kept Zw Ti;have Uj:aa (cg U i46) (cg J i46):=λj o hj=>by
       unfold cg at hj|-;split
       .rename_i e;rw[aK e]at hj;exact hj
       .rename_i e;rw[aM e]at hj;exact hs _ _ hj
      have h2:aP (cg U i46) (C' Z2 id ⟨59,20,rows.set i (ndW x wv)⟩) 3 1 wv (x.words.map vI):=by
       rcases U3 with h|⟨iw,e1,e2,e3⟩
       .exact .inl h
       .have n1:iw≠id:=λe=>by rw[e,Zw]at e2;simp at e2
        refine .inr ⟨iw,e1,by rw[ab n1];exact e2,bh.2 ⟨λe=>(by rw[e,hb]at e3;cases e3),hs.none e3⟩⟩
      have h3:(rows.set i (ndW x wv)).take (i+1)=rows.take i++[ndW x wv]:=by
       rw[U0 (by simp;omega),List.take_set_of_le (by omega)];simp
      apply sR;simp only[go_sem,seval,t0,t1,t11,t51,t52,r1];refine⟨_,?_,i+1,rows.set i (ndW x wv),by omega,rfl,hsf,.inr ⟨id,by rw[List.length_set],av,Xb⟩,by simp[hn],?_,?_,?_,rfl⟩
      .omega
      .rw[h3,Sd];exact h1.app ⟨⟨wv,rfl,h2⟩,trivial⟩
      .rw[List.drop_set_of_lt (by omega)];have:rows.drop (i+1)=(rows.drop i).drop 1:=by simp
       rw[this,hd,hdc];rfl
      .exact(ab RU.symm).trans Sh
     .have q:=qF u';have Uf:i=l.length:=by omega
      subst Uf;rw[ik,pL (by omega)]at hr;apply sR;simp only[go_sem,seval,t0,t1,t11,t51,t52,q];exact⟨hs,⟨rows,ho,hr⟩,hb⟩
    .clear hs ho46 a46 ZK a9;rintro⟨S,J⟩ ⟨hs,how,hb,t0,t1,t11⟩;simp only at hs how hb t0 t1 t11;have WI:=hG.len;have hbr:=λs0=>Kd s0 l hl T' (YO l w) (by rw[YO,dC];omega) (λx hx=>by
      obtain⟨a,ha,rfl⟩:=iD.1 hx;exact hG.nod a ha) hG.may
     have hofe:YO l w=(cJ l w).atoms.map (·.node):=rfl;rw[oR]at hb;refine mS 16 ?_;simp only[go_sem,seval,t0,t1,t11];refine Tx rfl (hfl _) ?_;rintro r X1 ⟨s1,va,vf,rfl,g1,g2⟩;obtain⟨ca,sa⟩:=g1.vc;obtain⟨cf,sf⟩:=g2.vc;have TZ:=g1.len;rw[dC]at TZ;have kb:J i46≠none:=by rw[hb];simp
     replace hb:=s1 _ _ hb;replace how:=how.mono s1;replace hs:=hs.trans s1;apply sR;simp only[go_sem,seval,t11,hb,TZ,ca,sa,cf,sf];generalize hq:C' X1 i46 _=Y0;have hb0:Y0 i46=some (oR vn w h va vf (cJ l w).RD .bj):=by rw[<-hq];exact av
     have Ty:aa U Y0:=hq▸hs.aL z46;have how0:xS (cg U i46) Y0 vn l:=hq▸how.Fc k46;replace g1:aP J Y0 _ _ _ _:=hq▸g1.ab kb;replace g2:aP J Y0 _ _ _ _:=hq▸g2.ab kb;clear hq hs how hb;refine aq.kE (λst=>aa Y0 st.U/\aP Y0 st.U 3 1 (st.s 13) ((YO l w).map vI)/\st.s 0=aQ l/\st.s 11=.ptr i46 0 0)
      (λm st=>∃j:Nat,j<=(cJ l w).atoms.length/\m=(cJ l w).atoms.length-j/\aa Y0 st.U/\aP Y0 st.U 3 1 (st.s 13) ((((cJ l w).atoms.take j).map (·.node)).map vI)/\st.s 0=aQ l/\st.s 11=.ptr i46 0 0/\st.s 82=va/\st.s 83=vI (cJ l w).atoms.length/\st.s 84=vI j) (cJ l w).atoms.length ?_ ?_ ?_
     .exact⟨0,by omega,rfl,aa.refl _,aP.start,t0,t11,rfl,rfl,rfl⟩
     .clear t0 t1 t11;rintro m ⟨S,J⟩ ⟨j,hj,rfl,Yk,ho,t0,t11,t82,t83,t84⟩;simp only at Yk ho t0 t11 t82 t83 t84;generalize U8:S 13=v13 at ho;refine aq.mix 85 ?_;by_cases u':j<(cJ l w).atoms.length
      .have q:((j:Int)<(cJ l w).atoms.length)=True:=RA;obtain⟨ia,rfl,hia⟩:∃ia,va=.own ia 0 ((cJ l w).atoms.map bz).length/\J ia=some ⟨66,8,(cJ l w).atoms.map bz⟩:=by
        rcases g1 with⟨_,h0⟩|⟨ia,e1,e2,_⟩
        .rw[List.map_eq_nil_iff]at h0;rw[h0]at u';simp at u'
        .exact⟨ia,e1,Yk _ _ e2⟩
       have RF:=j5 hia (i:=j) (by rw[dC];exact u');have TD:((cJ l w).atoms.map bz)[j]?=some (bz (cJ l w).atoms[j]):=by rw[sP,VH u'];rfl
       have Sa:(((cJ l w).atoms.take (j+1)).map (·.node)).map vI=(((cJ l w).atoms.take j).map (·.node)).map vI++[vI (cJ l w).atoms[j].node]:=by
        rw[U0 u',eQ,eQ];rfl
       have Uh:((((cJ l w).atoms.take j).map (·.node)).map vI).length=j:=by rw[dC,dC,lQ];omega
       have UK:bz (cJ l w).atoms[j]=.agg [vI (cJ l w).atoms[j].kind,vI (cJ l w).atoms[j].node,vI (cJ l w).atoms[j].fr,vI (cJ l w).atoms[j].to,vI (cJ l w).atoms[j].x,vI (cJ l w).atoms[j].y,vI (cJ l w).atoms[j].w,vI (cJ l w).atoms[j].h]:=rfl;generalize (((cJ l w).atoms.take j).map (·.node)).map vI=rows at*;generalize (cJ l w).atoms[j]=x at*;have r1:=rI j;have hs:=aa.refl J;apply sR;simp only[go_sem,seval,t0,t11,t82,t83,t84,U8,q,RF,hia,TD,UK];refine aG hs λi15 Z15 Xa US f15 z15 hs=>?_;simp only[go_sem,seval,US,t0,t11,t82,t83,t84,U8];generalize Tv:C' _ i15 _=Y15;replace US:=SR Tv;replace hs:=SL Tv hs z15;refine aD λi91 Z91 s91 a91 f91=>?_;obtain⟨idA,SE,RO⟩:=ho.dst (hs.trans s91);have Sh:(rows.length+1)*9<=140737488355328:=by omega
       simp only[go_sem,seval,SE,bN a91,Sh];refine bk λi92 Z92 s92 a92 f92=>?_;have k92:=(RO Y0 (aa.refl _) Z91 (Yk.trans (hs.trans s91))).trans s92;have n92:Y0 i92=none:=(Yk.trans (hs.trans s91)).none f92;simp only[go_sem,seval,t0,t11,t82,t83,t84,r1];refine⟨_,?_,j+1,by omega,rfl,k92,?_,rfl⟩
       .omega
       .rw[Sa];exact aP.new (by simp) a92 n92
      .have q:((j:Int)<(cJ l w).atoms.length)=False:=H';have TT:j=(cJ l w).atoms.length:=by omega
       rw[TT,ik,<-hofe]at ho;apply sR;simp only[go_sem,seval,t0,t11,t82,t83,t84,U8,q];exact⟨Yk,ho⟩
     .clear t0 t1 t11;rintro⟨S,J⟩ ⟨Yk,ho,t0,t11⟩;simp only at Yk ho t0 t11;refine aq.xC [0,11] [13] Yk ho (by simp) ?_;generalize hS:(λi=>if[13].contains i then V.sl 1 ((YO l w).map vI)else AZ [0,11] S i)=S';have u0:S' 0=aQ l:=by rw[<-hS];exact t0
      have Vs:S' 11=.ptr i46 0 0:=by rw[<-hS];exact t11
      have u13:S' 13=aX (YO l w):=by rw[<-hS];rfl
      clear hS t0 t11;refine aq.mix 16 ?_;rw[oR]at hb0;apply sR;simp only[go_sem,seval,u0,Vs,u13];refine Tx rfl (hbr _) ?_;rintro r Y2 ⟨s2,vb,rfl,gb⟩;obtain⟨cb,sb⟩:=gb.vc;have kb0:Y0 i46≠none:=by rw[hb0];simp
      replace hb0:=s2 _ _ hb0;apply sR;simp only[go_sem,seval,Vs,hb0,cb,sb];exact EA (b:=bH l w h) av ((how0.mono s2).Fc k46) ((g1.mono s2).ab kb) ((g2.mono s2).ab kb) (gb.ab kb0)
   .have q:(dU l≠0)=True:=RA hc;obtain⟨e1,e2⟩:=bad (dU l) (by rw[eF,aM (λh=>h ⟨hw,hh⟩),aK hc]) hc;rw[e1,e2];apply sR;simp only[go_sem,seval,q];exact tu rfl rfl
  .have mh:=qD h;rw[show decide (1<=h/\h<=1099511627776)=false from Tw hh]at mh;obtain⟨e1,e2⟩:=bad 3 (by rw[eF,aK (λh=>hh h.2)]) (by decide);rw[e1,e2];refine pS rfl (mh _) ?_;simp only[go_sem,seval];exact tu rfl rfl
 .have mw:=qD w;rw[show decide (1<=w/\w<=1099511627776)=false from Tw hw]at mw;obtain⟨e1,e2⟩:=bad 3 (by rw[eF,aK (λh=>hw h.1)]) (by decide);rw[e1,e2];apply sR;simp only[go_sem,seval,c52];refine pS rfl (mw _) ?_;simp only[go_sem,seval];exact tu rfl rfl
def Ni(l:List Nd)(hl:dq l)(w h:Int){U:ak}{args:List V}(hw:Yt U ic args [aQ l,vI w,vI h]):aB prog 52 args U λr Z'=>r=.RM [yL l w h,vI (eF l w h)]/\Z'=U:=
 aB.LB hw (OG ic l hl w h)
def Jr(l:List Nd)(hl:dq l)(w h:Int):aV prog 52 [aQ l,vI w,vI h] (.RM [yL l w h,vI (eF l w h)]):=λU=>by
 refine Ni l hl w h ?_;simp only[Yt];exact⟨Wk.refl (jR U) _,Wk.refl (jR U) _,Wk.refl (jR U) _,trivial⟩
def lL{l:List Nd}{w h:Int}(he:eF l w h=0):mQ w/\mQ h/\dU l=0:=by
 unfold eF at he;split at he
 .cases he
 .rename_i h1;split at he
  .rename_i h2;exact absurd he h2
  .rename_i h2;exact⟨Decidable.byContradiction λh=>h1 (λg=>h g.1),Decidable.byContradiction λh=>h1 (λg=>h g.2),Decidable.byContradiction h2⟩
def DT{l:List Nd}(hl:dq l){w h:Int}(he:eF l w h=0):BkFull (bH l w h)/\∀f∈(bH l w h).V1,0<=f.h:=by
 obtain⟨hw,hh,hc⟩:=lL he;obtain⟨T',hn,hwo,Xo⟩:=mv hc;have hG:=tS T' hn hw.1 hw.2;have hl1:=hG.len;have hl2:=hG.flen;have hb:(1099511627776:Int)*((Ss l 0 l.length:Nat):Int)<=10995116277760000:=by omega
 have ht:∀a∈(cJ l w).atoms,-18014398509481984<=a.y/\a.y<=18014398509481984/\0<=a.h/\a.h<=18014398509481984:=λa ha=>by
  have:=hG.Sl a ha;have h0:=this.y0;have h1:=this.y1;have h2:=this.h0;have h3:=this.h1;omega
 refine⟨⟨⟨⟨?_,λa ha=>?_⟩,ht,?_,?_,λf hf=>(hG.flo f hf).ok (by omega),?_⟩,hl,T',hh.1,hh.2,hG.nod⟩,λf hf=>(hG.flo f hf).h0⟩
 .show(cJ l w).atoms.length<=_;omega
 .have:=ht a ha;omega
 .show(cJ l w).atoms.length<=_;omega
 .show(cJ l w).g'.length<=_;omega
 .show(oU l (YO l w)).length=(cJ l w).atoms.length+1;unfold oU YO;simp
def jL(b:Bk)(a:Nat):Int:=((b.atoms.drop a).map (·.h)).sum
def l6{b:Bk}{a:Nat}(h:a<b.atoms.length):jL b a=(b.atoms[a]).h+jL b (a+1):=by
 unfold jL;rw[jM h,fC,List.sum_cons]
def mr{b:Bk}(hp:∀a∈b.atoms,1<=a.h)(a:Nat):0<=jL b a:=by
 have key:∀l:List SK,(∀a∈l,1<=a.h)->0<=(l.map (·.h)).sum:=by
  intro l
  induction l with
  |nil=>intro _;simp
  |cons x l ih=>
   intro h;have h1:=h x (by simp);have h2:=ih (λy hy=>h y (by simp[hy]));simp only[fC,List.sum_cons];omega
 exact key _ λx hx=>hp x (List.mem_of_mem_drop hx)
structure W3(s:WS):Prop where
 pw:s.atoms.Pairwise λa b=>a.y+a.h<=b.y
 q:∀a∈s.atoms,a.y+a.h<=s.P'.y
def W3.put{s:WS}(h:W3 s){a:SK}(h1:s.P'.y<=a.y)(h2:0<=a.h):W3 (s.put a):=by
 refine⟨?_,λx hx=>?_⟩
 .simp only[WS.put];rw[List.pairwise_append];refine⟨h.pw,by simp,λx hx y hy=>?_⟩;simp only[jY]at hy;subst hy;have:=h.q x hx;omega
 .simp only[WS.put]at hx|-;rcases fH.1 hx with hx|hx
  .have:=h.q x hx;omega
  .simp only[jY]at hx;subst hx;omega
def W3.P'{s:WS}(h:W3 s){p:Pn}(hp:s.P'.y<=p.y):W3 { s with P':=p }:=⟨h.pw,λa ha=>by have:=h.q a ha;simp only;omega⟩
def C6{p:Pn}{m d:Int}(h0:0<=p.m)(hd:0<=d):p.y<=(dK p m d).y:=by
 simp only[dK,kM];(repeat' split)<;>omega
def II{p:Pn}{m d:Int}(h0:0<=p.m)(hd:0<=d):p.y<=(j7 p m d).y:=by
 simp only[j7,kM];(repeat' split)<;>(try simp only)<;>omega
def W3.enter{s:WS}(h:W3 s)(h0:0<=s.P'.m){t:S1}(ht:SOk t):W3 (s.enter t):=by
 have hp:=ht.RH.1;unfold WS.enter;simp only;refine h.P' ?_;split
 .have hc:s.P'.y<=(eC s.P' (cu (fI t.clear) s.g').1).y/\0<=(eC s.P' (cu (fI t.clear) s.g').1).m:=by
   unfold eC;split<;>(try simp only)<;>omega
  exact Int.le_trans hc.1 (C6 hc.2 hp)
 .exact C6 h0 hp
def W3.leave{s:WS}(h:W3 s)(h0:0<=s.P'.m){t:S1}(ht:SOk t):W3 (s.leave t):=h.P' (II h0 ht.O'.1)
def W3.text{rs:List Rm}{s:WS}{C:Nat}(h:fk s C)(hk:W3 s){n:Nd}(hn:YZ n)(a:Nat):W3 (s.text rs a n):=by
 obtain⟨⟨hf,h1,h2,h3,h4⟩,h5,h6⟩:=h;have hl:=hn.line;have key:∀(k i:Nat) (y:Int) (t:WS),t.P'.y<=y->W3 t->W3 ((cA s.g' n.words n.space n.line (eo rs a) k i y).foldl (λs x=>s.put (eM a n.line x)) t):=by
  intro k
  induction k with
  |zero=>intro i y t _ ht;exact ht
  |succ k ih=>
   intro i y t hy ht;rw[cA];split
   .rw[jK];have hyr:y<=(lP s.g' n.words n.space n.line i y (eo rs a)).y:=(eX (λf Xf=>(hf f Xf).yB)).1;refine ih _ _ _ ?_ (ht.put (by simp only[eM];omega) hl.1);simp only[WS.put,eM];omega
   .exact ht
 exact key _ _ _ s (by omega) hk
def ui{l:List Nd}{rs:List Rm}(hD:Zb l rs):∀(k a e:Nat) (s:WS) (C:Nat),e-a<=k->a<=e->e<=l.length->bC l a e=true->fk s C->W3 s->W3 (cM l rs k a e s)
 |0,a,e,s,C,_,WD,_,_,_,h=>h
 |k+1,a,e,s,C,hk,WD,he,hr,h,hs=>by
  rw[cM];by_cases u':a<e
  .rw[aK u'];obtain⟨h1,h2⟩:=bS he hr (Sf a) u';obtain⟨h3,h4⟩:=cE he hr u';have R9:YZ (R4 l a):=by rw[gx (by omega)];exact eJ hD.Zc (by omega)
   have step:∀t,(∃D,fk t D)->W3 t->W3 (cM l rs k (a+(RJ l a).toNat) e t):=λt ⟨D,ht⟩ hA=>
    ui hD k _ e t D (by omega) (by omega) he h3 ht hA
   have hm:=h.bd.m0;split
   .have ZW:=fZ hD k (a+1) (a+(RJ l a).toNat) _ _ (by omega) (by omega) (by omega) h4 (eu h R9.st);have hS2:=ui hD k (a+1) (a+(RJ l a).toNat) _ _ (by omega) (by omega) (by omega) h4 (eu h R9.st) (hs.enter hm R9.st);exact step _ ⟨_,jB ZW R9.st⟩ (hS2.leave ZW.bd.m0 R9.st)
   .split
    .exact step _ ⟨_,ke h R9 a⟩ (W3.text h hs R9 a)
    .split
     .refine step _ ⟨_,kf h R9 a⟩ ?_;have hyr:=eX (w:=(R4 l a).w) (high:=(R4 l a).h) (y:=s.P'.y+s.P'.m) (s:=eo rs a) (λf Xf=>(h.bd.fl f Xf).yB);exact hs.put (by simp only;omega) R9.h.1
     .have k4:(R4 l a).kind=4:=by rename_i g1 g2 g3;rcases R9.kind with h|h|h|h;exact absurd h g1;exact absurd h g2;exact absurd h g3;exact h
      exact step _ ⟨_,jx hD h (by omega) R9 k4⟩ ⟨hs.pw,hs.q⟩
  .rw[aM u'];exact hs
def HM{l:List Nd}(hb:Sc l=true)(hn:l.length<=2000){w:Int}(h1:1<=w)(h2:w<=1099511627776):(cJ l w).atoms.Pairwise λa b=>a.y+a.h<=b.y:=by
 have hD:=nI hb hn h1 h2;have hr:bC l 0 l.length=true:=by simp only[Sc,Ba]at hb;exact hb.2
 have hI:fk ⟨[],[],0,⟨0,0⟩⟩ 0:=⟨⟨by simp,by simp,by simp,by simp,by simp⟩,by simp,by simp⟩
 exact(ui hD l.length 0 l.length ⟨[],[],0,⟨0,0⟩⟩ 0 (by omega) (by omega) (Sf _) hr hI ⟨by simp,by simp⟩).pw
def HZ{l:List SK}(h:l.Pairwise λa b=>a.y+a.h<=b.y){i j:Nat}(Xu:i<j)(hj:j<l.length):l[i].y+l[i].h<=l[j].y:=List.pairwise_iff_getElem.1 h i j (by omega) hj Xu
def qO{p:Nat->Bool}{n:Nat}(hm:∀i j,i<=j->j<n->p i=true->p j=true):∀(f i j:Nat),j-i<=f->i<=j->j<=n->(∀x,x<i->p x=false)->(j<n->p j=true)->
 (∀x,x<lv p f i j->p x=false)/\(lv p f i j<n->p (lv p f i j)=true)/\lv p f i j<=j
 |0,i,j,hf,Xu,_,h1,h2=>by
  obtain rfl:i=j:=by omega
  exact⟨h1,h2,Sf _⟩
 |f+1,i,j,hf,Xu,hjn,h1,h2=>by
  rw[lv];split
  .rename_i u';split
   .rename_i hp;obtain⟨g1,g2,g3⟩:=qO hm f i ((i+j)/2) (by omega) (by omega) (by omega) h1 (λ_=>hp);exact⟨g1,g2,by omega⟩
   .rename_i hp;have hp':p ((i+j)/2)=false:=by simpa using hp
    refine qO hm f ((i+j)/2+1) j (by omega) (by omega) hjn (λx hx=>?_) h2;cases Sg:p x with
    |false=>rfl
    |true=>rw[hm x ((i+j)/2) (by omega) (by omega) Sg]at hp';cases hp'
  .obtain rfl:i=j:=by omega
   exact⟨h1,h2,Sf _⟩
def ml{b:Bk}(hk:b.atoms.Pairwise λx y=>x.y+x.h<=y.y)(TN:∀a∈b.atoms,1<=a.h){s:RG}(hm:de b.atoms s)(kept shift body:Int):
 ∃r:Nat,nR b.atoms s kept shift body=r/\s.atom<=r/\r<=b.atoms.length/\(∀k (h:k<b.atoms.length),s.atom<=k->k<r->eL b.atoms s kept shift k+b.atoms[k].h<=body)/\∀h:r<b.atoms.length,eL b.atoms s kept shift r+b.atoms[r].h>body:=by
 have Zd:=hm;obtain⟨⟨h0,h1⟩,h2,h3⟩:=hm;obtain⟨a,ha⟩:∃a:Nat,s.atom=a:=⟨s.atom.toNat,by omega⟩
 have WI:a<b.atoms.length:=by omega
 have V2:∀k (h:k<b.atoms.length),a<=k->eL b.atoms s kept shift k=b.atoms[k].y-b.atoms[a].y-s.done+kept+shift:=λk h hak=>by
  rw[eL,aK ⟨Zd,by omega,by omega⟩,gF,aK ⟨⟨h0,h1⟩,by omega,by omega⟩,ha,bp h,bp WI]
 have hby:∀n (h:a+n<b.atoms.length),gC b.atoms s kept shift body n=decide (b.atoms[a+n].y-b.atoms[a].y-s.done+kept+shift+b.atoms[a+n].h>body):=λn h=>by
  have e:s.atom+(n:Int)=((a+n:Nat):Int):=by omega
  rw[gC,e,V2 _ h (by omega),bp h]
 have hmono:∀i j,i<=j->j<b.atoms.length-a->gC b.atoms s kept shift body i=true->gC b.atoms s kept shift body j=true:=λi j Xu hj hb=>by
  rcases Nat.eq_or_lt_of_le Xu with rfl|u'
  .exact hb
  .have hi2:a+i<b.atoms.length:=by omega
   have hj2:a+j<b.atoms.length:=by omega
   rw[hby i hi2]at hb;rw[hby j hj2];have h5:=HZ hk (show a+i<a+j by omega) hj2;have h6:=TN _ (Sx hj2);have UB:=of_decide_eq_true hb;exact Tl (by omega)
 have hs:=qO hmono (b.atoms.length-a) 0 (b.atoms.length-a) (by omega) (by omega) (Sf _) (λx hx=>by omega) (λh=>by omega);have hsr:lv (gC b.atoms s kept shift body) (b.atoms.length-a) 0 (b.atoms.length-a)=BY (gC b.atoms s kept shift body) (b.atoms.length-a):=rfl;rw[hsr]at hs;obtain⟨g1,g2,g3⟩:=hs;refine⟨a+BY (gC b.atoms s kept shift body) (b.atoms.length-a),?_,by omega,by omega,λk h hak hkr=>?_,λh=>?_⟩
 .rw[nR,aK Zd,ha,gu];rfl
 .have hka:a<=k:=by omega
  have:=g1 (k-a) (by omega);rw[hby (k-a) (by omega)]at this;have h5:=of_decide_eq_false this;rw[V2 k h hka];have e:a+(k-a)=k:=by omega
  simp only[e]at h5;omega
 .have:=g2 (by omega);rw[hby _ h]at this;have h5:=of_decide_eq_true this;rw[V2 _ h (by omega)];omega
def l5{l:List Nd}{a:Nat}:∀(k:Nat) (x:Int),x∈dr l a k->cc l x a=true
 |0,_,h=>by simp[dr]at h
 |k+1,x,h=>by
  rw[dr]at h;split at h
  .rename_i hk;rcases dZ.1 h with rfl|h
   .exact hk
   .exact l5 k x h
  .exact l5 k x h
def Fy(l:List Nd)(of:List Int)(k:Nat):0<=dH l of k 3/\dH l of k 3<=7:=by
 simp only[dH,Al];cases kN l of k 0<;>cases kN l of k 1<;>cases kN l of k 2<;>simp
def xQ:∀(all:List Int),cL all=0\/2<=cL all/\cL all<=4:=by
 have key:∀(all:List Int) (o:Int),(o=0\/2<=o/\o<=4)->(all.foldl j1 o=0\/2<=all.foldl j1 o/\all.foldl j1 o<=4):=by
  intro all
  induction all with
  |nil=>intro o h;exact h
  |cons x all ih=>
   intro o h;rw[jK];refine ih _ ?_;unfold j1 mD
   (repeat' split)<;>omega
 exact λall=>key all 0 (.inl rfl)
def IL{l:List Nd}(hb:Sc l=true){of:List Int}(Sv:∀x∈of,0<=x/\x<l.length):F8 (oU l of)=true:=by
 have hlen:(oU l of).length=of.length+1:=by simp[oU]
 simp only[F8,Ba,fL,List.mem_range,Uy];refine⟨λk hk=>?_,by omega⟩;rw[hlen]at hk;have hg:Um (oU l of) k=U' l of k:=by simp[Um,oU,hk]
 unfold xR;rw[hg,hlen];refine Tl ?_;have Tr:0<k->k<of.length->of.getD k 0=of.getD (k-1) 0->iO l of k=0:=λh0 h1 he=>by
  have SV:of.getD k 0=of[k]:=by simp[h1]
  have hr:=Sv _ (Sx h1);have hh:∀x∈Xe l (of.getD k 0).toNat,Xy l of x k=true/\Xy l of x ((k:Int)-1)=true:=λx hx=>by
   rw[SV]at hx;have u':of[k].toNat<l.length:=by omega
   rw[B0 hb u']at hx;have Sg:=l5 _ _ hx;rw[iB]at Sg;have e1:((k:Int)-1).toNat=k-1:=by omega
   have e2:((k:Int)).toNat=k:=by omega
   have e3:(of[k].toNat:Int)=of[k]:=by omega
   rw[e3]at Sg;unfold Xy uQ;rw[aK (by omega),aK (by omega),e1,e2,<-he,SV];exact⟨Tl ⟨Sg.2.2.1,Sg.2.2.2⟩,Tl ⟨Sg.2.2.1,Sg.2.2.2⟩⟩
  have e1:((k:Int)-1).toNat=k-1:=by omega
  have e2:((k:Int)).toNat=k:=by omega
  have he1:V8 l of ((k:Int)-1) (λb=>!Xy l of b k)=[]:=by
   unfold V8;rw[aK (by omega),e1,<-he,List.filter_eq_nil_iff];intro x hx;rw[(hh x hx).1];simp
  have he2:V8 l of k (λb=>!Xy l of b ((k:Int)-1))=[]:=by
   unfold V8;rw[aK (by omega),e2,List.filter_eq_nil_iff];intro x hx;rw[(hh x hx).2];simp
  unfold iO gY;rw[aM (by omega),cq,he1,he2];rfl
 have hend:k=of.length->iO l of k=0:=λh=>by
  unfold iO gY;rw[aK h];rfl
 have hfv:=xQ (gY l of k);have hbr:=Fy l of k;change iO l of k=0\/2<=iO l of k/\iO l of k<=4 at hfv;unfold uR U';simp only[Uy,decide_eq_false_iff_not];unfold dg mo;by_cases h0:k=0
 .rw[aK h0,aK (show k=0\/k=of.length from .inl h0)];refine⟨λ_=>rfl,λh=>absurd (by omega) h,λh=>absurd (by omega) h,?_,.inl (by split<;>rfl)⟩;rcases hfv with h|h
  .exact .inl h
  .exact .inr ⟨h.1,h.2,by omega,by omega⟩
 .rw[aM h0];by_cases h1:k=of.length
  .rw[aK h1,aK (show k=0\/k=of.length from .inr h1)];exact⟨λh=>absurd h (by omega),λ_ _=>rfl,λ_ h=>absurd (by omega) h,.inl (hend h1),.inl (by split<;>rfl)⟩
  .rw[aM h1,aM (show¬(k=0\/k=of.length) by omega)];by_cases h2:of.getD k 0=of.getD (k-1) 0
   .rw[aK h2];have hf:=Tr (by omega) (by omega) h2;refine⟨λh=>absurd h (by omega),λ_ h=>absurd h (by omega),λ_ _=>.inr rfl,.inl hf,?_⟩;rw[aK hf];rcases Int.lt_or_le 0 (dH l of k 3)with h|h
    .exact .inr ⟨.inr rfl,hf,h,by omega⟩
    .exact .inl (by omega)
   .rw[aM h2];refine⟨λh=>absurd h (by omega),λ_ h=>absurd h (by omega),λ_ _=>.inl rfl,?_,?_⟩
    .rcases hfv with h|h
     .exact .inl h
     .exact .inr ⟨h.1,h.2,by omega,by omega⟩
    .by_cases hf:iO l of k=0
     .rw[aK hf];rcases Int.lt_or_le 0 (dH l of k 3)with h|h
      .exact .inr ⟨.inl rfl,hf,h,by omega⟩
      .exact .inl (by omega)
     .rw[aM hf];exact .inl rfl
def oW:∀(xs:List Fd) (d:Fd),(hU fD xs d=(d,false)/\∀x∈xs,x.b.forced=0)\/∃L x R,xs=L++x::R/\(∀y∈L,y.b.forced=0)/\x.b.forced≠0/\hU fD xs d=(x,true)
 |[],d=>.inl ⟨rfl,λx h=>(by cases h)⟩
 |a::xs,d=>by
  have stay:∀(l:List Fd) (x:Fd),l.foldl (kj fD) (x,true)=(x,true):=by
   intro l
   induction l with
   |nil=>intro x;rfl
   |cons y l ih=>intro x;rw[jK];exact ih x
  by_cases h:a.b.forced=0
  .have e:hU fD (a::xs) d=hU fD xs d:=by
    unfold hU;rw[jK,kj,fD];simp[h]
   rw[e];rcases oW xs d with⟨h1,h2⟩|⟨L,x,R,h1,h2,h3,h4⟩
   .exact .inl ⟨h1,λx hx=>(dZ.1 hx).elim (λe=>e▸h) (h2 x)⟩
   .exact .inr ⟨a::L,x,R,by rw[h1];rfl,λy hy=>(dZ.1 hy).elim (λe=>e▸h) (h2 y),h3,h4⟩
  .refine .inr ⟨[],a,xs,rfl,λy hy=>(by cases hy),h,?_⟩;unfold hU;rw[jK,kj,fD];simp only[h,Bool.not_false,ne_eq,not_false_eq_true,decide_true,Bool.and_self,if_true];exact stay xs a
structure dv(b:Bk):Prop extends BkFull b where
 Up:b.atoms.Pairwise λx y=>x.y+x.h<=y.y
 pos:∀a∈b.atoms,1<=a.h
 top:∀a∈b.atoms,0<=a.y
 mayb:F8 b.Sk=true
 fh:∀f∈b.V1,0<=f.h
 fy:∀f∈b.V1,0<=f.y
def gS{l:List Nd}(hl:dq l){w h:Int}(he:eF l w h=0):dv (bH l w h):=by
 obtain⟨hw,hh,hc⟩:=lL he;obtain⟨T',hn,hwo,Xo⟩:=mv hc;have hG:=tS T' hn hw.1 hw.2;obtain⟨h1,h2⟩:=DT hl he;refine⟨h1,HM T' hn hw.1 hw.2,λa ha=>(hG.Sl a ha).h0,λa ha=>(hG.Sl a ha).y0,?_,h2,λf hf=>(hG.flo f hf).y0⟩;show F8 (oU l (YO l w))=true;refine IL T' λx hx=>?_;unfold YO at hx;obtain⟨a,ha,rfl⟩:=iD.1 hx;exact hG.nod a ha
def Zg(x:Nd):Int:=if x.kind=2 then x.line*x.words.length else if x.kind=3 then x.h else 0
def WR(l:List Nd):Nat->Int
 |0=>0
 |i+1=>WR l i+Zg (R4 l i)
def o9{x:Nd}(h:YZ x):0<=Zg x:=by
 have h1:=h.line.1;have h2:=h.h.1;unfold Zg;split
 .exact Int.mul_nonneg h1 (by omega)
 .split<;>omega
def Aj{l:List Nd}(hb:Sc l=true){a:Nat}:∀n,a+n<=l.length->WR l a<=WR l (a+n)
 |0,_=>Int.le_refl _
 |n+1,h=>by
  have ih:=Aj (a:=a) hb n (by omega);have h1:YZ (R4 l (a+n)):=by rw[gx (show a+n<l.length by omega)];exact eJ hb _
  have h2:=o9 h1;rw[<-Nat.add_assoc,WR];omega
def Xk(l:List SK):Int:=(l.map (·.h)).sum
def C4(l m:List SK):Xk (l++m)=Xk l+Xk m:=by unfold Xk;rw[eQ,List.sum_append]
def xJ{l:List Nd}{rs:List Rm}(hD:Zb l rs):∀(k a e:Nat) (s:WS) (C:Nat),e-a<=k->a<=e->e<=l.length->bC l a e=true->fk s C->Xk s.atoms<=WR l a->Xk (cM l rs k a e s).atoms<=WR l e
 |0,a,e,s,C,hk,WD,_,_,_,h=>by
  obtain rfl:a=e:=by omega
  exact h
 |k+1,a,e,s,C,hk,WD,he,hr,h,hs=>by
  rw[cM];by_cases u':a<e
  .rw[aK u'];obtain⟨h1,h2⟩:=bS he hr (Sf a) u';obtain⟨h3,h4⟩:=cE he hr u';have R9:YZ (R4 l a):=by rw[gx (by omega)];exact eJ hD.Zc (by omega)
   have step:∀t,(∃D,fk t D)->Xk t.atoms<=WR l (a+(RJ l a).toNat)->Xk (cM l rs k (a+(RJ l a).toNat) e t).atoms<=WR l e:=λt ⟨D,ht⟩ hA=>
    xJ hD k _ e t D (by omega) (by omega) he h3 ht hA
   have Tg:Zg (R4 l a)+Xk s.atoms<=WR l (a+1):=by rw[WR];omega
   have one:WR l (a+1)<=WR l (a+(RJ l a).toNat):=by
    obtain⟨m,hm⟩:∃m,(RJ l a).toNat=1+m:=⟨(RJ l a).toNat-1,by omega⟩
    rw[hm,<-Nat.add_assoc];exact Aj hD.Zc m (by omega)
   split
   .rename_i k1;have hz:Zg (R4 l a)=0:=by rw[Zg,aM (by omega),aM (by omega)]
    have ZW:=fZ hD k (a+1) (a+(RJ l a).toNat) _ _ (by omega) (by omega) (by omega) h4 (eu h R9.st);have hS2:=xJ hD k (a+1) (a+(RJ l a).toNat) _ _ (by omega) (by omega) (by omega) h4 (eu h R9.st) (show Xk s.atoms<=_ by omega);exact step _ ⟨_,jB ZW R9.st⟩ hS2
   .split
    .rename_i k1 k2;refine step _ ⟨_,ke h R9 a⟩ (Int.le_trans ?_ one);have hp:=nH a (R4 l a).line (cA s.g' (R4 l a).words (R4 l a).space (R4 l a).line (eo rs a) (R4 l a).words.length 0 (s.P'.y+s.P'.m)) s;have hlen:=jt s.g' (R4 l a).words (R4 l a).space (R4 l a).line (eo rs a) (R4 l a).words.length 0 (s.P'.y+s.P'.m);have e:(s.text rs a (R4 l a)).atoms=_:=hp;rw[e,C4];generalize cA s.g' (R4 l a).words (R4 l a).space (R4 l a).line (eo rs a) (R4 l a).words.length 0 (s.P'.y+s.P'.m)=L at*;have fb:Xk (L.map (eM a (R4 l a).line))=(R4 l a).line*L.length:=by
      clear e hp hlen
      induction L with
      |nil=>simp[Xk]
      |cons x L ih=>
       have:Xk ((x::L).map (eM a (R4 l a).line))=(R4 l a).line+Xk (L.map (eM a (R4 l a).line)):=rfl;rw[this,ih,TI,Int.natCast_add,Int.mul_add];omega
     have hle:(R4 l a).line*(L.length:Int)<=(R4 l a).line*((R4 l a).words.length:Int):=Int.mul_le_mul_of_nonneg_left (by omega) R9.line.1;have hz:Zg (R4 l a)=(R4 l a).line*((R4 l a).words.length:Int):=by rw[Zg,aK k2]
     omega
    .split
     .rename_i k1 k2 k3;refine step _ ⟨_,kf h R9 a⟩ (Int.le_trans ?_ one);have hz:Zg (R4 l a)=(R4 l a).h:=by rw[Zg,aM k2,aK k3]
      have e:(WS.mono l rs s a (R4 l a)).atoms=s.atoms++[⟨2,a,0,0,(bM s.g' (fN s.g' (R4 l a).w (R4 l a).h (eo rs a) (s.P'.y+s.P'.m)) (R4 l a).h (eo rs a)).a,fN s.g' (R4 l a).w (R4 l a).h (eo rs a) (s.P'.y+s.P'.m),(R4 l a).w,(R4 l a).h⟩]:=rfl;rw[e,C4];simp only[Xk,fC,List.map_nil,List.sum_cons,List.sum_nil];simp only[Xk]at Tg;omega
     .have k4:(R4 l a).kind=4:=by rename_i g1 g2 g3;rcases R9.kind with h|h|h|h;exact absurd h g1;exact absurd h g2;exact absurd h g3;exact h
      have hz:=o9 R9;exact step _ ⟨_,jx hD h (by omega) R9 k4⟩ (show Xk s.atoms<=_ by omega)
  .rw[aM u'];obtain rfl:a=e:=by omega
   exact hs
def EK{l:List Nd}(hb:Sc l=true)(hn:l.length<=2000){w:Int}(h1:1<=w)(h2:w<=1099511627776):Xk (cJ l w).atoms<=WR l l.length:=by
 have hD:=nI hb hn h1 h2;have hr:bC l 0 l.length=true:=by simp only[Sc,Ba]at hb;exact hb.2
 have hI:fk ⟨[],[],0,⟨0,0⟩⟩ 0:=⟨⟨by simp,by simp,by simp,by simp,by simp⟩,by simp,by simp⟩
 exact xJ hD l.length 0 l.length ⟨[],[],0,⟨0,0⟩⟩ 0 (by omega) (by omega) (Sf _) hr hI (by simp[Xk,WR])
def A3{l:List Nd}(hb:Sc l=true){s:Sm}(hs:0<=s.M'/\s.M'<=1099511627777):∀i,i<=l.length->0<=(fA l s i).M'/\(fA l s i).M'<=1099511627777/\min (WR l i) 1099511627777<=(fA l s i).M'
 |0,_=>⟨hs.1,hs.2,by simp only[WR,fA];omega⟩
 |i+1,hi=>by
  obtain⟨h1,h2,h3⟩:=A3 hb hs i (by omega);have R9:YZ (R4 l i):=by rw[gx (by omega)];exact eJ hb (by omega)
  have hz:=o9 R9;have RR:=R9.st;rw[fA,WR,VH (by omega)];rw[gx (show i<l.length by omega)]at R9 hz RR|-;simp only;unfold l7;split
  .rename_i k1;have e:Zg l[i]=0:=by rw[Zg,aM (by omega),aM (by omega)]
   have g1:=RR.top.1;have g2:=RR.RX.1;have g3:=RR.RH.1;have g4:=RR.O'.1;have g5:=RR.head.1;simp only[jq];omega
  .split
   .rename_i k1 k2;have e:Zg l[i]=l[i].line*l[i].words.length:=by rw[Zg,aK k2]
    simp only;rw[tt ⟨h1,h2⟩ R9.line.1];omega
   .rename_i k1 k2;have hh:=R9.h.1;have e:Zg l[i]<=l[i].h:=by rw[Zg,aM k2];split<;>omega
    simp only[jq];omega
def tJ{l:List Nd}(hb:Sc l=true)(h:(fS l).1.M'<=1099511627776):WR l l.length<=(fS l).1.M':=by
 unfold fS at h|-;rw[aK hb]at h|-;have:=(A3 hb (s:=⟨0,0,l.length,0⟩) ⟨Int.le_refl _,(by decide:(0:Int)<=1099511627777)⟩ l.length (Sf _)).2.2;simp only at h|-;omega
def CV{cnt:Nat->Nat}:∀{n a:Nat} {x:Int},x∈Yj cnt a n->∃i:Nat,x=i/\a<=i/\i<a+n/\0<cnt i
 |0,a,x,h=>by rw[kL]at h;cases h
 |n+1,a,x,h=>by
  rw[jb]at h;rcases fH.1 h with h|h
  .obtain⟨h1,rfl⟩:=List.mem_replicate.1 h;exact⟨a,rfl,Sf _,by omega,by omega⟩
  .obtain⟨i,h1,h2,h3,h4⟩:=CV h;exact⟨i,h1,by omega,by omega,h4⟩
def yW{l:List Nd}(hb:Sc l=true)(hn:l.length<=2000){w:Int}(h1:1<=w)(h2:w<=1099511627776):∀a∈(cJ l w).atoms,∃i:Nat,a.node=i/\i<l.length/\((R4 l i).kind=2\/(R4 l i).kind=3):=λa ha=>by
 have hD:=nI hb hn h1 h2;have hr:bC l 0 l.length=true:=by simp only[Sc,Ba]at hb;exact hb.2
 have hI:fk ⟨[],[],0,⟨0,0⟩⟩ 0:=⟨⟨by simp,by simp,by simp,by simp,by simp⟩,by simp,by simp⟩
 obtain⟨-,cnt,hc,hco⟩:=tr hD l.length 0 l.length ⟨[],[],0,⟨0,0⟩⟩ 0 (by omega) (by omega) (Sf _) hr hI (by simp);have hm:a.node∈(cM l (ct l w) l.length 0 l.length ⟨[],[],0,⟨0,0⟩⟩).atoms.map (·.node):=iD.2 ⟨a,ha,rfl⟩;rw[hc]at hm;simp only[List.map_nil,mL]at hm;obtain⟨i,e,_,h3,h4⟩:=CV hm;refine⟨i,e,by omega,?_⟩;have:=hco i (Nat.zero_le _) (by omega);unfold okN at this;split at this
 .rename_i k;exact .inl k
 .split at this
  .rename_i k;exact .inr k
  .have:=of_decide_eq_true this;omega
def least_le{l:List Nd}{h:Int}:∀{n j:Nat},j<n->((R4 l j).kind=2\/(R4 l j).kind=3)->fp l h n<=(pX l j h).body
 |0,j,hj,_=>by omega
 |n+1,j,hj,hk=>by
  rw[fp];by_cases e:j=n
  .subst e;rw[aK hk];omega
  .have:=least_le (l:=l) (h:=h) (show j<n by omega) hk;split<;>omega
def qY{l:List Nd}{h:Int}(hh:1<=h):∀n,1<=fp l h n
 |0=>hh
 |n+1=>by
  have h1:=qY (l:=l) hh n;have h2:1<=(pX l n h).body:=qW hh _;rw[fp];split<;>omega
def De{l:List Nd}{h:Int}(hb:Sc l=true)(h1:1<=h)(h2:h<=1099511627776):fW l h=true:=by
 unfold fW;rw[hb];simp[h1,h2]
structure jG(b:Bk)(L:Int):Prop where
 pos:1<=L
 body:∀s:RG,0<=s.atom->b.atoms≠[]->L<=(du b s).body
 rest:jL b 0<=L*32768
 na:b.atoms.length<=10000
 nf:b.V1.length<=10000
def IW{L:Int}(h1:1<=L):mulR L 32768<=L*32768:=by
 have e:dt 32768=32768:=by decide
 have e2:(1099511627776:Int).tdiv (max 32768 (-32768))=33554432:=by decide
 unfold mulR;rw[e,e2];have hc:dt L<=L/\0<=dt L:=by unfold dt;(repeat' split)<;>omega
 split
 .rename_i h;obtain⟨_,h|h⟩:=h
  .split<;>omega
  .exact absurd h (by have:(-1099511627776:Int).tdiv (max 32768 (-32768))=-33554432:=by decide
                      rw[this];omega)
 .have:=hc.1;omega
def vG{l:List Nd}{w h:Int}(he:eF l w h=0):jG (bH l w h) (cP l h):=by
 have he0:=he;obtain⟨hw,hh,hc⟩:=lL he;obtain⟨T',hn,hwo,Xo⟩:=mv hc;have hG:=tS T' hn hw.1 hw.2;have hl1:=hG.len;have hl2:=hG.flen;have hm:=De T' hh.1 hh.2;have hL:cP l h=fp l h l.length:=by rw[cP,aK hm]
 have hp:1<=cP l h:=by rw[hL];exact qY hh.1 _
 refine⟨hp,λs h0 RU=>?_,?_,by show(cJ l w).atoms.length<=_;omega,by show(cJ l w).g'.length<=_;omega⟩
 .unfold du;rw[aM RU];have hlen:0<(bH l w h).atoms.length:=BS.2 RU;obtain⟨k,hk⟩:∃k:Nat,min s.atom (((bH l w h).atoms.length:Int)-1)=k:=⟨(min s.atom (((bH l w h).atoms.length:Int)-1)).toNat,by omega⟩
  have Uj:k<(bH l w h).atoms.length:=by omega
  rw[hk,bp Uj];obtain⟨i,e1,e2,e3⟩:=yW T' hn hw.1 hw.2 _ (Sx (show k<(cJ l w).atoms.length from Uj));have e4:(bH l w h).atoms[k].node=i:=e1;rw[e4,vX,hL];have hm':fW (bH l w h).nodes (bH l w h).h=true:=hm;rw[aK ⟨hm',by omega,show((i:Nat):Int)<(l.length:Nat) by omega⟩,gu];exact least_le e2 e3
 .have h1:jL (bH l w h) 0=Xk (cJ l w).atoms:=rfl;have h2:=EK T' hn hw.1 hw.2;have h3:(fS l).1.M'<=1099511627776:=by
   unfold dU at hc;rw[aK T']at hc;split at hc
   .cases hc
   .omega
  have h4:=tJ T' h3;have h5:¬(fS l).1.M'>mulR (cP l h) 32768:=λh=>by
   unfold eF at he0;rw[aM (λg=>g ⟨hw,hh⟩),aM (λg=>g hc),aK h]at he0;cases he0
  have h6:=IW hp;omega
open Go.Proofs
def wE(b:Bk)(hb:BkFull b):aV prog 54 [.rp (di b)] (dh b.Sk):=λU=>
 (DZ b hb U).yq λ_ _ h=>h.2.ns h.1 rfl
open Go.Proofs
def aP.JZ{K U:ak}{N:Nat->Prop}{e sz:Nat}{v:V}{rows rows':List V}(h:aP K U e sz v rows)(hN:∀id,K id=none->N id)(hr:TE U N rows rows'):Fz U N v (.sl sz rows'):=by
 rcases h with⟨rfl,rfl⟩|⟨id,rfl,ho,hk⟩
 .cases hr;exact .nil sz
 .exact .own id 0 rows.length ⟨e,sz,rows⟩ rows' ho (hN id hk) (by simp) (by rw[Ip,ik];exact hr)
structure Uk where
 RT:Int
 Sr:Int
deriving DecidableEq
def Uk.lt(a b:Uk):Prop:=a.RT<b.RT\/a.RT=b.RT/\a.Sr<b.Sr
instance (a b:Uk):Decidable (a.lt b):=by unfold Uk.lt;infer_instance
def Uk.on(a:Uk)(r:Int):Uk:=⟨a.RT+1,a.Sr+r⟩
section
variable {S:Type} (next:S->List S) (fin:S->Prop) [DecidablePred fin] (rank:S->Int) (dflt:S)
def lR:List (Uk×S)->Option (Uk×S)->Option (Uk×S)
 |[],o=>o
 |x::r,none=>lR r (some x)
 |x::r,some y=>lR r (if x.1.lt y.1 then some x else some y)
def fM:Nat->S->Uk×S
 |0,_=>(⟨0,0⟩,dflt)
 |f+1,s=>if fin s then(⟨0,0⟩,dflt)else(lR ((next s).map λt=>(((fM f t).1).on (rank t),t)) none).getD (⟨0,0⟩,dflt)
def rh{S:Type}:∀(L:List (Uk×S)) (y:Uk×S),∃z,lR L (some y)=some z/\(z=y/\(∀x∈L,¬x.1.lt y.1)\/∃A B,L=A++z::B/\z.1.lt y.1/\(∀x∈A,z.1.lt x.1)/\∀x∈B,¬x.1.lt z.1)
 |[],y=>⟨y,rfl,.inl ⟨rfl,λx h=>by cases h⟩⟩
 |x::r,y=>by
  rw[lR];by_cases hx:x.1.lt y.1
  .rw[aK hx];obtain⟨z,h1,h2⟩:=rh r x;refine⟨z,h1,.inr ?_⟩;rcases h2 with⟨rfl,h⟩|⟨A,B,rfl,h3,h4,h5⟩
   .exact⟨[],r,rfl,hx,(λw hw=>by cases hw),h⟩
   .refine⟨x::A,B,rfl,by unfold Uk.lt at*;omega,λw hw=>?_,h5⟩;rcases dZ.1 hw with rfl|hw
    .exact h3
    .exact h4 w hw
  .rw[aM hx];obtain⟨z,h1,h2⟩:=rh r y;refine⟨z,h1,?_⟩;rcases h2 with⟨rfl,h⟩|⟨A,B,rfl,h3,h4,h5⟩
   .exact .inl ⟨rfl,λw hw=>(dZ.1 hw).elim (λe=>e▸hx) (h w)⟩
   .refine .inr ⟨x::A,B,rfl,h3,λw hw=>?_,h5⟩;rcases dZ.1 hw with rfl|hw
    .unfold Uk.lt at*;omega
    .exact h4 w hw
def BZ{S:Type}{L:List (Uk×S)}(h:L≠[]):∃z A B,lR L none=some z/\L=A++z::B/\(∀x∈A,z.1.lt x.1)/\∀x∈B,¬x.1.lt z.1:=by
 cases L with
 |nil=>exact absurd rfl h
 |cons x r=>
  obtain⟨z,h1,h2⟩:=rh r x;rw[lR];rcases h2 with⟨rfl,h⟩|⟨A,B,rfl,h3,h4,h5⟩
  .exact⟨z,[],r,h1,rfl,(λw hw=>by cases hw),h⟩
  .refine⟨z,x::A,B,h1,rfl,λw hw=>?_,h5⟩;rcases dZ.1 hw with rfl|hw
   .exact h3
   .exact h4 w hw
def yd:S->List S->Prop
 |s,[]=>fin s
 |s,t::r=>¬fin s/\t∈next s/\yd t r
def pM:List S->Uk
 |[]=>⟨0,0⟩
 |t::r=>(pM r).on (rank t)
structure Hs(V:S->Prop)(I:S->Nat)(key:S->Int):Prop where
 ne:∀s,V s->¬fin s->next s≠[]
 on:∀s,V s->¬fin s->∀t∈next s,V t/\I t<I s
 key:∀s,V s->¬fin s->(next s).Pairwise λa b=>key b<key a
variable {next fin rank dflt} {V:S->Prop} {I:S->Nat} {key:S->Int}
def ru(h:Hs next fin V I key):∀(f g:Nat) (s:S),V s->I s<f->I s<g->fM next fin rank dflt f s=fM next fin rank dflt g s
 |0,_,_,_,h1,_=>by omega
 |_+1,0,_,_,_,h2=>by omega
 |f+1,g+1,s,hv,h1,h2=>by
  rw[fM,fM];split
  .rfl
  .rename_i hf;congr 2;refine List.map_congr_left λt ht=>?_;obtain⟨v,m⟩:=h.on s hv hf t ht;rw[ru h f g t v (by omega) (by omega)]
def xf(h:Hs next fin V I key){F:Nat}{s:S}(hv:V s)(hF:I s<F)(hf:¬fin s):
 ∃A t B,next s=A++t::B/\fM next fin rank dflt F s=((fM next fin rank dflt F t).1.on (rank t),t)/\(∀x∈A,((fM next fin rank dflt F t).1.on (rank t)).lt ((fM next fin rank dflt F x).1.on (rank x)))/\∀x∈B,¬((fM next fin rank dflt F x).1.on (rank x)).lt ((fM next fin rank dflt F t).1.on (rank t)):=by
 have e:fM next fin rank dflt F s=(lR ((next s).map λt=>(((fM next fin rank dflt F t).1).on (rank t),t)) none).getD (⟨0,0⟩,dflt):=by
  obtain⟨f,rfl⟩:∃f,F=f+1:=⟨F-1,by omega⟩
  rw[fM,aM hf];congr 2;refine List.map_congr_left λt ht=>?_;obtain⟨v,m⟩:=h.on s hv hf t ht;rw[ru h f (f+1) t v (by omega) (by omega)]
 obtain⟨z,A,B,h1,h2,h3,h4⟩:=BZ (L:=(next s).map λt=>(((fM next fin rank dflt F t).1).on (rank t),t)) (by simpa using h.ne s hv hf);obtain⟨A',R,e1,e2,e3⟩:=List.map_eq_append_iff.1 h2;obtain⟨t,B',e4,e5,e6⟩:=List.map_eq_cons_iff.1 e3;subst e2 e5 e6;refine⟨A',t,B',by rw[e1,e4],by rw[e,h1];rfl,λx hx=>h3 _ (List.mem_map_of_mem hx),λx hx=>h4 _ (List.mem_map_of_mem hx)⟩
def sH(next:S->List S)(fin:S->Prop)[DecidablePred fin](rank:S->Int)(dflt:S)(F:Nat):Nat->S->List S
 |0,_=>[]
 |f+1,s=>if fin s then[]else(fM next fin rank dflt F s).2::sH next fin rank dflt F f (fM next fin rank dflt F s).2
def wm(h:Hs next fin V I key){F:Nat}:∀(f:Nat) (s:S),V s->I s<f->I s<F->yd next fin s (sH next fin rank dflt F f s)/\pM rank (sH next fin rank dflt F f s)=(fM next fin rank dflt F s).1
 |0,s,hv,hf,hF=>by omega
 |f+1,s,hv,hf,hF=>by
  rw[sH];by_cases he:fin s
  .rw[aK he];obtain⟨g,rfl⟩:∃g,F=g+1:=⟨F-1,by omega⟩
   refine⟨he,?_⟩;rw[fM,aK he];rfl
  .rw[aM he];obtain⟨A,z,B,e1,e2,e3,e4⟩:=xf (rank:=rank) (dflt:=dflt) h hv hF he;have hz:z∈next s:=by rw[e1];simp
   obtain⟨v,m⟩:=h.on s hv he z hz;have e5:(fM next fin rank dflt F s).2=z:=by rw[e2]
   rw[e5];obtain⟨i1,i2⟩:=wm (F:=F) h f z v (by omega) (by omega);exact⟨⟨he,hz,i1⟩,by rw[pM,i2,e2]⟩
end
def cp(b:Bk)(s:RG):Int:=nR b.atoms s (ij b.atoms s (du b s).body) 0 (du b s).body
def kQ(b:Bk)(k:Nat):RG:=⟨k,0,decide ((Um b.Sk k).forced≠0)⟩
def bB(b:Bk)(s:RG):List RG:=
 if cp b s<=s.atom then[fo b.atoms s (du b s).body]
 else if fe b.Sk (s.atom+1) (cp b s)>=0 then[kQ b (fe b.Sk (s.atom+1) (cp b s)).toNat]
 else(List.range (cp b s-s.atom).toNat).map λi=>kQ b ((cp b s).toNat-i)
def dD(b:Bk)(s:RG):Prop:=s.atom>=b.atoms.length
instance (b:Bk):DecidablePred (dD b):=λs=>by unfold dD;infer_instance
def fY(b:Bk)(s:RG):Prop:=de b.atoms s\/s.atom=b.atoms.length/\s.done=0
def Yl(b:Bk)(s:RG):Nat:=((b.atoms.length-s.atom)*1152921504606846976+(1152921504606846976-s.done)).toNat
def nX{b:List UH}{i fit:Int}(h0:0<=i)(hf:fit<=(b.length:Int)-1)(h:fe b (i+1) fit>=0):i<fe b (i+1) fit/\fe b (i+1) fit<=fit:=by
 unfold fe at*;rcases oW ((btw b (i+1) fit).map (pF b)) yg with⟨e,-⟩|⟨L,x,R,e1,-,-,e4⟩
 .rw[e]at h;simp[yg]at h
 .rw[e4]at h|-;have hx:x∈(btw b (i+1) fit).map (pF b):=by rw[e1];simp
  obtain⟨k,hk,rfl⟩:=iD.1 hx;unfold btw vL at hk;have:=List.mem_range'_1.1 hk;show i<((k:Nat):Int)/\((k:Nat):Int)<=fit;omega
def dO{b:Bk}(hb:dv b):Hs (bB b) (dD b) (fY b) (Yl b) (·.atom):=by
 have hlen:=hb.brk;have hH:∀s:RG,de b.atoms s->(UZ b.atoms s.atom).h<=18014398509481984/\0<(UZ b.atoms s.atom).h:=λs hm=>by
  obtain⟨k',Tp⟩:∃k':Nat,s.atom=k':=⟨s.atom.toNat,by have:=hm.1;omega⟩
  have Uj:k'<b.atoms.length:=by have:=hm.1;omega
  rw[Tp,bp Uj];exact⟨(hb.tight _ (Sx Uj)).2.2.2,by have:=hb.pos _ (Sx Uj);omega⟩
 have hmf:∀s,fY b s->¬dD b s->de b.atoms s:=λs hv hf=>hv.resolve_right λg=>hf (by unfold dD;omega);have W9:∀(s:RG) (k:Nat),de b.atoms s->s.atom<k->k<=b.atoms.length->fY b (kQ b k)/\Yl b (kQ b k)<Yl b s:=λs k hm h1 h2=>by
  have hd:=hH s hm;have hm2:=hm.2;have Yo:=hm.1;constructor
  .unfold fY kQ de;simp only;rcases Nat.lt_or_ge k b.atoms.length with h|h
   .left;exact⟨⟨by omega,by omega⟩,Int.le_refl _,.inl trivial⟩
   .right;exact⟨by omega,trivial⟩
  .unfold Yl kQ;simp only;omega
 have Wx:∀(s:RG),de b.atoms s->fY b (fo b.atoms s (du b s).body)/\Yl b (fo b.atoms s (du b s).body)<Yl b s:=λs hm=>by
  have hd:=hH s hm;have hbd:=xc hb.toBkFull s hm.1.1;have hm2:=hm.2;have Yo:=hm.1;unfold fo;rw[aK (show zd b.atoms s (du b s).body from⟨hm,hbd⟩)];have e1:(ez b.atoms s (du b s).body).atom=s.atom:=rfl;have e2:(ez b.atoms s (du b s).body).fr=s.done:=rfl;have e3:(ez b.atoms s (du b s).body).h=min ((UZ b.atoms s.atom).h-s.done) (du b s).body:=rfl;unfold jI;rw[e1,e2,e3];split
  .rename_i u';constructor
   .left;refine⟨Yo,?_,.inr u'⟩;show 0<=s.done+min ((UZ b.atoms s.atom).h-s.done) (du b s).body;omega
   .unfold Yl;simp only;omega
  .constructor
   .unfold fY de;simp only;rcases Int.lt_or_le (s.atom+1) b.atoms.length with h|h
    .left;exact⟨⟨by omega,h⟩,Int.le_refl _,.inl trivial⟩
    .right;exact⟨by omega,trivial⟩
   .unfold Yl;simp only;omega
 have hre:∀s,de b.atoms s->cp b s<=b.atoms.length:=λs hm=>by
  obtain⟨u,u1,-,u3,-⟩:=ml hb.Up hb.pos hm (ij b.atoms s (du b s).body) 0 (du b s).body;unfold cp;rw[u1];omega
 refine⟨λs hv hf=>?_,λs hv hf t ht=>?_,λs hv hf=>?_⟩
 .unfold bB;split
  .simp
  .split
   .simp
   .rename_i h1 h2;have:=(hmf s hv hf).1;intro e;have:=congrArg List.length e;simp at this;omega
 .have hm:=hmf s hv hf;have hr:=hre s hm;have Yo:=hm.1;unfold bB at ht;split at ht
  .rw[jY.1 ht];exact Wx s hm
  .split at ht
   .rename_i h1 h2;have:=nX Yo.1 (by omega) h2;rw[jY.1 ht];exact W9 s _ hm (by omega) (by omega)
   .rename_i h1 h2;obtain⟨i,hi,rfl⟩:=iD.1 ht;have:=List.mem_range.1 hi;exact W9 s _ hm (by omega) (by omega)
 .have hm:=hmf s hv hf;have Yo:=hm.1;unfold bB;split
  .simp
  .split
   .simp
   .rw[List.pairwise_map];refine List.Pairwise.imp_of_mem ?_ (List.pairwise_lt_range (n:=(cp b s-s.atom).toNat));intro i j hi hj Xu;have:=List.mem_range.1 hi;have:=List.mem_range.1 hj;show(((cp b s).toNat-j:Nat):Int)<(((cp b s).toNat-i:Nat):Int);omega
instance:DecidableEq RG:=λa b=>decidable_of_iff (a.atom=b.atom/\a.done=b.done/\a.free=b.free) (by cases a;cases b;simp)
def cO(b:Bk)(t:RG):Int:=if t.done>0 then 0 else(Um b.Sk t.atom.toNat).rank
def mq(b:Bk):RG->Uk->List RG->Option Uk
 |a,c,[]=>if c.RT=0 then(if(b.atoms.length:Int)=0 then some ⟨0,0⟩else none)else if(bB b a).any (λt=>decide (dD b t))then some c else none
 |a,c,s::r=>if dD b a\/dD b s\/s≠a/\c.RT=0 then none
  else if c.RT>0 then(if s∈bB b a then mq b s ⟨c.RT+1,c.Sr+cO b s⟩ r else none)else mq b s ⟨c.RT+1,c.Sr⟩ r
def pV(b:Bk)(l:List RG):Option Uk:=mq b ⟨0,0,true⟩ ⟨0,0⟩ l
def uU(rank:RG->Int):∀P:List RG,(pM rank P).RT=P.length
 |[]=>rfl
 |t::r=>by simp only[pM,Uk.on,uU rank r,TI];omega
def lN(b:Bk)(on:RG->RG):Nat->RG->List RG
 |0,_=>[]
 |f+1,s=>if dD b s then[]else s::lN b on f (on s)
def onK(b:Bk)(on:RG->RG):Nat->RG->List RG
 |0,_=>[]
 |f+1,s=>if dD b s then[]else on s::onK b on f (on s)
def C1{b:Bk}(hb:dv b){on:RG->RG}(SB:∀s,fY b s->¬dD b s->on s∈bB b s):∀(f:Nat) (s:RG),fY b s->Yl b s<f->yd (bB b) (dD b) s (onK b on f s)/\lN b on f s=(s::onK b on f s).dropLast
 |0,s,_,h=>by omega
 |f+1,s,hv,h=>by
  rw[onK,lN];by_cases hf:dD b s
  .rw[aK hf,aK hf];exact⟨hf,rfl⟩
  .rw[aM hf,aM hf];obtain⟨v,m⟩:=(dO hb).on s hv hf _ (SB s hv hf);obtain⟨i1,i2⟩:=C1 hb SB f (on s) v (by omega);exact⟨⟨hf,SB s hv hf,i1⟩,by rw[i2,List.dropLast_cons₂]⟩
def sU(rank:RG->Int):List RG->RG->RG
 |[],m=>m
 |x::r,m=>sU rank r (if rank x<rank m then x else m)
def yS(rank:RG->Int):∀(L:List RG) (m:RG),sU rank L m=m\/sU rank L m∈L
 |[],m=>.inl rfl
 |x::r,m=>by
  rw[sU];rcases yS rank r (if rank x<rank m then x else m)with h|h
  .rw[h];split
   .exact .inr (by simp)
   .exact .inl rfl
  .exact .inr (by simp[h])
def jN(b:Bk)(s:RG):RG:=match bB b s with
 |[]=>⟨0,0,false⟩
 |x::r=>sU (cO b) r x
def Bx{b:Bk}(hb:dv b)(s:RG)(hv:fY b s)(hf:¬dD b s):jN b s∈bB b s:=by
 have hn:=(dO hb).ne s hv hf;unfold jN;cases h:bB b s with
 |nil=>exact absurd h hn
 |cons x r=>
  simp only;rcases yS (cO b) r x with g|g
  .rw[g];simp
  .simp[g]
def kd(b:Bk)(hb:dv b):fY b ⟨0,0,true⟩:=by
 unfold fY de;simp only;by_cases h:0<b.atoms.length
 .left;exact⟨⟨Int.le_refl _,by omega⟩,Int.le_refl _,.inl trivial⟩
 .right;exact⟨by omega,trivial⟩
def iV:Nat:=2000000000000000000000000000
def B7{b:Bk}(hb:dv b):Yl b ⟨0,0,true⟩<iV:=by
 have:=hb.len;unfold Yl iV;simp only;omega
def dX(b:Bk)(s:RG):Uk×RG:=fM (bB b) (dD b) (cO b) ⟨0,0,false⟩ iV s
def Cp(b:Bk):List RG:=lN b (λs=>(dX b s).2) iV ⟨0,0,true⟩
def kW(b:Bk):List RG:=lN b (jN b) iV ⟨0,0,true⟩
def pt{b:Bk}(TN:∀a∈b.atoms,1<=a.h):∀(n k:Nat),k+n<=b.atoms.length->jL b (k+n)<=jL b k
 |0,k,_=>Int.le_refl _
 |n+1,k,h=>by
  have h1:=l6 (b:=b) (show k+n<b.atoms.length by omega);have h2:=TN _ (Sx (show k+n<b.atoms.length by omega));have h3:=pt TN n k (by omega);rw[show k+(n+1)=k+n+1 by omega];omega
def kr(b:Bk)(L:Int)(s:RG):Int:=(b.atoms.length-s.atom)*L+jL b s.atom.toNat-s.done
def A0{b:Bk}(hb:dv b){L:Int}(hL:jG b L){s t:RG}(hv:fY b s)(hf:¬dD b s)(ht:t∈bB b s):kr b L t+L<=kr b L s:=by
 have hm:de b.atoms s:=hv.resolve_right λg=>hf (by unfold dD;omega);have Yo:=hm.1;have hm2:=hm.2;have hL1:=hL.pos;have RU:b.atoms≠[]:=λh=>by rw[h]at Yo;simp at Yo;omega
 have hbd:=hL.body s Yo.1 RU;obtain⟨k,hk⟩:∃k:Nat,s.atom=k:=⟨s.atom.toNat,by omega⟩
 have Uj:k<b.atoms.length:=by omega
 have RR:=l6 Uj;have hph:=hb.pos _ (Sx Uj);have hg:(UZ b.atoms s.atom).h=b.atoms[k].h:=by rw[hk,bp Uj]
 have W9:∀c:Nat,s.atom<c->c<=b.atoms.length->kr b L (kQ b c)+L<=kr b L s:=λc h1 h2=>by
  have h3:=pt hb.pos (c-(k+1)) (k+1) (by omega);rw[show k+1+(c-(k+1))=c by omega]at h3;have h4:((b.atoms.length:Int)-c)*L+L<=(b.atoms.length-s.atom)*L:=by
   have:((b.atoms.length:Int)-c)*L+L=(b.atoms.length-c+1)*L:=by rw[Int.add_mul,Int.one_mul]
   rw[this];exact Int.mul_le_mul_of_nonneg_right (by omega) (by omega)
  unfold kr kQ;simp only;rw[show((c:Int)).toNat=c by omega,show s.atom.toNat=k by omega];omega
 have hre:cp b s<=b.atoms.length:=by
  obtain⟨u,u1,-,u3,-⟩:=ml hb.Up hb.pos hm (ij b.atoms s (du b s).body) 0 (du b s).body;unfold cp;rw[u1];omega
 have hlen:=hb.brk;unfold bB at ht;split at ht
 .rw[jY.1 ht];unfold fo;rw[aK (show zd b.atoms s (du b s).body from⟨hm,by omega⟩)];have e1:(ez b.atoms s (du b s).body).atom=s.atom:=rfl;have e2:(ez b.atoms s (du b s).body).fr=s.done:=rfl;have e3:(ez b.atoms s (du b s).body).h=min ((UZ b.atoms s.atom).h-s.done) (du b s).body:=rfl;unfold jI;rw[e1,e2,e3];split
  .unfold kr;simp only;omega
  .have:=W9 (k+1) (by omega) (by omega);unfold kr kQ at this;unfold kr;simp only at this|-;rw[show(((k+1:Nat):Int)).toNat=k+1 by omega]at this;rw[show(s.atom+1).toNat=k+1 by omega,show s.atom+1=((k+1:Nat):Int) by omega];exact this
 .split at ht
  .rename_i h1 h2;have:=nX Yo.1 (by omega) h2;rw[jY.1 ht];exact W9 _ (by omega) (by omega)
  .rename_i h1 h2;obtain⟨i,hi,rfl⟩:=iD.1 ht;have:=List.mem_range.1 hi;exact W9 _ (by omega) (by omega)
def tO{b:Bk}(hb:dv b){L:Int}(hL:jG b L):∀(P:List RG) (s:RG),fY b s->yd (bB b) (dD b) s P->(P.length:Int)*L<=kr b L s
 |[],s,hv,hp=>by
  have hL1:=hL.pos;have h0:0<=kr b L s:=by
   have hf:s.atom>=b.atoms.length:=hp;rcases hv with h|h
   .have:=h.1;omega
   .unfold kr;rw[h.1,h.2,Int.sub_self,Int.zero_mul];have:=mr hb.pos (b:=b) b.atoms.length;rw[show((b.atoms.length:Int)).toNat=b.atoms.length by omega];omega
  simpa using h0
 |t::r,s,hv,⟨hf,ht,hp⟩=>by
  have hg:=(dO hb).on s hv hf t ht;have ih:=tO hb hL r t hg.1 hp;have hs:=A0 hb hL hv hf ht;have:((t::r).length:Int)*L=r.length*L+L:=by
   rw[TI,show(((r.length+1:Nat)):Int)=(r.length:Int)+1 by omega,Int.add_mul,Int.one_mul]
  omega
def Bw{b:Bk}(hb:dv b){L:Int}(hL:jG b L){s:RG}(hv:fY b s):0<=kr b L s:=by
 have hL1:=hL.pos;have hr:=mr hb.pos (b:=b);rcases hv with h|h
 .have h1:=h.1;have h2:=h.2;obtain⟨k,hk⟩:∃k:Nat,s.atom=k:=⟨s.atom.toNat,by omega⟩
  have Uj:k<b.atoms.length:=by omega
  have RR:=l6 Uj;have hnn:=hr (k+1);have hg:(UZ b.atoms s.atom).h=b.atoms[k].h:=by rw[hk,bp Uj]
  have hph:=hb.pos _ (Sx Uj);have hm:0<=((b.atoms.length:Int)-s.atom)*L:=Int.mul_nonneg (by omega) (by omega);unfold kr;rw[show s.atom.toNat=k by omega];omega
 .unfold kr;rw[h.1,h.2,Int.sub_self,Int.zero_mul];have:=hr b.atoms.length;rw[show((b.atoms.length:Int)).toNat=b.atoms.length by omega];omega
def okP(b:Bk)(s:RG):Prop:=s.free=true->s.done=0/\(s.atom=0\/(Um b.Sk s.atom.toNat).forced≠0)
def nU(l:List Nd):Nat:=(l.map λx=>x.words.length).sum
def p7{b:Bk}(hb:dv b)(t:RG):0<=cO b t/\cO b t<=7:=by
 have hm:=hb.mayb;unfold F8 at hm;rw[Ba,fL]at hm;unfold cO;split
 .omega
 .rcases Nat.lt_or_ge t.atom.toNat b.Sk.length with h|h
  .have h:=hm.1 t.atom.toNat (List.mem_range.2 h);unfold xR at h;rw[Uy]at h;unfold uR at h;obtain⟨-,-,-,-,h5⟩:=h;omega
  .have e:Um b.Sk t.atom.toNat=⟨0,0,0⟩:=by unfold Um;rw[yb,sW h];rfl
   rw[e];simp
def tE{S:Type}{rank:S->Int}(h:∀t,0<=rank t/\rank t<=7):∀P:List S,0<=(pM rank P).Sr/\(pM rank P).Sr<=7*P.length
 |[]=>by simp[pM]
 |t::r=>by
  have h1:=tE h r;have h2:=h t;simp only[pM,Uk.on,TI];omega
def tq{b:Bk}(hb:dv b){s:RG}(hv:fY b s):Yl b s<iV:=by
 have:=hb.len;have h0:0<=s.done/\0<=s.atom:=by
  rcases hv with h|h
  .exact⟨h.2.1,h.1.1⟩
  .omega
 unfold Yl iV;omega
def FP{b:Bk}(hb:dv b){L:Int}(hL:jG b L){s:RG}(hv:fY b s):
 0<=(dX b s).1.RT/\(dX b s).1.RT<=100000/\0<=(dX b s).1.Sr/\(dX b s).1.Sr<=700000:=by
 have hg:=wm (rank:=cO b) (dflt:=(⟨0,0,false⟩:RG)) (dO hb) (F:=iV) iV s hv (tq hb hv) (tq hb hv);obtain⟨h1,h2⟩:=hg;have h3:=tO hb hL _ _ hv h1;have h4:=uU (cO b) (sH (bB b) (dD b) (cO b) ⟨0,0,false⟩ iV iV s);have h5:=tE (p7 hb) (sH (bB b) (dD b) (cO b) ⟨0,0,false⟩ iV iV s);rw[h2]at h4 h5;have hL1:=hL.pos;have h0:0<=s.done/\0<=s.atom/\s.atom<=b.atoms.length:=by
  rcases hv with h|h
  .exact⟨h.2.1,h.1.1,by have:=h.1.2;omega⟩
  .omega
 have hr:jL b s.atom.toNat<=jL b 0:=by
  have:=pt hb.pos (b:=b) s.atom.toNat 0 (by omega)
  rwa [lF]at this
 have UP:=hL.rest;have hna:=hL.na;have hm:((b.atoms.length:Int)-s.atom)*L<=10000*L:=Int.mul_le_mul_of_nonneg_right (by omega) (by omega);unfold kr at h3;have hlen:((sH (bB b) (dD b) (cO b) ⟨0,0,false⟩ iV iV s).length:Int)<=42768:=by
  refine Decidable.byContradiction λhc=>?_;have:=Int.mul_le_mul_of_nonneg_right (show(42769:Int)<=((sH (bB b) (dD b) (cO b) ⟨0,0,false⟩ iV iV s).length:Int) by omega) (show 0<=L by omega);omega
 unfold dX;omega
def pU(b:Bk)(s:RG):List (Uk×RG):=(bB b s).map λt=>((dX b t).1.on (cO b t),t)
def E3{b:Bk}{s:RG}(hf:dD b s):dX b s=(⟨0,0⟩,⟨0,0,false⟩):=by
 unfold dX;rw[show iV=1999999999999999999999999999+1 from rfl,fM,aK hf]
def DX{b:Bk}(hb:dv b){s:RG}(hv:fY b s)(hf:¬dD b s):dX b s=(lR (pU b s) none).getD (⟨0,0⟩,⟨0,0,false⟩):=by
 unfold dX pU;obtain⟨f,hF⟩:∃f,iV=f+1:=⟨1999999999999999999999999999,rfl⟩
 have e:fM (bB b) (dD b) (cO b) ⟨0,0,false⟩ iV s=fM (bB b) (dD b) (cO b) ⟨0,0,false⟩ (f+1) s:=by rw[hF]
 rw[e,fM,aM hf];congr 2;refine List.map_congr_left λt ht=>?_;obtain⟨v,m⟩:=(dO hb).on s hv hf t ht;have h1:=tq hb hv;rw[ru (rank:=cO b) (dflt:=(⟨0,0,false⟩:RG)) (dO hb) f iV t v (by omega) (by omega)];rfl
open Go.RowKit
variable {P:Program} {n:Nat} {st:St} {Q:St->Prop} {k:List It} {I:Mu} {w:World}
def u9{α:Type}{f:α->α}:∀(l:List α) (j:Nat) (x:α),l[j]?=some x->l.modify j f=l.set j (f x)
 |[],j,x,h=>by simp at h
 |y::l,0,x,h=>by simp at h;subst h;rfl
 |y::l,j+1,x,h=>by
  have:=u9 (f:=f) l j x (by simpa using h);rw[List.modify_succ_cons,List.set_cons_succ,this]
open Go.RowKit
variable {P:Program} {n:Nat} {st:St} {Q:St->Prop} {k:List It}
def TS(P:Program)(n:Nat)(i:aS)(x:St)(K:St->Prop):Prop:=i.op≠.bad/\bn x.s i.g=some true/\
 ∀(F:Fr),F.n=n->∀(I:Mu) (a:Act) (w:World) (o:Oper) (all:Array Oper),bL P n all o=i->dz F I x a w->
  ∀(next:Act->World->Prop) (Q':Exit->Act->World->Prop),(∀UC a' w',eU F UC a' w'->K UC->next a' w')->o.wp P a w next Q'
def XT(P:Program)(n:Nat)(sp:List Nat)(m:Nat)(i:aS)(x:St)(K:St->Prop):Prop:=T P i x K\/m∈sp/\TS P n i x K
variable {sp:List Nat}
def XT.mono{m:Nat}{i:aS}{x:St}{K K':St->Prop}(hk:∀x,K x->K' x)(h:XT P n sp m i x K):XT P n sp m i x K':=by
 rcases h with h|⟨h1,h2,h3,h4⟩
 .exact .inl (h.mono hk)
 .exact .inr ⟨h1,h2,h3,λF hn I a w o all hi hs next Q' RK=>h4 F hn I a w o all hi hs next Q' λUC a' w' RV hq=>RK _ _ _ RV (hk _ hq)⟩
def XT.inf{m:Nat}{i:aS}{x:St}{K:St->Prop}(hi:We x.U)(h:XT P n sp m i x K):XT P n sp m i x λx'=>We x'.U/\K x':=by
 rcases h with h|⟨h1,h2,h3,h4⟩
 .exact .inl (h.inf hi)
 .exact .inr ⟨h1,h2,h3,λF hn I a w o all hi hs next Q' RK=>h4 F hn I a w o all hi hs next Q' λUC a' w' RV hq=>RK _ _ _ RV ⟨RV.inf,hq⟩⟩
def chB(l:List aS):Nat->Nat->Nat->Bool
 |0,_,_=>false
 |f+1,i,j=>match l[i]?,l[j]? with
  |some a,some b=>!jc a b||(List.range l.length).any λk=>decide (i<k)&&(decide (k<j)&&((match l[k]? with
   |some c=>!jc a c
   |none=>false)&&chB l f k j))
  |_,_=>false
def GH(l:List aS)(sp:List Nat):Bool:=sp.all λm=>(List.range l.length).all λi=>decide (i=m)||(decide (i<m)&&chB l 8 i m||decide (m<i)&&chB l 8 m i)
def DQ(P:Program)(n:Nat)(ops:Array Oper)(k:Nat):Prop:=∀i j oi oj,k<=i->i<j->ops[i]?=some oi->ops[j]?=some oj->((Region.before ops).getD j 0).testBit i=true\/jc (bL P n ops oi) (bL P n ops oj)=true
def Gd{ops:Array Oper}:∀(m k:Nat) (n':Array Bool),m+k=ops.size->(∀j,k<=j->j<ops.size->n'.getD j true=false)->wj P n ops m k n'=true->DQ P n ops k
 |0,k,n',hm,_,_=>λi j oi oj h1 h2 h3 h4=>by
  have:=(nz.1 h3).1;omega
 |m+1,k,n',hm,hl,h=>λi j oi oj h1 h2 h3 h4=>by
  simp only[wj,Ba]at h;obtain⟨⟨_,hf⟩,hB⟩:=h;have hj:=(nz.1 h4).1;by_cases hik:i=k
  .subst hik;cases hb:((Region.before ops).getD j 0).testBit i with
   |true=>exact .inl rfl
   |false=>exact .inr (mc h3 hf j oj h4 (by omega) (hl j (by omega) hj) hb)
  .exact Gd m (k+1) _ (by omega) (λj' h5 h6=>by rw[getD_set_ne true (by omega)];exact hl j' (by omega) h6) hB i j oi oj (by omega) h2 h3 h4
def yh{a:Array Bool}{i:Nat}(h:a.getD i false=true):a.getD i true=true:=by
 rw[Vn]at h|-;cases hi:a[i]? with
 |none=>rfl
 |some b=>rw[hi]at h;exact h
def pq{ops:Array Oper}{n':Array Bool}(SU:je ops n')(hG:DQ P n ops 0):∀(f i j:Nat) (oj:Oper),i<j->ops[j]?=some oj->(∀e∈oj.after,Region.binds .any e=true->n'.getD e.on false=true)->
 chB (ops.toList.map (bL P n ops)) f i j=true->n'.getD i false=true
 |0,_,_,_,_,_,_,h=>by cases h
 |f+1,i,j,oj,Xu,VN,Tf,h=>by
  have get:∀(m:Nat) (om:Oper),ops[m]?=some om->(ops.toList.map (bL P n ops))[m]?=some (bL P n ops om):=λm om hm=>by
   rw[sP,Array.getElem?_toList,hm];rfl
  have UG:=(nz.1 VN).1;obtain⟨oi,hoi⟩:∃o,ops[i]?=some o:=⟨ops[i]'(by omega),Array.getElem?_eq_getElem (by omega)⟩
  have key:∀(k:Nat) (ok:Oper),i<k->ops[k]?=some ok->(∀e∈ok.after,Region.binds .any e=true->n'.getD e.on false=true)->jc (bL P n ops oi) (bL P n ops ok)=false->n'.getD i false=true:=λk ok hk RP WI hp=>by
   rcases hG i k oi ok (Nat.zero_le _) hk hoi RP with hb|hb
   .exact lg SU k ok i RP hb WI
   .rw[hp]at hb;cases hb
  simp only[chB,get i oi hoi,get j oj VN,kO,Bool.not_eq_true']at h;rcases h with h|h
  .exact key j oj Xu VN Tf h
  .obtain⟨k,_,hk⟩:=KU.1 h;simp only[Ba,Uy]at hk;obtain⟨h1,h2,h3,h4⟩:=hk;obtain⟨ok,RP⟩:∃o,ops[k]?=some o:=⟨ops[k]'(by omega),Array.getElem?_eq_getElem (by omega)⟩
   have Uj:=pq SU hG f k j oj h2 VN Tf h4;rw[get k ok RP]at h3;exact key k ok h1 RP (SU k ok RP (yh Uj)) (by simpa using h3)
def uV{ops:Array Oper}{n':Array Bool}(SU:je ops n')(hG:DQ P n ops 0)(Vq:GH (ops.toList.map (bL P n ops)) sp=true){m j:Nat}(hm:m∈sp)(hrm:m∈Region.ready .any ops n')(hrj:j∈Region.ready .any ops n')(RU:j≠m):False:=by
 obtain⟨um,om,hom,am⟩:=mem_ready.1 hrm;obtain⟨uj,oj,VN,aj⟩:=mem_ready.1 hrj;have UG:=(nz.1 VN).1;have h:=fL.1 (fL.1 Vq m hm) j (List.mem_range.2 (by simpa using UG));simp only[kO,Ba,Uy,RU,false_or]at h;rcases h with⟨h1,h2⟩|⟨h1,h2⟩
 .have:=pq SU hG 8 j m om h1 hom am h2;rw[yh this]at uj;cases uj
 .have:=pq SU hG 8 m j oj h1 VN aj h2;rw[yh this]at um;cases um
def Xn(P:Program)(n:Nat)(sp:List Nat)(ops:Array Oper)(i:Nat)(x:St)(K:St->Prop):Prop:=match ops[i]? with
 |some o=>XT P n sp i (bL P n ops o) x K
 |none=>K x
def qZ(P:Program)(n:Nat)(sp:List Nat)(ops:Array Oper)(Q:St->Prop):Nat->Array Bool->St->Prop
 |0,n',x=>Region.ready .any ops n'=[]/\Q x
 |f+1,n',x=>(Region.ready .any ops n'=[]->Q x)/\∀i∈Region.ready .any ops n',Xn P n sp ops i x (qZ P n sp ops Q f (n'.setIfInBounds i true))
def l8{F:Fr}(hn:F.n=n){ops:Array Oper}{Q:St->Prop}{Q':Exit->Act->World->Prop}(hQ:∀x a w,eU F x a w->Q x->Q' .normal a w):
 ∀(f:Nat) (n':Array Bool) (x:St) (a:Act) (w:World),eU F x a w->qZ P n sp ops Q f n' x->wpAnyIn F.eG 0 P .any ops Q' f n' a w
 |0,_,_,_,_,hs,h=>⟨h.1,hQ _ _ _ hs h.2⟩
 |f+1,n',x,a,w,hs,h=>by
  refine⟨λh0=>hQ _ _ _ hs (h.1 h0),λi hi=>?_⟩;have h1:=h.2 i hi;unfold Xn at h1;unfold wpOpIn;cases ho:ops[i]? with
  |none=>
   simp only[ho]at h1;exact l8 hn hQ f _ x a w hs h1
  |some o=>
   simp only[ho]at h1;rcases h1 with h1|⟨-,g2,g3,g4⟩
   .have h2:=tB (Q':=Q') hn h1 hs λx' a' w' RV hk=>l8 hn hQ f _ x' a' w' RV hk;by_cases hw:Region.wanted o (yielded ops a.tmps)=true
    .rw[aK hw]at h2;simp only[hw,if_true];exact El (kc h2.1) h2.2
    .rw[aM hw]at h2;simp only[hw];exact⟨λ_ _=>trivial,h2⟩
   .obtain⟨I,hs⟩:=hs;have hw:Region.wanted o (yielded ops a.tmps)=true:=by
     subst hn;exact qv (P:=P) hs ops o g3
    simp only[hw,if_true];exact El (kc (P:=P) (n:=n) g2) (g4 F hn I a w o ops rfl hs _ _ λx' a' w' RV hk=>l8 hn hQ f _ x' a' w' RV hk)
def yk{ops:Array Oper}{Q:St->Prop}(hG:DQ P n ops 0)(Vq:GH (ops.toList.map (bL P n ops)) sp=true){i:Nat}{oi:Oper}(hi:ops[i]?=some oi):∀(f:Nat) (n':Array Bool) (x:St),We x.U->je ops n'->
 (∀j oj,ops[j]?=some oj->j≠i->n'.getD j true=false->((Region.before ops).getD j 0).testBit i=false->jc (bL P n ops oi) (bL P n ops oj)=true)->
 i∈Region.ready .any ops n'->XT P n sp i (bL P n ops oi) x (qZ P n sp ops Q f (n'.setIfInBounds i true))->qZ P n sp ops Q (f+1) n' x:=by
 intro f
 induction f with
 |zero=>
  intro n' x TQ SU Vx hr H;refine⟨λh=>(by rw[h]at hr;cases hr),λj hj=>?_⟩;by_cases TJ:j=i
  .subst TJ;unfold Xn;simp only[hi];exact H
  .rcases H with H|H
   .have:=ready_mono hj TJ;obtain⟨x',Sg⟩:=H.exists TQ;rw[Sg.1]at this;cases this
   .exact(uV SU hG Vq H.1 hr hj TJ).elim
 |succ f ih=>
  intro n' x TQ SU Vx hr H;refine⟨λh=>(by rw[h]at hr;cases hr),λj hj=>?_⟩;by_cases TJ:j=i
  .subst TJ;unfold Xn;simp only[hi];exact H
  .obtain⟨XK,oj,VN,Tf⟩:=mem_ready.1 hj;rcases H with H|H
   .have hnot:((Region.before ops).getD j 0).testBit i=false:=by
     cases hb:((Region.before ops).getD j 0).testBit i with
     |false=>rfl
     |true=>
      exfalso;have h1:=lg SU j oj i VN hb Tf;have h0:=(mem_ready.1 hr).1;rcases Nat.lt_or_ge i n'.size with h'|h'
      .simp[h']at h0 h1;rw[h0]at h1;cases h1
      .simp[Array.getElem?_eq_none h']at h1
    have H2:T P (bL P n ops oi) x λx'=>T P (bL P n ops oj) x' (qZ P n sp ops Q f ((n'.setIfInBounds i true).setIfInBounds j true)):=by
     refine H.mono λx' Sg=>?_;have:=Sg.2 j (ready_mono hj TJ);unfold Xn at this;simp only[VN]at this;rcases this with h|h
     .exact h
     .exact(uV SU hG Vq h.1 hj hr (Ne.symm TJ)).elim
    have h2:=Be (Vx j oj VN TJ XK hnot) TQ H2;have WA:∀k ok,ops[k]?=some ok->k≠i->(n'.setIfInBounds j true).getD k true=false->
     ((Region.before ops).getD k 0).testBit i=false->jc (bL P n ops oi) (bL P n ops ok)=true:=λk ok hk hki hun R9=>by
     refine Vx k ok hk hki ?_ R9;by_cases hjk:j=k
     .subst hjk;exact XK
     .rw[getD_set_ne true hjk]at hun;exact hun
    unfold Xn;simp only[VN];refine .inl ((h2.inf TQ).mono λx' Sg=>ih (n'.setIfInBounds j true) x' Sg.1 (SU.list hj) WA (ready_mono hr (Ne.symm TJ)) ?_);rw[Array.setIfInBounds_comm _ _ TJ];exact .inl Sg.2
   .exact(uV SU hG Vq H.1 hr hj TJ).elim
def ky(P:Program)(n:Nat)(sp:List Nat)(Q:St->Prop):Nat->List aS->St->Prop
 |_,[],x=>Q x
 |m,i::l,x=>XT P n sp m i x (ky P n sp Q (m+1) l)
def uC{ops:Array Oper}{Q:St->Prop}(hG:DQ P n ops 0)(Vq:GH (ops.toList.map (bL P n ops)) sp=true):∀(l:List Oper) (k:Nat) (n':Array Bool) (x:St),We x.U->je ops n'->(∀j,l[j]?=ops[k+j]?)->
 wj P n ops l.length k n'=true->ky P n sp Q k (l.map (bL P n ops)) x->qZ P n sp ops Q l.length n' x
 |[],_,_,_,_,_,_,hB,h=>⟨by simpa[wj]using hB,h⟩
 |o::l,k,n',x,TQ,SU,hl,hB,h=>by
  have h0:ops[k]?=some o:=by simpa using(hl 0).symm
  simp only[TI,wj,Ba]at hB;obtain⟨⟨hr,hf⟩,hB'⟩:=hB;refine yk hG Vq h0 l.length n' x TQ SU (mc h0 hf) (by simpa using hr) ?_;refine(XT.inf TQ h).mono λx' Sg=>?_;exact uC hG Vq l (k+1) _ x' Sg.1 (SU.list (by simpa using hr)) (λj=>by have:=hl (j+1);simpa[Nat.add_assoc,BG 1 j]using this) hB' Sg.2
def vW{F:Fr}(hn:F.n=n){ops:Array Oper}(RP:pn P n ops=true)(Vq:GH (ops.toList.map (bL P n ops)) sp=true){id:Nat}{x:St}{a:Act}{w:World}(hs:eU F x a w){Q:St->Prop}{Q':Exit->Act->World->Prop}
 (hQ:∀x a w,eU F x a w->Q x->Q' .normal a w)(h:ky P n sp Q 0 (ops.toList.map (bL P n ops)) x):(Code.region id ops true).wpIn F.eG 0 P Q' a w:=by
 simp only[pn,Ba]at RP;have RV:eU F x a { w with drawn:=w.drawn+1 }:=by
  obtain⟨I,hs⟩:=hs;have hk:dc (aN I x.U) (aN I x.U) w { w with drawn:=w.drawn+1 }:=λ_ _ h=>⟨h,rfl⟩
  refine⟨I,⟨⟨hs.sat.size,hs.sat.os,hs.sat.tape,hs.sat.output,hs.sat.same,hs.sat.fin,hs.sat.inj,λid o ho=>?_,hs.sat.fresh,hs.sat.UO⟩,hs.le,hs.size,hs.book.wb hk,λi hi=>?_⟩⟩
  .exact(hs.sat.obj id o ho).mono (dn.refl I) hk (Sf _) (λ_ _ _ _=>rfl)
  .exact E'.mono (dn.refl I) hk (Sf _) _ _ (hs.slot i hi)
 have Tu:∀j,j<ops.size->(Array.replicate ops.size false).getD j true=false:=λj hj=>by
  rw[Vn,Array.getElem?_replicate,aK hj];rfl
 have hG:DQ P n ops 0:=Gd ops.size 0 (Array.replicate ops.size false) rfl (λj _ hj=>Tu j hj) (by simpa using RP.2.2);refine wpIn_region_any RP.1 (l8 (sp:=sp) hn hQ _ _ _ _ _ RV ?_);have:=uC (P:=P) (n:=n) (Q:=Q) hG Vq ops.toList 0 (Array.replicate ops.size false) x hs.inf (λm om hm hl=>by
  have u':m<ops.size:=(nz.1 hm).1;rw[Tu m u']at hl;cases hl) (by simp) (by simpa using RP.2.2) h
 simpa using this
def aq.Q7(sp:List Nat){l:List aS}(Vq:GH l sp=true)(h:ky P n sp (λx=>aq P n k x Q) 0 l st):aq P n (.code (.VL true l)::k) st Q:=by
 intro F hn kt hk a w hs;obtain⟨z,Ub,rfl,hy,Tp⟩:=eD hk;obtain⟨c0,rfl,SW⟩:=gN hy;have Vp:∃id ops,c0=.region id ops true/\pn P n ops=true/\ops.toList.map (bL P n ops)=l:=by
  cases c0<;>simp only[dG,reduceCtorEq]at SW;rename_i id ops draw;cases draw
  .simp at SW
  .simp only[Bool.true_and]at SW;split at SW
   .cases SW
   .split at SW
    .cases SW
    .rename_i hd;simp only[bP.VL.injEq,true_and]at SW;exact⟨id,ops,rfl,by simpa using hd,SW⟩
 obtain⟨id,ops,rfl,RP,rfl⟩:=Vp;exact vW hn RP Vq hs (λx a w hs h=>h F hn Ub Tp a w hs) h
variable {K:St->Prop} {m:Nat} {x:St}
def XC.app{suf:List aS}:∀(pre:List aS) {m:Nat} {x:St},Go P n (.d pre [.stop λy=>ky P n sp K (m+pre.length) suf y]) x Q->ky P n sp K m (pre++suf) x
 |[],_,_,h=>h
 |i::pre,m,_,h=>.inl (T.mono (λ_ h=>XC.app (m:=m+1) pre (by rw[show m+1+pre.length=m+(i::pre).length by simp;omega];exact h)) h)
def XC.go(j:Nat){l:List aS}(h:Go P n (.d (l.take j) [.stop λy=>ky P n sp K (m+(l.take j).length) (l.drop j) y]) x λ_=>True):ky P n sp K m l x:=by
 have:=XC.app _ h
 rwa [A8]at this
def XC.nil(h:K x):ky P n sp K m [] x:=h
open Go.RowKit
variable {P:Program} {n:Nat} {st:St} {Q:St->Prop} {k:List It} {I:Mu} {w:World}
def I2{κ:Type}[DecidableEq κ]{kv:κ->Value}{kV:κ->V}{i:aS}{xm xk xv:VX}{kt:TypeId}(ho:i.op=.more (.insS kt) [xm,xk,xv]){id:Nat}{g:κ->Option V}{a:κ}{v:V}
 (hK:zf P kt kv kV)(hm:xm.ev st.s=.mp id)(VM:oy kv st.U id g)(hk:xk.ev st.s=kV a)(hv:xv.ev st.s=v){K:St->Prop}
 (h:∀ob:Ob,ob.sz=0->oy kv (C' st.U id ob) id (λb=>if a=b then some v else g b)->K ⟨aY st.s i.dst (.RM []),C' st.U id ob⟩):
 ∀(F:Fr),F.n=n->∀(I:Mu) (a:Act) (w:World) (o:Oper) (all:Array Oper),bL P n all o=i->dz F I st a w->
  ∀(next:Act->World->Prop) (Q':Exit->Act->World->Prop),(∀UC a' w',eU F UC a' w'->K UC->next a' w')->o.wp P a w next Q':=by
 intro F hn I ac w o all hi hs next Q' RK
 obtain⟨hinj,Wj,hko,Tu⟩:=hK;replace Tu:=Tu a;replace hko:∀b,(b=a\/g b≠none)->∃l,keyOf P kt (kv b)=some l:=λb _=>hko b;subst hn;obtain⟨RN,hd⟩:=eZ hi;rw[ho]at RN;obtain⟨t,e,x,y,z,g1,g2,g4⟩:=FU RN;simp only[List.cons.injEq,and_true]at g4;obtain⟨rfl,rfl,rfl⟩:=g4;have u1:=uz g2;obtain⟨es,clock,ks,env,R8,he,hlen,SI,TD⟩:=VM;have hr:=cF hs x;have hrk:=cF hs y;have hrv:=cF hs z;rw[hm]at hr;rw[hk]at hrk;rw[hv]at hrv;have hrk:=Tu _ _ _ _ hrk;simp only[E']at hr;have hks:∀b∈ks,∃l,keyOf P kt (kv b)=some l:=λb hb=>by
  obtain⟨j,hj⟩:=HN hb;refine hko b (.inr ?_);rw[<-TD b,nV SI hj hlen];have:j<env.length:=by rw[<-hlen];exact(ri.1 hj).1
  rw[VH this];simp
 obtain⟨la,TZ⟩:=hko a (.inl rfl);split at hr
 .rename_i b cap L';obtain⟨Ts,WB⟩:=hs.sat.HU R8 L';simp only[tmpsOf]at WB;have Sq:∀(o':Obj) (Yv:List V),(∃es' X7 ks',o'=.map es' X7/\es'.toList.map (·.key)=ks'.map kv/\ks'.length=Yv.length/\ks'.Nodup/\∀b,assoc b ks' Yv=if a=b then some v else g b)->ax I (aN I st.U) w Yv (tmpsOf o')->
   (Instr.mapUpdate t (ac.eval x) (ac.eval y) (ac.eval z)).run P w=.ok () (w.putObj b o')->o.wp P ac w next Q':=by
   intro o' Yv hmap' hrep' Su;have hx:(execOp ac.eval o).run P w=.ok .skip (w.putObj b o'):=by
    unfold execOp;rcases g1 with g1|g1<;>(rw[g1];simp[Su])
   have VO:=hs.sat.NR R8 L' o' Yv hrep';obtain⟨es',X7,ks',rfl,p1,p2,p3,p4⟩:=hmap';unfold Oper.wp;rw[hx];refine RK _ _ _ ⟨I,?_⟩ (h (gh (.map es' X7) Yv) rfl ⟨es',X7,ks',Yv,av,p1,p2,p3,p4⟩);rw[<-hd];exact hs.step VO.1 (dn.refl _) VO.2 (by simp) (by simp only[E'];exact⟨[],rfl,by simp[ax]⟩)
  rcases Aq hinj Wj he hks ⟨la,TZ⟩ w with⟨q1,q2⟩|⟨j,en,q1,q2,q3,q4⟩
  .refine Sq (.map (es.push { key:=kv a,val:=ac.eval z,born:=clock }) (clock+1)) (env++[v]) ⟨_,_,ks++[a],rfl,?_,?_,?_,λb=>?_⟩ ?_ ?_
   .rw[Array.toList_push,eQ,eQ,he];rfl
   .rw[kI,kI,hlen];rfl
   .rw[List.nodup_append];exact⟨SI,by simp,λx hx y hy e=>q2 (by rw[jY.1 hy]at e;exact e▸hx)⟩
   .rw[tM q2 hlen,TD]
   .simp only[tmpsOf,Array.toList_push,eQ,fC,List.map_nil];exact WB.append (by simp only[ax];exact⟨_,_,rfl,hrv,rfl⟩)
   .simp[Instr.mapUpdate,run_underlying u1,hr,hrk,pW Ts,Wj.check w _ TZ,q1,Aw _ Ts]
  .have hl:(es.modify j λe=>{ e with key:=kv a,val:=ac.eval z }).toList=es.toList.set j { en with key:=kv a,val:=ac.eval z }:=by
    rw[Array.toList_modify,u9 _ _ _ q2]
   refine Sq (.map (es.modify j λe=>{ e with key:=kv a,val:=ac.eval z }) clock) (env.set j v) ⟨_,_,ks,rfl,?_,?_,SI,λb=>?_⟩ ?_ ?_
   .rw[hl,List.map_set,he];refine List.ext_getElem? λm=>?_;rw[List.getElem?_set];split
    .rename_i e;subst e;split
     .rw[sP,q4];rfl
     .rename_i R9;rw[sW (by omega)]
    .rfl
   .rw[List.length_set,hlen]
   .rw[xj SI q4 hlen,TD]
   .simp only[tmpsOf,hl,List.map_set];exact ax.set j WB hrv
   .have hkey:((es[j]?).map (·.key)).getD (kv a)=kv a:=by
     rw[<-Array.getElem?_toList,q2];simp[q3]
    simp[Instr.mapUpdate,run_underlying u1,hr,hrk,pW Ts,Wj.check w _ TZ,q1,Aw _ Ts,hkey,Wj.stays w TZ]
 .exact hr.elim
def XC.sS{κ:Type}[DecidableEq κ]{kv:κ->Value}{kV:κ->V}{m:Nat}{x:St}{K:St->Prop}{sp:List Nat}{i:aS}{l:List aS}{xm xk xv:VX}{kt:TypeId}(Vq:m∈sp)(hw:bn x.s i.g=some true)(ho:i.op=.more (.insS kt) [xm,xk,xv]){id:Nat}{g:κ->Option V}{a:κ}{v:V}
 (hK:zf P kt kv kV)(hm:xm.ev x.s=.mp id)(VM:oy kv x.U id g)(hk:xk.ev x.s=kV a)(hv:xv.ev x.s=v)
 (h:∀ob:Ob,ob.sz=0->oy kv (C' x.U id ob) id (λb=>if a=b then some v else g b)->ky P n sp K (m+1) l ⟨aY x.s i.dst (.RM []),C' x.U id ob⟩):ky P n sp K m (i::l) x:=
 .inr ⟨Vq,by rw[ho];simp,hw,I2 ho hK hm VM hk hv h⟩
def RE.look{l:List aS}{K:St->Prop}{m:Nat}{rest:List Nat}{x:St}{i:aS}(hi:l[m/2]?=some i)(hm:m%2=0){xm xk:VX}{kt:TypeId}{ok:Bool}{zv v:V}(hw:bn x.s i.g=some true)(ho:i.op=.more (.Xm kt ok zv) [xm,xk])
 (hl:Jd P kt ok zv (xm.ev x.s) (xk.ev x.s) x.U v)(h:RE P l K rest ⟨aY x.s i.dst v,x.U⟩):RE P l K (m::rest) x:=by
 rw[RE,hi];simp only[aK hm];exact .inr ⟨hw,by rw[ho];exact⟨v,hl,h⟩⟩
def RE.mkMap{l:List aS}{K:St->Prop}{m:Nat}{rest:List Nat}{x:St}{i:aS}(hi:l[m/2]?=some i)(hm:m%2=0)(hw:bn x.s i.g=some true)(ho:i.op=.more .mkMap [])
 (h:∀id,x.U id=none->RE P l K rest ⟨aY x.s i.dst (.mp id),C' x.U id (gh (.map #[] 0) [])⟩):RE P l K (m::rest) x:=by
 rw[RE,hi];simp only[aK hm];exact .inr ⟨hw,by rw[ho];exact h⟩
open Go.Proofs
def okK(s:RG):Prop:=(Lit.int .i64 s.atom).wf=true/\(Lit.int .i64 s.done).wf=true
abbrev Ks:={ s:RG // okK s }
def ZL(s:Ks):Value:=.agg #[.int .i64 s.1.atom,.int .i64 s.1.done,.bool s.1.free]
def KA{s:RG}(h1:0<=s.atom)(h2:s.atom<=4000000000000000000)(h3:0<=s.done)(h4:s.done<=4000000000000000000):okK s:=by
 have e1:IntKind.i64.min=-9223372036854775808:=by decide
 have e2:IntKind.i64.max=9223372036854775807:=by decide
 unfold okK Lit.wf;simp only[Ba,Uy,e1,e2];omega
def Ia(a b:Ks)(h:ZL a=ZL b):a=b:=by
 obtain⟨⟨a1,a2,a3⟩,ha⟩:=a;obtain⟨⟨b1,b2,b3⟩,hb⟩:=b;simp only[ZL,Value.agg.injEq,Array.mk.injEq,List.cons.injEq,Value.int.injEq,Value.bool.injEq,true_and,and_true]at h;obtain⟨rfl,rfl,rfl⟩:=h;rfl
def Gx:laidOutB prog=true:=by kernel_rfl
def CP:24<prog.types.size:=of_decide_eq_true (by kernel_rfl)
def Li:prog.keyTypeAt 3 24=true:=by kernel_rfl
def Hi:WideMaps.KeyLaw prog 24:=deep_law_laid Gx (m:=3) (by omega) CP Li (by rw[underlying24])
def K6:prog.keyType 24=true:=by kernel_rfl
def IS:prog.underlying 3=some (.int .i64):=by kernel_rfl
def H5:prog.underlying 4=some .bool:=by kernel_rfl
def Kq:prog.cellsOf 24=3:=by kernel_rfl
def Kr:prog.cellsOf 3=1:=by kernel_rfl
def Lk:prog.cellsOf 4=1:=by kernel_rfl
def GB{b1 b2:Int}{b3:Bool}(h1:(Lit.int .i64 b1).wf=true)(h2:(Lit.int .i64 b2).wf=true):
 prog.keyLits (prog.types.size+1) 24 [.int .i64 b1,.int .i64 b2,.bool b3]=some [.int .i64 b1,.int .i64 b2,.bool b3]:=by
 have hr:=CP;generalize prog.types.size=n at*;obtain⟨d,rfl⟩:∃d,n=d+1:=⟨n-1,by omega⟩
 simp[Program.keyLits,underlying24,IS,H5,Kq,Kr,Lk,h1,h2]
def HT(b:Ks):∃l,keyOf prog 24 (ZL b)=some l:=by
 obtain⟨⟨b1,b2,b3⟩,h1,h2⟩:=b;have hf:(ZL ⟨⟨b1,b2,b3⟩,h1,h2⟩).formed prog 24=true:=by kernel_rfl
 unfold keyOf;rw[underlying24];simp only[K6,hf,Bool.and_self,if_true];have hc:(ZL ⟨⟨b1,b2,b3⟩,h1,h2⟩).cells.toList=[.int .i64 b1,.int .i64 b2,.bool b3]:=rfl;rw[hc,GB h1 h2];exact⟨_,rfl⟩
def Hl(a:Ks)(I:Mu)(ow:Nat->Prop)(w:World)(X:Value)(h:E' I ow w (aO a.1) X):X=ZL a:=by
 simp only[aO,E',ax,vI]at h;obtain⟨RI,rfl,⟨x,xs,rfl,rfl,y,ys,rfl,rfl,z,zs,rfl,rfl,rfl⟩,-⟩:=h;rfl
def cY(l:List RG):V:=.sl 3 (l.map aO)
def ot(l:List RG):ej false (cY l)=some (.int .i64 l.length):=by simp[cY,ej]
def mi{U:ak}{l:List RG}{i:Nat}(h:i<l.length):bG U 3 (cY l) (.int .i64 i)=some (.rp (aO l[i])):=by simp[cY,bG,h,aO]
def tI(s:RG)(U:ak):cQ U true 3 (.rp (aO s))=some (aO s):=rfl
def lq(x:Uk×RG):V:=.agg [vI x.1.RT,vI x.1.Sr,vI x.2.atom,vI x.2.done,.bool x.2.free]
def dY(x:Uk×RG):(lq x).cells=[vI x.1.RT,vI x.1.Sr,vI x.2.atom,vI x.2.done,.bool x.2.free]:=rfl
def ed(x:Uk×RG):(lq x).stays=true:=rfl
def iF(x:Uk):V:=.agg [vI x.RT,vI x.Sr]
def bu(x:Uk):(iF x).cells=[vI x.RT,vI x.Sr]:=rfl
def br(x:Uk):(iF x).stays=true:=rfl
def pN(b:Bk)(im:Nat):List V:=[aQ b.nodes,bK b.atoms,dh b.Sk,vI b.h,.mp im]
def mM(b:Bk)(im:Nat):Ob:=⟨89,5,[.agg (pN b im)]⟩
structure fm(b:Bk)(K U:ak)(i im:Nat):Prop where
 row:U i=some (mM b im)
 mp:∃g:Ks->Option V,oy ZL U im g/\∀s v,g s=some v->v=lq (dX b s.1)
 ni:K i=none
 nm:K im=none
 sub:aa K U
def fm.ne{b:Bk}{K U:ak}{i im:Nat}(h:fm b K U i im):i≠im:=by
 obtain⟨g,h1,-⟩:=h.mp;exact h1.ne h.row (by decide)
def fm.mono{b:Bk}{K U J:ak}{i im:Nat}(h:fm b K U i im)(hs:aa U J):fm b K J i im:=by
 obtain⟨g,h1,h2⟩:=h.mp;exact⟨hs _ _ h.row,⟨g,h1.sub hs,h2⟩,h.ni,h.nm,h.sub.trans hs⟩
def fm.less{b:Bk}{K K' U:ak}{i im:Nat}(h:fm b K' U i im)(hk:aa K K'):fm b K U i im:=⟨h.row,h.mp,hk.none h.ni,hk.none h.nm,hk.trans h.sub⟩
def fm.neK{b:Bk}{K U:ak}{i im j:Nat}{o:Ob}(h:fm b K U i im)(hj:K j=some o):j≠i/\j≠im:=by
 constructor
 .intro e;rw[e,h.ni]at hj;cases hj
 .intro e;rw[e,h.nm]at hj;cases hj
def qU(U:ak)(i im:Nat):ak:=λj=>if j=i\/j=im then none else U j
def ec{U:ak}{i im j:Nat}(h1:j≠i)(h2:j≠im):qU U i im j=U j:=aM λh=>h.elim h1 h2
def fm.off{b:Bk}{K U:ak}{i im:Nat}(h:fm b K U i im):fm b (qU U i im) U i im:=⟨h.row,h.mp,aK (.inl rfl),aK (.inr rfl),λj o hj=>by
 unfold qU at hj;split at hj
 .cases hj
 .exact hj⟩
def fm.kZ{b:Bk}{K U:ak}{i im:Nat}(h:fm b K U i im):aa K (qU U i im):=λj o hj=>by
 obtain⟨h1,h2⟩:=h.neK hj;rw[ec h1 h2];exact h.sub _ _ hj
open Go.Proofs
def En:fF prog 24=true:=by kernel_rfl
def Ep{n:Nat}{vs:List V}(h:iH prog (n+2) 24 vs):∃s:RG,nC prog 24 vs=aO s:=by
 obtain⟨a,d,fr,rfl⟩:=Dz h;exact⟨⟨a,d,fr⟩,by unfold nC;rw[En];rfl⟩
open Go.Proofs
def IN(l:List SK)(k:Int):aV prog 102 [bK l,vI k] (.bool (decide (0<=k/\k<l.length))):=λU=>by
 refine Qp.q ?_;have hl:=jw l;refine aq.mix 5 ?_;by_cases h0:k>=0
 .have q0:(k>=0)=True:=RA h0;by_cases h1:k<l.length
  .have q1:(k<l.length)=True:=RA h1;apply sR;simp only[go_sem,seval,HK,q0,q1,hl];exact az.same (by simp[h0,h1])
  .have q1:(k<l.length)=False:=H' h1;apply sR;simp only[go_sem,seval,HK,q0,q1,hl];exact az.same (by simp[h1])
 .have q0:(k>=0)=False:=H' h0;apply sR;simp only[go_sem,seval,HK,q0,hl];exact az.same (by simp<;>omega)
def JN(l:List SK)(hl:lS l)(k:Nat)(hk:k<l.length):aV prog 62 [bK l,vI k] (vI (lC l k)):=λU=>by
 refine e62.q ?_;have hs:=aa.refl U;have hh:=IN l k;rw[Tl (show(0:Int)<=k/\(k:Int)<l.length by omega)]at hh;have SA:=λU=>fg (U:=U) hk;have hy:=hl.WZ _ (Sx hk);have T1:=hl.len;unfold lC;rw[aK (show(0:Int)<=k/\(k:Int)<l.length by omega),bp hk];refine mS 5 ?_;simp only[go_sem,seval,c62];refine pR rfl (hh _) ?_;by_cases h0:k=0
 .subst h0;have hix0:∀U,bG U 8 (bK l) (.int .i64 0)=some (.rp (bz l[0])):=SA;have hb:fU l ((0:Nat)-1:Int)=0:=by unfold fU;rw[aM (by omega)]
  rw[hb];apply sR;simp only[go_sem,seval,hix0,bz];exact az.pure hs (by simp)
 .have q0:((k:Int)=0)=False:=H';have SV:k-1<l.length:=by omega
  have hix1:=λU=>fg (U:=U) SV;have hy1:=hl.WZ _ (Sx SV);have ek:((k:Int)-1)=((k-1:Nat):Int):=by omega
  have hb:fU l ((k:Int)-1)=l[k-1].y+l[k-1].h:=by unfold fU;rw[aK (by omega),ek,bp SV]
  rw[hb];generalize l[k]=x at*;generalize l[k-1]=x1 at*;have r1:R0 .i64 ((k:Int)-1):=ao;have r2:R0 .i64 (x.y-x1.y):=ao;have r3:R0 .i64 (x.y-x1.y-x1.h):=ao;have e:x.y-(x1.y+x1.h)=x.y-x1.y-x1.h:=by omega
  rw[e];apply sR;simp only[go_sem,seval,q0,SA,r1,ek,hix1,r2,r3,bz];exact⟨ao,ao,az.pure hs rfl⟩
def qw(l:List SK)(s:RG):aV prog 28 [bK l,aO s] (.bool (decide (de l s))):=λU=>by
 refine e28.q ?_;have hs:=aa.refl U;have hl:=jw l;obtain⟨a,d,fr⟩:=s;refine mS 5 ?_;simp only[go_sem,seval,c28,aO];refine aG hs λi3 Z3 s3 a3 f3 z3 hs=>?_;by_cases h0:a<0
 .have q0:(a<0)=True:=RA h0;simp only[go_sem,seval,a3,q0,hl];exact az.pure hs (by rw[Tw (λh:de l ⟨a,d,fr⟩=>by have:=h.1.1;simp only at this;omega)])
 .have q0:(a<0)=False:=H' h0;by_cases h1:a>=l.length
  .have q1:(a>=l.length)=True:=RA h1;simp only[go_sem,seval,a3,q0,q1,hl];exact az.pure hs (by rw[Tw (λh:de l ⟨a,d,fr⟩=>by have:=h.1.2;simp only at this;omega)])
  .have q1:(a>=l.length)=False:=H' h1;obtain⟨n,rfl⟩:∃n:Nat,a=n:=⟨a.toNat,by omega⟩
   have hn:n<l.length:=by omega
   have RF:=λU=>fg (U:=U) hn;have hg:=bp hn;have h00:(0:Int)<=n/\(n:Int)<l.length:=by omega
   by_cases h3:d=0
   .have q3:(d=0)=True:=RA h3;simp only[go_sem,seval,a3,q0,q1,q3,hl];have hh:de l ⟨n,d,fr⟩:=⟨h00,by simp only;omega,.inl h3⟩
    exact az.pure hs (by rw[Tl hh])
   .have q3:(d=0)=False:=H' h3;by_cases h2:d>0
    .have q2:(d>0)=True:=RA h2;by_cases h4:d<l[n].h
     .have q4:(d<l[n].h)=True:=RA h4;simp only[go_sem,seval,a3,q0,q1,q2,q3,q4,hl,RF,bz];have hh:de l ⟨n,d,fr⟩:=⟨h00,by simp only;omega,.inr (by rw[hg];exact h4)⟩
      exact az.pure hs (by rw[Tl hh])
     .have q4:(d<l[n].h)=False:=H' h4;simp only[go_sem,seval,a3,q0,q1,q2,q3,q4,hl,RF,bz];exact az.pure hs (by rw[Tw (λh:de l ⟨n,d,fr⟩=>by rcases h.2.2 with h|h;exact h3 h;rw[hg]at h;exact h4 h)])
    .have q2:(d>0)=False:=H' h2;simp only[go_sem,seval,a3,q0,q1,q2,q3,hl];exact az.pure hs (by rw[Tw (λh:de l ⟨n,d,fr⟩=>by have h5:=h.2.1;have h6:=h.2.2;simp only at h5 h6;omega)])
open Go.Proofs
def Ik(l:List SK)(hl:lS l)(s:RG)(RQ:Int):aV prog 29 [bK l,aO s,vI RQ] (vI (ij l s RQ)):=λU=>by
 refine e29.q ?_;have hs:=aa.refl U;have hc:=qw l s;unfold ij;refine aq.mix 8 ?_;by_cases hm:de l s
 .rw[Tl hm]at hc;obtain⟨a,d,fr⟩:=s;have Zd:=hm;obtain⟨⟨h0,h1⟩,h2,h3⟩:=hm;simp only at h0 h1 h2 h3|-;obtain⟨n,rfl⟩:∃n:Nat,a=n:=⟨a.toNat,by omega⟩
  have hn:n<l.length:=by omega
  cases fr
  .rw[aM (by simp)];apply sR;simp only[go_sem,seval,c29,aO];refine aG hs λi4 Z4 s4 a4 f4 z4 hs=>?_;simp only[go_sem,seval,a4];refine pS rfl (hc _) ?_;simp only[go_sem,seval,a4];exact az.pure hs rfl
  .by_cases hd:d>0
   .have qd:(d>0)=True:=RA hd;rw[aM (by intro h;have:=h.2.2.1;omega)];apply sR;simp only[go_sem,seval,c29,aO];refine aG hs λi4 Z4 s4 a4 f4 z4 hs=>?_;simp only[go_sem,seval,a4];refine pS rfl (hc _) ?_;simp only[go_sem,seval,a4,qd];exact az.pure hs rfl
   .have qd:(d>0)=False:=H' hd;obtain rfl:d=0:=by omega
    have RF:=λU=>fg (U:=U) hn;have hy:=hl.WZ _ (Sx hn);have X8:=JN l hl n hn;have hgr:-1152921504606846976-2305843009213693952<=lC l n/\lC l n<=2305843009213693952:=by
     have:=nG hl ((n:Int)-1);unfold lC;rw[aK ⟨h0,h1⟩,bp hn];omega
    rw[bp hn];generalize lC l n=g at*;generalize l[n]=x at*;have r1:R0 .i64 (g+x.h):=ao;apply sR;simp only[go_sem,seval,c29,aO];refine aG hs λi4 Z4 s4 a4 f4 z4 hs=>?_;simp only[go_sem,seval,a4];refine pS rfl (hc _) ?_;simp only[go_sem,seval,a4,qd];refine pR rfl (X8 _) ?_;by_cases hg:g+x.h>RQ
    .have qg:(g+x.h>RQ)=True:=RA hg;rw[aM (by intro h;have h:=h.2;simp at h;omega)];apply sR;simp only[go_sem,seval,a4,RF,bz,r1,qg];exact az.pure hs rfl
    .have qg:(g+x.h>RQ)=False:=H' hg;rw[aK (by refine⟨Zd,?_⟩;simp;omega)];apply sR;simp only[go_sem,seval,a4,RF,bz,r1,qg];exact az.pure hs rfl
 .rw[Tw hm]at hc;rw[aM (λh=>hm h.1)];obtain⟨a,d,fr⟩:=s;apply sR;simp only[go_sem,seval,c29,aO];refine aG hs λi4 Z4 s4 a4 f4 z4 hs=>?_;simp only[go_sem,seval,a4];refine pS rfl (hc _) ?_;simp only[go_sem,seval,a4];exact az.pure hs rfl
def Gb(l:List SK)(hl:lS l)(s:RG)(hm:de l s)(hd:s.done<=1152921504606846976)(kept shift:Int)(k:Nat)(hk:-1152921504606846976<=kept/\kept<=1152921504606846976)(hsh:0<=shift/\shift<=1152921504606846976)(SV:s.atom<=k)(Ti:k<l.length):
 aV prog 103 [bK l,aO s,vI kept,vI shift,vI k] (vI (eL l s kept shift k)):=λU=>by
 refine Rw.q ?_;have hs:=aa.refl U;have hc:=qw l s;have T1:=jw l;rw[Tl hm]at hc;unfold eL;rw[aK ⟨hm,SV,by omega⟩];obtain⟨a,d,fr⟩:=s;obtain⟨⟨h0,h1⟩,h2,h3⟩:=hm;simp only at h0 h1 h2 h3 hd SV|-;obtain⟨n,rfl⟩:∃n:Nat,a=n:=⟨a.toNat,by omega⟩
 have hn:n<l.length:=by omega
 have RF:=λU=>fg (U:=U) hn;have YN:=λU=>fg (U:=U) Ti;have hy:=hl.WZ _ (Sx hn);have hy2:=hl.WZ _ (Sx Ti);unfold gF;rw[aK ⟨⟨h0,h1⟩,by omega,by omega⟩,bp hn,bp Ti];generalize l[n]=x at*;generalize l[k]=x2 at*;have q1:((k:Int)<n)=False:=H';have q2:((k:Int)>=l.length)=False:=H';have r1:R0 .i64 (x2.y-x.y):=ao;have r2:R0 .i64 (x2.y-x.y-d):=ao;have r3:R0 .i64 (x2.y-x.y-d+kept):=ao;have r4:R0 .i64 (x2.y-x.y-d+kept+shift):=ao;refine mS 11 ?_;simp only[go_sem,seval,Of,aO];refine aG hs λi6 Z6 s6 a6 f6 z6 hs=>?_;simp only[go_sem,seval,a6];refine pS rfl (hc _) ?_;simp only[go_sem,seval,a6,T1,q1,q2,RF,YN,bz,r1,r2,r3,r4];exact az.pure hs rfl
def IG(l:List SK)(hl:lS l)(s:RG)(hm:de l s)(hd:s.done<=1152921504606846976)(kept shift body:Int)(k:Nat)(hk:-1152921504606846976<=kept/\kept<=1152921504606846976)(hsh:0<=shift/\shift<=1152921504606846976)(SV:s.atom<=k)(Ti:k<l.length):
 aV prog 63 [bK l,aO s,vI kept,vI shift,vI body,vI k] (.bool (decide (eL l s kept shift k+l[k].h<=body))):=λU=>by
 refine e63.q ?_;have hs:=aa.refl U;have hc:=Gb l hl s hm hd kept shift k hk hsh SV Ti;have YN:=λU=>fg (U:=U) Ti;have hy2:=hl.WZ _ (Sx Ti);have hpr:-4611686018427387904<=eL l s kept shift k/\eL l s kept shift k<=6917529027641081856:=by
  have Zd:=hm;obtain⟨⟨h0,h1⟩,h2,h3⟩:=hm;obtain⟨n,hn'⟩:∃n:Nat,s.atom=n:=⟨s.atom.toNat,by omega⟩
  have hn:n<l.length:=by omega
  have hy:=hl.WZ _ (Sx hn);rw[eL,aK ⟨Zd,SV,by omega⟩,gF,aK ⟨⟨h0,h1⟩,by omega,by omega⟩,hn',bp hn,bp Ti];omega
 obtain⟨a,d,fr⟩:=s;generalize eL l ⟨a,d,fr⟩ kept shift k=p at*;generalize l[k]=x2 at*;have r1:R0 .i64 (p+x2.h):=ao;refine mS 13 ?_;simp only[go_sem,seval,c63,aO];refine aG hs λi7 Z7 s7 a7 f7 z7 hs=>?_;simp only[go_sem,seval,a7];refine pJ rfl hc ?_;apply sG;simp only[go_sem,seval,a7,YN,bz,r1];exact az.pure hs rfl
end Go.Vc
