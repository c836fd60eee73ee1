import Derived.Test.YtompjkkmfibkiaaGreatW8
set_option linter.all false
set_option maxHeartbeats 8000000
set_option maxRecDepth 100000
open Go.Proofs.Tryz
namespace Go.Vc
open Go.Proofs
def nJ(x:Yr)(first last:Bool):Prop:=
 (first=true->x.cls=0)/\(first=false->last=true->x.cls=3)/\(first=false->last=false->x.cls=1\/x.cls=2)/\
 (x.forced=0\/(2<=x.forced/\x.forced<=4/\x.cls≠3/\x.cls≠2))/\(x.W6=0\/((x.cls=1\/x.cls=2)/\x.forced=0/\0<x.W6/\x.W6<8))
instance (x:Yr) (a b:Bool):Decidable (nJ x a b):=by unfold nJ;infer_instance
def Kd(x:Yr)(first last:Bool):aE prog 205 [bX x,.bool first,.bool last] (.bool (decide (nJ x first last))):=λU=>by
 refine T1.q ?_;have hs:=aa.refl U;obtain⟨c,f,r⟩:=x;refine mS 9 ?_;simp only[go_sem,seval,PK,bX];refine al hs λi3 Z3 s3 a3 f3 _ hs=>?_;unfold nJ;simp only;have C:c=0\/c=1\/c=2\/c=3\/((c=0)=False/\(c=1)=False/\(c=2)=False/\(c=3)=False/\(c≠0)=True/\(c≠3)=True):=by
  by_cases h0:c=0
  .exact .inl h0
  by_cases h1:c=1
  .exact .inr (.inl h1)
  by_cases h2:c=2
  .exact .inr (.inr (.inl h2))
  by_cases h3:c=3
  .exact .inr (.inr (.inr (.inl h3)))
  .exact .inr (.inr (.inr (.inr ⟨H' h0,H' h1,H' h2,H' h3,L' h0,L' h3⟩)))
 have F:f=0\/((f=0)=False/\((f<2)=True/\(2<=f/\f<=4)=False\/(f<2)=False/\((f>4)=True/\(2<=f/\f<=4)=False\/(f>4)=False/\(2<=f)=True/\(f<=4)=True))):=by
  by_cases h0:f=0
  .exact .inl h0
  refine .inr ⟨H' h0,?_⟩;by_cases h1:f<2
  .exact .inl ⟨L' h1,H'⟩
  refine .inr ⟨H' h1,?_⟩;by_cases h2:f>4
  .exact .inl ⟨L' h2,H'⟩
  .exact .inr ⟨H' h2,L',L'⟩
 have R:r=0\/((r=0)=False/\((r>0)=False/\(0<r)=False\/(r>0)=True/\(0<r)=True/\((r<8)=True\/(r<8)=False))):=by
  by_cases h0:r=0
  .exact .inl h0
  refine .inr ⟨H' h0,?_⟩;by_cases h1:r>0
  .refine .inr ⟨L' h1,L' h1,?_⟩;by_cases h2:r<8
   .exact .inl (L' h2)
   .exact .inr (H' h2)
  .exact .inl ⟨H' h1,H'⟩
 rcases C with rfl|rfl|rfl|rfl|⟨c0,c1,c2,c3,c4,c5⟩
 .rcases F with rfl|⟨f0,⟨f1,f2⟩|⟨f1,⟨f2,f3⟩|⟨f2,f3,f4⟩⟩⟩
  .cases first
   .cases last
    .simp only[go_sem,seval,a3];exact ai.pure hs (by simp)
    .simp only[go_sem,seval,a3];exact ai.pure hs (by simp)
   .cases last
    .rcases R with rfl|⟨r0,⟨r1,r2⟩|⟨r1,r2,r3|r3⟩⟩
     .simp only[go_sem,seval,a3];exact ai.pure hs (by simp)
     .simp only[go_sem,seval,a3,r0,r1];exact ai.pure hs (by simp)
     .simp only[go_sem,seval,a3,r0,r1,r3];exact ai.pure hs (by simp)
     .simp only[go_sem,seval,a3,r0,r1,r3];exact ai.pure hs (by simp)
    .rcases R with rfl|⟨r0,⟨r1,r2⟩|⟨r1,r2,r3|r3⟩⟩
     .simp only[go_sem,seval,a3];exact ai.pure hs (by simp)
     .simp only[go_sem,seval,a3,r0,r1];exact ai.pure hs (by simp)
     .simp only[go_sem,seval,a3,r0,r1,r3];exact ai.pure hs (by simp)
     .simp only[go_sem,seval,a3,r0,r1,r3];exact ai.pure hs (by simp)
  .cases first
   .cases last
    .simp only[go_sem,seval,a3,f0];exact ai.pure hs (by simp[f2])
    .simp only[go_sem,seval,a3,f0];exact ai.pure hs (by simp[f2])
   .cases last
    .simp only[go_sem,seval,a3,f0,f1];exact ai.pure hs (by simp[f2])
    .simp only[go_sem,seval,a3,f0,f1];exact ai.pure hs (by simp[f2])
  .cases first
   .cases last
    .simp only[go_sem,seval,a3,f0];exact ai.pure hs (by simp[f3])
    .simp only[go_sem,seval,a3,f0];exact ai.pure hs (by simp[f3])
   .cases last
    .simp only[go_sem,seval,a3,f0,f1,f2];exact ai.pure hs (by simp[f3])
    .simp only[go_sem,seval,a3,f0,f1,f2];exact ai.pure hs (by simp[f3])
  .cases first
   .cases last
    .simp only[go_sem,seval,a3,f0];exact ai.pure hs (by simp[f3,f4])
    .simp only[go_sem,seval,a3,f0];exact ai.pure hs (by simp[f3,f4])
   .cases last
    .rcases R with rfl|⟨r0,⟨r1,r2⟩|⟨r1,r2,r3|r3⟩⟩
     .simp only[go_sem,seval,a3,f0,f1,f2];exact ai.pure hs (by simp[f3,f4])
     .simp only[go_sem,seval,a3,f0,f1,f2,r0,r1];exact ai.pure hs (by simp[f3,f4])
     .simp only[go_sem,seval,a3,f0,f1,f2,r0,r1,r3];exact ai.pure hs (by simp[f3,f4])
     .simp only[go_sem,seval,a3,f0,f1,f2,r0,r1,r3];exact ai.pure hs (by simp[f3,f4])
    .rcases R with rfl|⟨r0,⟨r1,r2⟩|⟨r1,r2,r3|r3⟩⟩
     .simp only[go_sem,seval,a3,f0,f1,f2];exact ai.pure hs (by simp[f3,f4])
     .simp only[go_sem,seval,a3,f0,f1,f2,r0,r1];exact ai.pure hs (by simp[f3,f4])
     .simp only[go_sem,seval,a3,f0,f1,f2,r0,r1,r3];exact ai.pure hs (by simp[f3,f4])
     .simp only[go_sem,seval,a3,f0,f1,f2,r0,r1,r3];exact ai.pure hs (by simp[f3,f4])
 .rcases F with rfl|⟨f0,⟨f1,f2⟩|⟨f1,⟨f2,f3⟩|⟨f2,f3,f4⟩⟩⟩
  .cases first
   .cases last
    .rcases R with rfl|⟨r0,⟨r1,r2⟩|⟨r1,r2,r3|r3⟩⟩
     .simp only[go_sem,seval,a3];exact ai.pure hs (by simp)
     .simp only[go_sem,seval,a3,r0,r1];exact ai.pure hs (by simp)
     .simp only[go_sem,seval,a3,r0,r1,r3];exact ai.pure hs (by simp)
     .simp only[go_sem,seval,a3,r0,r1,r3];exact ai.pure hs (by simp)
    .simp only[go_sem,seval,a3];exact ai.pure hs (by simp)
   .cases last
    .simp only[go_sem,seval,a3];exact ai.pure hs (by simp)
    .simp only[go_sem,seval,a3];exact ai.pure hs (by simp)
  .cases first
   .cases last
    .simp only[go_sem,seval,a3,f0,f1];exact ai.pure hs (by simp[f2])
    .simp only[go_sem,seval,a3,f0];exact ai.pure hs (by simp[f2])
   .cases last
    .simp only[go_sem,seval,a3,f0];exact ai.pure hs (by simp[f2])
    .simp only[go_sem,seval,a3,f0];exact ai.pure hs (by simp[f2])
  .cases first
   .cases last
    .simp only[go_sem,seval,a3,f0,f1,f2];exact ai.pure hs (by simp[f3])
    .simp only[go_sem,seval,a3,f0];exact ai.pure hs (by simp[f3])
   .cases last
    .simp only[go_sem,seval,a3,f0];exact ai.pure hs (by simp[f3])
    .simp only[go_sem,seval,a3,f0];exact ai.pure hs (by simp[f3])
  .cases first
   .cases last
    .rcases R with rfl|⟨r0,⟨r1,r2⟩|⟨r1,r2,r3|r3⟩⟩
     .simp only[go_sem,seval,a3,f0,f1,f2];exact ai.pure hs (by simp[f3,f4])
     .simp only[go_sem,seval,a3,f0,f1,f2,r0,r1];exact ai.pure hs (by simp[f3,f4])
     .simp only[go_sem,seval,a3,f0,f1,f2,r0,r1,r3];exact ai.pure hs (by simp[f3,f4])
     .simp only[go_sem,seval,a3,f0,f1,f2,r0,r1,r3];exact ai.pure hs (by simp[f3,f4])
    .simp only[go_sem,seval,a3,f0];exact ai.pure hs (by simp[f3,f4])
   .cases last
    .simp only[go_sem,seval,a3,f0];exact ai.pure hs (by simp[f3,f4])
    .simp only[go_sem,seval,a3,f0];exact ai.pure hs (by simp[f3,f4])
 .rcases F with rfl|⟨f0,⟨f1,f2⟩|⟨f1,⟨f2,f3⟩|⟨f2,f3,f4⟩⟩⟩
  .cases first
   .cases last
    .rcases R with rfl|⟨r0,⟨r1,r2⟩|⟨r1,r2,r3|r3⟩⟩
     .simp only[go_sem,seval,a3];exact ai.pure hs (by simp)
     .simp only[go_sem,seval,a3,r0,r1];exact ai.pure hs (by simp)
     .simp only[go_sem,seval,a3,r0,r1,r3];exact ai.pure hs (by simp)
     .simp only[go_sem,seval,a3,r0,r1,r3];exact ai.pure hs (by simp)
    .simp only[go_sem,seval,a3];exact ai.pure hs (by simp)
   .cases last
    .simp only[go_sem,seval,a3];exact ai.pure hs (by simp)
    .simp only[go_sem,seval,a3];exact ai.pure hs (by simp)
  .cases first
   .cases last
    .simp only[go_sem,seval,a3,f0,f1];exact ai.pure hs (by simp)
    .simp only[go_sem,seval,a3,f0];exact ai.pure hs (by simp)
   .cases last
    .simp only[go_sem,seval,a3,f0];exact ai.pure hs (by simp)
    .simp only[go_sem,seval,a3,f0];exact ai.pure hs (by simp)
  .cases first
   .cases last
    .simp only[go_sem,seval,a3,f0,f1,f2];exact ai.pure hs (by simp)
    .simp only[go_sem,seval,a3,f0];exact ai.pure hs (by simp)
   .cases last
    .simp only[go_sem,seval,a3,f0];exact ai.pure hs (by simp)
    .simp only[go_sem,seval,a3,f0];exact ai.pure hs (by simp)
  .cases first
   .cases last
    .simp only[go_sem,seval,a3,f0,f1,f2];exact ai.pure hs (by simp[f3,f4])
    .simp only[go_sem,seval,a3,f0];exact ai.pure hs (by simp[f3,f4])
   .cases last
    .simp only[go_sem,seval,a3,f0];exact ai.pure hs (by simp[f3,f4])
    .simp only[go_sem,seval,a3,f0];exact ai.pure hs (by simp[f3,f4])
 .rcases F with rfl|⟨f0,⟨f1,f2⟩|⟨f1,⟨f2,f3⟩|⟨f2,f3,f4⟩⟩⟩
  .cases first
   .cases last
    .simp only[go_sem,seval,a3];exact ai.pure hs (by simp)
    .rcases R with rfl|⟨r0,⟨r1,r2⟩|⟨r1,r2,r3|r3⟩⟩
     .simp only[go_sem,seval,a3];exact ai.pure hs (by simp)
     .simp only[go_sem,seval,a3,r0,r1];exact ai.pure hs (by simp)
     .simp only[go_sem,seval,a3,r0,r1,r3];exact ai.pure hs (by simp)
     .simp only[go_sem,seval,a3,r0,r1,r3];exact ai.pure hs (by simp)
   .cases last
    .simp only[go_sem,seval,a3];exact ai.pure hs (by simp)
    .simp only[go_sem,seval,a3];exact ai.pure hs (by simp)
  .cases first
   .cases last
    .simp only[go_sem,seval,a3,f0];exact ai.pure hs (by simp)
    .simp only[go_sem,seval,a3,f0,f1];exact ai.pure hs (by simp)
   .cases last
    .simp only[go_sem,seval,a3,f0];exact ai.pure hs (by simp)
    .simp only[go_sem,seval,a3,f0];exact ai.pure hs (by simp)
  .cases first
   .cases last
    .simp only[go_sem,seval,a3,f0];exact ai.pure hs (by simp)
    .simp only[go_sem,seval,a3,f0,f1,f2];exact ai.pure hs (by simp)
   .cases last
    .simp only[go_sem,seval,a3,f0];exact ai.pure hs (by simp)
    .simp only[go_sem,seval,a3,f0];exact ai.pure hs (by simp)
  .cases first
   .cases last
    .simp only[go_sem,seval,a3,f0];exact ai.pure hs (by simp[f3,f4])
    .simp only[go_sem,seval,a3,f0,f1,f2];exact ai.pure hs (by simp[f3,f4])
   .cases last
    .simp only[go_sem,seval,a3,f0];exact ai.pure hs (by simp[f3,f4])
    .simp only[go_sem,seval,a3,f0];exact ai.pure hs (by simp[f3,f4])
 .rcases F with rfl|⟨f0,⟨f1,f2⟩|⟨f1,⟨f2,f3⟩|⟨f2,f3,f4⟩⟩⟩
  .cases first
   .cases last
    .simp only[go_sem,seval,a3,c0,c1,c2,c3,c5];exact ai.pure hs (by simp[c2])
    .simp only[go_sem,seval,a3,c0,c1,c2,c3,c5];exact ai.pure hs (by simp[c2])
   .cases last
    .simp only[go_sem,seval,a3,c0,c1,c2,c3,c4,c5];exact ai.pure hs (by simp[c2])
    .simp only[go_sem,seval,a3,c0,c1,c2,c3,c4,c5];exact ai.pure hs (by simp[c2])
  .cases first
   .cases last
    .simp only[go_sem,seval,a3,c0,c1,c2,c3,c5,f0];exact ai.pure hs (by simp[c2,f2])
    .simp only[go_sem,seval,a3,c0,c1,c2,c3,c5,f0];exact ai.pure hs (by simp[c2,f2])
   .cases last
    .simp only[go_sem,seval,a3,c0,c1,c2,c3,c4,c5,f0];exact ai.pure hs (by simp[c2,f2])
    .simp only[go_sem,seval,a3,c0,c1,c2,c3,c4,c5,f0];exact ai.pure hs (by simp[c2,f2])
  .cases first
   .cases last
    .simp only[go_sem,seval,a3,c0,c1,c2,c3,c5,f0];exact ai.pure hs (by simp[c2,f3])
    .simp only[go_sem,seval,a3,c0,c1,c2,c3,c5,f0];exact ai.pure hs (by simp[c2,f3])
   .cases last
    .simp only[go_sem,seval,a3,c0,c1,c2,c3,c4,c5,f0];exact ai.pure hs (by simp[c2,f3])
    .simp only[go_sem,seval,a3,c0,c1,c2,c3,c4,c5,f0];exact ai.pure hs (by simp[c2,f3])
  .cases first
   .cases last
    .simp only[go_sem,seval,a3,c0,c1,c2,c3,c5,f0];exact ai.pure hs (by simp[c2,f3,f4])
    .simp only[go_sem,seval,a3,c0,c1,c2,c3,c5,f0];exact ai.pure hs (by simp[c2,f3,f4])
   .cases last
    .simp only[go_sem,seval,a3,c0,c1,c2,c3,c4,c5,f0];exact ai.pure hs (by simp[c2,f3,f4])
    .simp only[go_sem,seval,a3,c0,c1,c2,c3,c4,c5,f0];exact ai.pure hs (by simp[c2,f3,f4])
open Go.Proofs
def XB(b:List Yr)(i:Nat):Yr:=b.getD i ⟨0,0,0⟩
def gH(b:List Yr)(i:Nat):Bool:=decide (nJ (XB b i) (decide ((i:Int)=0)) (decide ((i:Int)=(b.length:Int)-1)))
def nX(b:List Yr):Bool:=(List.range b.length).all (gH b)&&decide ((b.length:Int)>0)
def FQ{b:List Yr}{j:Nat}(h:(List.range j).all (gH b)=true)(hr:gH b j=true):(List.range (j+1)).all (gH b)=true:=by
 rw[List.range_succ,M9,h];simp[hr]
def NF(b:List Yr)(hb:b.length<=1000000):aE prog 152 [aY b] (.bool (nX b)):=λU=>by
 refine Uv.q ?_;have hlb:=wP b;refine mS 5 ?_;simp only[go_sem,seval,Rh,hlb];refine ag.fP (λst=>aa U st.U/\st.s 0=aY b/\(List.range b.length).all (gH b)=true)
  (λm st=>∃j:Nat,j<=b.length/\m=b.length-j/\aa U st.U/\(List.range j).all (gH b)=true/\st.s 0=aY b/\st.s 5=aY b/\st.s 6=vI b.length/\st.s 7=vI j) b.length ?_ ?_ ?_
 .exact⟨0,by omega,rfl,aa.refl _,rfl,rfl,rfl,rfl,rfl⟩
 .rintro m ⟨S,J⟩ ⟨j,hj,rfl,hs,XR,t0,t5,t6,t7⟩;simp only at hs t0 t5 t6 t7;refine ag.mix 5 ?_;by_cases B':j<b.length
  .have q:=qT B';have r1:=rI j;have r2:WI .i64 ((b.length:Int)-1):=ae;have Wz:=λU=>nN (U:=U) B';have hg:XB b j=b[j]:=by simp[XB,B']
   have hra:gH b j=decide (nJ b[j] (decide ((j:Int)=0)) (decide ((j:Int)=(b.length:Int)-1))):=by rw[gH,hg]
   apply sR;simp only[go_sem,seval,t5,t6,t7,q,Wz,bX];refine aj λi4 Z4 s4 a4 f4=>?_;simp only[go_sem,seval,a4,t0,hlb,r2];generalize hq4:C' Z4 i4 _=Y4;have s4':aa J Y4:=by rw[<-hq4];exact s4.ao f4
   clear hq4;refine pR rfl (Kd b[j] (decide ((j:Int)=0)) (decide ((j:Int)=(b.length:Int)-1)) _) ?_;rw[<-hra];cases hv:gH b j
   .apply sR;simp only[go_sem,seval];have hm:nX b=false:=by
     rw[nX];have:(List.range b.length).all (gH b)=false:=by
      rw[List.all_eq_false];exact⟨j,List.mem_range.2 B',by simp[hv]⟩
     rw[this];rfl
    exact ai.pure (hs.trans s4') (by rw[hm])
   .apply sR;simp only[go_sem,seval,t0,t5,t6,t7,r1];refine⟨_,?_,j+1,by omega,rfl,hs.trans s4',FQ XR hv,by simp⟩;omega
  .have q:=qF B';have YK:j=b.length:=by omega
   subst YK;apply sR;simp only[go_sem,seval,t0,t6,t7,q];exact⟨hs,XR⟩
 .rintro⟨S,J⟩ ⟨hs,t0,XR⟩;simp only at hs t0 XR;refine mS 5 ?_;simp only[go_sem,seval,t0,hlb];exact ai.pure hs (by rw[nX,XR];rfl)
open Go.Proofs
def j2(b:List Yr)(i:Nat):V:=.agg [vI (XB b i).cls,vI (XB b i).forced,vI (XB b i).W6,vI i]
def mj(b:List Yr)(bS to:Int):Nat:=(min to ((b.length:Int)-1)+1-max bS 0).toNat
def btw(b:List Yr)(bS to:Int):List Nat:=List.range' (max bS 0).toNat (mj b bS to)
def PX(U:ad)(b:List Yr):bO U false 1 (.rp (aY b))=some (aY b):=rfl
def range_split:∀(j s n:Nat),j<n->List.range' s n=List.range' s j++(s+j)::List.range' (s+j+1) (n-j-1)
 |0,s,n+1,_=>by simp[List.range']
 |j+1,s,n+1,h=>by
  have:=range_split j (s+1) n (by omega);rw[List.range',this,List.range'];have e1:s+1+j=s+(j+1):=by omega
  have e2:n-j-1=n+1-(j+1)-1:=by omega
  rw[e1,e2];rfl
def tJ(s j:Nat):List.range' s (j+1)=List.range' s j++[s+j]:=by
 rw[range_split j s (j+1) (by omega),show j+1-j-1=0 by omega];rfl
def Hc(b:List Yr)(hb:b.length<=1000000)(bS to:Int):Iter prog 253 [.rp (vI bS),.rp (vI to),.rp (aY b)] ((btw b bS to).map λi=>[j2 b i]):=by
 refine⟨Ph.c,λXk τ Jx Z0 hy hJ=>?_⟩;refine(Ph.q ?_).2;have hlb:=wP b;refine mS 6 ?_;simp only[go_sem,seval,Qo,cg];obtain⟨s,hsv⟩:∃s:Nat,s=(max bS 0).toNat:=⟨_,rfl⟩
 have Xn:max bS 0=(s:Int):=by omega
 obtain⟨n,hnv⟩:∃n:Nat,n=mj b bS to:=⟨_,rfl⟩
 have hn1:∀j:Nat,(((s+j:Nat):Int)<=min to ((b.length:Int)-1))↔j<n:=λj=>by rw[hnv,mj,Xn];omega
 rw[btw,<-hsv,<-hnv]at hy|-;rw[Xn];refine ag.loop (λm st=>∃(j:Nat) (ZJ:ad),j<=n/\m=n-j/\τ ((List.range' s j).map λi=>[j2 b i]) ZJ/\aa ZJ st.U/\st.s 0=.yl Xk/\st.s 1=.rp (vI bS)/\st.s 2=.rp (vI to)/\st.s 3=.rp (aY b)/\st.s 5=vI (s+j:Nat)) n ?_ ?_
 .exact⟨0,Z0,by omega,rfl,by simpa using hJ,aa.refl _,rfl,rfl,rfl,rfl,rfl⟩
 .rintro m ⟨S,J⟩ ⟨j,ZJ,hj,rfl,YM,E',t0,t1,t2,t3,t5⟩;simp only at E' t0 t1 t2 t3 t5;refine ag.mix 6 ?_;have r2:WI .i64 ((b.length:Int)-1):=ae;by_cases B':j<n
  .have hle:=(hn1 j).2 B';have XW:s+j<b.length:=by omega
   have q:(((s+j:Nat):Int)<=min to ((b.length:Int)-1))=True:=L' hle;have r1:WI .i64 (((s+j:Nat):Int)+1):=ae;have Wz:=λU=>nN (U:=U) XW;have hg:XB b (s+j)=b[s+j]:=by simp[XB,XW]
   have hfd:j2 b (s+j)=.agg [vI b[s+j].cls,vI b[s+j].forced,vI b[s+j].W6,vI (s+j:Nat)]:=by rw[j2,hg]
   have e:((List.range' s n).map λi=>[j2 b i])=((List.range' s j).map λi=>[j2 b i])++[j2 b (s+j)]::((List.range' (s+j+1) (n-j-1)).map λi=>[j2 b i]):=by
    rw[range_split j s n B'];simp
   have W4:((List.range' s (j+1)).map λi=>[j2 b i])=((List.range' s j).map λi=>[j2 b i])++[[j2 b (s+j)]]:=by rw[tJ];simp
   have q5:s+(j+1)=s+j+1:=by omega
   generalize s+j=sj at*;apply sR;simp only[go_sem,seval,t0,t2,t3,t5,PX,hlb,r2,dN,q,Wz,bX];rw[<-hfd];refine ag.ny (Post:=λb' Z2=>∃Xj,bb ZJ J Xj Z2/\((b'=true/\τ (((List.range' s j).map λi=>[j2 b i])++[[j2 b sj]]) Xj)\/(b'=false/\Jx (((List.range' s j).map λi=>[j2 b i])++[[j2 b sj]]) Xj))) rfl rfl rfl (hy _ [j2 b sj] _ ZJ J e YM E') ?_;rintro b' Z2 ⟨Xj,Ys,XT⟩;rcases XT with⟨rfl,XT⟩|⟨rfl,XT⟩
   .apply sR;simp only[go_sem,seval,t0,t1,t2,t3,t5,r1];refine⟨_,?_,j+1,Xj,by omega,rfl,by rw[W4];exact XT,Ys.1,by simp[q5]⟩;omega
   .apply sR;simp only[go_sem,seval];exact⟨_,Xj,Ys.1,Wk.refl Ys.1 _,.inr ⟨_,⟨_,by rw[e,lh];rfl⟩,XT⟩⟩
  .have q:(((s+j:Nat):Int)<=min to ((b.length:Int)-1))=False:=H' (λh=>B' ((hn1 j).1 h));have YK:j=n:=by omega
   subst YK;generalize s+j=sj at*;apply sR;simp only[go_sem,seval,t2,t3,t5,PX,hlb,r2,dN,q];exact⟨_,ZJ,E',Wk.refl E' _,.inl YM⟩
open Go.Proofs
structure Fd where
 (b:Yr)(i:Int)
def gS(x:Fd):V:=.agg [vI x.b.cls,vI x.b.forced,vI x.b.W6,vI x.i]
def fB(ah:Fd->Fd->Bool->Bool)(p:Fd×Bool)(x:Fd):Fd×Bool:=if ah x p.1 p.2 then(x,true)else p
def eT(ah:Fd->Fd->Bool->Bool)(xs:List Fd)(d:Fd):Fd×Bool:=xs.foldl (fB ah) (d,false)
def pK(ah:Fd->Fd->Bool->Bool)(xs:List Fd)(x:Fd)(d:Fd):eT ah (xs++[x]) d=fB ah (eT ah xs d) x:=by simp[eT,kN]
def Bj{g f:FuncId}{caps:List V}{xs:List Fd}(hit:Iter prog g caps (xs.map λx=>[gS x]))(d:Fd)(ah:Fd->Fd->Bool->Bool)
 (hf:∀x y s,aE prog f [gS x,gS y,.bool s] (.bool (ah x y s))):
 aE prog 206 [.fn g caps,gS d,.fn f []] (gS (eT ah xs d).1):=λU=>by
 refine Wp.q ?_;have hs:=aa.refl U;have hfc:(V.fn f []).cells=[.fn f []]:=rfl;have hfs:(V.fn f []).stays=true:=rfl;refine mS 10 ?_;simp only[go_sem,seval,PD,gS];refine al hs λi4 Z4 s4 a4 f4 _ hs=>?_;simp only[go_sem,seval,hfc,hfs];refine al hs λi5 Z5 s5 a5 f5 _ hs=>?_;replace a4:=s5 _ _ a4;simp only[go_sem,seval];refine al hs λi6 Z6 s6 a6 f6 z6 hs=>?_;replace a4:=s6 _ _ a4;replace a5:=s6 _ _ a5;simp only[go_sem,seval,a4];refine aj λi7 Z7 s7 a7 f7=>?_;simp only[go_sem,seval];refine aj λi8 Z8 s8 a8 f8=>?_;have n78:i7≠i8:=aQ a7 f8;have b7:=s8 _ _ a7;simp only[go_sem,seval,b7,a8,ab n78.symm];generalize hS:mix 10 _ _=S;have S5:S 5=.ptr i5 0 0:=by rw[<-hS];rfl
 have S6:S 6=.ptr i6 0 0:=by rw[<-hS];rfl
 have S7:S 7=.ptr i7 0 0:=by rw[<-hS];rfl
 have S8:S 8=.ptr i8 0 0:=by rw[<-hS];rfl
 have S11:S 11=.fn g caps:=by rw[<-hS];rfl
 clear hS;refine ag.eN (g:=.t 11) (caps:=caps) S11 hit (λy hy=>?_) [] (λpre ZJ=>ZJ i7=some ⟨278,4,[gS (eT ah (xs.take pre.length) d).1]⟩/\ZJ i8=some ⟨4,1,[.bool (eT ah (xs.take pre.length) d).2]⟩/\aa Z6 ZJ)
  (λ_ _ _=>False) ?_ ?_ ?_ ?_ ?_
 .obtain⟨t,_,rfl⟩:=gb.1 hy;rfl
 .refine⟨(ab n78).trans af,af,?_⟩;have h7:=(s7.trans s8).ao (id:=i7) (o:=⟨278,4,[.agg [vI d.b.cls,vI d.b.forced,vI d.b.W6,vI d.i]]⟩) f7;exact h7.ao (s7.none f8)
 .rintro pre y post ZJ ZB ZL ⟨J7,J8,Js⟩ E';obtain⟨t,hti,rfl⟩:=qY (f:=gS) ZL;have W4:eT ah (xs.take (pre.length+1)) d=fB ah (eT ah (xs.take pre.length) d) t:=by rw[Hm,hti];exact pK _ _ _ _
  have hlen:(pre++[[gS t]]).length=pre.length+1:=by simp
  rw[hlen,W4];generalize eT ah (xs.take pre.length) d=p at*;obtain⟨p1,p2⟩:=p;simp only at J7 J8;have c7:=E' _ _ J7;have c8:=E' _ _ J8;have c5:=E' _ _ (Js _ _ a5);generalize Zg:nh S [12] [gS t]=S0;have T5:S0 5=.ptr i5 0 0:=by rw[<-Zg];exact S5
  have T7:S0 7=.ptr i7 0 0:=by rw[<-Zg];exact S7
  have T8:S0 8=.ptr i8 0 0:=by rw[<-Zg];exact S8
  have T12:S0 12=gS t:=by rw[<-Zg];rfl
  clear Zg;rw[gS]at c7 T12;refine mS 10 ?_;simp only[go_sem,seval];rw[bh];intro i9 f9;have m7:i7≠i9:=aQ c7 f9;have m8:i8≠i9:=aQ c8 f9;have m5:i5≠i9:=aQ c5 f9;simp only[go_sem,seval,T12];have hBs:=(bb.refl E').rY (o:=⟨278,4,[.agg [vI t.b.cls,vI t.b.forced,vI t.b.W6,vI t.i]]⟩) f9;have d7:=(ab (o:=⟨278,4,[.agg [vI t.b.cls,vI t.b.forced,vI t.b.W6,vI t.i]]⟩) m7).trans c7;have d8:=(ab (o:=⟨278,4,[.agg [vI t.b.cls,vI t.b.forced,vI t.b.W6,vI t.i]]⟩) m8).trans c8;have d5:=(ab (o:=⟨278,4,[.agg [vI t.b.cls,vI t.b.forced,vI t.b.W6,vI t.i]]⟩) m5).trans c5;have d9:C' ZB i9 ⟨278,4,[.agg [vI t.b.cls,vI t.b.forced,vI t.b.W6,vI t.i]]⟩ i9=_:=af;generalize C' ZB i9 ⟨278,4,[.agg [vI t.b.cls,vI t.b.forced,vI t.b.W6,vI t.i]]⟩=Y9 at*;apply sR;simp only[go_sem,seval,T5,T7,T8,d5,d7,d8,d9];refine pR rfl (hf t p1 p2 _) ?_;cases hv:ah t p1 p2
  .apply sR;simp only[go_sem,seval];refine⟨_,hBs,?_,?_,Js⟩
   .rw[fB,hv];exact J7
   .rw[fB,hv];exact J8
  .apply sR;simp only[go_sem,seval,T7,T8,d7,d8,d9,ab n78.symm];refine⟨_,(hBs.set (id:=i7) J7).set (id:=i8) (by rw[ab n78.symm];exact J8),?_,?_,?_⟩
   .rw[fB,hv];exact(ab n78).trans af
   .rw[fB,hv];exact af
   .exact(Js.ao f7).ao (s7.none f8)
 .rintro Z' ⟨J7,J8,Js⟩;rw[cJ,dR]at J7 J8;rw[gS]at J7;have e6:=Js _ _ a6;refine mS 10 ?_;simp only[go_sem,seval,S6,S7,J7,e6];exact ai.pure ((hs.trans Js).ao z6) rfl
 .intro id h;cases h
 .rintro pre Z' _ ⟨⟩
open Go.Proofs
def yu(b:List Yr)(bS to:Int):aE prog 207 [aY b,vI bS,vI to] (.fn 253 [.rp (vI bS),.rp (vI to),.rp (aY b)]):=λU=>by
 refine Vb.q ?_;refine ag.mix 7 ?_;have q1:=j8 b;have q2:=j6 b;generalize aY b=x at*;apply sR;simp only[go_sem,seval,Q3,q1,q2];refine aj λid1 Z1 s1 a1 f1=>?_;simp only[go_sem,seval];refine aj λid2 Z2 s2 a2 f2=>?_;simp only[go_sem,seval];refine aj λid3 Z3 s3 a3 f3=>?_;simp only[go_sem,seval];have hs:=(s1.trans s2).trans s3;exact⟨_,U,hs,Wk.fn (vs':=[.rp (vI bS),.rp (vI to),.rp x]) ⟨Wk.ptr hs (s3 _ _ a2) (s1.none f2),Wk.ptr hs a3 ((s1.trans s2).none f3),Wk.ptr hs (s3 _ _ (s2 _ _ a1)) f1,trivial⟩,rfl,rfl⟩
def jc(b:List Yr)(i:Nat):Fd:=⟨XB b i,i⟩
def uf:Fd:=⟨⟨0,0,0⟩,-1⟩
def fF(x _y:Fd)(s:Bool):Bool:=!s&&decide (x.b.forced≠0)
def im(x y:Fd)(s:Bool):Bool:=!s||decide (x.b.W6<=y.b.W6)
def HX(x y:Fd)(s:Bool):aE prog 208 [gS x,gS y,.bool s] (.bool (fF x y s)):=λU=>by
 refine Uk.q ?_;have hs:=aa.refl U;obtain⟨⟨c,f,r⟩,i⟩:=x;obtain⟨⟨c',f',r'⟩,i'⟩:=y;refine mS 7 ?_;simp only[go_sem,seval,ON,gS];refine al hs λi3 Z3 s3 a3 f3 _ hs=>?_;simp only[go_sem,seval];refine al hs λi4 Z4 s4 a4 f4 _ hs=>?_;replace a3:=s4 _ _ a3;cases s
 .by_cases h:f≠0
  .have q:(f≠0)=True:=L' h;simp only[go_sem,seval,a3,q];exact ai.pure hs (by simp[fF,h])
  .have q:(f≠0)=False:=H' h;simp only[go_sem,seval,a3,q];exact ai.pure hs (by simp[fF,h])
 .simp only[go_sem,seval];exact ai.pure hs (by simp[fF])
def LU(x y:Fd)(s:Bool):aE prog 209 [gS x,gS y,.bool s] (.bool (im x y s)):=λU=>by
 refine VC.q ?_;have hs:=aa.refl U;obtain⟨⟨c,f,r⟩,i⟩:=x;obtain⟨⟨c',f',r'⟩,i'⟩:=y;refine mS 7 ?_;simp only[go_sem,seval,QC,gS];refine al hs λi3 Z3 s3 a3 f3 _ hs=>?_;simp only[go_sem,seval];refine al hs λi4 Z4 s4 a4 f4 _ hs=>?_;replace a3:=s4 _ _ a3;cases s
 .simp only[go_sem,seval];exact ai.pure hs (by simp[im])
 .by_cases h:r<=r'
  .have q:(r<=r')=True:=L' h;simp only[go_sem,seval,a3,a4,q];exact ai.pure hs (by simp[im,h])
  .have q:(r<=r')=False:=H' h;simp only[go_sem,seval,a3,a4,q];exact ai.pure hs (by simp[im,h])
def ju(b:List Yr)(bS to:Int):Int:=(eT fF ((btw b bS to).map (jc b)) uf).1.i
def A7(b:List Yr)(bS to:Int):Int:=(eT im ((btw b bS to).map (jc b)) uf).1.i
def yj(b:List Yr)(hb:b.length<=1000000)(bS to:Int):Iter prog 253 [.rp (vI bS),.rp (vI to),.rp (aY b)] (((btw b bS to).map (jc b)).map λx=>[gS x]):=by
 have h:=Hc b hb bS to;rw[List.map_map];exact h
def KC(b:List Yr)(hb:b.length<=1000000)(bS to:Int):aE prog 153 [aY b,vI bS,vI to] (vI (ju b bS to)):=λU=>by
 refine V3.q ?_;have hs:=aa.refl U;refine mS 8 ?_;simp only[go_sem,seval,QR];refine pS rfl (yu b bS to _) ?_;simp only[go_sem,seval];refine pS rfl (Bj (yj b hb bS to) uf fF HX _) ?_;simp only[go_sem,seval,gS];refine al hs λi7 Z7 s7 a7 f7 z7 hs=>?_;simp only[go_sem,seval,a7];exact ai.pure (hs.ao z7) rfl
def Ot(b:List Yr)(hb:b.length<=1000000)(bS to:Int):aE prog 154 [aY b,vI bS,vI to] (vI (A7 b bS to)):=λU=>by
 refine Vi.q ?_;have hs:=aa.refl U;refine mS 8 ?_;simp only[go_sem,seval,Pg];refine pS rfl (yu b bS to _) ?_;simp only[go_sem,seval];refine pS rfl (Bj (yj b hb bS to) uf im LU _) ?_;simp only[go_sem,seval,gS];refine al hs λi7 Z7 s7 a7 f7 z7 hs=>?_;simp only[go_sem,seval,a7];exact ai.pure (hs.ao z7) rfl
open Go.Proofs
structure Kp where
 (WU:List Int)
 (high body:Int)
def gP(l:List Nd)(x:Kp)(a:Int):Kp:=if(Yw l a).head<1\/x.body-(Yw l a).head<1 then x else⟨x.WU++[a],x.high+(Yw l a).head,x.body-(Yw l a).head⟩
structure KpJ(Z0:ad)(i7:Nat)(x:Kp)(U:ad):Prop where
 row:∃v,U i7=some ⟨195,3,[.agg [v,vI x.high,vI x.body]]⟩/\aq (bj Z0 i7) U 3 1 v (x.WU.map vI)
 sub:aa Z0 U
 no:Z0 i7=none
def Mc(l:List Nd)(hb:Xh l=true)(x:Kp)(hlen:x.WU.length<=1000000)(h0:0<=x.high)(h1:x.high<=4398046511104)(h2:0<=x.body)(h3:x.body<=4398046511104)(a:Nat)(ha:a<l.length)
 {Z0 ZJ ZB:ad}{i7:Nat}(hJ:KpJ Z0 i7 x ZJ)(E':aa ZJ ZB):
 av prog 127 [.ptr i7 0 0,ay l,vI a] ZB λ_ Z'=>∃Xj,bb ZJ ZB Xj Z'/\KpJ Z0 i7 (gP l x a) Xj:=by
 refine TY.q ?_;have Xa:=(ec hb ha).st.head;have XO:=λU=>bI (U:=U) (l:=l) (a:=a) ha;obtain⟨⟨v,J7,Jo⟩,Js,Jn⟩:=hJ;obtain⟨hds,high,body⟩:=x;simp only at hlen h0 h1 h2 h3 J7 Jo;have hvc:v.cells=[v]:=by rcases Jo with⟨rfl,_⟩|⟨_,rfl,_⟩<;>rfl
 have c7:=E' _ _ J7;unfold gP;rw[eG ha];simp only;have same:(l[a].st.head<1\/body-l[a].st.head<1)->ai (.WC []) ZB λ_ Z'=>∃Xj,bb ZJ ZB Xj Z'/\KpJ Z0 i7 (if l[a].st.head<1\/body-l[a].st.head<1 then⟨hds,high,body⟩else⟨hds++[(a:Int)],high+l[a].st.head,body-l[a].st.head⟩) Xj:=λh=>by
  rw[ak h];exact⟨_,ZB,aa.refl _,Wk.refl (aa.refl _) _,ZJ,bb.refl E',⟨v,J7,Jo⟩,Js,Jn⟩
 refine ag.mix 7 ?_;have r1:WI .i64 (body-l[a].st.head):=ae;have r2:WI .i64 (high+l[a].st.head):=ae;by_cases hn:l[a].st.head<1
 .have q1:(l[a].st.head<1)=True:=L' hn;have fin:=same (.inl hn);generalize hX:(if l[a].st.head<1\/body-l[a].st.head<1 then(⟨hds,high,body⟩:Kp)else⟨hds++[(a:Int)],high+l[a].st.head,body-l[a].st.head⟩)=X at*;apply sR;simp only[go_sem,seval,KH,XO,Nd.cells,q1];exact fin
 have q1:(l[a].st.head<1)=False:=H' hn;by_cases hn2:body-l[a].st.head<1
 .have q2:(body-l[a].st.head<1)=True:=L' hn2;have fin:=same (.inr hn2);generalize hX:(if l[a].st.head<1\/body-l[a].st.head<1 then(⟨hds,high,body⟩:Kp)else⟨hds++[(a:Int)],high+l[a].st.head,body-l[a].st.head⟩)=X at*;apply sR;simp only[go_sem,seval,KH,XO,Nd.cells,q1,r1,q2,c7];exact fin
 have q2:(body-l[a].st.head<1)=False:=H' hn2;rw[au (by omega)];clear same;apply sR;simp only[go_sem,seval,KH,XO,Nd.cells,q1,r1,q2,c7];rw[bh];intro id28 f28;have hrl:(hds.map vI).length<=1000000:=by simpa using hlen
 have W8:((hds++[(a:Int)]).map vI)=hds.map vI++[vI a]:=by simp
 generalize hds.map vI=rows at*;have hBs:=(bb.refl E').rY (o:=⟨3,1,[vI (a:Int)]⟩) f28;have y2:C' ZB id28 ⟨3,1,[vI (a:Int)]⟩ i7=_:=(ab (aQ c7 f28)).trans c7;have a28:C' ZB id28 ⟨3,1,[vI (a:Int)]⟩ id28=some ⟨3,1,[vI (a:Int)]⟩:=af;generalize C' ZB id28 ⟨3,1,[vI (a:Int)]⟩=Z8 at*;obtain⟨idA,Xg,hdA⟩:=Jo.FB hBs.1;have W1:(rows.length+1)*9<=140737488355328:=by omega
 have k2:bj Z0 i7 i7≠none:=λh=>(aF.1 h).1 rfl;have dne:∀(i:Nat) (Zx:ad),bj Z0 i7 i≠none->Vc.bz Zx idA i=Zx i:=λi Zx hk=>by
  cases idA with
  |none=>rfl
  |some a=>exact cA (λe=>hk (by rw[e];exact(hdA a rfl).1))
 simp only[go_sem,seval,Xg,bl a28,W1];rw[bh];intro Zd f29;have f29:Z8 Zd=none:=f29;have m29:i7≠Zd:=aQ y2 f29;have f29':Vc.bz Z8 idA Zd=none:=by
  cases idA with
  |none=>exact f29
  |some a=>simp only[Vc.bz,del];split<;>first|rfl|exact f29
 have y2':C' (Vc.bz Z8 idA) Zd ⟨3,1,rows++[vI (a:Int)]⟩ i7=some ⟨195,3,[.agg [v,vI high,vI body]]⟩:=by rw[ab m29,dne _ _ k2];exact y2
 have hB9:=((hBs.FG (e:=idA) λi h=>(hdA i h).2).new (o:=⟨3,1,rows++[vI (a:Int)]⟩) f29').set (id:=i7) (o:=⟨195,3,[.agg [v,vI high,vI body]]⟩) (o':=⟨195,3,[.agg [.own Zd 0 (rows.length+1),vI (high+l[a].st.head),vI (body-l[a].st.head)]]⟩) (by rw[ab m29,dne _ _ k2];exact J7);simp only[go_sem,seval,y2',r1,r2];refine XX ⟨_,hB9,⟨.own Zd 0 (rows.length+1),af,?_⟩,?_,Jn⟩
 .rw[W8];refine aq.new (by simp) (by rw[ab m29.symm,af]) ?_;rw[aF];refine⟨m29.symm,?_⟩;cases h:Z0 Zd with
  |none=>rfl
  |some o=>rw[hBs.1 _ _ (Js _ _ h)]at f29;cases f29
 .refine aa.ao (λi o h=>?_) Jn;have h1:=Js _ _ h;rw[ab (aQ (hBs.1 _ _ h1) f29),dne _ _ (λhk=>by rw[(aF.1 hk).2]at h;cases h)];exact h1
open Go.Proofs
def bwd(L:List Int):List (List V):=(List.range' 0 L.length).map λq=>[vI ((L.length-1-q:Nat):Int),vI (L.getD (L.length-1-q) 0)]
def HA(L:List Int)(hL:L.length<=1000000):Iter prog 171 [.rp (aN L)] (bwd L):=by
 refine⟨RP.c,λXk τ Jx Z0 hy hJ=>?_⟩;refine(RP.q ?_).2;have hlL:=cV L;have ldI:∀(U:ad) (X:List Int),bO U false 1 (.rp (aN X))=some (aN X):=λU X=>rfl;have r2:WI .i64 ((L.length:Int)-1):=ae;refine mS 4 ?_;simp only[go_sem,seval,PV,ldI,hlL,r2];generalize hT:bwd L=T at hy|-
 let F:Nat->List V:=λq=>[vI ((L.length-1-q:Nat):Int),vI (L.getD (L.length-1-q) 0)]
 have hTF:T=(List.range' 0 L.length).map F:=hT.symm;refine ag.loop (λm st=>∃(j:Nat) (ZJ:ad),j<=L.length/\m=L.length-j/\τ ((List.range' 0 j).map F) ZJ/\aa ZJ st.U/\st.s 0=.yl Xk/\st.s 1=.rp (aN L)/\st.s 3=vI ((L.length:Int)-1-j)) L.length ?_ ?_
 .exact⟨0,Z0,by omega,rfl,by simpa using hJ,aa.refl _,rfl,rfl,by simp[aO,mix]⟩
 .rintro m ⟨S,J⟩ ⟨j,ZJ,hj,rfl,YM,E',t0,t1,t3⟩;simp only at E' t0 t1 t3;refine ag.mix 4 ?_;by_cases B':j<L.length
  .obtain⟨i,hi⟩:∃i:Nat,i=L.length-1-j:=⟨_,rfl⟩
   have Yv:i<L.length:=by omega
   have t3':S 3=vI (i:Int):=by rw[t3];congr 1;omega
   have q:((i:Int)>=0)=True:=L';have r1:WI .i64 ((i:Int)-1):=ae;have Wz:=λU=>de (U:=U) Yv;have hF:F j=[vI (i:Int),vI L[i]]:=by
    show[vI ((L.length-1-j:Nat):Int),vI (L.getD (L.length-1-j) 0)]=_;rw[<-hi];simp[Yv]
   have e:T=((List.range' 0 j).map F)++[vI (i:Int),vI L[i]]::((List.range' (0+j+1) (L.length-j-1)).map F):=by
    rw[hTF,range_split j 0 L.length B',cX,eV,kf,hF]
   have W4:((List.range' 0 (j+1)).map F)=((List.range' 0 j).map F)++[[vI (i:Int),vI L[i]]]:=by rw[tJ,cX,kf,eV,hF];rfl
   have q5:(i:Int)-1=(L.length:Int)-1-((j+1:Nat):Int):=by omega
   apply sR;simp only[go_sem,seval,t0,t1,t3',ldI,q,Wz];refine ag.ny (Post:=λb' Z2=>∃Xj,bb ZJ J Xj Z2/\((b'=true/\τ (((List.range' 0 j).map F)++[[vI (i:Int),vI L[i]]]) Xj)\/(b'=false/\Jx (((List.range' 0 j).map F)++[[vI (i:Int),vI L[i]]]) Xj))) rfl rfl rfl (hy _ [vI (i:Int),vI L[i]] _ ZJ J e YM E') ?_;rintro b' Z2 ⟨Xj,Ys,XT⟩;rcases XT with⟨rfl,XT⟩|⟨rfl,XT⟩
   .apply sR;simp only[go_sem,seval,t0,t1,t3',r1];refine⟨_,?_,j+1,Xj,by omega,rfl,by rw[W4];exact XT,Ys.1,by simp[q5]⟩;omega
   .apply sR;simp only[go_sem,seval];exact⟨_,Xj,Ys.1,Wk.refl Ys.1 _,.inr ⟨_,⟨_,by rw[e,lh];rfl⟩,XT⟩⟩
  .have YK:j=L.length:=by omega
   subst YK;have q:((L.length:Int)-1-(L.length:Int)>=0)=False:=H';apply sR;simp only[go_sem,seval,t3,q];exact⟨_,ZJ,E',Wk.refl E' _,.inl (hTF▸YM)⟩
def Qu(L:List Int):aE prog 125 [aN L] (.fn 171 [.rp (aN L)]):=λU=>by
 refine Uo.q ?_;refine mS 3 ?_;simp only[go_sem,seval,QH,dq,iM];refine aj λid1 Z1 s1 a1 f1=>?_;simp only[go_sem,seval];exact⟨_,U,s1,Wk.fn (vs':=[.rp (aN L)]) ⟨Wk.ptr s1 a1 f1,trivial⟩,rfl,rfl⟩
open Go.Proofs
def jL(x:Kp):V:=.agg [aN x.WU,vI x.high,vI x.body]
def gM(l:List Nd)(L:List Int)(h:Int):Nat->Kp
 |0=>⟨[],0,h⟩
 |m+1=>gP l (gM l L h m) (L.getD (L.length-1-m) 0)
def F5{l:List Nd}{x:Kp}{a:Int}{m:Nat}{h:Int}(h0:0<=(Yw l a).head)(hx:x.WU.length<=m/\0<=x.high/\0<=x.body/\x.high+x.body=h):(gP l x a).WU.length<=m+1/\0<=(gP l x a).high/\0<=(gP l x a).body/\(gP l x a).high+(gP l x a).body=h:=by
 obtain⟨h1,h2,h3,h4⟩:=hx;unfold gP;split
 .exact⟨by omega,h2,h3,h4⟩
 .simp only[gn,YI,List.length_nil];omega
def qX{l:List Nd}(hb:Xh l=true){L:List Int}(hL:∀x∈L,∃n:Nat,x=n/\n<l.length){h:Int}(hh:0<=h):∀m,m<=L.length->(gM l L h m).WU.length<=m/\0<=(gM l L h m).high/\0<=(gM l L h m).body/\(gM l L h m).high+(gM l L h m).body=h
 |0,_=>by simp[gM];omega
 |m+1,hm=>by
  have ih:=qX hb hL hh m (by omega);rw[gM];refine F5 ?_ ih;have B':L.length-1-m<L.length:=by omega
  have hg:L.getD (L.length-1-m) 0=L[L.length-1-m]:=by simp[B']
  rw[hg];obtain⟨n,hn,Yb⟩:=hL _ (Xo B');rw[hn,eG Yb];exact(ec hb Yb).st.head.1
def px(l:List Nd)(a:Nat)(h:Int):Kp:=gM l (abv l a) h (abv l a).length
def Hj(l:List Nd)(hl:dz l)(hb:Xh l=true)(hn:l.length<=100000)(a:Nat)(ha:a<l.length)(h:Int)(h0:0<=h)(h1:h<=2199023255552):
 aE prog 82 [ay l,vI a,vI h] (jL (px l a h)):=λU=>by
 refine e82.q ?_;have hs:=aa.refl U;refine mS 10 ?_;simp only[go_sem,seval,c82,cp,eh];refine al hs λi3 Z3 s3 a3 f3 _ hs=>?_;simp only[go_sem,seval];refine al hs λi6 Z6 s6 a6 f6 z6 hs=>?_;replace a3:=s6 _ _ a3;simp only[go_sem,seval];refine aj λi7 Z7 s7 a7 f7=>?_;have n37:i3≠i7:=aQ a3 f7;have b3:=s7 _ _ a3;simp only[go_sem,seval,a7,b3,ab n37,cp];have h7:KpJ Z6 i7 ⟨[],0,h⟩ (C' Z7 i7 ⟨195,3,[.agg [.aB,vI 0,vI h]]⟩):=⟨⟨.aB,af,aq.start⟩,s7.ao f7,f7⟩
 have e3:C' Z7 i7 ⟨195,3,[.agg [.aB,vI 0,vI h]]⟩ i3=_:=(ab n37).trans b3;generalize C' Z7 i7 ⟨195,3,[.agg [.aB,vI 0,vI h]]⟩=Y7 at*;refine pR rfl (AP l hl hb hn a ha _) ?_;have hrg:∀x∈abv l a,∃n:Nat,x=n/\n<l.length:=λx hx=>by
  obtain⟨n,h1,h2⟩:=qO ha x hx;exact⟨n,h1,by omega⟩
 have hlL:(abv l a).length<=l.length+1:=jW _ _ _;unfold px;generalize abv l a=L at*;apply sR;simp only[go_sem,seval];refine pS rfl (Qu L _) ?_;simp only[go_sem,seval];generalize hS:mix 10 _ _=S;have S3:S 3=.ptr i3 0 0:=by rw[<-hS];rfl
 have S6:S 6=.ptr i6 0 0:=by rw[<-hS];rfl
 have S7:S 7=.ptr i7 0 0:=by rw[<-hS];rfl
 have S16:S 16=.fn 171 [.rp (aN L)]:=by rw[<-hS];rfl
 clear hS;refine ag.eN (g:=.t 16) (caps:=[.rp (aN L)]) S16 (HA L (by omega)) (λy hy=>?_) [] (λpre ZJ=>KpJ Z6 i7 (gM l L h pre.length) ZJ)
  (λ_ _ _=>False) ?_ ?_ ?_ ?_ ?_
 .obtain⟨t,_,rfl⟩:=gb.1 hy;rfl
 .exact h7
 .rintro pre y post ZJ ZB ZL hJ E';have ZE:pre.length<L.length:=by
   have:=congrArg List.length ZL;simp[bwd]at this;omega
  obtain⟨i,hi⟩:∃i:Nat,i=L.length-1-pre.length:=⟨_,rfl⟩
  have Yv:i<L.length:=by omega
  have hy:y=[vI (i:Int),vI (L.getD i 0)]:=by
   have h1:(bwd L)[pre.length]?=some y:=by rw[ZL];simp
   simp[bwd,ZE]at h1;rw[<-h1,hi];simp
  have hlen:(pre++[y]).length=pre.length+1:=by simp
  have hinv:=qX hb hrg h0 pre.length (by omega);have WM:gM l L h (pre.length+1)=gP l (gM l L h pre.length) (L.getD i 0):=by rw[gM,hi]
  have hg:L.getD i 0=L[i]:=by simp[Yv]
  obtain⟨n,WZ,Yb⟩:=hrg _ (Xo Yv);rw[hlen,WM,hg,WZ];rw[hg,WZ]at hy;subst hy;generalize gM l L h pre.length=x at*;have c3:=E' _ _ (hJ.sub _ _ a3);generalize Zg:nh S [17,18] [vI (i:Int),vI (n:Int)]=S0;have T3:S0 3=.ptr i3 0 0:=by rw[<-Zg];exact S3
  have T7:S0 7=.ptr i7 0 0:=by rw[<-Zg];exact S7
  have T18:S0 18=vI (n:Int):=by rw[<-Zg];rfl
  clear Zg;refine mS 10 ?_;simp only[go_sem,seval,T18];apply sR;simp only[go_sem,seval,T3,c3,cp];have hc:=Mc l hb x (by omega) (by omega) (by omega) (by omega) (by omega) n Yb hJ E';rw[<-T7]at hc;refine Yn rfl hc ?_;rintro-Z2 ⟨Xj,hB,ZC⟩;apply sR;simp only[go_sem,seval];exact⟨_,hB,ZC⟩
 .rintro Z' hJ;have XW:(bwd L).length=L.length:=by simp[bwd]
  rw[XW]at hJ;obtain⟨⟨v,J7,Jo⟩,Js,Jn⟩:=hJ;have hvc:v.cells=[v]:=by rcases Jo with⟨rfl,_⟩|⟨_,rfl,_⟩<;>rfl
  have e6:=Js _ _ a6;refine mS 10 ?_;simp only[go_sem,seval,S6,S7,J7,e6];have WM:=(hs.trans Js).ao (o:=⟨107,3,[.agg [v,vI (gM l L h L.length).high,vI (gM l L h L.length).body]]⟩) z6;have Jo':aq (bj Z6 i7) (C' Z' i6 ⟨107,3,[.agg [v,vI (gM l L h L.length).high,vI (gM l L h L.length).body]]⟩) 3 1 v ((gM l L h L.length).WU.map vI):=by
   rcases Jo with h|⟨id,g1,g2,g3⟩
   .exact .inl h
   .refine .inr ⟨id,g1,?_,g3⟩;rw[ab (λe=>by rw[e,aF]at g3;rw[a6]at g3;cases g3.2)];exact g2
  have hK:aa U (bj Z6 i7):=λi o hh=>by
   rw[bj,au (λe=>by rw[e,hs.none f7]at hh;cases hh)];exact hs _ _ hh
  exact⟨_,U,WM,Wk.agg (vs':=[aN (gM l L h L.length).WU,vI (gM l L h L.length).high,vI (gM l L h L.length).body]) ⟨Jo'.wk hK WM,Wk.refl WM _,Wk.refl WM _,trivial⟩,rfl,rfl⟩
 .intro id h;cases h
 .rintro pre Z' _ ⟨⟩
open Go.Proofs
def gj(l:List Nd)(h:Int):Bool:=decide (1<=h/\h<=1099511627776)&&Xh l
def HD(l:List Nd)(hl:dz l)(h:Int):aE prog 81 [ay l,vI h] (.bool (gj l h)):=λU=>by
 refine e81.q ?_;refine mS 5 ?_;simp only[go_sem,seval,c81];refine pR rfl (rO h _) ?_;unfold gj;cases hd:decide (1<=h/\h<=1099511627776)
 .apply sR;simp only[go_sem,seval];exact ai.same (by simp)
 .apply sR;simp only[go_sem,seval];refine pS rfl (EJ l hl _) ?_;simp only[go_sem,seval];exact ai.same (by simp)
def rK(l:List Nd)(a h:Int):Kp:=if gj l h=true/\0<=a/\a<l.length then px l a.toNat h else⟨[],0,0⟩
def OX(l:List Nd)(hl:dz l)(a h:Int):aE prog 98 [ay l,vI a,vI h] (jL (rK l a h)):=λU=>by
 refine e98.q ?_;have hs:=aa.refl U;have Yp:=bK l;have hn:l.length<=100000:=by have:=hl.1;omega
 refine mS 7 ?_;simp only[go_sem,seval,c98];refine al hs λi6 Z6 s6 a6 f6 z6 hs=>?_;simp only[go_sem,seval];refine pR rfl (HD l hl h _) ?_;have bad:¬(gj l h=true/\0<=a/\a<l.length)->ai (.agg [.aB,vI 0,vI 0]) Z6 λr Z'=>r=jL (rK l a h)/\Z'=U:=λhb=>by
  rw[rK,au hb];exact⟨_,U,hs,Wk.agg (vs':=[aN [],vI 0,vI 0]) ⟨Wk.aB 1,Wk.refl hs _,Wk.refl hs _,trivial⟩,rfl,rfl⟩
 have a6':C' Z6 i6 ⟨107,3,[.agg [.aB,vI 0,vI 0]]⟩=Z6:=by
  funext i;by_cases hi:i=i6
  .rw[hi,af];exact a6.symm
  .rw[ab hi]
 cases hm:gj l h
 .have fin:=bad (by simp[hm]);apply sR;simp only[go_sem,seval,a6];rw[a6'];exact fin
 by_cases h0:a<0
 .have q0:(a<0)=True:=L' h0;have fin:=bad (by omega);apply sR;simp only[go_sem,seval,a6,q0];rw[a6'];exact fin
 have q0:(a<0)=False:=H' h0;by_cases h1:a>=l.length
 .have q1:(a>=l.length)=True:=L' h1;have fin:=bad (by omega);apply sR;simp only[go_sem,seval,a6,q0,q1,Yp];rw[a6'];exact fin
 have q1:(a>=l.length)=False:=H' h1;clear bad a6';obtain⟨n,rfl⟩:∃n:Nat,a=n:=⟨a.toNat,by omega⟩
 have hb:Xh l=true:=by unfold gj at hm;simp at hm;exact hm.2
 have hh:1<=h/\h<=1099511627776:=by unfold gj at hm;simp at hm;exact hm.1
 have hr:rK l n h=px l n h:=by rw[rK,ak ⟨hm,by omega,by omega⟩,eU]
 rw[hr];apply sR;simp only[go_sem,seval,q0,q1,Yp];refine pS rfl (Hj l hl hb hn n (by omega) h (by omega) (by omega) _) ?_;simp only[go_sem,seval,a6,jL];exact ai.pure (hs.ao z6) rfl
def fD(l:List Nd)(h:Int):Nat->Int
 |0=>h
 |j+1=>if(W7 l j).kind=2\/(W7 l j).kind=3 then min (fD l h j) (px l j h).body else fD l h j
def cM(l:List Nd)(h:Int):Int:=if gj l h=true then fD l h l.length else 0
def Hu(l:List Nd)(hl:dz l)(h:Int):aE prog 33 [ay l,vI h] (vI (cM l h)):=λU=>by
 refine e33.q ?_;have hs:=aa.refl U;have Yp:=bK l;have hn:l.length<=100000:=by have:=hl.1;omega
 refine mS 8 ?_;simp only[go_sem,seval,c33];refine pR rfl (HD l hl h _) ?_;unfold cM;cases hm:gj l h
 .apply sR;simp only[go_sem,seval];exact ai.same rfl
 have hb:Xh l=true:=by unfold gj at hm;simp at hm;exact hm.2
 have hh:1<=h/\h<=1099511627776:=by unfold gj at hm;simp at hm;exact hm.1
 rw[ak rfl];apply sR;simp only[go_sem,seval,Yp];refine ag.loop (λm st=>∃j:Nat,j<=l.length/\m=l.length-j/\aa U st.U/\st.s 0=ay l/\st.s 1=vI h/\st.s 5=vI (fD l h j)/\st.s 13=ay l/\st.s 14=vI l.length/\st.s 15=vI j) l.length ?_ ?_
 .exact⟨0,by omega,rfl,hs,rfl,rfl,rfl,rfl,rfl,rfl⟩
 .clear hs;rintro m ⟨S,J⟩ ⟨j,hj,rfl,hs,t0,t1,t5,t13,t14,t15⟩;simp only at hs t0 t1 t5 t13 t14 t15;refine ag.mix 8 ?_;by_cases B':j<l.length
  .have q:=qT B';have r1:=rI j;have XO:=λU=>bI (U:=U) (l:=l) (a:=j) B';have WM:fD l h (j+1)=if l[j].kind=2\/l[j].kind=3 then min (fD l h j) (px l j h).body else fD l h j:=by rw[fD,gF B']
   apply sR;simp only[go_sem,seval,t13,t14,t15,q,XO,Nd.cells];refine aj λi7 Z7 s7 a7 f7=>?_;by_cases hk:l[j].kind=2
   .have q1:(l[j].kind=2)=True:=L' hk;simp only[go_sem,seval,a7,q1,t0,t1,t5];refine pS rfl (Hj l hl hb hn j B' h (by omega) (by omega) _) ?_;simp only[go_sem,seval,t0,t1,t13,t14,t15,jL,r1,dN];refine⟨_,?_,j+1,by omega,rfl,hs.trans (s7.ao f7),by simp[WM,hk]⟩;omega
   .have q1:(l[j].kind=2)=False:=H' hk;by_cases hk3:l[j].kind=3
    .have q2:(l[j].kind=3)=True:=L' hk3;have hk:=hk3;simp only[go_sem,seval,a7,q1,q2,t0,t1,t5];refine pS rfl (Hj l hl hb hn j B' h (by omega) (by omega) _) ?_;simp only[go_sem,seval,t0,t1,t13,t14,t15,jL,r1,dN];refine⟨_,?_,j+1,by omega,rfl,hs.trans (s7.ao f7),by simp[WM,hk]⟩;omega
    .have q2:(l[j].kind=3)=False:=H' hk3;simp only[go_sem,seval,a7,q1,q2,t0,t1,t5,t13,t14,t15,r1];refine⟨_,?_,j+1,by omega,rfl,hs.trans (s7.ao f7),by simp[WM,hk,hk3]⟩;omega
  .have q:=qF B';have YK:j=l.length:=by omega
   apply sR;simp only[go_sem,seval,t5,t14,t15,q];exact ai.pure hs (by rw[YK])
open Go.Proofs
def df(l:List XA):(aT l).cells=[aT l]:=rfl
def iP(l:List XA):(aT l).stays=true:=rfl
def eL(l:List XA):dv false (aT l)=some (.int .i64 l.length):=by simp[aT,dv]
def dS{U:ad}{l:List XA}{i:Nat}(h:i<l.length):bp U 8 (aT l) (.int .i64 i)=some (.rp (bE l[i])):=by simp[aT,bp,h,bE]
structure jz(l:List XA):Prop where
 len:l.length<=1000000000
 rng:∀a∈l,-1152921504606846976<=a.y/\a.y<=1152921504606846976/\0<=a.h/\a.h<=1152921504606846976
def zE(l:List XA)(k:Int):aE prog 203 [aT l,vI k] (.bool (decide (0<=k/\k<l.length))):=λU=>by
 refine Ux.q ?_;have hl:=eL l;refine ag.mix 5 ?_;by_cases h0:k>=0
 .have q0:(k>=0)=True:=L' h0;by_cases h1:k<l.length
  .have q1:(k<l.length)=True:=L' h1;apply sR;simp only[go_sem,seval,La,q0,q1,hl];exact ai.same (by simp)
  .have q1:(k<l.length)=False:=H' h1;apply sR;simp only[go_sem,seval,La,q0,q1,hl];exact ai.same (by simp)
 .have q0:(k>=0)=False:=H' h0;apply sR;simp only[go_sem,seval,La,q0];exact ai.same (by simp<;>omega)
def GX(a:XA)(h:-1152921504606846976<=a.y/\a.y<=1152921504606846976/\0<=a.h/\a.h<=1152921504606846976):aE prog 252 [bE a] (vI (a.y+a.h)):=λU=>by
 refine Th.q ?_;have hs:=aa.refl U;have r1:WI .i64 (a.y+a.h):=ae;refine mS 3 ?_;simp only[go_sem,seval,Ri,bE];refine al hs λi1 Z1 s1 a1 f1 _ hs=>?_;simp only[go_sem,seval,a1,r1];exact ai.pure hs rfl
def atG(l:List XA)(k:Int):XA:=l.getD k.toNat ⟨0,0,0,0,0,0,0,0⟩
def fQ(l:List XA)(k:Int):Int:=if 0<=k/\k<l.length then(atG l k).y+(atG l k).h else 0
def kS(l:List XA)(k:Int):Int:=if 0<=k/\k<l.length then(atG l k).y-fQ l (k-1)else 0
def fp(l:List XA)(i k:Int):Int:=if(0<=i/\i<l.length)/\(0<=k/\k<l.length)then(atG l k).y-(atG l i).y else 0
def aV{l:List XA}{k:Nat}(h:k<l.length):atG l k=l[k]:=by simp[atG,h]
def nL{l:List XA}(hl:jz l)(k:Int):-1152921504606846976<=fQ l k/\fQ l k<=2305843009213693952:=by
 unfold fQ;split
 .rename_i h;obtain⟨n,rfl⟩:∃n:Nat,k=n:=⟨k.toNat,by omega⟩
  have hn:n<l.length:=by omega
  rw[aV hn];have:=hl.rng _ (Xo hn);omega
 .omega
def GZ(l:List XA)(hl:jz l)(k:Int):aE prog 204 [aT l,vI k] (vI (fQ l k)):=λU=>by
 refine Vq.q ?_;refine mS 5 ?_;simp only[go_sem,seval,QL];refine pR rfl (zE l k _) ?_;unfold fQ;by_cases h:0<=k/\k<l.length
 .obtain⟨n,rfl⟩:∃n:Nat,k=n:=⟨k.toNat,by omega⟩
  have hn:n<l.length:=by omega
  have hd:decide (0<=(n:Int)/\(n:Int)<l.length)=true:=by simp;omega
  have Wz:=λU=>dS (U:=U) hn;rw[hd,ak h,aV hn];apply sR;simp only[go_sem,seval,Wz,bE];refine pS rfl (GX l[n] (hl.rng _ (Xo hn)) _) ?_;simp only[go_sem,seval];exact ai.same rfl
 .have hd:decide (0<=k/\k<l.length)=false:=by simpa using h
  rw[hd,au h];apply sR;simp only[go_sem,seval];exact ai.same rfl
def ND(l:List XA)(hl:jz l)(k:Int):aE prog 151 [aT l,vI k] (vI (kS l k)):=λU=>by
 refine Uj.q ?_;refine mS 5 ?_;simp only[go_sem,seval,O5];refine pR rfl (zE l k _) ?_;unfold kS;by_cases h:0<=k/\k<l.length
 .obtain⟨n,rfl⟩:∃n:Nat,k=n:=⟨k.toNat,by omega⟩
  have hn:n<l.length:=by omega
  have hd:decide (0<=(n:Int)/\(n:Int)<l.length)=true:=by simp;omega
  have Wz:=λU=>dS (U:=U) hn;have hll:=hl.len;have hy:=hl.rng _ (Xo hn);have hbr:=nL hl ((n:Int)-1);have r1:WI .i64 ((n:Int)-1):=ae;have r2:WI .i64 (l[n].y-fQ l ((n:Int)-1)):=ae;rw[hd,ak h,aV hn];apply sR;simp only[go_sem,seval,Wz,bE,r1];refine pJ rfl (GZ l hl ((n:Int)-1)) ?_;apply sG;simp only[go_sem,seval,r2];exact ai.same rfl
 .have hd:decide (0<=k/\k<l.length)=false:=by simpa using h
  rw[hd,au h];apply sR;simp only[go_sem,seval];exact ai.same rfl
def F9(l:List XA)(hl:jz l)(i k:Int):aE prog 210 [aT l,vI i,vI k] (vI (fp l i k)):=λU=>by
 refine VQ.q ?_;refine mS 8 ?_;simp only[go_sem,seval,RH];refine pR rfl (zE l i _) ?_;unfold fp;by_cases h:0<=i/\i<l.length
 .have hd:decide (0<=i/\i<l.length)=true:=by simp;omega
  rw[hd];apply sR;simp only[go_sem,seval];refine pR rfl (zE l k _) ?_;by_cases h2:0<=k/\k<l.length
  .obtain⟨m,rfl⟩:∃m:Nat,i=m:=⟨i.toNat,by omega⟩
   obtain⟨n,rfl⟩:∃n:Nat,k=n:=⟨k.toNat,by omega⟩
   have hm:m<l.length:=by omega
   have hn:n<l.length:=by omega
   have hd2:decide (0<=(n:Int)/\(n:Int)<l.length)=true:=by simp;omega
   have Wz:=λU=>dS (U:=U) hn;have hidx2:=λU=>dS (U:=U) hm;have hy:=hl.rng _ (Xo hn);have hy2:=hl.rng _ (Xo hm);have r1:WI .i64 (l[n].y-l[m].y):=ae;rw[hd2,ak ⟨h,h2⟩,aV hn,aV hm];apply sR;simp only[go_sem,seval,Wz,hidx2,bE,r1];exact ai.same rfl
  .have hd2:decide (0<=k/\k<l.length)=false:=by simpa using h2
   rw[hd2,au (λh=>h2 h.2)];apply sR;simp only[go_sem,seval];exact ai.same rfl
 .have hd:decide (0<=i/\i<l.length)=false:=by simpa using h
  rw[hd,au (λh'=>h h'.1)];apply sR;simp only[go_sem,seval];exact ai.same rfl
open Go.Proofs
def ei(b:List Yr)(i fit:Int):Prop:=nX b=true/\0<=i/\i<(b.length:Int)-1/\i<fit
instance (b:List Yr) (i fit:Int):Decidable (ei b i fit):=by unfold ei;infer_instance
def pT(b:List Yr)(i fit:Int):Int:=if ju b (i+1) fit<0 then A7 b (i+1) fit else ju b (i+1) fit
def N6(b:List Yr)(hb:b.length<=1000000)(i fit:Int):aE prog 102 [aY b,vI i,vI fit] (.WC [vI (if ei b i fit then pT b i fit else 0),.bool (decide (ei b i fit))]):=λU=>by
 refine UX.q ?_;have hlb:=wP b;have r0:WI .i64 ((b.length:Int)-1):=ae;refine mS 8 ?_;simp only[go_sem,seval,RL];refine pR rfl (NF b hb _) ?_;have bad:¬ei b i fit->ai (.WC [vI 0,.bool false]) U λr Z'=>r=.WC [vI (if ei b i fit then pT b i fit else 0),.bool (decide (ei b i fit))]/\Z'=U:=λh=>ai.same (by rw[au h,XJ h]);generalize hX:(V.WC [vI (if ei b i fit then pT b i fit else 0),.bool (decide (ei b i fit))])=X at*;cases hm:nX b
 .have fin:=bad (λh=>by rw[h.1]at hm;cases hm);apply sR;simp only[go_sem,seval];exact fin
 by_cases h0:i<0
 .have q0:(i<0)=True:=L' h0;have fin:=bad (λh=>by have:=h.2.1;omega);apply sR;simp only[go_sem,seval,q0];exact fin
 have q0:(i<0)=False:=H' h0;by_cases h1:i>=(b.length:Int)-1
 .have q1:(i>=(b.length:Int)-1)=True:=L' h1;have fin:=bad (λh=>by have:=h.2.2.1;omega);apply sR;simp only[go_sem,seval,q0,hlb,r0,q1];exact fin
 have q1:(i>=(b.length:Int)-1)=False:=H' h1;by_cases h2:fit<=i
 .have q2:(fit<=i)=True:=L' h2;have fin:=bad (λh=>by have:=h.2.2.2;omega);apply sR;simp only[go_sem,seval,q0,hlb,r0,q1,q2];exact fin
 have q2:(fit<=i)=False:=H' h2;clear bad;have WB:ei b i fit:=⟨hm,by omega,by omega,by omega⟩
 have r1:WI .i64 (i+1):=ae;rw[ak WB,XK WB]at hX;subst hX;apply sR;simp only[go_sem,seval,q0,hlb,r0,q1,q2,r1];refine pR rfl (KC b hb (i+1) fit _) ?_;unfold pT;by_cases h3:ju b (i+1) fit<0
 .have q3:(ju b (i+1) fit<0)=True:=L' h3;rw[ak h3];apply sR;simp only[go_sem,seval,q3,r1];refine pS rfl (Ot b hb (i+1) fit _) ?_;simp only[go_sem,seval];exact ai.same rfl
 .have q3:(ju b (i+1) fit<0)=False:=H' h3;rw[au h3];apply sR;simp only[go_sem,seval,q3];exact ai.same rfl
open Go.Proofs
structure XP where
 (atom done:Int)
 free:Bool
def aL(s:XP):V:=.agg [vI s.atom,vI s.done,.bool s.free]
def uU(s:XP)(l:List XA):V:=.agg [vI s.atom,vI s.done,.bool s.free,aT l]
def cT(l:List XA)(s:XP):Prop:=(0<=s.atom/\s.atom<l.length)/\0<=s.done/\(s.done=0\/s.done<(atG l s.atom).h)
instance (l:List XA) (s:XP):Decidable (cT l s):=by unfold cT;infer_instance
def C1(l:List XA)(s:XP):aE prog 99 [uU s l] (.bool (decide (cT l s))):=λU=>by
 refine e99.q ?_;have hs:=aa.refl U;have hl:=eL l;obtain⟨a,d,fr⟩:=s;refine mS 3 ?_;simp only[go_sem,seval,c99,uU];refine al hs λi1 Z1 s1 a1 f1 _ hs=>?_;by_cases h0:a>=0
 .have q0:(a>=0)=True:=L' h0;by_cases h1:a<l.length
  .have q1:(a<l.length)=True:=L' h1;obtain⟨n,rfl⟩:∃n:Nat,a=n:=⟨a.toNat,by omega⟩
   have hn:n<l.length:=by omega
   have Wz:=λU=>dS (U:=U) hn;have hg:=aV hn;by_cases h2:d>=0
   .have q2:(d>=0)=True:=L' h2;by_cases h3:d=0
    .have q3:(d=0)=True:=L' h3;simp only[go_sem,seval,a1,q0,q1,q2,q3,hl];have hh:cT l ⟨n,d,fr⟩:=⟨⟨h0,h1⟩,h2,.inl h3⟩
     exact ai.pure hs (by rw[XK hh])
    .have q3:(d=0)=False:=H' h3;by_cases h4:d<l[n].h
     .have q4:(d<l[n].h)=True:=L' h4;simp only[go_sem,seval,a1,q0,q1,q2,q3,q4,hl,Wz,bE];have hh:cT l ⟨n,d,fr⟩:=⟨⟨h0,h1⟩,h2,.inr (by rw[hg];exact h4)⟩
      exact ai.pure hs (by rw[XK hh])
     .have q4:(d<l[n].h)=False:=H' h4;simp only[go_sem,seval,a1,q0,q1,q2,q3,q4,hl,Wz,bE];exact ai.pure hs (by rw[XJ (λh:cT l ⟨n,d,fr⟩=>by rcases h.2.2 with h|h;exact h3 h;rw[hg]at h;exact h4 h)])
   .have q2:(d>=0)=False:=H' h2;simp only[go_sem,seval,a1,q0,q1,q2,hl];exact ai.pure hs (by rw[XJ (λh:cT l ⟨n,d,fr⟩=>h2 h.2.1)])
  .have q1:(a<l.length)=False:=H' h1;simp only[go_sem,seval,a1,q0,q1,hl];exact ai.pure hs (by rw[XJ (λh:cT l ⟨a,d,fr⟩=>h1 h.1.2)])
 .have q0:(a>=0)=False:=H' h0;simp only[go_sem,seval,a1,q0];exact ai.pure hs (by rw[XJ (λh:cT l ⟨a,d,fr⟩=>h0 h.1.1)])
def rG(l:List XA)(s:XP):aE prog 107 [aT l,aL s] (.bool (decide (cT l s))):=λU=>by
 refine U8.q ?_;have hs:=aa.refl U;have hc:=C1 l s;obtain⟨a,d,fr⟩:=s;rw[uU]at hc;refine mS 5 ?_;simp only[go_sem,seval,Q5,aL];refine al hs λi3 Z3 s3 a3 f3 _ hs=>?_;simp only[go_sem,seval,a3,df,iP];refine pS rfl (hc _) ?_;simp only[go_sem,seval];exact ai.pure hs rfl
def Ej(l:List XA)(hl:jz l)(s:XP)(h:cT l s)(hd:s.done<=1152921504606846976):aE prog 100 [uU s l] (vI ((atG l s.atom).h-s.done)):=λU=>by
 refine UO.q ?_;have hs:=aa.refl U;obtain⟨a,d,fr⟩:=s;obtain⟨⟨h0,h1⟩,h2,h3⟩:=h;simp only at h0 h1 h2 h3 hd|-;obtain⟨n,rfl⟩:∃n:Nat,a=n:=⟨a.toNat,by omega⟩
 have hn:n<l.length:=by omega
 have Wz:=λU=>dS (U:=U) hn;have hy:=hl.rng _ (Xo hn);rw[aV hn];have r1:WI .i64 (l[n].h-d):=ae;refine mS 3 ?_;simp only[go_sem,seval,Qi,uU];refine al hs λi1 Z1 s1 a1 f1 _ hs=>?_;simp only[go_sem,seval,a1,Wz,r1,bE];exact ai.pure hs rfl
def gw(l:List XA)(s:XP)(WX:Int):Int:=if cT l s/\s.free=true/\s.done=0/\kS l s.atom+((atG l s.atom).h-s.done)<=WX then kS l s.atom else 0
def Ha{l:List XA}(hl:jz l)(k:Int):-3458764513820540928<=kS l k/\kS l k<=2305843009213693952:=by
 unfold kS;have hb:=nL hl (k-1);split
 .rename_i h;obtain⟨n,rfl⟩:∃n:Nat,k=n:=⟨k.toNat,by omega⟩
  have hn:n<l.length:=by omega
  rw[aV hn];have:=hl.rng _ (Xo hn);omega
 .omega
def L8(l:List XA)(hl:jz l)(s:XP)(WX:Int):aE prog 101 [aT l,aL s,vI WX] (vI (gw l s WX)):=λU=>by
 refine Ui.q ?_;have hs:=aa.refl U;have hc:=C1 l s;have hlf:=λh hd=>Ej l hl s h hd;have hgr:=Ha hl s.atom;obtain⟨a,d,fr⟩:=s;rw[uU]at hc hlf;simp only at hgr hlf;refine mS 9 ?_;simp only[go_sem,seval,RT,aL];refine al hs λi4 Z4 s4 a4 f4 _ hs=>?_;simp only[go_sem,seval,a4,df,iP];refine al hs λi7 Z7 s7 a7 f7 z7 hs=>?_;replace a4:=s7 _ _ a4;simp only[go_sem,seval,a7];refine pR rfl (hc _) ?_;have bad:¬(cT l ⟨a,d,fr⟩/\fr=true/\d=0/\kS l a+((atG l a).h-d)<=WX)->gw l ⟨a,d,fr⟩ WX=0:=λh=>au h;by_cases hm:cT l ⟨a,d,fr⟩
 .rw[XK hm];cases fr
  .apply sR;simp only[go_sem,seval];exact ai.pure (hs.ao z7) (by rw[bad (λh=>by cases h.2.1)])
  have hd0:=hm.2.1;simp only at hd0;by_cases hd:d>0
  .have q:(d>0)=True:=L' hd;apply sR;simp only[go_sem,seval,q];exact ai.pure (hs.ao z7) (by rw[bad (λh=>by have:=h.2.2.1;omega)])
  .have q:(d>0)=False:=H' hd;obtain rfl:d=0:=by omega
   apply sR;simp only[go_sem,seval,q];refine pR rfl (ND l hl a _) ?_;have hlf':=hlf hm (by omega);have hy:0<=(atG l a).h/\(atG l a).h<=1152921504606846976:=by
    obtain⟨h0,h1⟩:=hm.1;simp only at h0 h1;obtain⟨n,rfl⟩:∃n:Nat,a=n:=⟨a.toNat,by omega⟩
    have hn:n<l.length:=by omega
    rw[aV hn];exact(hl.rng _ (Xo hn)).2.2
   have r1:WI .i64 (kS l a+((atG l a).h-0)):=ae;apply sR;simp only[go_sem,seval,af];refine pR rfl (hlf' _) ?_;by_cases h4:kS l a+((atG l a).h-0)<=WX
   .have q4:(kS l a+((atG l a).h-0)<=WX)=True:=L' h4;have hk:gw l ⟨a,0,true⟩ WX=kS l a:=ak ⟨hm,rfl,rfl,h4⟩;rw[hk];apply sR;simp only[go_sem,seval,r1,q4];exact ai.pure (hs.ao z7) rfl
   .have q4:(kS l a+((atG l a).h-0)<=WX)=False:=H' h4;rw[bad (λh=>h4 h.2.2.2)];apply sR;simp only[go_sem,seval,r1,q4];exact ai.pure (hs.ao z7) rfl
 .rw[XJ hm];apply sR;simp only[go_sem,seval];exact ai.pure (hs.ao z7) (by rw[bad (λh=>hm h.1)])
open Go.Proofs
def eY(l:List XA)(s:XP):Int:=if cT l s then(atG l s.atom).h-s.done else 0
def Lr(l:List XA)(hl:jz l)(s:XP)(hd:s.done<=1152921504606846976):aE prog 57 [aT l,aL s] (vI (eY l s)):=λU=>by
 refine e57.q ?_;have hs:=aa.refl U;have hc:=C1 l s;have hlf:=λh=>Ej l hl s h hd;unfold eY;obtain⟨a,d,fr⟩:=s;rw[uU]at hc hlf;refine mS 6 ?_;simp only[go_sem,seval,c57,aL];refine al hs λi3 Z3 s3 a3 f3 _ hs=>?_;simp only[go_sem,seval,a3,df,iP];refine al hs λi5 Z5 s5 a5 f5 z5 hs=>?_;replace a3:=s5 _ _ a3;simp only[go_sem,seval,a5];refine pR rfl (hc _) ?_;by_cases hm:cT l ⟨a,d,fr⟩
 .rw[XK hm,ak hm];apply sR;simp only[go_sem,seval];refine pS rfl (hlf hm _) ?_;simp only[go_sem,seval];exact ai.pure (hs.ao z5) rfl
 .rw[XJ hm,au hm];apply sR;simp only[go_sem,seval];exact ai.pure (hs.ao z5) rfl
def cj(l:List XA)(s:XP)(kept shift k:Int):Int:=if cT l s/\s.atom<=k/\k<l.length then fp l s.atom k-s.done+kept+shift else 0
def tf{l:List XA}(hl:jz l)(i k:Int):-2305843009213693952<=fp l i k/\fp l i k<=2305843009213693952:=by
 unfold fp;split
 .rename_i h;obtain⟨n,rfl⟩:∃n:Nat,k=n:=⟨k.toNat,by omega⟩
  obtain⟨m,rfl⟩:∃m:Nat,i=m:=⟨i.toNat,by omega⟩
  have hn:n<l.length:=by omega
  have hm:m<l.length:=by omega
  rw[aV hn,aV hm];have h1:=hl.rng _ (Xo hn);have h2:=hl.rng _ (Xo hm);omega
 .omega
def B8(l:List XA)(hl:jz l)(s:XP)(hd:s.done<=1152921504606846976)(kept shift k:Int)(hk:-1152921504606846976<=kept/\kept<=2305843009213693952)(ZR:0<=shift/\shift<=1152921504606846976):
 aE prog 157 [aT l,aL s,vI kept,vI shift,vI k] (vI (cj l s kept shift k)):=λU=>by
 refine TW.q ?_;have hs:=aa.refl U;have hc:=rG l s;have hor:=tf hl s.atom k;have hlen:=eL l;have bad:¬(cT l s/\s.atom<=k/\k<l.length)->cj l s kept shift k=0:=λh=>au h;have good:(cT l s/\s.atom<=k/\k<l.length)->cj l s kept shift k=fp l s.atom k-s.done+kept+shift:=λh=>ak h;generalize cj l s kept shift k=P at*;obtain⟨a,d,fr⟩:=s;rw[aL]at hc;simp only at hor hd good bad;refine mS 11 ?_;simp only[go_sem,seval,Qq,aL];refine al hs λi6 Z6 s6 a6 f6 _ hs=>?_;simp only[go_sem,seval,a6];refine pR rfl (hc _) ?_;by_cases hm:cT l ⟨a,d,fr⟩
 .rw[XK hm];by_cases h1:k<a
  .have q1:(k<a)=True:=L' h1;apply sR;simp only[go_sem,seval,a6,q1];exact ai.pure hs (by rw[bad (λh=>by omega)])
  have q1:(k<a)=False:=H' h1;by_cases h2:k>=l.length
  .have q2:(k>=l.length)=True:=L' h2;apply sR;simp only[go_sem,seval,a6,q1,q2,hlen];exact ai.pure hs (by rw[bad (λh=>by omega)])
  have q2:(k>=l.length)=False:=H' h2;rw[good ⟨hm,by omega,by omega⟩];have hd0:=hm.2.1;simp only at hd0;have r1:WI .i64 (fp l a k-d):=ae;have r2:WI .i64 (fp l a k-d+kept):=ae;have r3:WI .i64 (fp l a k-d+kept+shift):=ae;apply sR;simp only[go_sem,seval,a6,q1,q2,hlen];refine pJ rfl (F9 l hl a k) ?_;apply sG;simp only[go_sem,seval,a6,r1,r2,r3];exact ai.pure hs rfl
 .rw[XJ hm];apply sR;simp only[go_sem,seval];exact ai.pure hs (by rw[bad (λh=>hm h.1)])
open Go.Proofs
def J3(l:List XA)(k:Int):aE prog 161 [aT l,vI k] (.bool (decide (0<=k/\k<l.length))):=λU=>by
 refine Vp.q ?_;have hl:=eL l;refine ag.mix 5 ?_;by_cases h0:k>=0
 .have q0:(k>=0)=True:=L' h0;by_cases h1:k<l.length
  .have q1:(k<l.length)=True:=L' h1;apply sR;simp only[go_sem,seval,JY,q0,q1,hl];exact ai.same (by simp)
  .have q1:(k<l.length)=False:=H' h1;apply sR;simp only[go_sem,seval,JY,q0,q1,hl];exact ai.same (by simp)
 .have q0:(k>=0)=False:=H' h0;apply sR;simp only[go_sem,seval,JY,q0];exact ai.same (by simp<;>omega)
def NA(l:List XA)(hl:jz l)(k:Nat)(hk:k<l.length):aE prog 108 [aT l,vI k] (vI (kS l k)):=λU=>by
 refine Vu.q ?_;have hs:=aa.refl U;have hh:=J3 l k;rw[XK (show(0:Int)<=k/\(k:Int)<l.length by omega)]at hh;have Xx:=λU=>dS (U:=U) hk;have hy:=hl.rng _ (Xo hk);have Yp:=hl.len;unfold kS;rw[ak (show(0:Int)<=k/\(k:Int)<l.length by omega),aV hk];refine mS 5 ?_;simp only[go_sem,seval,SO];refine pR rfl (hh _) ?_;by_cases h0:k=0
 .subst h0;have hix0:∀U,bp U 8 (aT l) (.int .i64 0)=some (.rp (bE l[0])):=Xx;have hb:fQ l ((0:Nat)-1:Int)=0:=by unfold fQ;rw[au (by omega)]
  rw[hb];apply sR;simp only[go_sem,seval,hix0,bE];exact ai.pure hs (by simp)
 .have q0:((k:Int)=0)=False:=H';have X6:k-1<l.length:=by omega
  have hix1:=λU=>dS (U:=U) X6;have hy1:=hl.rng _ (Xo X6);have ek:((k:Int)-1)=((k-1:Nat):Int):=by omega
  have hb:fQ l ((k:Int)-1)=l[k-1].y+l[k-1].h:=by unfold fQ;rw[ak (by omega),ek,aV X6]
  rw[hb];generalize l[k]=x at*;generalize l[k-1]=x1 at*;have r1:WI .i64 ((k:Int)-1):=ae;have r2:WI .i64 (x.y-x1.y):=ae;have r3:WI .i64 (x.y-x1.y-x1.h):=ae;have e:x.y-(x1.y+x1.h)=x.y-x1.y-x1.h:=by omega
  rw[e];apply sR;simp only[go_sem,seval,q0,Xx,ek,hix1,r2,r3,bE];exact⟨ae,ae,ai.pure hs rfl⟩
def lz(l:List XA)(s:XP):aE prog 97 [aT l,aL s] (.bool (decide (cT l s))):=λU=>by
 refine e97.q ?_;have hs:=aa.refl U;have hl:=eL l;obtain⟨a,d,fr⟩:=s;refine mS 5 ?_;simp only[go_sem,seval,c97,aL];refine al hs λi3 Z3 s3 a3 f3 _ hs=>?_;by_cases h0:a<0
 .have q0:(a<0)=True:=L' h0;simp only[go_sem,seval,a3,q0];exact ai.pure hs (by rw[XJ (λh:cT l ⟨a,d,fr⟩=>by have:=h.1.1;simp only at this;omega)])
 .have q0:(a<0)=False:=H' h0;by_cases h1:a>=l.length
  .have q1:(a>=l.length)=True:=L' h1;simp only[go_sem,seval,a3,q0,q1,hl];exact ai.pure hs (by rw[XJ (λh:cT l ⟨a,d,fr⟩=>by have:=h.1.2;simp only at this;omega)])
  .have q1:(a>=l.length)=False:=H' h1;obtain⟨n,rfl⟩:∃n:Nat,a=n:=⟨a.toNat,by omega⟩
   have hn:n<l.length:=by omega
   have Wz:=λU=>dS (U:=U) hn;have hg:=aV hn;have h00:(0:Int)<=n/\(n:Int)<l.length:=by omega
   by_cases h3:d=0
   .have q3:(d=0)=True:=L' h3;simp only[go_sem,seval,a3,q0,q1,q3,hl];have hh:cT l ⟨n,d,fr⟩:=⟨h00,by simp only;omega,.inl h3⟩
    exact ai.pure hs (by rw[XK hh])
   .have q3:(d=0)=False:=H' h3;by_cases h2:d>0
    .have q2:(d>0)=True:=L' h2;by_cases h4:d<l[n].h
     .have q4:(d<l[n].h)=True:=L' h4;simp only[go_sem,seval,a3,q0,q1,q2,q3,q4,hl,Wz,bE];have hh:cT l ⟨n,d,fr⟩:=⟨h00,by simp only;omega,.inr (by rw[hg];exact h4)⟩
      exact ai.pure hs (by rw[XK hh])
     .have q4:(d<l[n].h)=False:=H' h4;simp only[go_sem,seval,a3,q0,q1,q2,q3,q4,hl,Wz,bE];exact ai.pure hs (by rw[XJ (λh:cT l ⟨n,d,fr⟩=>by rcases h.2.2 with h|h;exact h3 h;rw[hg]at h;exact h4 h)])
    .have q2:(d>0)=False:=H' h2;simp only[go_sem,seval,a3,q0,q1,q2,q3,hl];exact ai.pure hs (by rw[XJ (λh:cT l ⟨n,d,fr⟩=>by have h5:=h.2.1;have h6:=h.2.2;simp only at h5 h6;omega)])
def Mp(l:List XA)(hl:jz l)(s:XP)(hd:s.done<=1152921504606846976):aE prog 66 [aT l,aL s] (vI (eY l s)):=λU=>by
 refine e66.q ?_;have hs:=aa.refl U;have hc:=lz l s;unfold eY;refine ag.mix 5 ?_;by_cases hm:cT l s
 .rw[XK hm]at hc;rw[ak hm];obtain⟨a,d,fr⟩:=s;obtain⟨⟨h0,h1⟩,h2,h3⟩:=hm;simp only at h0 h1 h2 h3 hd|-;obtain⟨n,rfl⟩:∃n:Nat,a=n:=⟨a.toNat,by omega⟩
  have hn:n<l.length:=by omega
  have Wz:=λU=>dS (U:=U) hn;have hy:=hl.rng _ (Xo hn);rw[aV hn];have r1:WI .i64 (l[n].h-d):=ae;apply sR;simp only[go_sem,seval,c66,aL];refine al hs λi3 Z3 s3 a3 f3 _ hs=>?_;simp only[go_sem,seval,a3];refine pS rfl (hc _) ?_;simp only[go_sem,seval,a3,Wz,r1,bE];exact ai.pure hs rfl
 .rw[XJ hm]at hc;rw[au hm];obtain⟨a,d,fr⟩:=s;apply sR;simp only[go_sem,seval,c66,aL];refine al hs λi3 Z3 s3 a3 f3 _ hs=>?_;simp only[go_sem,seval,a3];refine pS rfl (hc _) ?_;simp only[go_sem,seval];exact ai.pure hs rfl
open Go.Proofs
def Lp(l:List XA)(hl:jz l)(s:XP)(WX:Int):aE prog 67 [aT l,aL s,vI WX] (vI (gw l s WX)):=λU=>by
 refine e67.q ?_;have hs:=aa.refl U;have hc:=lz l s;unfold gw;refine ag.mix 8 ?_;by_cases hm:cT l s
 .rw[XK hm]at hc;obtain⟨a,d,fr⟩:=s;have hm0:=hm;obtain⟨⟨h0,h1⟩,h2,h3⟩:=hm;simp only at h0 h1 h2 h3|-;obtain⟨n,rfl⟩:∃n:Nat,a=n:=⟨a.toNat,by omega⟩
  have hn:n<l.length:=by omega
  cases fr
  .rw[au (by simp)];apply sR;simp only[go_sem,seval,c67,aL];refine al hs λi4 Z4 s4 a4 f4 _ hs=>?_;simp only[go_sem,seval,a4];refine pS rfl (hc _) ?_;simp only[go_sem,seval,a4];exact ai.pure hs rfl
  .by_cases hd:d>0
   .have qd:(d>0)=True:=L' hd;rw[au (by intro h;have:=h.2.2.1;omega)];apply sR;simp only[go_sem,seval,c67,aL];refine al hs λi4 Z4 s4 a4 f4 _ hs=>?_;simp only[go_sem,seval,a4];refine pS rfl (hc _) ?_;simp only[go_sem,seval,a4,qd];exact ai.pure hs rfl
   .have qd:(d>0)=False:=H' hd;obtain rfl:d=0:=by omega
    have Wz:=λU=>dS (U:=U) hn;have hy:=hl.rng _ (Xo hn);have hgc:=NA l hl n hn;have hgr:-1152921504606846976-2305843009213693952<=kS l n/\kS l n<=2305843009213693952:=by
     have:=nL hl ((n:Int)-1);unfold kS;rw[ak ⟨h0,h1⟩,aV hn];omega
    rw[aV hn];generalize kS l n=g at*;generalize l[n]=x at*;have r1:WI .i64 (g+x.h):=ae;apply sR;simp only[go_sem,seval,c67,aL];refine al hs λi4 Z4 s4 a4 f4 _ hs=>?_;simp only[go_sem,seval,a4];refine pS rfl (hc _) ?_;simp only[go_sem,seval,a4,qd];refine pR rfl (hgc _) ?_;by_cases hg:g+x.h>WX
    .have qg:(g+x.h>WX)=True:=L' hg;rw[au (by intro h;have h:=h.2;simp at h;omega)];apply sR;simp only[go_sem,seval,a4,Wz,bE,r1,qg];exact ai.pure hs rfl
    .have qg:(g+x.h>WX)=False:=H' hg;rw[ak (by refine⟨hm0,?_⟩;simp;omega)];apply sR;simp only[go_sem,seval,a4,Wz,bE,r1,qg];exact ai.pure hs rfl
 .rw[XJ hm]at hc;rw[au (λh=>hm h.1)];obtain⟨a,d,fr⟩:=s;apply sR;simp only[go_sem,seval,c67,aL];refine al hs λi4 Z4 s4 a4 f4 _ hs=>?_;simp only[go_sem,seval,a4];refine pS rfl (hc _) ?_;simp only[go_sem,seval];exact ai.pure hs rfl
def AI(l:List XA)(hl:jz l)(s:XP)(hm:cT l s)(hd:s.done<=1152921504606846976)(kept shift:Int)(k:Nat)(hk:-1152921504606846976<=kept/\kept<=1152921504606846976)(ZR:0<=shift/\shift<=1152921504606846976)(X6:s.atom<=k)(Yf:k<l.length):
 aE prog 113 [aT l,aL s,vI kept,vI shift,vI k] (vI (cj l s kept shift k)):=λU=>by
 refine Vd.q ?_;have hs:=aa.refl U;have hc:=lz l s;have Yp:=eL l;rw[XK hm]at hc;unfold cj;rw[ak ⟨hm,X6,by omega⟩];obtain⟨a,d,fr⟩:=s;obtain⟨⟨h0,h1⟩,h2,h3⟩:=hm;simp only at h0 h1 h2 h3 hd X6|-;obtain⟨n,rfl⟩:∃n:Nat,a=n:=⟨a.toNat,by omega⟩
 have hn:n<l.length:=by omega
 have Wz:=λU=>dS (U:=U) hn;have hidx2:=λU=>dS (U:=U) Yf;have hy:=hl.rng _ (Xo hn);have hy2:=hl.rng _ (Xo Yf);unfold fp;rw[ak ⟨⟨h0,h1⟩,by omega,by omega⟩,aV hn,aV Yf];generalize l[n]=x at*;generalize l[k]=x2 at*;have q1:((k:Int)<n)=False:=H';have q2:((k:Int)>=l.length)=False:=H';have r1:WI .i64 (x2.y-x.y):=ae;have r2:WI .i64 (x2.y-x.y-d):=ae;have r3:WI .i64 (x2.y-x.y-d+kept):=ae;have r4:WI .i64 (x2.y-x.y-d+kept+shift):=ae;refine mS 11 ?_;simp only[go_sem,seval,O3,aL];refine al hs λi6 Z6 s6 a6 f6 _ hs=>?_;simp only[go_sem,seval,a6];refine pS rfl (hc _) ?_;simp only[go_sem,seval,a6,Yp,q1,q2,Wz,hidx2,bE,r1,r2,r3,r4];exact ai.pure hs rfl
def LN(l:List XA)(hl:jz l)(s:XP)(hm:cT l s)(hd:s.done<=1152921504606846976)(kept shift body:Int)(k:Nat)(hk:-1152921504606846976<=kept/\kept<=1152921504606846976)(ZR:0<=shift/\shift<=1152921504606846976)(X6:s.atom<=k)(Yf:k<l.length):
 aE prog 111 [aT l,aL s,vI kept,vI shift,vI body,vI k] (.bool (decide (cj l s kept shift k+l[k].h<=body))):=λU=>by
 refine UL.q ?_;have hs:=aa.refl U;have hc:=AI l hl s hm hd kept shift k hk ZR X6 Yf;have hidx2:=λU=>dS (U:=U) Yf;have hy2:=hl.rng _ (Xo Yf);have hpr:-4611686018427387904<=cj l s kept shift k/\cj l s kept shift k<=6917529027641081856:=by
  have hm0:=hm;obtain⟨⟨h0,h1⟩,h2,h3⟩:=hm;obtain⟨n,hn'⟩:∃n:Nat,s.atom=n:=⟨s.atom.toNat,by omega⟩
  have hn:n<l.length:=by omega
  have hy:=hl.rng _ (Xo hn);rw[cj,ak ⟨hm0,X6,by omega⟩,fp,ak ⟨⟨h0,h1⟩,by omega,by omega⟩,hn',aV hn,aV Yf];omega
 obtain⟨a,d,fr⟩:=s;generalize cj l ⟨a,d,fr⟩ kept shift k=p at*;generalize l[k]=x2 at*;have r1:WI .i64 (p+x2.h):=ae;refine mS 13 ?_;simp only[go_sem,seval,R4,aL];refine al hs λi7 Z7 s7 a7 f7 _ hs=>?_;simp only[go_sem,seval,a7];refine pJ rfl hc ?_;apply sG;simp only[go_sem,seval,hidx2,bE,r1];exact ai.pure hs rfl
open Go.Proofs
def Me{m:Int}(h1:0<=m)(h2:m<=18446744073709551615):WI .u64 m:=by
 unfold WI IntKind.wrap;simp only[IntKind.signed,IntKind.bits];simp;omega
def lD(p:Nat->Bool):Nat->Nat->Nat->Nat
 |0,i,_=>i
 |f+1,i,j=>if i<j then if p ((i+j)/2)then lD p f i ((i+j)/2)else lD p f ((i+j)/2+1) j else i
def C8(p:Nat->Bool)(n:Nat):Nat:=lD p n 0 n
def n9(p:Nat->Bool):∀(f g i j:Nat),j-i<=f->j-i<=g->lD p f i j=lD p g i j
 |0,0,_,_,_,_=>rfl
 |0,g+1,i,j,h,_=>by rw[lD,lD,au (by omega)]
 |f+1,0,i,j,_,h=>by rw[lD,lD,au (by omega)]
 |f+1,g+1,i,j,h1,h2=>by
  rw[lD,lD];split
  .rename_i B';split
   .exact n9 p f g i ((i+j)/2) (by omega) (by omega)
   .exact n9 p f g ((i+j)/2+1) j (by omega) (by omega)
  .rfl
def H3{f:FuncId}{caps:List V}(p:Nat->Bool)(n:Nat)(hn:n<=1000000000){U:ad}(hf:∀i:Nat,i<n->av prog f (vI i::caps) U λr Z'=>r=.bool (p i)/\Z'=U):
 av prog 155 [vI n,.fn f caps] U λr Z'=>r=vI (C8 p n)/\Z'=U:=by
 refine Wj.q ?_;refine mS 8 ?_;simp only[go_sem,seval,R5];refine ag.loop (λm st=>∃i j:Nat,i<=j/\j<=n/\m=j-i/\C8 p n=lD p (j-i) i j/\st.U=U/\st.s 1=.fn f caps/\st.s 5=vI i/\st.s 6=vI j) n ?_ ?_
 .exact⟨0,n,by omega,by omega,rfl,rfl,rfl,rfl,rfl,rfl⟩
 .rintro m ⟨S,J⟩ ⟨i,j,hij,hjn,rfl,heq,WY,t1,t5,t6⟩;simp only at WY t1 t5 t6;subst WY;refine ag.mix 8 ?_;by_cases B':i<j
  .have q:((i:Int)<j)=True:=L';have r1:WI .i64 ((i:Int)+j):=ae;apply sR;simp only[go_sem,seval,t1,t5,t6,q,r1];have hh:((i:Int)+j).fdiv (2^min 1 64)=(((i+j)/2:Nat):Int):=by
    rw[show(2^min 1 64:Int)=2 from rfl,Int.fdiv_eq_ediv_of_nonneg _ (by decide)];omega
   rw[hh];refine⟨Me (by omega) (by omega),ae,?_⟩;obtain⟨k,hk⟩:∃k:Nat,k=(i+j)/2:=⟨_,rfl⟩
   rw[<-hk];obtain⟨w,hw⟩:∃w:Nat,j-i=w+1:=⟨j-i-1,by omega⟩
   rw[hw,lD,ak B',<-hk]at heq;refine pR rfl (hf k (by omega)) ?_;have r2:=rI k;cases hp:p k
   .rw[hp]at heq;apply sR;simp only[go_sem,seval,t1,t6,r2];refine⟨_,?_,k+1,j,by omega,hjn,rfl,?_,by simp⟩
    .omega
    .rw[heq];exact n9 p _ _ _ _ (by omega) (by omega)
   .rw[hp]at heq;apply sR;simp only[go_sem,seval,t1,t5];refine⟨_,?_,i,k,by omega,by omega,rfl,?_,by simp⟩
    .omega
    .rw[heq];exact n9 p _ _ _ _ (by omega) (by omega)
  .have q:((i:Int)<j)=False:=H';have YP:i=j:=by omega
   subst YP;apply sR;simp only[go_sem,seval,t5,t6,q];refine ai.same ?_;rw[heq,Nat.sub_self];rfl
open Go.Proofs
def gk(l:List XA)(s:XP)(kept shift body:Int)(n:Nat):Bool:=decide (cj l s kept shift (s.atom+n)+(atG l (s.atom+n)).h>body)
def iz(l:List XA)(s:XP)(kept shift body:Int):Int:=if cT l s then s.atom+C8 (gk l s kept shift body) (l.length-s.atom.toNat)else 0
def yX(p:Nat->Bool):∀(f i j:Nat),i<=j->lD p f i j<=j
 |0,i,j,h=>h
 |f+1,i,j,h=>by
  rw[lD];split
  .split
   .exact jP (yX p f _ _ (by omega)) (by omega)
   .exact yX p f _ _ (by omega)
  .exact h
def Ei(p:Nat->Bool)(n:Nat):C8 p n<=n:=yX p n 0 n (Nat.zero_le n)
def pq{l:List XA}(hl:jz l){s:XP}(hd:s.done<=1152921504606846976){kept shift:Int}(hk:-1152921504606846976<=kept/\kept<=2305843009213693952)(ZR:0<=shift/\shift<=1152921504606846976)(k:Int):
 -4611686018427387904<=cj l s kept shift k/\cj l s kept shift k<=5764607523034234880:=by
 unfold cj;have h1:=tf hl s.atom k;split
 .rename_i h;have:=h.1.2.1;omega
 .omega
def IQ(l:List XA)(hl:jz l)(s:XP)(hm:cT l s)(hd:s.done<=1152921504606846976)(kept shift body:Int)(hk:-1152921504606846976<=kept/\kept<=2305843009213693952)(ZR:0<=shift/\shift<=1152921504606846976)
 {U:ad}{i5 i6 i7 i8 i9:Nat}(a5:U i5=some ⟨35,1,[aT l]⟩)(a6:U i6=some ⟨24,3,[aL s]⟩)(a7:U i7=some ⟨3,1,[vI kept]⟩)(a8:U i8=some ⟨3,1,[vI shift]⟩)(a9:U i9=some ⟨3,1,[vI body]⟩)
 (n:Nat)(hn:n<l.length-s.atom.toNat):
 av prog 156 [vI n,.ptr i6 0 0,.ptr i5 0 0,.ptr i7 0 0,.ptr i8 0 0,.ptr i9 0 0] U λr Z'=>r=.bool (gk l s kept shift body n)/\Z'=U:=by
 refine U4.q ?_;have hpr:=pq hl hd hk ZR (s.atom+n);have hpc:=B8 l hl s hd kept shift (s.atom+n) hk ZR;unfold gk;have hll:=hl.len;obtain⟨a,d,fr⟩:=s;obtain⟨h0,h1⟩:=hm.1;rw[aL]at a6 hpc;simp only at h0 h1 hn hpr hpc|-;obtain⟨m,rfl⟩:∃m:Nat,a=m:=⟨a.toNat,by omega⟩
 have e1:(m:Int)+(n:Int)=((m+n:Nat):Int):=by omega
 rw[e1]at hpr hpc|-;have hmn:m+n<l.length:=by omega
 have Wz:=λU=>dS (U:=U) hmn;have hy:=hl.rng _ (Xo hmn);rw[aV hmn];have r1:WI .i64 ((m+n:Nat):Int):=ae;generalize cj l ⟨m,d,fr⟩ kept shift ((m+n:Nat):Int)=P at*;have r2:WI .i64 (P+l[m+n].h):=ae;generalize m+n=q at*;refine ag.mix 9 ?_;by_cases hb:P+l[q].h>body
 .have q1:(P+l[q].h>body)=True:=L' hb;apply sR;simp only[go_sem,seval,NU,a5,a6,a7,a8,e1,r1,df];refine pJ rfl hpc ?_;apply sG;simp only[go_sem,seval,a5,a9,r2,Wz,bE,q1,df];exact ai.same rfl
 .have q1:(P+l[q].h>body)=False:=H' hb;apply sR;simp only[go_sem,seval,NU,a5,a6,a7,a8,e1,r1,df];refine pJ rfl hpc ?_;apply sG;simp only[go_sem,seval,a5,a9,r2,Wz,bE,q1,df];exact ai.same rfl
def HB(l:List XA)(hl:jz l)(s:XP)(hd:s.done<=1152921504606846976)(kept shift body:Int)(hk:-1152921504606846976<=kept/\kept<=2305843009213693952)(ZR:0<=shift/\shift<=1152921504606846976):
 aE prog 103 [aT l,aL s,vI kept,vI shift,vI body] (vI (iz l s kept shift body)):=λU=>by
 refine Wn.q ?_;have hs:=aa.refl U;have hc:=rG l s;have hlen:=eL l;have hll:=hl.len;refine ag.mix 12 ?_;have hsc:(aL s).cells=[vI s.atom,vI s.done,.bool s.free]:=rfl;have hss:(aL s).stays=true:=rfl;apply sR;simp only[go_sem,seval,Ru,df,iP];refine al hs λi5 Z5 s5 a5 f5 _ hs=>?_;simp only[go_sem,seval,hsc,hss];refine al hs λi6 Z6 s6 a6 f6 _ hs=>?_;replace a5:=s6 _ _ a5;simp only[go_sem,seval];refine al hs λi7 Z7 s7 a7 f7 _ hs=>?_;replace a5:=s7 _ _ a5;replace a6:=s7 _ _ a6;simp only[go_sem,seval];refine al hs λi8 Z8 s8 a8 f8 _ hs=>?_;replace a5:=s8 _ _ a5;replace a6:=s8 _ _ a6;replace a7:=s8 _ _ a7;simp only[go_sem,seval];refine al hs λi9 Z9 s9 a9 f9 _ hs=>?_;replace a5:=s9 _ _ a5;replace a6:=s9 _ _ a6;replace a7:=s9 _ _ a7;replace a8:=s9 _ _ a8;have b6:=a6;rw[aL]at b6;simp only[go_sem,seval,a5,b6,df];refine pR rfl (hc _) ?_;unfold iz;by_cases hm:cT l s
 .obtain⟨h0,h1⟩:=hm.1;obtain⟨m,hmm⟩:∃m:Nat,s.atom=m:=⟨s.atom.toNat,by omega⟩
  have hn:((l.length:Int)-s.atom)=((l.length-s.atom.toNat:Nat):Int):=by omega
  have r1:WI .i64 ((l.length-s.atom.toNat:Nat):Int):=ae;rw[XK hm,ak hm];apply sR;simp only[go_sem,seval,a5,b6,hlen,hn,r1,df];refine pR rfl (H3 (gk l s kept shift body) (l.length-s.atom.toNat) (by omega) (λi hi=>IQ l hl s hm hd kept shift body hk ZR a5 a6 a7 a8 a9 i hi)) ?_;have hse:=Ei (gk l s kept shift body) (l.length-s.atom.toNat);have r2:WI .i64 (s.atom+(C8 (gk l s kept shift body) (l.length-s.atom.toNat):Nat)):=ae;apply sR;simp only[go_sem,seval,b6,r2];exact ai.pure hs rfl
 .rw[XJ hm,au hm];apply sR;simp only[go_sem,seval];exact ai.pure hs rfl
open Go.Proofs
structure Yx where
 (node atom fr x y w h:Int)
deriving DecidableEq
def aJ(f:Yx):V:=.agg [vI f.node,vI f.atom,vI f.fr,vI f.x,vI f.y,vI f.w,vI f.h]
def ia(l:List XA)(k:Int):Yx:=⟨(atG l k).node,k,0,(atG l k).x,0,(atG l k).w,(atG l k).h⟩
def Yx.bS(f:Yx)(d:Int):Yx:={ f with fr:=d,h:=f.h-d }
def Yx.cut(f:Yx)(a:Int):Yx:={ f with h:=min f.h a }
def jI(l:List XA)(f:Yx):XP:=if f.fr+f.h<(atG l f.atom).h then⟨f.atom,f.fr+f.h,false⟩else⟨f.atom+1,0,false⟩
def Ib(l:List XA)(k:Nat)(hk:k<l.length):aE prog 211 [aT l,vI k] (aJ (ia l k)):=λU=>by
 refine Vy.q ?_;have hs:=aa.refl U;have Wz:=λU=>dS (U:=U) hk;rw[ia,aV hk];refine mS 6 ?_;simp only[go_sem,seval,Rf];refine al hs λi4 Z4 s4 a4 f4 z4 hs=>?_;simp only[go_sem,seval,Wz,bE];refine al hs λi5 Z5 s5 a5 f5 z5 hs=>?_;obtain⟨ZW,a4⟩:=WG a4 f5 s5;simp only[go_sem,seval,a5,a4,ab ZW];exact ai.pure ((hs.ao z5).ao z4) rfl
def Cl(f:Yx)(d:Int)(hr:WI .i64 (f.h-d)){U:ad}{i:Nat}(h:U i=some ⟨287,7,[aJ f]⟩):
 av prog 212 [.ptr i 0 0,vI d] U λ_ Z'=>Z'=C' U i ⟨287,7,[aJ (f.bS d)]⟩:=by
 refine Ur.q ?_;rw[aJ]at h;refine ag.mix 4 ?_;generalize hX:(C' U i ⟨287,7,[aJ (f.bS d)]⟩)=X;apply sR;simp only[go_sem,seval,QN,h,hr];exact XX hX
def LC(f:Yx)(a:Int){U:ad}{i:Nat}(h:U i=some ⟨287,7,[aJ f]⟩):
 av prog 213 [.ptr i 0 0,vI a] U λ_ Z'=>Z'=C' U i ⟨287,7,[aJ (f.cut a)]⟩:=by
 refine Ut.q ?_;rw[aJ]at h;refine ag.mix 4 ?_;generalize hX:(C' U i ⟨287,7,[aJ (f.cut a)]⟩)=X;apply sR;simp only[go_sem,seval,RI,h,dN];exact XX hX
def Dt(l:List XA)(f:Yx)(k:Nat)(hf:f.atom=k)(hk:k<l.length)(hl:l.length<=1000000000)(hr:WI .i64 (f.fr+f.h)){U:ad}{i:Nat}(h:U i=some ⟨287,7,[aJ f]⟩):
 av prog 214 [.ptr i 0 0,aT l] U λr Z'=>r=aL (jI l f)/\Z'=U:=by
 refine Ue.q ?_;have hs:=aa.refl U;have Wz:=λU=>dS (U:=U) hk;obtain⟨nd,W3,fr,x,y,w,hh⟩:=f;simp only at hf hr;subst hf;rw[aJ]at h;unfold jI;simp only;rw[aV hk];have r1:=rI k;refine mS 6 ?_;simp only[go_sem,seval,SN];refine al hs λi4 Z4 s4 a4 f4 z4 hs=>?_;have b:=s4 _ _ h;by_cases hc:fr+hh<l[k].h
 .have q:(fr+hh<l[k].h)=True:=L' hc;rw[ak hc];simp only[go_sem,seval,a4,b,hr,q,Wz,bE];exact ai.pure (hs.ao z4) rfl
 .have q:(fr+hh<l[k].h)=False:=H' hc;rw[au hc];simp only[go_sem,seval,a4,b,hr,r1,q,Wz,bE];exact ai.pure (hs.ao z4) rfl
open Go.Proofs
def cc{s:Nat->V}{U:ad}{a1 a2:Bool}{n1 n2 d e:Nat}{Post:V->ad->Prop}:
 Ret [.cell a1 n1 (.t d),.cell a2 n2 (.t e)] ⟨s,U⟩ Post=ed (bO U a1 n1 (s d)) λv=>ed (bO U a2 n2 (s e)) λw=>ai (.WC [v,w]) U Post:=by
 unfold Ret ai oT;simp only[fq,iy,VX.ev];cases bO U a1 n1 (s d)<;>cases bO U a2 n2 (s e)<;>simp[ed]
def eZ(l:List XA)(s:XP)(WX:Int):Yx:=((ia l s.atom).bS s.done).cut WX
def tS(l:List XA)(s:XP)(WX:Int):Prop:=cT l s/\1<=WX
instance (l:List XA) (s:XP) (WX:Int):Decidable (tS l s WX):=by unfold tS;infer_instance
def jV(l:List XA)(s:XP)(WX:Int):Yx:=if tS l s WX then eZ l s WX else⟨0,0,0,0,0,0,0⟩
def fm(l:List XA)(s:XP)(WX:Int):XP:=if tS l s WX then jI l (eZ l s WX)else⟨0,0,false⟩
def NI(l:List XA)(hl:jz l)(s:XP)(hd:s.done<=1152921504606846976)(WX:Int):aE prog 158 [aT l,aL s,vI WX] (.WC [aJ (jV l s WX),aL (fm l s WX)]):=λU=>by
 refine Tp.q ?_;have hs:=aa.refl U;have hll:=hl.len;have hsc:(aL s).cells=[vI s.atom,vI s.done,.bool s.free]:=rfl;have hss:(aL s).stays=true:=rfl;refine mS 9 ?_;simp only[go_sem,seval,RR,hsc,hss];refine al hs λi4 Z4 s4 a4 f4 _ hs=>?_;simp only[go_sem,seval];refine al hs λi6 Z6 s6 a6 f6 z6 hs=>?_;replace a4:=s6 _ _ a4;simp only[go_sem,seval];refine al hs λi7 Z7 s7 a7 f7 z7 hs=>?_;replace a4:=s7 _ _ a4;obtain⟨n67,a6⟩:=WG a6 f7 s7;have b4:=a4;rw[aL]at b4;simp only[go_sem,seval,b4];refine pR rfl (rG l s _) ?_;have bad:¬tS l s WX->(aJ (jV l s WX)=.agg [vI 0,vI 0,vI 0,vI 0,vI 0,vI 0,vI 0]/\aL (fm l s WX)=.agg [vI 0,vI 0,.bool false]):=λh=>by
  rw[jV,fm,au h,au h];exact⟨rfl,rfl⟩
 have good:tS l s WX->(jV l s WX=eZ l s WX/\fm l s WX=jI l (eZ l s WX)):=λh=>⟨ak h,ak h⟩
 generalize jV l s WX=X at*;generalize fm l s WX=Y at*;by_cases hm:cT l s
 .rw[XK hm];by_cases h1:WX<1
  .have q1:(WX<1)=True:=L' h1;obtain⟨e1,e2⟩:=bad (λh=>by have:=h.2;omega);rw[e1,e2];apply sR;simp only[go_sem,seval,a6,a7,ab n67,ab n67.symm,q1,cc];exact ai.pure ((hs.ao z6).ao z7) rfl
  have q1:(WX<1)=False:=H' h1;obtain⟨rfl,rfl⟩:=good ⟨hm,by omega⟩;clear good bad;obtain⟨h0,h2⟩:=hm.1;obtain⟨k,hk⟩:∃k:Nat,s.atom=k:=⟨s.atom.toNat,by omega⟩
  have Zb:k<l.length:=by omega
  apply sR;simp only[go_sem,seval,b4,hk,q1];refine pR rfl (Ib l k Zb _) ?_;have hfc:∀f,(aJ f).cells=[vI f.node,vI f.atom,vI f.fr,vI f.x,vI f.y,vI f.w,vI f.h]:=λ_=>rfl;apply sR;simp only[go_sem,seval];refine al hs λi8 Z8 s8 a8 f8 z8 hs=>?_;obtain⟨ZS,a4⟩:=WG a4 f8 s8;obtain⟨n68,a6⟩:=WG a6 f8 s8;obtain⟨n78,a7⟩:=WG a7 f8 s8;have hd0:=hm.2.1;have hy:=hl.rng _ (Xo Zb);have hdh:s.done=0\/s.done<l[k].h:=by have:=hm.2.2;rw[hk,aV Zb]at this;exact this
  have hph:(ia l k).h=l[k].h:=by rw[ia,aV Zb]
  have hfs:∀f,(aJ f).stays=true:=λ_=>rfl;rw[aL]at a4;simp only[go_sem,seval,a8,a4,ab ZS,hfc,hfs];generalize Yc:C' _ i8 _=Y8;replace a8:=XD Yc;replace a4:=WQ Yc ZS a4;replace a6:=WQ Yc n68 a6;replace a7:=WQ Yc n78 a7;replace hs:=Xz Yc hs z8;have h8:Y8 i8=some ⟨287,7,[aJ (ia l k)]⟩:=a8;refine Yn rfl (Cl (ia l k) s.done (ae) h8) ?_;rintro-Z9 rfl;generalize Yc:C' _ i8 _=Y8;replace a8:=XD Yc;replace a4:=WQ Yc ZS a4;replace a6:=WQ Yc n68 a6;replace a7:=WQ Yc n78 a7;replace hs:=Xz Yc hs z8;apply sR;simp only[go_sem,seval];refine Yn rfl (LC ((ia l k).bS s.done) WX a8) ?_;rintro-Z9 rfl;generalize Yc:C' _ i8 _=Y8;replace a8:=XD Yc;replace a4:=WQ Yc ZS a4;replace a6:=WQ Yc n68 a6;replace a7:=WQ Yc n78 a7;replace hs:=Xz Yc hs z8;have hsl:((ia l k).bS s.done).cut WX=eZ l s WX:=by rw[eZ,hk]
  rw[hsl]at a8;have ha:(eZ l s WX).atom=k:=by rw[<-hsl];rfl
  have hfr:(eZ l s WX).fr=s.done:=by rw[<-hsl];rfl
  have hhh:(eZ l s WX).h=min (l[k].h-s.done) WX:=by rw[<-hsl,<-hph];rfl
  have hbe:=λ(Z1:ad) (h1:aa Y8 Z1)=>Dt l (eZ l s WX) k ha Zb hll (ae) (h1 _ _ a8);generalize jI l (eZ l s WX)=Y at*;generalize eZ l s WX=X at*;have b8:=a8;rw[aJ]at b8;apply sR;simp only[go_sem,seval,b8];refine Go.zt rfl rfl rfl (λZ1 h1=>hbe Z1 h1) ?_;have hyc:(aL Y).cells=[vI Y.atom,vI Y.done,.bool Y.free]:=rfl;have hys:(aL Y).stays=true:=rfl;apply sG;simp only[go_sem,seval,a6,a7,ab n67,ab n67.symm,hyc,hys,cc];exact ai.pure ((hs.ao z6).ao z7) rfl
 .rw[XJ hm];obtain⟨e1,e2⟩:=bad (λh=>hm h.1);rw[e1,e2];apply sR;simp only[go_sem,seval,a6,a7,ab n67,ab n67.symm,cc];exact ai.pure ((hs.ao z6).ao z7) rfl
open Go.Proofs
def nr(l:List XA)(k:Int)(y:Int):Yx:={ ia l k with y:=y }
def dK(l:List XA)(s:XP)(kept shift k:Int):Yx:=
 if cT l s/\s.atom<=k/\k<l.length then
  (if k=s.atom then{ (nr l k (cj l s kept shift k)).bS s.done with y:=cj l s kept shift k+s.done }else nr l k (cj l s kept shift k))
 else⟨0,0,0,0,0,0,0⟩
def Gg(l:List XA)(hl:jz l)(s:XP)(hd:s.done<=1152921504606846976)(kept shift k:Int)(hk:-1152921504606846976<=kept/\kept<=2305843009213693952)(ZR:0<=shift/\shift<=1152921504606846976):
 aE prog 160 [aT l,aL s,vI kept,vI shift,vI k] (aJ (dK l s kept shift k)):=λU=>by
 refine UM.q ?_;have hs:=aa.refl U;have hlen:=eL l;have hsc:(aL s).cells=[vI s.atom,vI s.done,.bool s.free]:=rfl;have hss:(aL s).stays=true:=rfl;have hpc:=B8 l hl s hd kept shift k hk ZR;have hpr:=pq hl hd hk ZR k;refine mS 12 ?_;simp only[go_sem,seval,Tg,hsc,hss];refine al hs λi6 Z6 s6 a6 f6 z6 hs=>?_;simp only[go_sem,seval];refine al hs λi10 Z10 Yt Xm f10 Zn hs=>?_;obtain⟨n610,a6⟩:=WG a6 f10 Yt;rw[aL]at a6 hpc;simp only[go_sem,seval,a6];refine pR rfl (rG l s _) ?_;have bad:¬(cT l s/\s.atom<=k/\k<l.length)->aJ (dK l s kept shift k)=.agg [vI 0,vI 0,vI 0,vI 0,vI 0,vI 0,vI 0]:=λh=>by
  rw[dK,au h];rfl
 have good:(cT l s/\s.atom<=k/\k<l.length)->dK l s kept shift k=(if k=s.atom then{ (nr l k (cj l s kept shift k)).bS s.done with y:=cj l s kept shift k+s.done }else nr l k (cj l s kept shift k)):=λh=>ak h;generalize dK l s kept shift k=X at*;by_cases hm:cT l s
 .rw[XK hm];by_cases h1:k<s.atom
  .have q1:(k<s.atom)=True:=L' h1;rw[bad (λh=>by omega)];apply sR;simp only[go_sem,seval,a6,Xm,q1];exact ai.pure (hs.ao Zn) rfl
  have q1:(k<s.atom)=False:=H' h1;by_cases h2:k>=l.length
  .have q2:(k>=l.length)=True:=L' h2;rw[bad (λh=>by omega)];apply sR;simp only[go_sem,seval,a6,Xm,q1,q2,hlen];exact ai.pure (hs.ao Zn) rfl
  have q2:(k>=l.length)=False:=H' h2;obtain rfl:=good ⟨hm,by omega,by omega⟩;clear good bad;obtain⟨h0,h3⟩:=hm.1;obtain⟨n,rfl⟩:∃n:Nat,k=n:=⟨k.toNat,by omega⟩
  have Yb:n<l.length:=by omega
  apply sR;simp only[go_sem,seval,a6,q1,q2,hlen];refine pR rfl (Ib l n Yb _) ?_;have hfc:∀f,(aJ f).cells=[vI f.node,vI f.atom,vI f.fr,vI f.x,vI f.y,vI f.w,vI f.h]:=λ_=>rfl;have hfs:∀f,(aJ f).stays=true:=λ_=>rfl;generalize cj l s kept shift (n:Int)=P at*;apply sR;simp only[go_sem,seval];refine al hs λi11 Z11 s11 XF f11 z11 hs=>?_;obtain⟨n611,a6⟩:=WG a6 f11 s11;obtain⟨YA,Xm⟩:=WG Xm f11 s11;simp only[go_sem,seval,XF,a6,ab n611,hfc,hfs];generalize Xs:C' _ i11 _=Y11;replace XF:=XD Xs;replace a6:=WQ Xs n611 a6;replace Xm:=WQ Xs YA Xm;replace hs:=Xz Xs hs z11;refine pR rfl (hpc _) ?_;rw[aJ]at XF;have hd0:=hm.2.1;have hy:=hl.rng _ (Xo Yb);have hph:(ia l n).h=l[n].h:=by rw[ia,aV Yb]
  by_cases he:(n:Int)=s.atom
  .have q3:((n:Int)=s.atom)=True:=L' he;rw[ak he];have r2:WI .i64 (P+s.done):=ae;apply sR;simp only[go_sem,seval,XF,a6,q3,ab n611];generalize Xs:C' _ i11 _=Y11;replace XF:=XD Xs;replace a6:=WQ Xs n611 a6;replace Xm:=WQ Xs YA Xm;replace hs:=Xz Xs hs z11;have h11:Y11 i11=some ⟨287,7,[aJ (nr l n P)]⟩:=XF;refine Yn rfl (Cl (nr l n P) s.done (ae (by show _<=(ia l n).h-s.done;omega) (by show(ia l n).h-s.done<=_;omega)) h11) ?_;rintro-Z9 rfl;generalize Xs:C' _ i11 _=Y11;replace XF:=XD Xs;replace a6:=WQ Xs n611 a6;replace Xm:=WQ Xs YA Xm;replace hs:=Xz Xs hs z11;rw[aJ]at XF;have r3:WI .i64 (((nr l n P).bS s.done).y+s.done):=r2;apply sR;simp only[go_sem,seval,XF,a6,Xm,r3,ab YA];exact ai.pure ((hs.ao z11).ao Zn) rfl
  .have q3:((n:Int)=s.atom)=False:=H' he;rw[au he];apply sR;simp only[go_sem,seval,XF,a6,Xm,q3,ab n611,ab YA];exact ai.pure ((hs.ao z11).ao Zn) rfl
 .rw[XJ hm];rw[bad (λh=>hm h.1)];apply sR;simp only[go_sem,seval,Xm];exact ai.pure (hs.ao Zn) rfl
open Go.Proofs
def mulR(a n:Int):Int:=
 if du n≠0/\(du a>(1099511627776:Int).tdiv (max (du n) (-du n))\/du a<(-1099511627776:Int).tdiv (max (du n) (-du n)))then
  (if decide (du a<0)=decide (du n<0)then 1099511627776 else -1099511627776)
 else du a*du n
def Mo{A B:Int}(h1:A<=(1099511627776:Int).tdiv (max B (-B)))(h2:(-1099511627776:Int).tdiv (max B (-B))<=A)(hB:B≠0):-1099511627776<=A*B/\A*B<=1099511627776:=by
 obtain⟨M,hM⟩:∃M,M=max B (-B):=⟨_,rfl⟩
 rw[<-hM]at h1 h2;have hM1:1<=M:=by omega
 rw[Int.neg_tdiv]at h2;rw[Int.tdiv_eq_ediv_of_nonneg (by omega)]at h1 h2;have h3:(1099511627776:Int)/M*M<=1099511627776:=Int.ediv_mul_le _ (by omega);have h4:=Int.mul_le_mul_of_nonneg_right h1 (by omega:0<=M);have h5:=Int.mul_le_mul_of_nonneg_right h2 (by omega:0<=M);rw[Int.neg_mul]at h5;rcases(by omega:M=B\/M=-B)with e|e
 .rw[e]at h4 h5 h3;omega
 .have hb:B=-M:=by omega
  rw[hb,Int.mul_neg];omega
def Qy(a n:Int):aE prog 32 [vI a,vI n] (vI (mulR a n)):=λU=>by
 refine e32.q ?_;refine mS 5 ?_;simp only[go_sem,seval,c32];refine pS rfl (A0 a _) ?_;simp only[go_sem,seval];refine pR rfl (A0 n _) ?_;unfold mulR;have hA:-1099511627776<=du a/\du a<=1099511627776:=by unfold du;omega
 have hB:-1099511627776<=du n/\du n<=1099511627776:=by unfold du;omega
 generalize du a=A at*;generalize du n=B at*;have b1:(true==true)=true:=rfl;have b2:(true==false)=false:=rfl;have b3:(false==true)=false:=rfl;have b4:(false==false)=true:=rfl;by_cases h0:B=0
 .subst h0;have q0:((0:Int)≠0)=False:=H' (λh=>h rfl);have r1:WI .i64 (A*0):=ae;apply sR;simp only[go_sem,seval,q0,r1];exact ai.same (by rw[au (by simp)])
 have q0:(B≠0)=True:=L' h0;have hM1:1<=max B (-B)/\max B (-B)<=1099511627776:=by omega
 have qM:(max B (-B)=0)=False:=H';have rn:WI .i64 (-B):=ae;have t1:0<=(1099511627776:Int).tdiv (max B (-B))/\(1099511627776:Int).tdiv (max B (-B))<=1099511627776:=by
  rw[Int.tdiv_eq_ediv_of_nonneg (by omega)];exact⟨Int.ediv_nonneg (by omega) (by omega),Int.ediv_le_self _ (by omega)⟩
 have t2:(-1099511627776:Int).tdiv (max B (-B))=-((1099511627776:Int).tdiv (max B (-B))):=Int.neg_tdiv ..;have hr:=Mo (A:=A) (B:=B);have rq1:WI .i64 ((1099511627776:Int).tdiv (max B (-B))):=ae;have rq2:WI .i64 ((-1099511627776:Int).tdiv (max B (-B))):=ae;by_cases h1:A>(1099511627776:Int).tdiv (max B (-B))
 .have q1:(A>(1099511627776:Int).tdiv (max B (-B)))=True:=L' h1;rw[ak ⟨h0,.inl h1⟩];by_cases sA:A<0
  .have qA:(A<0)=True:=L' sA;by_cases sB:B<0
   .have qB:(B<0)=True:=L' sB;apply sR;simp only[go_sem,seval,q0,Int.zero_sub,rn,cg,qM,rq1,q1,qA,qB,b1];exact ai.same (by first|rfl|simp[sA,sB])
   .have qB:(B<0)=False:=H' sB;apply sR;simp only[go_sem,seval,q0,Int.zero_sub,rn,cg,qM,rq1,q1,qA,qB,b2];exact ai.same (by first|rfl|simp[sA,sB])
  .have qA:(A<0)=False:=H' sA;by_cases sB:B<0
   .have qB:(B<0)=True:=L' sB;apply sR;simp only[go_sem,seval,q0,Int.zero_sub,rn,cg,qM,rq1,q1,qA,qB,b3];exact ai.same (by first|rfl|simp[sA,sB])
   .have qB:(B<0)=False:=H' sB;apply sR;simp only[go_sem,seval,q0,Int.zero_sub,rn,cg,qM,rq1,q1,qA,qB,b4];exact ai.same (by first|rfl|simp[sA,sB])
 have q1:(A>(1099511627776:Int).tdiv (max B (-B)))=False:=H' h1;by_cases h2:A<(-1099511627776:Int).tdiv (max B (-B))
 .have q2:(A<(-1099511627776:Int).tdiv (max B (-B)))=True:=L' h2;rw[ak ⟨h0,.inr h2⟩];by_cases sA:A<0
  .have qA:(A<0)=True:=L' sA;by_cases sB:B<0
   .have qB:(B<0)=True:=L' sB;apply sR;simp only[go_sem,seval,q0,Int.zero_sub,rn,cg,qM,rq1,q1,rq2,q2,qA,qB,b1];exact ai.same (by first|rfl|simp[sA,sB])
   .have qB:(B<0)=False:=H' sB;apply sR;simp only[go_sem,seval,q0,Int.zero_sub,rn,cg,qM,rq1,q1,rq2,q2,qA,qB,b2];exact ai.same (by first|rfl|simp[sA,sB])
  .have qA:(A<0)=False:=H' sA;by_cases sB:B<0
   .have qB:(B<0)=True:=L' sB;apply sR;simp only[go_sem,seval,q0,Int.zero_sub,rn,cg,qM,rq1,q1,rq2,q2,qA,qB,b3];exact ai.same (by first|rfl|simp[sA,sB])
   .have qB:(B<0)=False:=H' sB;apply sR;simp only[go_sem,seval,q0,Int.zero_sub,rn,cg,qM,rq1,q1,rq2,q2,qA,qB,b4];exact ai.same (by first|rfl|simp[sA,sB])
 have q2:(A<(-1099511627776:Int).tdiv (max B (-B)))=False:=H' h2;have hr':=hr (by omega) (by omega) h0;have r3:WI .i64 (A*B):=ae;rw[au (λh=>by rcases h.2 with h|h;exact h1 h;exact h2 h)]
 apply sR;simp only[go_sem,seval,q0,Int.zero_sub,rn,cg,qM,rq1,q1,rq2,q2,r3];exact ai.same rfl
open Go.Proofs
def F0(l:List T')(hl:l.length<=1000000):Iter prog 254 [.rp (ax l)] (l.map λf=>[az f]):=by
 refine⟨Rr.c,λXk τ Jx Z0 hy hJ=>?_⟩;refine(Rr.q ?_).2;have ldF:∀U:ad,bO U false 1 (.rp (ax l))=some (ax l):=λU=>rfl;have Yp:=cF l;refine mS 5 ?_;simp only[go_sem,seval,PG,ldF,Yp];refine ag.loop (λm st=>∃(j:Nat) (ZJ:ad),j<=l.length/\m=l.length-j/\τ ((l.take j).map λf=>[az f]) ZJ/\aa ZJ st.U/\st.s 0=.yl Xk/\st.s 5=ax l/\st.s 6=vI l.length/\st.s 7=vI j) l.length ?_ ?_
 .exact⟨0,Z0,by omega,rfl,by simpa using hJ,aa.refl _,rfl,rfl,rfl,rfl⟩
 .rintro m ⟨S,J⟩ ⟨j,ZJ,hj,rfl,YM,E',t0,t5,t6,t7⟩;simp only at E' t0 t5 t6 t7;refine ag.mix 5 ?_;by_cases B':j<l.length
  .have q:=qT B';have r1:=rI j;have Wz:=λU=>dO (U:=U) B';have e0':l=l.take j++l[j]::l.drop (j+1):=by rw[<-iT B',rZ]
   have e:(l.map λf=>[az f])=((l.take j).map λf=>[az f])++[az l[j]]::((l.drop (j+1)).map λf=>[az f]):=by
    have:=congrArg (List.map λf=>[az f]) e0'
    rwa [cX,eV]at this
   have W4:((l.take (j+1)).map λf=>[az f])=((l.take j).map λf=>[az f])++[[az l[j]]]:=by rw[Yz B',cX];rfl
   have Zh:az l[j]=.agg [vI l[j].node,vI l[j].side,vI l[j].anchor,vI l[j].x,vI l[j].y,vI l[j].w,vI l[j].h]:=rfl;generalize l[j]=x at*;apply sR;simp only[go_sem,seval,t5,t6,t7,q,Wz,Zh];refine aj λi4 Z4 s4 a4 f4=>?_;simp only[go_sem,seval,a4,t0];generalize hq4:C' Z4 i4 _=Y4;have hs4:aa J Y4:=by rw[<-hq4];exact s4.ao f4
   clear hq4;refine ag.ny (Post:=λb' Z2=>∃Xj,bb ZJ Y4 Xj Z2/\((b'=true/\τ (((l.take j).map λf=>[az f])++[[az x]]) Xj)\/(b'=false/\Jx (((l.take j).map λf=>[az f])++[[az x]]) Xj))) rfl rfl rfl (hy _ [az x] _ ZJ Y4 e YM (E'.trans hs4)) ?_;rintro b' Z2 ⟨Xj,Ys,XT⟩;rcases XT with⟨rfl,XT⟩|⟨rfl,XT⟩
   .apply sR;simp only[go_sem,seval,t0,t5,t6,t7,r1];refine⟨_,?_,j+1,Xj,by omega,rfl,by rw[W4];exact XT,Ys.1,by simp⟩;omega
   .apply sR;simp only[go_sem,seval];exact⟨_,Xj,Ys.1,Wk.refl Ys.1 _,.inr ⟨_,⟨_,by rw[e,lh];rfl⟩,XT⟩⟩
  .have q:=qF B';rw[lf (by omega)]at YM;apply sR;simp only[go_sem,seval,t6,t7,q];exact⟨_,ZJ,E',Wk.refl E' _,.inl YM⟩
def Ox(l:List T'):aE prog 215 [ax l] (.fn 254 [.rp (ax l)]):=λU=>by
 refine Uz.q ?_;refine ag.mix 3 ?_;have q1:=bU l;have q2:=bT l;generalize ax l=x at*;apply sR;simp only[go_sem,seval,QU,q1,q2];refine aj λid1 Z1 s1 a1 f1=>?_;simp only[go_sem,seval];exact⟨_,U,s1,Wk.fn (vs':=[.rp x]) ⟨Wk.ptr s1 a1 f1,trivial⟩,rfl,rfl⟩
def sT(bS to:Int)(f:T'):Bool:=decide (f.anchor<bS\/f.anchor>=to)
def N9(bS to:Int)(f:T'){U:ad}{i4 i5:Nat}(a4:U i4=some ⟨3,1,[vI bS]⟩)(a5:U i5=some ⟨3,1,[vI to]⟩):
 av prog 282 [az f,.ptr i4 0 0,.ptr i5 0 0] U λr Z'=>r=.bool (sT bS to f)/\Z'=U:=by
 refine TP.q ?_;have hs:=aa.refl U;refine mS 5 ?_;simp only[go_sem,seval,Pq,az];refine al hs λi3 Z3 s3 a3 f3 _ hs=>?_;have b4:=s3 _ _ a4;have b5:=s3 _ _ a5;by_cases h0:f.anchor<bS
 .have q0:(f.anchor<bS)=True:=L' h0;simp only[go_sem,seval,a3,b4,q0];exact ai.pure hs (by simp[sT,h0])
 .have q0:(f.anchor<bS)=False:=H' h0;by_cases h1:f.anchor>=to
  .have q1:(f.anchor>=to)=True:=L' h1;simp only[go_sem,seval,a3,b4,b5,q0,q1];exact ai.pure hs (by simp[sT,h1])
  .have q1:(f.anchor>=to)=False:=H' h1;simp only[go_sem,seval,a3,b4,b5,q0,q1];exact ai.pure hs (by simp only[sT];rw[XJ (by omega)])
open Go.Proofs
def gz(p:T'->Bool):List T'->Nat->Int
 |[],_=>-1
 |f::r,i=>if p f then i else gz p r (i+1)
def BW{p:T'->Bool}{l:List T'}{i:Nat}(h:i<l.length):gz p (l.drop i) i=if p l[i]then(i:Int)else gz p (l.drop (i+1)) (i+1):=by
 rw[iT h,gz]
def Ji{U:ad}{v:V}(l:List T')(hl:l.length<=1000000)(hr:Reads U 7 true v (l.map az)){f:FuncId}{caps:List V}(p:T'->Bool)
 (hf:∀x∈l,av prog f (az x::caps) U λr Z'=>r=.bool (p x)/\Z'=U):
 av prog 292 [v,.fn f caps] U λr Z'=>r=vI (gz p l 0)/\Z'=U:=by
 refine Wh.q ?_;have hlv:dv false v=some (.int .i64 l.length):=by rw[hr.1,cJ]
 refine mS 6 ?_;simp only[go_sem,seval,P3,hlv];refine ag.loop (λm st=>∃i:Nat,i<=l.length/\m=l.length-i/\gz p l 0=gz p (l.drop i) i/\st.U=U/\st.s 0=v/\st.s 1=.fn f caps/\st.s 7=vI l.length/\st.s 8=vI i) l.length ?_ ?_
 .exact⟨0,by omega,rfl,rfl,rfl,rfl,rfl,rfl,rfl⟩
 .rintro m ⟨s,Z'⟩ ⟨i,hi,rfl,heq,WY,h0,h1,h7,h8⟩;simp only at WY h0 h1 h7 h8;subst WY;refine ag.mix 6 ?_;by_cases B':i<l.length
  .have q:=qT B';have hd:=BW (p:=p) B';obtain⟨a,ha,Yo⟩:=hr.2 i (az l[i]) (by simp[B']);have hfx:=hf l[i] (Xo B');have r1:=rI i;generalize l[i]=x at*;apply sR;simp only[go_sem,seval,h0,h1,h7,h8,q,ha,Yo];refine pR rfl hfx ?_;cases hp:p x
   .rw[hp]at hd;apply sR;simp only[go_sem,seval,h0,h1,h7,h8,r1];refine⟨_,?_,i+1,by omega,rfl,?_,by simp⟩
    .omega
    .rw[heq,hd];rfl
   .rw[hp]at hd;apply sR;simp only[go_sem,seval];refine ai.same ?_;rw[heq,hd];rfl
  .have q:=qF B';have YP:i=l.length:=by omega
   apply sR;simp only[go_sem,seval,h7,h8,q];refine ai.same ?_;rw[heq,YP,xD];rfl
open Go.Proofs
def JB(l:List XA)(hl:l.length<=1000000000):aE prog 48 [aT l] (aT l):=
 BM func48 (e48.b.trans rfl) e48.c (l.map bE) (by simp;omega)
def AL(l:List T')(hl:l.length<=1000000000):aE prog 49 [ax l] (ax l):=
 BM func49 (e49.b.trans rfl) e49.c (l.map az) (by simp;omega)
open Go.Proofs
def kg(a:T'):List T'->Nat->Int
 |[],_=>-1
 |q::r,i=>if a=q then i else kg a r (i+1)
def GY{a:T'}{p:List T'}{i:Nat}(h:i<p.length):kg a (p.drop i) i=if a=p[i]then(i:Int)else kg a (p.drop (i+1)) (i+1):=by
 rw[iT h,kg]
def JE(p:List T')(hp:p.length<=1000000000)(a:T'):aE prog 106 [ax p,az a] (vI (kg a p 0)):=λU=>by
 refine To.q ?_;have hs:=aa.refl U;have hlp:=cF p;have hac:(az a).cells=[vI a.node,vI a.side,vI a.anchor,vI a.x,vI a.y,vI a.w,vI a.h]:=rfl;have has:(az a).stays=true:=rfl;have he:∀b:T',vG false [0,0,0,0,0,0,0] (.agg [vI a.node,vI a.side,vI a.anchor,vI a.x,vI a.y,vI a.w,vI a.h]) (.agg [vI b.node,vI b.side,vI b.anchor,vI b.x,vI b.y,vI b.w,vI b.h])=some (.bool (decide (a=b))):=λb=>by
  have:(a=b)↔(a.node=b.node/\a.side=b.side/\a.anchor=b.anchor/\a.x=b.x/\a.y=b.y/\a.w=b.w/\a.h=b.h):=by
   cases a;cases b;simp
  simp only[vG,jN,ki,l8,this];simp
 refine mS 9 ?_;simp only[go_sem,seval,RU,hac,has];refine al hs λi3 Z3 s3 a3 f3 z3 hs=>?_;simp only[go_sem,seval,hlp];rw[az]at a3;refine ag.loop (λm st=>∃(i:Nat),i<=p.length/\m=p.length-i/\kg a p 0=kg a (p.drop i) i/\st.U=Z3/\st.s 0=ax p/\st.s 3=.ptr i3 0 0/\st.s 7=vI p.length/\st.s 8=vI i) p.length ?_ ?_
 .exact⟨0,by omega,rfl,rfl,rfl,rfl,rfl,rfl,rfl⟩
 .rintro m ⟨s,Z'⟩ ⟨i,hi,rfl,heq,WY,h0,h3,h7,h8⟩;simp only at WY h0 h3 h7 h8;subst WY;refine ag.mix 9 ?_;by_cases B':i<p.length
  .have q:=qT B';have hd:=GY (a:=a) B';have Wz:=λU=>dO (U:=U) B';have r1:=rI i;have hee:=he p[i];have Zh:az p[i]=.agg [vI p[i].node,vI p[i].side,vI p[i].anchor,vI p[i].x,vI p[i].y,vI p[i].w,vI p[i].h]:=rfl;by_cases hc:a=p[i]
   .rw[XK hc]at hee;apply sR;simp only[BB,seval,aZ,eD,aD,dT,gW,V.cells,Yi.nothing,h0,h3,h7,h8,q,a3,Wz,Zh,hee];refine ai.pure hs ?_;rw[heq,hd,ak hc]
   .rw[XJ hc]at hee;apply sR;simp only[BB,seval,aZ,eD,aD,dT,gW,V.cells,Yi.nothing,h0,h3,h7,h8,q,a3,Wz,Zh,hee,r1];refine⟨_,?_,i+1,by omega,rfl,?_,by simp⟩
    .omega
    .rw[heq,hd,au hc]
  .have q:=qF B';have YP:i=p.length:=by omega
   apply sR;simp only[go_sem,seval,h7,h8,q];refine ai.pure hs ?_;rw[heq,YP,xD];rfl
open Go
def Za.same{U:ad}{N:Nat->Prop}:∀(vs:List V),gU vs=true->Za U N vs vs
 |[],_=>.nil
 |v::vs,h=>by
  simp only[gU,Ba]at h;exact .cons _ _ _ _ (.same v h.1) (Za.same vs h.2)
def Za.app{U:ad}{N:Nat->Prop}:∀{a b c d:List V},Za U N a b->Za U N c d->Za U N (a++c) (b++d)
 |_,_,_,_,.nil,h=>h
 |_,_,_,_,.cons v u vs us h h',h2=>.cons v u _ _ h (Za.app h' h2)
def Za.one{U:ad}{N:Nat->Prop}{v u:V}(h:Fz U N v u):Za U N [v] [u]:=.cons _ _ _ _ h .nil
def aq.fz{K U:ad}{N:Nat->Prop}{e sz:Nat}{v:V}{rows:List V}(h:aq K U e sz v rows)(hN:∀id,K id=none->N id)(hr:gU rows=true):Fz U N v (.sl sz rows):=by
 rcases h with⟨rfl,rfl⟩|⟨id,rfl,ho,hk⟩
 .exact .nil sz
 .exact .own id 0 rows.length ⟨e,sz,rows⟩ rows ho (hN id hk) (by simp) (by rw[Du,dR];exact Za.same rows hr)
def aq.ab{K U:ad}{e sz:Nat}{v:V}{rows:List V}(h:aq K U e sz v rows){id:Nat}{o:Ob}(hK:K id≠none):aq K (C' U id o) e sz v rows:=by
 rcases h with h|⟨q,h1,h2,h3⟩
 .exact .inl h
 .have:q≠id:=λe=>hK (by rw[<-e];exact h3);exact .inr ⟨q,h1,by rw[Vc.ab this];exact h2,h3⟩
def aq.src{K U:ad}{e sz:Nat}{v:V}{rows:List V}(h:aq K U e sz v rows){Z1:ad}(hs:aa U Z1):bc Z1 sz v=some rows:=by
 rcases h with⟨rfl,rfl⟩|⟨id,rfl,ho,hk⟩
 .rfl
 .simp only[bc,hs _ _ ho];rw[ak (by simp)];simp
def Gn(l:List Int):gU (l.map vI)=true:=by
 induction l with
 |nil=>rfl
 |cons x l ih=>rw[eV,gU,ih];rfl
abbrev QS(x:Nd):List V:=[vI x.kind,vI x.size,vI x.st.top,vI x.st.WV,vI x.st.WD,vI x.st.O',vI x.st.Xl,vI x.st.WE,vI x.st.WW,vI x.st.head,vI x.st.before,vI x.st.after,vI x.st.inside,vI x.st.clear,vI x.line,vI x.space]
def ndW(x:Nd)(v:V):V:=.agg [vI x.kind,vI x.size,vI x.st.top,vI x.st.WV,vI x.st.WD,vI x.st.O',vI x.st.Xl,vI x.st.WE,vI x.st.WW,vI x.st.head,vI x.st.before,vI x.st.after,vI x.st.inside,vI x.st.clear,vI x.line,vI x.space,v,vI x.side,vI x.w,vI x.h]
def Q7{U:ad}{N:Nat->Prop}{x:Nd}{v:V}(h:Fz U N v (aN x.words)):Fz U N (ndW x v) (dW x):=by
 refine .agg _ _ ?_;exact(Za.same (QS x) rfl).app ((Za.one h).app (Za.same [vI x.side,vI x.w,vI x.h] rfl))
def gu(K U:ad):List Nd->List V->Prop
 |[],[]=>True
 |x::l,r::rows=>(∃w,r=ndW x w/\aq K U 3 1 w (x.words.map vI))/\gu K U l rows
 |_,_=>False
def aq.kept{K U Z':ad}{id e:Nat}{w:V}{rows rows0:List V}(h:aq K U 3 1 w rows)(ho:U id=some ⟨e,20,rows0⟩)(hs:∀i,i≠id->∀o,U i=some o->Z' i=some o):aq K Z' 3 1 w rows:=by
 rcases h with h|⟨i,h1,h2,h3⟩
 .exact .inl h
 .have WZ:i≠id:=λe=>by subst e;rw[ho]at h2;simp at h2
  exact .inr ⟨i,h1,hs i WZ _ h2,h3⟩
def gu.kept{K U Z':ad}{id e:Nat}{rows0:List V}(ho:U id=some ⟨e,20,rows0⟩)(hs:∀i,i≠id->∀o,U i=some o->Z' i=some o):∀{l:List Nd} {rows:List V},gu K U l rows->gu K Z' l rows
 |[],[],_=>trivial
 |_::_,_::_,⟨⟨w,h1,h2⟩,h⟩=>⟨⟨w,h1,h2.kept ho hs⟩,gu.kept ho hs h⟩
 |[],_::_,h=>h.elim
 |_::_,[],h=>h.elim
def gu.mono{K U Z':ad}(hs:aa U Z'):∀{l:List Nd} {rows:List V},gu K U l rows->gu K Z' l rows
 |[],[],_=>trivial
 |_::_,_::_,⟨⟨w,h1,h2⟩,h⟩=>⟨⟨w,h1,h2.mono hs⟩,gu.mono hs h⟩
 |[],_::_,h=>h.elim
 |_::_,[],h=>h.elim
def aq.pj{K K' U:ad}{e sz:Nat}{v:V}{rows:List V}(h:aq K U e sz v rows)(hk:aa K' K):aq K' U e sz v rows:=by
 rcases h with h|⟨i,h1,h2,h3⟩
 .exact .inl h
 .exact .inr ⟨i,h1,h2,hk.none h3⟩
def gu.app{K U:ad}:∀{l l2:List Nd} {rows rows2:List V},gu K U l rows->gu K U l2 rows2->gu K U (l++l2) (rows++rows2)
 |[],_,[],_,_,h2=>h2
 |_::_,_,_::_,_,⟨h1,h⟩,h2=>⟨h1,gu.app h h2⟩
 |[],_,_::_,_,h,_=>h.elim
 |_::_,_,[],_,h,_=>h.elim
def gu.fz{K U:ad}{N:Nat->Prop}(hN:∀id,K id=none->N id):∀{l:List Nd} {rows:List V},gu K U l rows->Za U N rows (l.map dW)
 |[],[],_=>.nil
 |_::_,_::_,⟨⟨w,h1,h2⟩,h⟩=>by
  rw[h1];exact .cons _ _ _ _ (Q7 (h2.fz hN (Gn _))) (gu.fz hN h)
 |[],_::_,h=>h.elim
 |_::_,[],h=>h.elim
def AH(K U:ad)(v:V)(l:List Nd):Prop:=∃rows,aq K U 48 20 v rows/\gu K U l rows
def AH.fz{K U:ad}{N:Nat->Prop}{v:V}{l:List Nd}(h:AH K U v l)(hN:∀id,K id=none->N id):Fz U N v (ay l):=by
 obtain⟨rows,ho,hr⟩:=h;have hf:=hr.fz hN;rcases ho with⟨rfl,rfl⟩|⟨id,rfl,ho,hk⟩
 .cases l with
  |nil=>exact .nil 20
  |cons x l=>exact hr.elim
 .exact .own id 0 rows.length ⟨_,20,rows⟩ _ ho (hN id hk) (by simp) (by rw[Du,dR];exact hf)
open Go.Proofs
def K7(l:List Nd)(hl:l.length<=10000)(U:ad):av prog 34 [ay l] U λr Z'=>aa U Z'/\aq U Z' 48 20 r (l.map dW):=by
 refine e34.q ?_;refine ag.mix 3 ?_
 (refine ag.bn Yi.nothing 8 ?_;simp only[go_sem,seval,me,c34])
 refine ag.GP rfl rfl rfl λb hb=>?_;cases b
 .apply sR;simp only[go_sem,seval];refine aj λid1 Z1 s1 a1 f1=>?_;obtain⟨idA,hd,WK⟩:=(aq.new (K:=U) (e:=48) (sz:=20) (n:=0) (rows:=[]) rfl a1 f1).dst (aa.refl _);have hsrc:∀U,bc U 20 (ay l)=some (l.map dW):=λU=>by simp[ay,bc]
  have W1:l.length*177<=140737488355328:=by omega
  simp only[go_sem,seval,hd,hsrc,cJ,W1];refine aX λid2 Z2 s2 a2 f2=>?_;have Zm:=(WK U (aa.refl _) Z1 s1).trans s2;simp only[go_sem,seval];refine XX ⟨Zm,aq.new (by simp) a2 (s1.none f2)⟩
 .apply sR;simp only[go_sem,seval];refine XX ⟨aa.refl _,?_⟩;have:l.map dW=[]:=hb rfl;rw[this];exact aq.start
def JV(l:List Int)(hl:l.length<=1000000000)(U:ad):av prog 35 [aN l] U λr Z'=>aa U Z'/\aq U Z' 3 1 r (l.map vI):=by
 refine e35.q ?_;refine ag.mix 3 ?_
 (refine ag.bn Yi.nothing 8 ?_;simp only[go_sem,seval,me,c35])
 refine ag.GP rfl rfl rfl λb hb=>?_;cases b
 .apply sR;simp only[go_sem,seval];refine aj λid1 Z1 s1 a1 f1=>?_;obtain⟨idA,hd,WK⟩:=(aq.new (K:=U) (e:=3) (sz:=1) (n:=0) (rows:=[]) rfl a1 f1).dst (aa.refl _);have W1:l.length*9<=140737488355328:=by omega
  simp only[go_sem,seval,hd,y7,cJ,W1];refine aX λid2 Z2 s2 a2 f2=>?_;have Zm:=(WK U (aa.refl _) Z1 s1).trans s2;simp only[go_sem,seval];exact XX ⟨Zm,aq.new (by simp) a2 (s1.none f2)⟩
 .apply sR;simp only[go_sem,seval];have:l.map vI=[]:=hb rfl;refine XX ⟨aa.refl _,?_⟩;rw[this];exact aq.start
open Go.Proofs
def Mf(K U:ad)(e sz:Nat)(v:V)(rows:List V):Prop:=(v=.aB/\rows=[])\/∃id all,v=.own id 0 rows.length/\U id=some ⟨e,sz,all⟩/\all.take rows.length=rows/\K id=none
def aq.VN{K U:ad}{e sz:Nat}{v:V}{rows:List V}(h:aq K U e sz v rows):Mf K U e sz v rows:=by
 rcases h with h|⟨id,h1,h2,h3⟩
 .exact .inl h
 .exact .inr ⟨id,rows,h1,h2,dR,h3⟩
def Mf.wk{K U:ad}{e sz:Nat}{v:V}{rows:List V}(h:Mf K U e sz v rows){K':ad}(hK:aa K' K)(hs:aa K' U):Wk U K' v (.sl sz rows):=by
 rcases h with⟨rfl,rfl⟩|⟨id,all,rfl,ho,ht,hk⟩
 .exact Wk.aB sz
 .have hl:rows.length<=all.length:=by
   have:=congrArg List.length ht;simp at this;omega
  have:=Wk.own hs ho (hK.none hk) (off:=0) (len:=rows.length) (by simpa using hl);rw[Du,ht]at this;exact this
open Go.Proofs
def sS{p:T'->Bool}:∀(l:List T') (i:Nat),gz p l i<0->l.filter (λf=>!p f)=l
 |[],_,_=>rfl
 |x::l,i,h=>by
  rw[gz]at h;split at h
  .omega
  .rename_i hp;have hp':p x=false:=by simpa using hp
   simp only[List.filter_cons,hp',Bool.not_false,if_true,sS l _ h]
def sM{p:T'->Bool}:∀(l:List T') (i:Nat),¬gz p l i<0->∃w:Nat,gz p l i=((i+w:Nat):Int)/\w<l.length/\(l.take w).filter (λf=>!p f)=l.take w/\∀x,l[w]?=some x->p x=true
 |[],i,h=>by simp[gz]at h
 |x::l,i,h=>by
  rw[gz]at h|-;split
  .rename_i hp;exact⟨0,by simp,by simp,by simp,λy hy=>by simp at hy;subst hy;exact hp⟩
  .rename_i hp;rw[au hp]at h;have hp':p x=false:=by simpa using hp
   obtain⟨w,h1,h2,h3,h4⟩:=sM l (i+1) h;refine⟨w+1,by rw[h1];congr 1;omega,by simp;omega,?_,by simpa using h4⟩;simp only[F2,List.filter_cons,hp',Bool.not_false,if_true,h3]
def wx{p:T'->Bool}:∀(l:List T') (i:Nat),gz p l i<0->gz p l i=-1
 |[],_,_=>rfl
 |x::l,i,h=>by
  rw[gz]at h|-;split
  .rename_i hp;rw[ak hp]at h;omega
  .rename_i hp;rw[au hp]at h;exact wx l _ h
abbrev oW(p:T'->Bool)(l:List T'):List T':=l.filter λf=>!p f
def G0{K U:ad}{v:V}(l:List T')(hl:l.length<=1000000)(hK:aa K U)(ho:aq K U 100 7 v (l.map az)){f:FuncId}{caps:List V}(p:T'->Bool)
 (hf:∀x∈l,∀J,aa K J->av prog f (az x::caps) J λr Z'=>r=.bool (p x)/\Z'=J):
 av prog 281 [v,.fn f caps] U λr Z'=>Mf K Z' 100 7 r ((oW p l).map az)/\aa K Z':=by
 have hr:Reads U 7 true v (l.map az):=by
  rcases ho with⟨rfl,h0⟩|⟨id,rfl,h2,h3⟩
  .rw[h0];exact⟨rfl,λi v h=>by simp at h⟩
  .refine⟨by simp[dv],λi r hi=>⟨_,kc h2 (by have:=oR.1 hi;exact this.1),?_⟩⟩;have hx:∃x,r=az x:=by
    have:=xB hi;simp only[gb]at this;obtain⟨n,_,rfl⟩:=this;exact⟨n,rfl⟩
   obtain⟨x,rfl⟩:=hx;simp only[bO,h2,hi,if_true];rw[ak ⟨trivial,rfl⟩];rfl
 refine Up.q ?_;refine mS 8 ?_;simp only[go_sem,seval,QJ];refine pR rfl (Ji l hl hr p (λx hx=>hf x hx U hK)) ?_;generalize hw:gz p l 0=w;by_cases hn:w<0
 .have hw1:w=-1:=by rw[<-hw];exact wx _ _ (by rw[hw];exact hn)
  have hk:oW p l=l:=sS l 0 (by rw[hw];exact hn);have q:(w=-1)=True:=L' hw1;apply sR;simp only[go_sem,seval,q];rw[hk];exact⟨_,U,aa.refl _,Wk.refl (aa.refl _) _,ho.VN,hK⟩
 .obtain⟨u0,g0,g1,g2,g3⟩:=sM l 0 (by rw[hw];exact hn);rw[hw,kf]at g0;subst g0;have q:((u0:Int)=-1)=False:=H';have r1:=rI u0;obtain⟨i1,rfl,h2,h3⟩:∃id,v=.own id 0 (l.map az).length/\U id=some ⟨100,7,l.map az⟩/\K id=none:=by
   rcases ho with⟨_,h0⟩|h
   .have:l=[]:=by simpa using h0
    subst this;simp at g1
   .exact h
  rw[cJ]at*;apply sR;simp only[go_sem,seval,q,r1];refine ag.loop (λm st=>∃(u j:Nat) (cur:List T'),u<j/\j<=l.length/\m=l.length-j/\cur.length=l.length/\cur.take u=oW p (l.take j)/\(∀q,j<=q->cur[q]?=l[q]?)/\aa K st.U/\st.U i1=some ⟨100,7,cur.map az⟩/\
   st.s 0=.own i1 0 l.length/\st.s 1=.fn f caps/\st.s 5=vI u/\∃z:Int,st.s 6=vI z/\z=j) (l.length-(u0+1)) ?_ ?_
  .refine⟨u0,u0+1,l,by omega,by omega,rfl,rfl,?_,λ_ _=>rfl,hK,h2,rfl,rfl,rfl,_,rfl,by omega⟩;have hp:=g3 l[u0] (by simp[g1]);rw[Yz g1];have g2':oW p (l.take u0)=l.take u0:=g2;simp only[oW,List.filter_append]at g2'|-;rw[g2'];simp[hp]
  .rintro m ⟨s,J⟩ ⟨u,j,cur,huj,hjk,rfl,Yj,hct,hcr,hs,a1,h0,h1,h5,z,h6,rfl⟩;simp only at hs a1 h0 h1 h5 h6;refine ag.mix 8 ?_;have Yd:(cur.map az).length=l.length:=by rw[cJ,Yj]
   by_cases B':j<l.length
   .have q1:=qT B';have hjc:j<cur.length:=by omega
    have huc:u<cur.length:=by omega
    have hfj:l[j]?=some cur[j]:=by rw[<-hcr j (Xc _)];simp[hjc]
    have hmem:cur[j]∈l:=xB hfj;have htj:l.take (j+1)=l.take j++[cur[j]]:=by
     rw[Yz B'];congr 2;rw[Zq6 B']at hfj;simpa using hfj
    have iX:∀(J:ad) (rows:List V) (k n:Nat),J i1=some ⟨100,7,rows⟩->rows.length=l.length->n=l.length->k<l.length->bp J 7 (.own i1 0 n) (.int .i64 k)=some (.ptr i1 k 0):=λJ rows k n h e hn hk=>by subst hn;rw[<-e];exact kc h (by omega)
    have e1:=iX _ _ j _ a1 Yd rfl B';have v1:(cur.map az)[j]?=some (az cur[j]):=by simp[hjc]
    have vu:(cur.map az)[u]?=some (az cur[u]):=by simp[huc]
    have hset:(cur.set u cur[j]).map az=(cur.map az).set u (az cur[j]):=List.map_set;have hfc:=hf cur[j] hmem;have hfc7:∀f:T',(az f).cells=[vI f.node,vI f.side,vI f.anchor,vI f.x,vI f.y,vI f.w,vI f.h]:=λ_=>rfl;have hsu:(cur.set u cur[j]).take (u+1)=cur.take u++[cur[j]]:=by
     rw[Yz (by simpa using huc),List.take_set,List.set_eq_of_length_le (by simp;omega)];simp
    have r2:=rI u;have r3:=rI j;generalize cur[j]=x at*;generalize cur[u]=y at*;apply sR;simp only[go_sem,seval,h0,h6,q1,a1,e1,v1,hfc7];refine al hs λi7 Z7 s7 a7 f7 z7 hs=>?_;obtain⟨n17,a1⟩:=WG a1 f7 s7;simp only[go_sem,seval,a7,h1];generalize Yl:C' _ i7 _=Y7;replace a7:=XD Yl;replace a1:=WQ Yl n17 a1;replace hs:=Xz Yl hs z7;refine pR rfl (hfc _ hs) ?_;have e2:=iX _ _ u _ a1 Yd rfl (by omega);cases hp:p x
    .apply sR;simp only[go_sem,seval,h0,h1,h5,h6,a7,a1,e2,vu,hfc7,r2,r3];refine⟨_,?_,u+1,j+1,cur.set u x,by omega,by omega,rfl,by simpa using Yj,?_,λq hq=>?_,hs.ao h3,?_,by simp,_,rfl,by omega⟩
     .omega
     .rw[hsu,htj,hct];simp[oW,List.filter_append,hp]
     .rw[List.getElem?_set_ne (by omega)];exact hcr q (by omega)
     .rw[hset];rfl
    .apply sR;simp only[go_sem,seval,h0,h1,h5,h6,r3];refine⟨_,?_,u,j+1,cur,by omega,by omega,rfl,Yj,?_,λq hq=>hcr q (by omega),hs,a1,by simp,_,rfl,by omega⟩
     .omega
     .rw[htj,hct];simp[oW,List.filter_append,hp]
   .have q1:=qF B';have hjk':j=l.length:=by omega
    subst hjk';rw[dR]at hct;have b3:(0:Int)<=u:=by omega
    have b4:(u:Int)<=l.length:=by omega
    apply sR;simp only[go_sem,seval,h0,h5,h6,q1,a1,b3,b4,Int.le_refl,eU];refine ag.clear (id:=i1) (off:=u) (len:=l.length-u) (ob:=⟨100,7,cur.map az⟩) rfl rfl rfl a1 rfl (by simp;omega) ?_;apply sR;simp only[go_sem,seval,h0,h5,b3,b4,Int.le_refl,eU,Nat.sub_zero];have hlu:((oW p l).map az).length=u:=by rw[cJ,<-hct,jb];omega
    refine XX ⟨.inr ⟨i1,_,by rw[hlu],af,?_,h3⟩,hs.ao h3⟩;rw[hlu,lh,Om (by simp;omega),List.take_take,Nat.min_self,<-List.map_take,hct]
open Go.Proofs
def Bi(l:List T')(fr to:Int):List T':=oW (sT fr to) l
def kx(l:List T')(fr to:Int):(Bi l fr to).length<=l.length:=List.length_filter_le _ _
def JM(l:List T')(hl:l.length<=1000000)(fr to:Int):aE prog 255 [ax l,vI fr,vI to] (ax (Bi l fr to)):=λU=>by
 refine Tm.q ?_;have hs:=aa.refl U;refine mS 7 ?_;simp only[go_sem,seval,P7];refine al hs λi4 Z4 s4 a4 f4 _ hs=>?_;simp only[go_sem,seval];refine al hs λi5 Z5 s5 a5 f5 _ hs=>?_;replace a4:=s5 _ _ a4;simp only[go_sem,seval];refine Yn rfl (vE func49 (e49.b.trans rfl) e49.c (l.map az) (by simp;omega) _) ?_;rintro r Z9 ⟨h9,ho9⟩;apply sR;simp only[go_sem,seval];refine Yn rfl (G0 l hl h9 ho9 (sT fr to) (λx _ J hτ=>N9 fr to x (hτ _ _ a4) (hτ _ _ a5))) ?_;rintro r2 Z10 ⟨hp,h10⟩;apply sR;simp only[go_sem,seval];exact⟨_,U,hs.trans h10,hp.wk hs (hs.trans h10),rfl,rfl⟩
def cN(l:List T')(s:XP)(to:Int):List T':=Bi l (if s.done>0 then s.atom+1 else s.atom) to
def HO(l:List T')(hl:l.length<=1000000)(s:XP)(ha:WI .i64 (s.atom+1))(to:Int):aE prog 216 [ax l,aL s,vI to] (ax (cN l s to)):=λU=>by
 refine Ua.q ?_;have hs:=aa.refl U;have hsc:(aL s).cells=[vI s.atom,vI s.done,.bool s.free]:=rfl;have hss:(aL s).stays=true:=rfl;refine mS 7 ?_;simp only[go_sem,seval,SY,hsc,hss];refine al hs λi4 Z4 s4 a4 f4 z4 hs=>?_;rw[aL]at a4;by_cases hd:s.done>0
 .have q:(s.done>0)=True:=L' hd;simp only[go_sem,seval,a4,q,ha];refine pS rfl (JM l hl _ _ _) ?_;simp only[go_sem,seval];exact ai.pure hs (by rw[cN,ak hd])
 .have q:(s.done>0)=False:=H' hd;simp only[go_sem,seval,a4,q];refine pS rfl (JM l hl _ _ _) ?_;simp only[go_sem,seval];exact ai.pure hs (by rw[cN,au hd])
open Go.Proofs
def bL(v u:V):Prop:=∀a n b m,v=.own a 0 n->u=.own b 0 m->a≠b
def bL.symm{v u:V}(h:bL v u):bL u v:=λa n b m h1 h2 e=>h b m a n h2 h1 e.symm
def bL.aB(u:V):bL .aB u:=λ_ _ _ _ h _=>by cases h
def aq.R7{K ZJ Z1:ad}{e sz:Nat}{v:V}{rows:List V}(h:aq K ZJ e sz v rows)(hs:aa ZJ Z1):
 ∃idA,bC Z1 e sz v=some (rows,idA)/\∀i,idA=some i->K i=none/\(∃o,ZJ i=some o)/\v=.own i 0 rows.length:=by
 rcases h with⟨rfl,rfl⟩|⟨id,rfl,ho,hk⟩
 .exact⟨none,rfl,λ_ h=>by cases h⟩
 .refine⟨some id,?_,λi h=>by cases h;exact⟨hk,⟨_,ho⟩,rfl⟩⟩;simp only[bC,hs _ _ ho];rw[ak ⟨trivial,trivial,trivial,Xc _⟩,dR]
def aq.Vs{K U:ad}{e sz:Nat}{v:V}{rows:List V}(h:aq K U e sz v rows){idA:Option Nat}(h1:∀i,idA=some i->∀n,v≠.own i 0 n){id:Nat}{o:Ob}(h2:U id=none):aq K (C' (Vc.bz U idA) id o) e sz v rows:=by
 rcases h with h|⟨a,rfl,ho,hk⟩
 .exact .inl h
 .refine .inr ⟨a,rfl,?_,hk⟩;have hai:a≠id:=λe=>by subst e;rw[ho]at h2;cases h2
  rw[Vc.ab hai];cases idA with
  |none=>exact ho
  |some i=>
   have:a≠i:=λe=>h1 i rfl _ (by rw[e]);simp only[Vc.bz];rw[cA this];exact ho
def bL.new{U K:ad}{e sz id n:Nat}{u:V}{rows:List V}(hu:aq K U e sz u rows)(h:U id=none):bL (.own id 0 n) u:=by
 rintro a k b m h1 rfl e;cases h1;subst e;rcases hu with⟨h,_⟩|⟨i,h,h2,_⟩
 .cases h
 .cases h;rw[h]at h2;cases h2
structure SoJ(Z0:ad)(ix:Nat)(p q:List T')(U:ad):Prop where
 row:∃v u,U ix=some ⟨291,2,[.agg [v,u]]⟩/\aq (bj Z0 ix) U 100 7 v (p.map az)/\aq (bj Z0 ix) U 100 7 u (q.map az)/\bL v u
 sub:aa Z0 U
 no:Z0 ix=none
def Iz{Z0 ZJ ZB Z8:ad}{ix e sz:Nat}{v u:V}{rows rowsU:List V}(hBs:bb ZJ ZB ZJ Z8)(Js:aa Z0 ZJ)(Jn:Z0 ix=none){ox:Ob}(Jx:ZJ ix=some ox)
 (Jv:aq (bj Z0 ix) ZJ e sz v rows)(Ju:aq (bj Z0 ix) ZJ e sz u rowsU)(hap:bL v u):
 ∃idA,bC Z8 e sz v=some (rows,idA)/\∀(id:Nat) (WH:List V) (o':Ob),Z8 id=none->
  ix≠id/\Vc.bz Z8 idA ix=some ox/\aa Z0 (C' (C' (Vc.bz ZJ idA) id ⟨e,sz,WH⟩) ix o')/\bb ZJ ZB (C' (C' (Vc.bz ZJ idA) id ⟨e,sz,WH⟩) ix o') (C' (C' (Vc.bz Z8 idA) id ⟨e,sz,WH⟩) ix o')/\
  aq (bj Z0 ix) (C' (C' (Vc.bz ZJ idA) id ⟨e,sz,WH⟩) ix o') e sz (.own id 0 WH.length) WH/\aq (bj Z0 ix) (C' (C' (Vc.bz ZJ idA) id ⟨e,sz,WH⟩) ix o') e sz u rowsU/\bL (.own id 0 WH.length) u:=by
 obtain⟨idA,Xg,hdA⟩:=Jv.R7 hBs.1;refine⟨idA,Xg,λid WH o' f=>?_⟩;have k2:bj Z0 ix ix≠none:=λh=>(aF.1 h).1 rfl;have dne:∀(i:Nat) (Zx:ad),bj Z0 ix i≠none->Vc.bz Zx idA i=Zx i:=λi Zx hk=>by
  cases idA with
  |none=>rfl
  |some a=>exact cA (λe=>hk (by rw[e];exact(hdA a rfl).1))
 have c8:=hBs.1 _ _ Jx;have m:ix≠id:=aQ c8 f;have fJ:ZJ id=none:=by
  cases h:ZJ id with
  |none=>rfl
  |some o=>rw[hBs.1 _ _ h]at f;cases f
 have f':Vc.bz Z8 idA id=none:=by
  cases idA with
  |none=>exact f
  |some a=>simp only[Vc.bz,del];split<;>first|rfl|exact f
 have hk:bj Z0 ix id=none:=by
  rw[aF];refine⟨m.symm,?_⟩;cases h:Z0 id with
  |none=>rfl
  |some o=>rw[Js _ _ h]at fJ;cases fJ
 refine⟨m,by rw[dne _ _ k2];exact c8,?_,((hBs.FG (e:=idA) λi h=>(hdA i h).2.1).new f').set (id:=ix) (o:=ox) (by rw[ab m,dne _ _ k2];exact Jx),?_,?_,bL.new Ju fJ⟩
 .refine aa.ao (λi o h=>?_) Jn;have h1:=Js _ _ h;rw[ab (λe=>by subst e;rw[h1]at fJ;cases fJ),dne _ _ (λhk=>by rw[(aF.1 hk).2]at h;cases h)];exact h1
 .exact aq.new rfl (by rw[ab m.symm,af]) hk
 .exact(Ju.Vs (λi h n e=>hap _ _ _ _ (hdA i h).2.2 e rfl) fJ).ab k2
def mI(q:List T')(m:T')(body:Int):Bool:=decide (q≠[]\/m.y+m.h>body)
def KO(p q:List T')(hp:p.length<=1000000)(hq:q.length<=1000000)(f m:T')(body:Int)(hr:WI .i64 (m.y+m.h)){Z0 ZJ ZB:ad}{ix:Nat}(hJ:SoJ Z0 ix p q ZJ)(E':aa ZJ ZB):
 av prog 217 [.ptr ix 0 0,az f,az m,vI body] ZB λ_ Z'=>∃Xj,bb ZJ ZB Xj Z'/\SoJ Z0 ix (if mI q m body then p else p++[m]) (if mI q m body then q++[f]else q) Xj:=by
 refine Ww.q ?_;obtain⟨⟨v,u,Jx,Jv,Ju,hap⟩,Js,Jn⟩:=hJ;obtain⟨vc,vs⟩:=Jv.vc;obtain⟨uc,us⟩:=Ju.vc;have hfc:∀f:T',(az f).cells=[vI f.node,vI f.side,vI f.anchor,vI f.x,vI f.y,vI f.w,vI f.h]:=λ_=>rfl;have hfs:∀f:T',(az f).stays=true:=λ_=>rfl;refine mS 5 ?_;simp only[go_sem,seval,PJ,hfc,hfs];rw[bh];intro i5 f5;have hB5:=(bb.refl E').rY (o:=⟨100,7,[az f]⟩) f5;have a5:C' ZB i5 ⟨100,7,[az f]⟩ i5=some ⟨100,7,[az f]⟩:=af;generalize hq5:C' ZB i5 ⟨100,7,[az f]⟩=Z5 at*;simp only[go_sem,seval,hfc,hfs];rw[bh];intro i6 f6;have hB6:=hB5.rY (o:=⟨100,7,[az m]⟩) f6;have a6:C' Z5 i6 ⟨100,7,[az m]⟩ i6=some ⟨100,7,[az m]⟩:=af;replace a5:=(ab (o:=⟨100,7,[az m]⟩) (aQ a5 f6)).trans a5;generalize hq6:C' Z5 i6 ⟨100,7,[az m]⟩=Z6 at*;have cx:=hB6.1 _ _ Jx;have hlq:dv false u=some (.int .i64 q.length):=by have:=Ju.len;rwa [cJ]at this
 have hrq:((q++[f]).map az)=q.map az++[az f]:=by simp
 have hrp:((p++[m]).map az)=p.map az++[az m]:=by simp
 have hql:(q.map az).length<=1000000:=by simpa using hq
 have ZE:(p.map az).length<=1000000:=by simpa using hp
 have hql0:(q.map az).length=q.length:=cJ _;rw[az]at a5 a6;by_cases hl:mI q m body=true
 .rw[ak hl,ak hl];by_cases hq0:q=[]
  .have q13:((q.length:Int)>0)=False:=by subst hq0;simp
   have qy:(m.y+m.h>body)=True:=by
    simp only[mI,hq0,YX]at hl;exact L' (hl.resolve_left (by simp))
   simp only[go_sem,seval,cx,hlq,q13,qy,hr,a5,a6];rw[dM];intro i29 f29;have hB7:=hB6.rY (o:=⟨100,7,[(V.agg [vI f.node,vI f.side,vI f.anchor,vI f.x,vI f.y,vI f.w,vI f.h])]⟩) f29;have a29:C' Z6 i29 ⟨100,7,[(V.agg [vI f.node,vI f.side,vI f.anchor,vI f.x,vI f.y,vI f.w,vI f.h])]⟩ i29=some ⟨100,7,[(V.agg [vI f.node,vI f.side,vI f.anchor,vI f.x,vI f.y,vI f.w,vI f.h])]⟩:=af;generalize Yl:C' Z6 i29 ⟨100,7,[(V.agg [vI f.node,vI f.side,vI f.anchor,vI f.x,vI f.y,vI f.w,vI f.h])]⟩=Z7 at*;obtain⟨idA,Xg,hgr⟩:=Iz hB7 Js Jn Jx Ju Jv hap.symm;generalize q.map az=rows at*;have W1:(rows.length+1)*57<=140737488355328:=by omega
   simp only[go_sem,seval,Xg,bl a29,W1];rw[dM];intro i30 f30;obtain⟨m30,hx,g1,g2,g3,g4,g5⟩:=hgr i30 (rows++[(V.agg [vI f.node,vI f.side,vI f.anchor,vI f.x,vI f.y,vI f.w,vI f.h])]) ⟨291,2,[.agg [v,.own i30 0 (rows++[(V.agg [vI f.node,vI f.side,vI f.anchor,vI f.x,vI f.y,vI f.w,vI f.h])]).length]]⟩ f30;have y2:C' (Vc.bz Z7 idA) i30 ⟨100,7,rows++[(V.agg [vI f.node,vI f.side,vI f.anchor,vI f.x,vI f.y,vI f.w,vI f.h])]⟩ ix=_:=(ab m30).trans hx;have hll:(rows++[(V.agg [vI f.node,vI f.side,vI f.anchor,vI f.x,vI f.y,vI f.w,vI f.h])]).length=rows.length+1:=by simp
   rw[hll]at g1 g2 g3 g4 g5;simp only[go_sem,seval,y2];refine XX ⟨_,g2,⟨v,_,af,g4,?_,g5.symm⟩,g1,Jn⟩;rw[hrq];exact g3
  .have q13:((q.length:Int)>0)=True:=L' (by have:=rW.2 hq0;omega);simp only[go_sem,seval,cx,hlq,q13,a5];rw[dM];intro i29 f29;have hB7:=hB6.rY (o:=⟨100,7,[(V.agg [vI f.node,vI f.side,vI f.anchor,vI f.x,vI f.y,vI f.w,vI f.h])]⟩) f29;have a29:C' Z6 i29 ⟨100,7,[(V.agg [vI f.node,vI f.side,vI f.anchor,vI f.x,vI f.y,vI f.w,vI f.h])]⟩ i29=some ⟨100,7,[(V.agg [vI f.node,vI f.side,vI f.anchor,vI f.x,vI f.y,vI f.w,vI f.h])]⟩:=af;generalize Yl:C' Z6 i29 ⟨100,7,[(V.agg [vI f.node,vI f.side,vI f.anchor,vI f.x,vI f.y,vI f.w,vI f.h])]⟩=Z7 at*;obtain⟨idA,Xg,hgr⟩:=Iz hB7 Js Jn Jx Ju Jv hap.symm;generalize q.map az=rows at*;have W1:(rows.length+1)*57<=140737488355328:=by omega
   simp only[go_sem,seval,Xg,bl a29,W1];rw[dM];intro i30 f30;obtain⟨m30,hx,g1,g2,g3,g4,g5⟩:=hgr i30 (rows++[(V.agg [vI f.node,vI f.side,vI f.anchor,vI f.x,vI f.y,vI f.w,vI f.h])]) ⟨291,2,[.agg [v,.own i30 0 (rows++[(V.agg [vI f.node,vI f.side,vI f.anchor,vI f.x,vI f.y,vI f.w,vI f.h])]).length]]⟩ f30;have y2:C' (Vc.bz Z7 idA) i30 ⟨100,7,rows++[(V.agg [vI f.node,vI f.side,vI f.anchor,vI f.x,vI f.y,vI f.w,vI f.h])]⟩ ix=_:=(ab m30).trans hx;have hll:(rows++[(V.agg [vI f.node,vI f.side,vI f.anchor,vI f.x,vI f.y,vI f.w,vI f.h])]).length=rows.length+1:=by simp
   rw[hll]at g1 g2 g3 g4 g5;simp only[go_sem,seval,y2];refine XX ⟨_,g2,⟨v,_,af,g4,?_,g5.symm⟩,g1,Jn⟩;rw[hrq];exact g3
 .rw[au hl,au hl];simp only[mI,YX,not_or,Decidable.not_not]at hl;have q13:((q.length:Int)>0)=False:=by rw[hl.1];simp
  have qy:(m.y+m.h>body)=False:=H' hl.2;simp only[go_sem,seval,cx,hlq,q13,qy,hr,a6];rw[dM];intro i29 f29;have hB7:=hB6.rY (o:=⟨100,7,[(V.agg [vI m.node,vI m.side,vI m.anchor,vI m.x,vI m.y,vI m.w,vI m.h])]⟩) f29;have a29:C' Z6 i29 ⟨100,7,[(V.agg [vI m.node,vI m.side,vI m.anchor,vI m.x,vI m.y,vI m.w,vI m.h])]⟩ i29=some ⟨100,7,[(V.agg [vI m.node,vI m.side,vI m.anchor,vI m.x,vI m.y,vI m.w,vI m.h])]⟩:=af;generalize Yl:C' Z6 i29 ⟨100,7,[(V.agg [vI m.node,vI m.side,vI m.anchor,vI m.x,vI m.y,vI m.w,vI m.h])]⟩=Z7 at*;obtain⟨idA,Xg,hgr⟩:=Iz hB7 Js Jn Jx Jv Ju hap;generalize p.map az=rows at*;have W1:(rows.length+1)*57<=140737488355328:=by omega
  simp only[go_sem,seval,Xg,bl a29,W1];rw[dM];intro i30 f30;obtain⟨m30,hx,g1,g2,g3,g4,g5⟩:=hgr i30 (rows++[(V.agg [vI m.node,vI m.side,vI m.anchor,vI m.x,vI m.y,vI m.w,vI m.h])]) ⟨291,2,[.agg [.own i30 0 (rows++[(V.agg [vI m.node,vI m.side,vI m.anchor,vI m.x,vI m.y,vI m.w,vI m.h])]).length,u]]⟩ f30;have y2:C' (Vc.bz Z7 idA) i30 ⟨100,7,rows++[(V.agg [vI m.node,vI m.side,vI m.anchor,vI m.x,vI m.y,vI m.w,vI m.h])]⟩ ix=_:=(ab m30).trans hx;have hll:(rows++[(V.agg [vI m.node,vI m.side,vI m.anchor,vI m.x,vI m.y,vI m.w,vI m.h])]).length=rows.length+1:=by simp
  rw[hll]at g1 g2 g3 g4 g5;simp only[go_sem,seval,y2];refine XX ⟨_,g2,⟨_,u,af,?_,g4,g5⟩,g1,Jn⟩;rw[hrp];exact g3
open Go.Proofs
def bb.from{ZJ U J Xj Z':ad}(h:bb ZJ J Xj Z')(hs:aa U J):bb ZJ U Xj Z':=⟨h.1,λi o h1 h2=>h.2 i o h1 (hs _ _ h2)⟩
def jd(body:Int)(x:List T'×List T')(f m:T'):List T'×List T':=(if mI x.2 m body then x.1 else x.1++[m],if mI x.2 m body then x.2++[f]else x.2)
def bJ(top shift:Int)(f:T'):T':={ f with y:=max 0 (f.y-top)+shift }
def jh(top shift body:Int)(L:List T'):List T'×List T':=L.foldl (λx f=>jd body x f (bJ top shift f)) ([],[])
def DX(top shift body:Int)(L:List T')(f:T'):jh top shift body (L++[f])=jd body (jh top shift body L) f (bJ top shift f):=by
 unfold jh;rw[kN];rfl
def ou(top shift body:Int)(L:List T'):(jh top shift body L).1.length+(jh top shift body L).2.length=L.length:=by
 have key:∀(L:List T') (x:List T'×List T'),(L.foldl (λx f=>jd body x f (bJ top shift f)) x).1.length+(L.foldl (λx f=>jd body x f (bJ top shift f)) x).2.length=x.1.length+x.2.length+L.length:=by
  intro L
  induction L with
  |nil=>intro x;rfl
  |cons f L ih=>
   intro x;rw[gg,ih];unfold jd;split<;>simp<;>omega
 have:=key L ([],[]);simpa[jh]using this
def tY(l:List XA)(s:XP)(kept:Int):Int:=(atG l s.atom).y+s.done-kept
def dG(l:List XA)(fl:List T')(s:XP)(to kept shift body:Int):List T'×List T':=if cT l s then jh (tY l s kept) shift body (cN fl s to)else([],[])
def I1(x:Int):(if x>0 then x else 0)=max 0 x:=by split<;>omega
def JH(l:List XA)(hl:jz l)(fl:List T')(Zh:fl.length<=1000000)(hfo:∀f∈fl,f.ok)(s:XP)(hd:s.done<=1152921504606846976)(to kept shift body:Int)(hk:-1152921504606846976<=kept/\kept<=2305843009213693952)(ZR:0<=shift/\shift<=1152921504606846976):
 aE prog 159 [aT l,ax fl,aL s,vI to,vI kept,vI shift,vI body] (.WC [ax (dG l fl s to kept shift body).1,ax (dG l fl s to kept shift body).2]):=λU=>by
 refine Uf.q ?_;have hs:=aa.refl U;have hll:=hl.len;have hsc:(aL s).cells=[vI s.atom,vI s.done,.bool s.free]:=rfl;have hss:(aL s).stays=true:=rfl;refine mS 20 ?_;simp only[go_sem,seval,SG,hsc,hss];refine al hs λi9 Z9 s9 a9 f9 _ hs=>?_;simp only[go_sem,seval];refine al hs λi12 Y12 s12 a12 f12 _ hs=>?_;replace a9:=s12 _ _ a9;simp only[go_sem,seval];refine al hs λi13 Z13 s13 XM f13 z13 hs=>?_;replace a9:=s13 _ _ a9;obtain⟨n1213,a12⟩:=WG a12 f13 s13;rw[aL]at a9;simp only[go_sem,seval,a9];refine pR rfl (rG l s _) ?_;unfold dG;by_cases hm:cT l s
 .rw[XK hm,ak hm];obtain⟨h0,h2⟩:=hm.1;obtain⟨k,hkk⟩:∃k:Nat,s.atom=k:=⟨s.atom.toNat,by omega⟩
  have Zb:k<l.length:=by omega
  have Wz:=λU=>dS (U:=U) Zb;have hy:=hl.rng _ (Xo Zb);have hd0:=hm.2.1;have htop:tY l s kept=l[k].y+s.done-kept:=by rw[tY,hkk,aV Zb]
  have r1:WI .i64 (l[k].y+s.done):=ae;have r2:WI .i64 (l[k].y+s.done-kept):=ae;have htr:-4611686018427387904<=tY l s kept/\tY l s kept<=4611686018427387904:=by rw[htop];omega
  have Yj:=kx fl (if s.done>0 then s.atom+1 else s.atom) to;have hcm:∀f∈cN fl s to,f.ok:=λf hf=>hfo f ((sD.1 hf).1);have hca:=HO fl Zh s (ae) to;have hcl':(cN fl s to).length<=1000000:=jP Yj Zh;generalize cN fl s to=L at*;rw[hkk]at a9;apply sR;simp only[go_sem,seval,hkk];refine al hs λi16 Z16 s16 a16 f16 z16 hs=>?_;obtain⟨n916,a9⟩:=WG a9 f16 s16;obtain⟨n1216,a12⟩:=WG a12 f16 s16;obtain⟨n1316,XM⟩:=WG XM f16 s16;simp only[go_sem,seval,a9,Wz,bE,r1,r2];refine vS hs λi17 Y17 s17 a17 f17 z17 hs=>?_;obtain⟨n917,a9⟩:=WG a9 f17 s17;obtain⟨n1217,a12⟩:=WG a12 f17 s17;obtain⟨n1317,XM⟩:=WG XM f17 s17;obtain⟨n1617,a16⟩:=WG a16 f17 s17;simp only[go_sem,seval,a17,a9,ab n917];generalize hq17:C' _ i17 _=Z17;replace a17:=XD hq17;replace a9:=WQ hq17 n917 a9;replace a12:=WQ hq17 n1217 a12;replace XM:=WQ hq17 n1317 XM;replace a16:=WQ hq17 n1617 a16;replace hs:=Xz hq17 hs z17;rw[aL,hkk]at hca;refine pS rfl (hca _) ?_;simp only[go_sem,seval];refine pS rfl (Ox L _) ?_;simp only[go_sem,seval];rw[<-htop]at a17;generalize tY l s kept=top at*;generalize hS:mix 20 _ _=S;have S12:S 12=.ptr i12 0 0:=by rw[<-hS];rfl
  have S13:S 13=.ptr i13 0 0:=by rw[<-hS];rfl
  have S16:S 16=.ptr i16 0 0:=by rw[<-hS];rfl
  have S17:S 17=.ptr i17 0 0:=by rw[<-hS];rfl
  have S39:S 39=.fn 254 [.rp (ax L)]:=by rw[<-hS];rfl
  clear hS;obtain⟨Z0,hY0⟩:∃Z0,Z0=del Z17 i16:=⟨_,rfl⟩
  have d0:∀i,i≠i16->Z0 i=Z17 i:=λi hi=>by rw[hY0];exact cA hi
  have b12:Z0 i12=_:=(d0 _ n1216).trans a12;have b13:Z0 i13=_:=(d0 _ n1316).trans XM;have b17:Z0 i17=_:=(d0 _ n1617.symm).trans a17;have b16:Z0 i16=none:=by rw[hY0];simp[del]
  have Xn:aa U Z0:=λi o h=>by
   rw[d0 i (λe=>by rw[e,z16]at h;cases h)];exact hs _ _ h
  have h16:SoJ Z0 i16 [] [] Z17:=⟨⟨.aB,.aB,a16,aq.start,aq.start,bL.aB _⟩,hY0▸aa.rJ _ _,b16⟩
  refine ag.eN (g:=.t 39) (caps:=[.rp (ax L)]) S39 (F0 L hcl') (λy hy=>?_) [] (λpre ZJ=>SoJ Z0 i16 (jh top shift body (L.take pre.length)).1 (jh top shift body (L.take pre.length)).2 ZJ)
   (λ_ _ _=>False) ?_ ?_ ?_ ?_ ?_
  .obtain⟨t,_,rfl⟩:=gb.1 hy;rfl
  .exact h16
  .rintro pre y post ZJ ZB ZL hJ E';obtain⟨f,hf,rfl⟩:=qY ZL;obtain⟨B',hfe⟩:=oR.1 hf;have hlen:(pre++[[az f]]).length=pre.length+1:=by simp
   have W4:L.take (pre.length+1)=L.take pre.length++[f]:=by rw[Yz B',hfe]
   have Zb:=ou top shift body (L.take pre.length);have ZE:(L.take pre.length).length<=1000000:=by rw[jb];omega
   rw[hlen,W4,DX];generalize jh top shift body (L.take pre.length)=x at*;have hfo':=hcm f (xB hf);have a12:=E' _ _ (hJ.sub _ _ b12);have XM:=E' _ _ (hJ.sub _ _ b13);have a17:=E' _ _ (hJ.sub _ _ b17);obtain⟨o1,o2,o3,o4⟩:=hfo';unfold Bq at o1 o2 o3 o4;have q1:WI .i64 (f.y-top):=ae;have q2:WI .i64 (max 0 (f.y-top)+shift):=ae;generalize Zg:nh S [40] [az f]=S0;have T12:S0 12=.ptr i12 0 0:=by rw[<-Zg];exact S12
   have T13:S0 13=.ptr i13 0 0:=by rw[<-Zg];exact S13
   have T16:S0 16=.ptr i16 0 0:=by rw[<-Zg];exact S16
   have T17:S0 17=.ptr i17 0 0:=by rw[<-Zg];exact S17
   have T40:S0 40=.agg [vI f.node,vI f.side,vI f.anchor,vI f.x,vI f.y,vI f.w,vI f.h]:=by rw[<-Zg];rfl
   clear Zg;have hs:=aa.refl ZB;refine mS 20 ?_;simp only[go_sem,seval];refine al hs λi18 Z18 s18 a18 f18 z18 hs=>?_;obtain⟨n1218,a12⟩:=WG a12 f18 s18;obtain⟨n1318,XM⟩:=WG XM f18 s18;obtain⟨n1718,a17⟩:=WG a17 f18 s18;simp only[go_sem,seval,a18,T40];generalize hq18:C' _ i18 _=Y18;replace a18:=XD hq18;replace a12:=WQ hq18 n1218 a12;replace XM:=WQ hq18 n1318 XM;replace a17:=WQ hq18 n1718 a17;replace hs:=Xz hq18 hs z18;apply sR;simp only[go_sem,seval,a18];refine al hs λi19 Y19 s19 a19 f19 z19 hs=>?_;obtain⟨n1819,a18⟩:=WG a18 f19 s19;obtain⟨n1219,a12⟩:=WG a12 f19 s19;obtain⟨n1319,XM⟩:=WG XM f19 s19;obtain⟨n1719,a17⟩:=WG a17 f19 s19;simp only[go_sem,seval,a19,a18,a17,a12,XM,T12,T13,T17,ab n1819,ab n1719,ab n1219,ab n1319,q1,q2,I1];generalize Yy:C' _ i19 _=Z19;replace a19:=XD Yy;replace a18:=WQ Yy n1819 a18;replace a12:=WQ Yy n1219 a12;replace XM:=WQ Yy n1319 XM;replace a17:=WQ Yy n1719 a17;replace hs:=Xz Yy hs z19;have hc:=KO x.1 x.2 (by omega) (by omega) f (bJ top shift f) body (ae (by simp only[bJ];omega) (by simp only[bJ];omega)) hJ (E'.trans hs);rw[<-T16]at hc;refine Yn rfl hc ?_;rintro-Z2 ⟨Xj,hB,ZC⟩;apply sR;simp only[go_sem,seval];exact⟨_,hB.from hs,ZC⟩
  .rintro Z' hJ;have XW:(L.map λf=>[az f]).length=L.length:=by simp
   rw[XW,dR]at hJ;obtain⟨⟨v,u,Jx,Jv,Ju,_⟩,Js,Jn⟩:=hJ;obtain⟨vc,vs⟩:=Jv.vc;obtain⟨uc,us⟩:=Ju.vc;refine mS 20 ?_;simp only[go_sem,seval,S16,Jx];have WM:=Xn.trans Js;have hK:aa U (bj Z0 i16):=λi o hh=>by
    rw[bj,au (λe=>by rw[e,z16]at hh;cases hh)];exact Xn _ _ hh
   exact⟨_,U,WM,Wk.WC (vs':=[ax (jh top shift body L).1,ax (jh top shift body L).2]) ⟨Jv.wk hK WM,Ju.wk hK WM,trivial⟩,rfl,rfl⟩
  .intro id h;cases h
  .rintro pre Z' _ ⟨⟩
 .rw[XJ hm,au hm];apply sR;simp only[go_sem,seval];exact⟨_,U,hs,Wk.WC (vs':=[ax [],ax []]) ⟨Wk.aB 7,Wk.aB 7,trivial⟩,rfl,rfl⟩
variable {P:Program} {n:Nat} {st:St} {Q:St->Prop} {k:List It} {I:Mu} {w:World}
def Lj{o:Op}{sz:Nat}{xs:List VX}(h:Xb P n o=.more (.cpy sz) xs):∃x y t e args argTypes,o=.call { callee:=.builtin .copy,args:=args,argTypes:=argTypes }/\
 args=#[x,y]/\argTypes[0]?=some t/\P.underlying t=some (.slice e)/\bQ P e=true/\P.cellsOf e=sz/\xs=[cx n x,cx n y]:=by
 cases o
 case call c=>
  obtain⟨callee,args,argTypes⟩:=c;cases callee
  case builtin b=>
   cases b
   case copy=>
    simp only[Xb,cG]at h;split at h
    .rename_i x y t h1 h2;split at h
     .rename_i e he;split at h
      .rename_i hz;simp only[Xd.more.injEq,MOp.cpy.injEq]at h;exact⟨x,y,t,e,args,argTypes,rfl,by apply Array.ext';simpa using h1,h2,he,hz,h.1,h.2.symm⟩
      .cases h
     .cases h
    .cases h
   all_goals (simp only[Xb,cG]at h;(repeat' split at h)<;>cases h)
  all_goals (simp only[Xb,cG]at h;(repeat' split at h)<;>cases h)
 case unOp op t x=>cases op<;>simp only[Xb,cG]at h<;>cases h
 case makeFunc f a b=>cases f<;>simp only[Xb,cG]at h<;>(repeat' split at h)<;>cases h
 all_goals (simp only[Xb,cG]at h;(repeat' split at h)<;>cases h)
def Gr{F:Fr}{a:Act}(hs:dr F I st a w){o:Oper}{x y:Operand}{t e:TypeId}{args:Array Operand}{argTypes:Array TypeId}
 (hoo:o.op=.call { callee:=.builtin .copy,args:=args,argTypes:=argTypes })(harg:args=#[x,y])(hty:argTypes[0]?=some t)
 (ht:P.underlying t=some (.slice e))(hk:bQ P e=true){id off len:Nat}(h1:(cx F.n x).ev st.s=.own id off len){ob:Ob}(h2:st.U id=some ob)
 (h3:ob.sz=P.cellsOf e)(h4:off+len<=ob.rows.length){rows:List V}(h5:bc st.U (P.cellsOf e) ((cx F.n y).ev st.s)=some rows)(h6:rows.length=len):
 ∃y w',(execOp a.eval o).run P w=.ok (.value y) w'/\
  dr F I ⟨aO st.s (o.dst.filter (·<F.n)) (.int .i64 len),C' st.U id { ob with rows:=ob.rows.take off++rows++ob.rows.drop (off+len) }⟩ (a.put o.dst y) w':=by
 have XH:=(dV hk).2.2;have R:=cL hs;have hx:=R x;rw[h1]at hx;simp only[G']at hx;obtain⟨news,hY,n1,n2,n3,n4,n5⟩:=pf (P:=P) hs.sat XH h5 (R y);have Xq:∀v w',(Builtin.copy_ argTypes o.type #[a.eval x,a.eval y]).run P w=.ok v w'->(execOp a.eval o).run P w=.ok (.value v) w':=by
  intro v w' hw';unfold execOp;rw[hoo];simp[resolve,invoke,Go.builtin,harg,hw']
 have ZF:G' I (aA I st.U) w (.int .i64 len) (goInt len):=by simp only[G'];rfl
 have hcopy:∀b c,a.eval x=.slice b len c->(Builtin.copy_ argTypes o.type #[a.eval x,a.eval y]).run P w=((match b with|some q=>storeCells q news 0|none=>pure ()).run P w).andThen λ_ w'=>.ok (goInt len) w':=by
  intro b c hX;have hlen:=hY w;have hfc:=n5 w (λ_ _ _ h=>h);rw[h6]at hlen hfc;rw[hX];have hm:Nat.min len len=len:=Nat.min_self len;cases b
  .simp[Builtin.copy_,hty,run_underlying ht,hlen,hm,ct hk,hfc]
  .simp[Builtin.copy_,hty,run_underlying ht,hlen,hm,ct hk,hfc]
 have hzero:len=0->∃y w',(execOp a.eval o).run P w=.ok (.value y) w'/\
  dr F I ⟨aO st.s (o.dst.filter (·<F.n)) (.int .i64 len),C' st.U id { ob with rows:=ob.rows.take off++rows++ob.rows.drop (off+len) }⟩ (a.put o.dst y) w':=by
  intro h0;subst h0;have hX:∃b c,a.eval x=.slice b 0 c:=by
   split at hx
   .exact hx.elim
   .exact⟨_,_,hx.1⟩
   .obtain⟨o',c,h,_⟩:=hx;exact⟨_,_,h⟩
  obtain⟨b,c,hX⟩:=hX;obtain rfl:rows=[]:=rf h6;obtain rfl:news=[]:=rf (by simpa using n4);have WM:C' st.U id { ob with rows:=ob.rows.take off++[]++ob.rows.drop (off+0) }=st.U:=by
   funext j;simp only[C',iN,Nat.add_zero,rZ];split
   .rename_i e';rw[e',h2]
   .rfl
  rw[WM];refine⟨goInt 0,w,Xq _ w ?_,hs.pure ZF⟩;rw[hcopy b c hX];cases b<;>simp[storeCells]
 split at hx
 .exact hx.elim
 .exact hzero hx.2.2
 .rename_i b szb cap M';obtain⟨o',c,hX,c1,c2,c3,hz0⟩:=hx;by_cases h0:len=0
  .exact hzero h0
  have XL:=hs.sat.obj id ob h2;rw[M']at XL;obtain⟨cur,e1,e2,e3,e4,e5,e6,e7⟩:=XL.plain hz0;obtain⟨g1,xs,g2,g3,g4,g5⟩:=e7.cur e1;have hoff:o'=off*szb:=by
   rcases c3 with c3|c3
   .exact c3
   .omega
  subst hoff;have W2:szb=P.cellsOf e:=by omega
  subst W2;have hbound:off*P.cellsOf e+len*P.cellsOf e<=ob.rows.length*P.cellsOf e:=by rw[<-Nat.add_mul];exact Nat.mul_le_mul_right _ h4
  have hbound2:ob.rows.length*P.cellsOf e<=cap*P.cellsOf e:=Nat.mul_le_mul_right _ e5;rw[h6]at n4;have WM:=run_storeCells_at P b (off*P.cellsOf e) ob.elem news 0 cur w e1 (by rw[n4];omega) n3;simp only[Nat.add_zero]at WM;refine⟨goInt len,w.setRow b (cur.toList.take (off*P.cellsOf e)++news++cur.toList.drop (off*P.cellsOf e+news.length)).toArray,Xq _ _ ?_,?_⟩
  .rw[hcopy _ c hX];simp only[WM,Result.andThen_ok]
  .have hgrow:w.grownBy (w.setRow b (cur.toList.take (off*P.cellsOf e)++news++cur.toList.drop (off*P.cellsOf e+news.length)).toArray) (some b):=
    ⟨rfl,rfl,rfl,by simp,λkk _ hkk=>setRow_other w b kk _ (λe=>hkk (by rw[e]))⟩
   have hrows':∀q∈ob.rows.take off++rows++ob.rows.drop (off+len),q.cells.length=P.cellsOf e:=by
    intro q hq;simp only[dH]at hq;rcases hq with(hq|hq)|hq
    .exact g1 q (rB hq)
    .exact n1 q hq
    .exact g1 q (List.mem_of_mem_drop hq)
   have hflat:flat (ob.rows.take off++rows++ob.rows.drop (off+len))=
    (flat ob.rows).take (off*P.cellsOf e)++flat rows++(flat ob.rows).drop (off*P.cellsOf e+len*P.cellsOf e):=by
    rw[iL,iL,sk g1];congr 1;rw[yF g1,Nat.add_mul]
   have hch:=hs.sat.change h2 M' (by omega) hgrow _ (ob.rows.take off++rows++ob.rows.drop (off+len)) (xs.take (off*P.cellsOf e)++news++xs.drop (off*P.cellsOf e+news.length))
    (setRow_heap w b cur _ ob.elem _ e1) (by simp only[List.size_toArray,gn,jb,re,n4];rw[Array.length_toList];omega) (by simp;omega) hrows'
    (by rw[hflat,n4];exact((g2.take _).append n2).append (g2.drop _))
    (by intro u hu
        simp only[dH]at hu;rcases hu with(hu|hu)|hu
        .exact g3 u (rB hu)
        .exact n3 u hu
        .exact g3 u (List.mem_of_mem_drop hu))
    (by intro j u hu
        have:=lJ cur.toList xs _ g5 (off*P.cellsOf e) (by rw[n4,g4];omega) j u hu;simpa using this)
   exact hs.step hch.1 (dx.refl _) hch.2 (by simp) (by simp only[G'];rfl)
def ag.cpy{i:aC}{l:List aC}{sz:Nat}{xa xb:VX}(hw:bg st.s i.g=some true)(ho:i.op=.more (.cpy sz) [xa,xb])
 {id off len:Nat}(h1:xa.ev st.s=.own id off len){ob:Ob}(h2:st.U id=some ob)(h3:ob.sz=sz)(h4:off+len<=ob.rows.length){rows:List V}(h5:bc st.U sz (xb.ev st.s)=some rows)(h6:rows.length=len)
 (h:ag P n (.ops l::k) ⟨aO st.s i.dst (.int .i64 len),C' st.U id { ob with rows:=ob.rows.take off++rows++ob.rows.drop (off+len) }⟩ Q):ag P n (.ops (i::l)::k) st Q:=by
 refine ag.ins (by rw[ho];simp) hw λF hn I a w o all hi hs next Q' WN=>?_
 subst hn;obtain⟨WO,hd⟩:=ee hi;rw[ho]at WO;obtain⟨x,y,t,e,args,argTypes,g1,g2,g3,g4,g5,rfl,ZL⟩:=Lj WO;simp only[List.cons.injEq,and_true]at ZL;obtain⟨rfl,rfl⟩:=ZL;obtain⟨y,w',hx,W2⟩:=Gr hs g1 g2 g3 g4 g5 h1 h2 h3 h4 h5 h6;unfold Oper.wp;rw[hx];refine WN _ _ _ ⟨I,?_⟩ h;rw[<-hd];exact W2
open Go.Proofs
def bZ(body:Int):List T'->Int->List T'×List T'×Int
 |[],sh=>([],[],sh)
 |f::r,sh=>if sh+min f.h body>body then([],f::r,sh)else({ f with y:=sh,h:=min f.h body }::(bZ body r (sh+min f.h body)).1,(bZ body r (sh+min f.h body)).2)
def jx{P:List T'}{j:Nat}(h:j<=P.length):∀U,iE U 7 (ax P) (some (.int .i64 j)) none none=some (ax (P.drop j)):=λU=>by
 have h1:(j:Int)<=P.length:=by omega
 simp only[ax,iE,fc,cJ];rw[ak ⟨by omega,h1,Int.le_refl _,Int.le_refl _,trivial⟩,eU,eU,<-List.map_drop,lf (by simp)]
def NS(P:List T')(hP:P.length<=1000000)(body:Int)(hb0:1<=body)(hb1:body<=1099511627776)(hh:∀f∈P,0<=f.h):
 aE prog 55 [ax P,vI body] (.WC [ax (bZ body P 0).1,ax (bZ body P 0).2.1,vI (bZ body P 0).2.2]):=λU=>by
 refine e55.q ?_;have hs:=aa.refl U;have hlp:=cF P;refine mS 13 ?_;simp only[go_sem,seval,c55,hlp];refine ag.fP (λst=>∃p q sh,bZ body P 0=(p,q,sh)/\aa U st.U/\aq U st.U 100 7 (st.s 4) (p.map az)/\aq U st.U 100 7 (st.s 5) (q.map az)/\st.s 6=vI sh)
  (λm st=>∃(j:Nat) (acc:List T') (sh:Int),j<=P.length/\m=P.length-j/\acc.length=j/\bZ body P 0=(acc++(bZ body (P.drop j) sh).1,(bZ body (P.drop j) sh).2)/\0<=sh/\sh<=body/\aa U st.U/\aq U st.U 100 7 (st.s 4) (acc.map az)/\st.s 5=.aB/\st.s 6=vI sh/\st.s 0=ax P/\st.s 1=vI body/\st.s 10=ax P/\st.s 11=vI P.length/\st.s 12=vI j) P.length ?_ ?_ ?_
 .exact⟨0,[],0,by omega,rfl,rfl,rfl,by omega,by omega,hs,aq.start,rfl,rfl,rfl,rfl,rfl,rfl,rfl⟩
 .clear hs;rintro m ⟨S,J⟩ ⟨j,acc,sh,hj,rfl,ZN,heq,h0,h1,hs,ho,t5,t6,t0,t1,t10,t11,t12⟩;simp only at hs ho t5 t6 t0 t1 t10 t11 t12;generalize hv4:S 4=v4 at ho;refine ag.mix 13 ?_;by_cases B':j<P.length
  .have q:=qT B';have Wz:=λU=>dO (U:=U) B';have hf0:=hh _ (Xo B');have hd:P.drop j=P[j]::P.drop (j+1):=iT B';have Zh:az P[j]=.agg [vI P[j].node,vI P[j].side,vI P[j].anchor,vI P[j].x,vI P[j].y,vI P[j].w,vI P[j].h]:=rfl;rw[hd,bZ]at heq;generalize P[j]=f at*;have hsZ:=hs;replace hs:=aa.refl J;have r1:=rI j;have r2:WI .i64 (sh+min f.h body):=ae;apply sR;simp only[go_sem,seval,t10,t11,t12,q,Wz,Zh];refine al hs λi8 Z8 s8 a8 f8 z8 hs=>?_;simp only[go_sem,seval,a8];generalize Yc:C' _ i8 _=Y8;replace a8:=XD Yc;replace hs:=Xz Yc hs z8;refine al hs λi9 Z9 s9 a9 f9 z9 hs=>?_;obtain⟨n89,a8⟩:=WG a8 f9 s9;simp only[go_sem,seval,a9,cm];generalize Xw:C' _ i9 _=Y9;replace a9:=XD Xw;replace a8:=WQ Xw n89 a8;replace hs:=Xz Xw hs z9;refine ag.tT (by kernel_rfl) [0,1,2,3,4,5,6,7,8] [[],[],[1],[],[1,2,3],[0],[0,5],[0,1,2,3,4,5,6],[0,1,2,3,4,5,6,7]] [0,2,4,6,8,10,12,5,14,16] (by kernel_rfl) (by kernel_rfl) ?_;refine cI (n:=0) [5,14,16] [0,2,4,6,8,10,12] [_,_,_,_,_,_,_] rfl rfl ?_;simp only[go_sem,seval,a9,a8,t6,t1,dN];refine dy rfl (by simp only[go_sem,seval,a8,ab n89]) ?_;refine cI (n:=0) [] [14,16] [_,_] rfl rfl ?_;simp only[go_sem,seval];generalize Xw:C' _ i9 _=Y9;replace a9:=XD Xw;replace a8:=WQ Xw n89 a8;replace hs:=Xz Xw hs z9;by_cases hgt:sh+min f.h body>body
   .have q1:(sh+min f.h body>body)=True:=L' hgt;rw[ak hgt]at heq;have r3:WI .i64 ((P.length:Int)-j):=ae;apply sR;simp only[go_sem,seval,a9,t0,t1,hlp,r2,q1,r3];obtain⟨n,hn⟩:∃n:Nat,n=P.length-j:=⟨_,rfl⟩
    have hnj:(P.length:Int)-j=(n:Int):=by omega
    rw[hnj];have hbm:(0:Int)<=n/\(n:Int).toNat*57<=140737488355328:=by omega
    simp only[go_sem,seval,hbm];refine aj λi36 Z36 s36 a36 f36=>?_;have hsl:=jx hj;simp only[BB,seval,aZ,eD,aD,t0,hsl,eU];have Yb:(P.drop j).length=n:=by rw[re,hn]
    refine ag.cpy (id:=i36) (off:=0) (len:=n) (rows:=(P.drop j).map az) rfl rfl rfl a36 rfl (by simp) rfl (by rw[cJ,Yb]) ?_;have hrw:(List.replicate (n:Int).toNat (V.agg [vI 0,vI 0,vI 0,vI 0,vI 0,vI 0,vI 0])).take 0++(P.drop j).map az++(List.replicate (n:Int).toNat (V.agg [vI 0,vI 0,vI 0,vI 0,vI 0,vI 0,vI 0])).drop (0+n)=(P.drop j).map az:=by
     generalize (P.drop j).map az=X;simp
    rw[hrw];apply sR;simp only[go_sem,seval,t6,hv4];have WM:=(hsZ.trans (hs.trans s36)).ao (o:=⟨100,7,(P.drop j).map az⟩) ((hsZ.trans hs).none f36);refine⟨acc,P.drop j,sh,?_,WM,?_,?_,rfl⟩
    .rw[heq,iN,hd]
    .exact ho.mono ((hs.trans s36).ao (hs.none f36))
    .exact aq.new (by rw[cJ,Yb]) af ((hsZ.trans hs).none f36)
   .have q1:(sh+min f.h body>body)=False:=H' hgt;rw[au hgt]at heq;apply sR;simp only[go_sem,seval,a9,t1,hv4,r2,q1];refine aj λi44 Z44 s44 a44 f44=>?_;obtain⟨idA,Xg,WK,XG,hd2⟩:=ho.mE (hs.trans s44);have Yd:(acc.map az).length=j:=by rw[cJ,ZN]
    have W1:(j+1)*57<=140737488355328:=by omega
    simp only[go_sem,seval,Xg,bl a44,Yd,W1];refine aX λi45 Z45 s45 a45 f45=>?_;have b9:=s45 _ _ ((hd2 i9 z9 Z44).trans (s44 _ _ a9));have k45:=(WK U (aa.refl _) Z44 (hsZ.trans (hs.trans s44))).trans s45;have ZW:U i45=none:=(hsZ.trans (hs.trans s44)).none f45;simp only[go_sem,seval,t0,t1,t5,t6,t10,t11,t12,b9,r1,r2];refine⟨_,?_,j+1,acc++[{ f with y:=sh,h:=min f.h body }],sh+min f.h body,by omega,rfl,by simp[ZN],?_,by omega,by omega,k45,?_,by simp⟩
    .omega
    .rw[heq,lh];rfl
    .rw[cX];exact aq.new (by simp[ZN]) a45 ZW
  .have q:=qF B';have YK:j=P.length:=by omega
   rw[YK,xD,bZ,iN]at heq;apply sR;simp only[go_sem,seval,t5,t6,t11,t12,hv4,q];exact⟨acc,[],sh,heq,hs,hv4▸ho,aq.start,rfl⟩
 .rintro⟨S,J⟩ ⟨p,q,sh,heq,hs,ho,hu,t6⟩;simp only at hs ho hu t6;generalize hv4:S 4=v4 at ho;generalize hv5:S 5=v5 at hu;refine mS 13 ?_;simp only[go_sem,seval,hv4,hv5,t6];rw[heq];exact⟨_,U,hs,Wk.WC (vs':=[ax p,ax q,vI sh]) ⟨ho.wk (aa.refl _) hs,hu.wk (aa.refl _) hs,Wk.refl hs _,trivial⟩,rfl,rfl⟩
open Go.Proofs
structure Bk where
 nodes:List Nd
 (w h:Int)
 atoms:List XA
 WA:List T'
 U':Int
 WT:List Yr
def br(b:Bk):V:=.agg [ay b.nodes,vI b.w,vI b.h,aT b.atoms,ax b.WA,vI b.U',aY b.WT]
structure Wx where
 WU:V
 (high body:Int)
 s:XP
 kind:Int
 (hs fs ls:List Yx)
 shift:Int
def dC(b:Bk)(x:Wx)(vh vf vl:V):Ob:=⟨109,13,[.agg [x.WU,vI x.high,vI x.body,.rp (br b),vI x.s.atom,vI x.s.done,.bool x.s.free,vI 0,vI x.kind,vh,vf,vl,vI x.shift]]⟩
structure Zu(b:Bk)(K:ad)(ix:Nat)(x:Wx)(U:ad)(vh vf vl:V):Prop where
 row:U ix=some (dC b x vh vf vl)
 oh:aq (bj K ix) U 123 7 vh (x.hs.map aJ)
 of:aq (bj K ix) U 123 7 vf (x.fs.map aJ)
 ol:aq (bj K ix) U 123 7 vl (x.ls.map aJ)
 hf:bL vh vf
 hl:bL vh vl
 fl:bL vf vl
 sub:aa K U
 no:K ix=none
def Zu.mono{b:Bk}{K:ad}{ix:Nat}{x:Wx}{U J:ad}{vh vf vl:V}(h:Zu b K ix x U vh vf vl)(hs:aa U J):Zu b K ix x J vh vf vl:=
 ⟨hs _ _ h.row,h.oh.mono hs,h.of.mono hs,h.ol.mono hs,h.hf,h.hl,h.fl,h.sub.trans hs,h.no⟩
def Cf{K Z8:ad}{ix e sz:Nat}{v:V}{rows:List V}(Js:aa K Z8)(Jn:K ix=none){ox:Ob}(Jx:Z8 ix=some ox)(Jv:aq (bj K ix) Z8 e sz v rows):
 ∃idA,bC Z8 e sz v=some (rows,idA)/\∀(Z9:ad) (id:Nat) (WH:List V),aa (Vc.bz Z8 idA) Z9->Z9 id=some ⟨e,sz,WH⟩->Z8 id=none->
  Z9 ix=some ox/\∀o',aa K (C' Z9 ix o')/\aq (bj K ix) (C' Z9 ix o') e sz (.own id 0 WH.length) WH/\
  ∀u rowsU,aq (bj K ix) Z8 e sz u rowsU->bL v u->aq (bj K ix) (C' Z9 ix o') e sz u rowsU/\bL (.own id 0 WH.length) u:=by
 obtain⟨idA,Xg,hdA⟩:=Jv.R7 (aa.refl Z8);have k2:bj K ix ix≠none:=λh=>(aF.1 h).1 rfl;have dne:∀(i:Nat),bj K ix i≠none->Vc.bz Z8 idA i=Z8 i:=λi hk=>by
  cases idA with
  |none=>rfl
  |some a=>exact cA (λe=>hk (by rw[e];exact(hdA a rfl).1))
 refine⟨idA,Xg,λZ9 id WH hs9 h9 f=>⟨hs9 _ _ ((dne _ k2).trans Jx),λo'=>⟨?_,?_,λu rowsU hu hap=>⟨?_,bL.new hu f⟩⟩⟩⟩
 .refine aa.ao (λi o h=>hs9 _ _ ((dne _ (λhk=>?_)).trans (Js _ _ h))) Jn;rw[(aF.1 hk).2]at h;cases h
 .have m:id≠ix:=λe=>by rw[e,Jx]at f;cases f
  refine aq.new rfl ((ab m).trans h9) (aF.2 ⟨m,?_⟩);exact Js.none f
 .rcases hu with h|⟨a,rfl,h1,h2⟩
  .exact .inl h
  .refine .inr ⟨a,rfl,(ab (aF.1 h2).1).trans (hs9 _ _ ?_),h2⟩;cases hA:idA with
   |none=>exact h1
   |some i=>
    have:a≠i:=λe=>hap _ _ _ _ (hdA i hA).2.2 rfl e.symm;simp only[Vc.bz];rw[cA this];exact h1
def cO(high:Int)(f:T'):Yx:=⟨f.node,-1,0,f.x,f.y+high,f.w,f.h⟩
def Wx.put(x:Wx)(l:List T'):Wx:={ x with ls:=x.ls++l.map (cO x.high) }
def n7(b:Bk)(l:List T')(hl:l.length<=1000000)(x:Wx)(hx:x.ls.length<=1000000)(hr:∀f∈l,WI .i64 (f.y+x.high)){K U:ad}{i1:Nat}{vh vf vl:V}(hJ:Zu b K i1 x U vh vf vl):
 av prog 56 [.ptr i1 0 0,ax l] U λ_ Z'=>∃vl',Zu b K i1 (x.put l) Z' vh vf vl':=by
 refine e56.q ?_;have Yp:=cF l;obtain⟨ch,sh⟩:=hJ.oh.vc;obtain⟨cf,sf⟩:=hJ.of.vc;refine mS 9 ?_;simp only[go_sem,seval,c56,Yp];refine ag.loop (λm st=>∃(j:Nat) (vl':V),j<=l.length/\m=l.length-j/\Zu b K i1 (x.put (l.take j)) st.U vh vf vl'/\st.s 0=.ptr i1 0 0/\st.s 6=ax l/\st.s 7=vI l.length/\st.s 8=vI j) l.length ?_ ?_
 .exact⟨0,vl,by omega,rfl,by simpa[Wx.put]using hJ,rfl,rfl,rfl,rfl⟩
 .rintro m ⟨S,J⟩ ⟨j,vl',hj,rfl,hJ,t0,t6,t7,t8⟩;simp only at hJ t0 t6 t7 t8;refine ag.mix 9 ?_;by_cases B':j<l.length
  .have q:=qT B';have Wz:=λU=>dO (U:=U) B';have Zh:az l[j]=.agg [vI l[j].node,vI l[j].side,vI l[j].anchor,vI l[j].x,vI l[j].y,vI l[j].w,vI l[j].h]:=rfl;have W4:l.take (j+1)=l.take j++[l[j]]:=Yz B';have hput:x.put (l.take (j+1))={ x.put (l.take j)with ls:=(x.put (l.take j)).ls++[cO x.high l[j]] }:=by
    rw[W4];simp only[Wx.put,cX,eV,List.map_nil,lh]
   have r0:=hr _ (Xo B');have r1:=rI j;have hyl:((x.put (l.take j)).ls.map aJ).length<=2000000:=by simp[Wx.put];omega
   have hyh:(x.put (l.take j)).high=x.high:=rfl;rw[<-hyh]at hput r0;generalize l[j]=f at*;generalize x.put (l.take j)=y at*;have hs:=aa.refl J;have a1:=hJ.row;rw[dC]at a1;obtain⟨cl,sl⟩:=hJ.ol.vc;apply sR;simp only[go_sem,seval,t6,t7,t8,q,Wz,Zh];refine al hs λi5 Z5 s5 a5 f5 z5 hs=>?_;obtain⟨n15,a1⟩:=WG a1 f5 s5;simp only[go_sem,seval,a5,a1,t0,ab n15,r0];generalize hq5:C' _ i5 _=Y5;replace a5:=XD hq5;replace a1:=WQ hq5 n15 a1;replace hs:=Xz hq5 hs z5;refine bF λi35 Z35 s35 a35 f35=>?_;have hJ5:=hJ.mono (hs.trans s35);obtain⟨idA,Xg,hgr⟩:=Cf hJ5.sub hJ5.no hJ5.row hJ5.ol;generalize hrw:y.ls.map aJ=rows at*;have W1:(rows.length+1)*57<=140737488355328:=by omega
   simp only[go_sem,seval,Xg,bl a35,W1];refine eu λi36 Z36 s36 a36 f36=>?_;obtain⟨b1,hg⟩:=hgr Z36 i36 _ s36 a36 f36;rw[dC]at b1;obtain⟨g1,g2,g3⟩:=hg (dC b { y with ls:=y.ls++[cO y.high f] } vh vf (.own i36 0 (rows.length+1)));simp only[go_sem,seval,b1,t0,t6,t7,t8,r1];refine⟨_,?_,j+1,.own i36 0 (rows.length+1),by omega,rfl,?_,by simp⟩
   .omega
   .rw[hput];obtain⟨k1,k2⟩:=g3 _ _ hJ5.oh hJ5.hl.symm;obtain⟨k3,k4⟩:=g3 _ _ hJ5.of hJ5.fl.symm;rw[gn]at g2 k2 k4;refine⟨af,k1,k3,?_,hJ.hf,k2.symm,k4.symm,g1,hJ.no⟩;show aq _ _ _ _ _ ((y.ls++[cO y.high f]).map aJ);rw[cX,hrw];exact g2
  .have q:=qF B';have YK:j=l.length:=by omega
   rw[YK,dR]at hJ;apply sR;simp only[go_sem,seval,t7,t8,q];exact XX ⟨vl',hJ⟩
open Go.Proofs
structure BkOk(b:Bk):Prop where
 W3:jz b.atoms
 tight:∀a∈b.atoms,-18014398509481984<=a.y/\a.y<=18014398509481984/\0<=a.h/\a.h<=18014398509481984
 len:b.atoms.length<=900000
 flen:b.WA.length<=1000000
 flo:∀f∈b.WA,f.ok
 brk:b.WT.length=b.atoms.length+1
structure YG where
 s:XP
 bu:List T'
def bP(x:YG):V:=.agg [vI x.s.atom,vI x.s.done,.bool x.s.free,ax x.bu]
def Gv{top shift body:Int}:∀{L:List T'} {m:T'},m∈(jh top shift body L).1->∃f∈L,m=bJ top shift f:=by
 have key:∀(L L0:List T') (x:List T'×List T'),(∀m∈x.1,∃f∈L0,m=bJ top shift f)->∀m∈(L.foldl (λx f=>jd body x f (bJ top shift f)) x).1,∃f∈L0++L,m=bJ top shift f:=by
  intro L
  induction L with
  |nil=>intro L0 x h m hm;simpa using h m hm
  |cons f L ih=>
   intro L0 x h m hm;rw[gg]at hm;have:=ih (L0++[f]) _ (λm hm=>?_) m hm
   .simpa using this
   .unfold jd at hm;simp only at hm;split at hm
    .obtain⟨g,hg,e⟩:=h m hm;exact⟨g,by simp[hg],e⟩
    .rcases dH.1 hm with hm|hm
     .obtain⟨g,hg,e⟩:=h m hm;exact⟨g,by simp[hg],e⟩
     .simp at hm;exact⟨f,by simp,hm⟩
 intro L m hm;have:=key L [] ([],[]) (by simp) m hm;simpa using this
def oz{b:Bk}(hb:BkOk b){s:XP}(hd:s.done<=1152921504606846976){to kept shift body:Int}(hk:-1152921504606846976<=kept/\kept<=2305843009213693952)(ZR:0<=shift/\shift<=1152921504606846976):
 (dG b.atoms b.WA s to kept shift body).1.length<=1000000/\∀m∈(dG b.atoms b.WA s to kept shift body).1,0<=m.y/\m.y<=6917529027641081856:=by
 unfold dG;split
 .rename_i hm;have h1:=ou (tY b.atoms s kept) shift body (cN b.WA s to);have h2:(cN b.WA s to).length<=b.WA.length:=kx _ _ _;have h3:=hb.flen;refine⟨by omega,λm hmm=>?_⟩;obtain⟨f,hf,rfl⟩:=Gv hmm;have hfo:=hb.flo f (sD.1 hf).1;obtain⟨_,⟨o1,o2⟩,_⟩:=hfo;obtain⟨h0,h4⟩:=hm.1;have htop:-4611686018427387904<=tY b.atoms s kept:=by
   unfold tY;have:=hm.2.1;obtain⟨k,hkk⟩:∃k:Nat,s.atom=k:=⟨s.atom.toNat,by omega⟩
   have Zb:k<b.atoms.length:=by omega
   have hy:=hb.W3.rng _ (Xo Zb);rw[hkk,aV Zb];omega
  simp only[bJ];omega
 .simp
def cH(high:Int)(f:Yx):Yx:={ f with y:=f.y+high }
def cE(b:Bk)(x:Wx)(kept:Int)(n:Nat):List Yx:=(List.range n).map λi:Nat=>cH x.high (dK b.atoms x.s kept x.shift (x.s.atom+(i:Nat)))
def Wx.add(x:Wx)(l:List Yx):Wx:={ x with fs:=x.fs++l }
def vJ{l:List XA}(hl:jz l){s:XP}(hd0:0<=s.done)(hd:s.done<=1152921504606846976){kept shift:Int}(hk:-1152921504606846976<=kept/\kept<=2305843009213693952)(ZR:0<=shift/\shift<=1152921504606846976)(k:Int):
 -4611686018427387904<=(dK l s kept shift k).y/\(dK l s kept shift k).y<=6917529027641081856:=by
 have h:=pq hl hd hk ZR k;unfold dK;split
 .split
  .simp only;omega
  .simp only[nr];omega
 .simp
def kU(l:List XA)(U:ad):bO U false 1 (.rp (aT l))=some (aT l):=rfl
def Eg(l:List T')(U:ad):bO U false 1 (.rp (ax l))=some (ax l):=rfl
def Hs(l:List Yr)(U:ad):bO U false 1 (.rp (aY l))=some (aY l):=rfl
def O6(l:List Nd)(U:ad):bO U false 1 (.rp (ay l))=some (ay l):=rfl
def Zu.oY{b:Bk}{K:ad}{ix:Nat}{x:Wx}{U J:ad}{vh vf vl:V}(h:Zu b K ix x U vh vf vl)(hs:aa U J){i:Nat}{o:Ob}(h1:U i=none)(h2:J i=some o):Zu b (C' K i o) ix x J vh vf vl:=by
 have key:∀{v rows},aq (bj K ix) U 123 7 v rows->aq (bj (C' K i o) ix) J 123 7 v rows:=λhv=>by
  rcases hv with h|⟨a,e,h3,h4⟩
  .exact .inl h
  .refine .inr ⟨a,e,hs _ _ h3,aF.2 ⟨(aF.1 h4).1,?_⟩⟩;rw[ab (λe=>by subst e;rw[h1]at h3;cases h3)];exact(aF.1 h4).2
 refine⟨hs _ _ h.row,key h.oh,key h.of,key h.ol,h.hf,h.hl,h.fl,λa q ha=>?_,?_⟩
 .by_cases e:a=i
  .subst e;rw[Vc.af]at ha;cases ha;exact h2
  .rw[Vc.ab e]at ha;exact hs _ _ (h.sub _ _ ha)
 .rw[Vc.ab (λe=>by subst e;rw[h.row]at h1;cases h1)];exact h.no
def Zu.narrow{b:Bk}{K:ad}{ix i:Nat}{o:Ob}{x:Wx}{U:ad}{vh vf vl:V}(h:Zu b (C' K i o) ix x U vh vf vl)(hK:K i=none):Zu b K ix x U vh vf vl:=by
 have hk:∀a,C' K i o a=none->K a=none:=λa ha=>by
  by_cases e:a=i
  .subst e;exact hK
  .rwa [Vc.ab e]at ha
 have key:∀{v rows},aq (bj (C' K i o) ix) U 123 7 v rows->aq (bj K ix) U 123 7 v rows:=λhv=>by
  rcases hv with h|⟨a,e,h3,h4⟩
  .exact .inl h
  .exact .inr ⟨a,e,h3,aF.2 ⟨(aF.1 h4).1,hk _ (aF.1 h4).2⟩⟩
 refine⟨h.row,key h.oh,key h.of,key h.ol,h.hf,h.hl,h.fl,λa q ha=>h.sub _ _ ?_,hk _ h.no⟩;rw[Vc.ab (λe=>by subst e;rw[hK]at ha;cases ha)];exact ha
def Zu.drop{b:Bk}{K:ad}{ix i:Nat}{o:Ob}{x:Wx}{U:ad}{vh vf vl:V}(h:Zu b (C' K i o) ix x U vh vf vl)(hK:K i=none)(o':Ob):Zu b K ix x (C' U i o') vh vf vl:=by
 have hn:ix≠i:=λe=>by have:=h.no;subst e;rw[Vc.af]at this;cases this
 have key:∀{v rows},aq (bj K ix) U 123 7 v rows->aq (bj (C' K i o) ix) U 123 7 v rows->aq (bj K ix) (C' U i o') 123 7 v rows:=λhv hw=>by
  rcases hv with h|⟨a,rfl,h3,h4⟩
  .exact .inl h
  .refine .inr ⟨a,rfl,?_,h4⟩;rcases hw with⟨h,_⟩|⟨c,h,h5,h6⟩
   .cases h
   .cases h;have:a≠i:=λe=>by subst e;have:=(aF.1 h6).2;rw[Vc.af]at this;cases this
    rw[Vc.ab this];exact h3
 have g:=h.narrow hK;refine⟨(Vc.ab hn).trans h.row,key g.oh h.oh,key g.of h.of,key g.ol h.ol,h.hf,h.hl,h.fl,g.sub.ao hK,g.no⟩
def tD3:List (List Nat):=[[],[],[1],[2,1],[3,2,1],[],[],[6],[7,6],[8,7,6],[],[0,4,5,9,10,3,2,1,8,7,6],[],[12,11,0,1,2,3,4,5,6,7,8,9,10]]
def HN(b:Bk)(hb:BkOk b)(x:Wx)(hm:cT b.atoms x.s)(hd:x.s.done<=1152921504606846976)(hx:x.fs.length<=1000000)(hxl:x.ls.length<=1000000)(hh:0<=x.high/\x.high<=1152921504606846976)(kept:Int)(hk:-1152921504606846976<=kept/\kept<=2305843009213693952)
 (ZR:0<=x.shift/\x.shift<=1152921504606846976)(cut:Nat)(hc:x.s.atom<=cut)(Yj:cut<=b.atoms.length){K U:ad}{i1:Nat}{vh vf vl:V}(hJ:Zu b K i1 x U vh vf vl):
 av prog 105 [.ptr i1 0 0,vI kept,vI cut] U λr Z'=>∃vf' vl',r=bP ⟨⟨cut,0,decide ((b.WT.getD cut ⟨0,0,0⟩).forced≠0)⟩,(dG b.atoms b.WA x.s cut kept x.shift x.body).2⟩/\
  Zu b K i1 ((x.add (cE b x kept (cut-x.s.atom.toNat))).put (dG b.atoms b.WA x.s cut kept x.shift x.body).1) Z' vh vf' vl':=by
 refine Vx.q ?_;have hs:=aa.refl U;have Ze:br b=.agg [ay b.nodes,vI b.w,vI b.h,aT b.atoms,ax b.WA,vI b.U',aY b.WT]:=rfl;have a1:=hJ.row;rw[dC]at a1;obtain⟨ch,sh⟩:=hJ.oh.vc;obtain⟨a,haa⟩:∃a:Nat,x.s.atom=a:=⟨x.s.atom.toNat,by have:=hm.1;omega⟩
 obtain⟨n,hn⟩:∃n,n=cut-x.s.atom.toNat:=⟨_,rfl⟩
 have hnc:a+n=cut:=by omega
 rw[<-hn];have hlen:=hb.len;refine mS 13 ?_;simp only[go_sem,seval,Pa];refine al hs λi6 Z6 s6 a6 f6 _ hs=>?_;replace a1:=s6 _ _ a1;have hJ6:=hJ.oY s6 f6 a6;have k6:K i6=none:=hJ.sub.none f6;simp only[go_sem,seval,a1,Ze,haa,kU];refine ag.fP (λst=>∃vf',Zu b (C' K i6 ⟨27,4,[.agg [vI 0,vI 0,.bool false,.aB]]⟩) i1 (x.add (cE b x kept n)) st.U vh vf' vl/\st.s 0=.ptr i1 0 0/\st.s 1=vI kept/\st.s 2=vI cut/\st.s 6=.ptr i6 0 0/\st.s 7=aT b.atoms)
  (λm st=>∃(j:Nat) (vf':V),j<=n/\m=n-j/\Zu b (C' K i6 ⟨27,4,[.agg [vI 0,vI 0,.bool false,.aB]]⟩) i1 (x.add (cE b x kept j)) st.U vh vf' vl/\st.s 0=.ptr i1 0 0/\st.s 1=vI kept/\st.s 2=vI cut/\st.s 6=.ptr i6 0 0/\st.s 7=aT b.atoms/\∃z:Int,st.s 8=vI z/\z=(a:Int)+j) n ?_ ?_ ?_
 .exact⟨0,vf,by omega,rfl,by simpa[Wx.add,cE]using hJ6,rfl,rfl,rfl,rfl,rfl,_,rfl,by omega⟩
 .clear hs hJ6 a1 hJ a6;rintro m ⟨S,J⟩ ⟨j,vf',hj,rfl,hJ,t0,t1,t2,t6,t7,z,t8,hz⟩;simp only at hJ t0 t1 t2 t6 t7 t8;refine ag.mix 13 ?_;by_cases B':j<n
  .have q:(z<(cut:Int))=True:=L';have hsw:x.add (cE b x kept (j+1))={ x.add (cE b x kept j)with fs:=(x.add (cE b x kept j)).fs++[cH x.high (dK b.atoms x.s kept x.shift z)] }:=by
    simp only[Wx.add,cE,List.range_succ,cX,eV,List.map_nil,lh];rw[hz,haa]
   have XY:aE prog 160 [aT b.atoms,aL (x.add (cE b x kept j)).s,vI kept,vI (x.add (cE b x kept j)).shift,vI z] (aJ (dK b.atoms x.s kept x.shift z)):=Gg b.atoms hb.W3 x.s hd kept x.shift z hk ZR;have hrg:=vJ hb.W3 hm.2.1 hd hk ZR z;have hyl:((x.add (cE b x kept j)).fs.map aJ).length<=2000000:=by simp[Wx.add,cE];omega
   have hyh:(x.add (cE b x kept j)).high=x.high:=rfl;rw[<-hyh]at hsw;generalize dK b.atoms x.s kept x.shift z=w at*;generalize x.add (cE b x kept j)=y at*;have hs:=aa.refl J;have a1:=hJ.row;rw[dC]at a1;rw[aL]at XY;have r1:WI .i64 (z+1):=ae;have r2:WI .i64 (w.y+y.high):=ae;obtain⟨cf,sf⟩:=hJ.of.vc;obtain⟨cl,sl⟩:=hJ.ol.vc;apply sR;simp only[go_sem,seval,t2,t8,q,cm];refine ag.wm (by kernel_rfl) 8 (.fork tD3 [0,1,2,3,4,5,6,7,8,9,10] [11,12] [(.leaf (sX tD3 [(12,[11,0,4,5,9,10,3,2,1,8,7,6]),(13,[11,0,4,5,9,10,3,2,1,8,7,6,12])]) [11,12,13]),(.leaf (sX tD3 [(11,[12,0,4,5,9,10,3,2,1,8,7,6])]) [12,11,13])]) (by kernel_rfl) ?_;refine GT.sY (its:=[0,2,4,6,8,10,12,14,16,18,20]) (by kernel_rfl) ?_;refine cI (n:=0) [] [0,2,4,6,8,10,12,14,16,18,20] [_,_,_,_,_,_,_,_,_,_,_] rfl rfl ?_;simp only[go_sem,seval,a1,t0,t1,t7,t8];refine⟨?_,?_⟩
   .refine GT.gZ (its:=[22,24,26]) (by kernel_rfl) ?_;refine reP rfl (XY _) ?_;refine cI (n:=0) [] [24,26] [_,_] rfl rfl ?_;simp only[go_sem,seval,aJ];refine vS hs λi9 Z9 s9 a9 f9 z9 hs=>?_;obtain⟨n19,a1⟩:=WG a1 f9 s9;simp only[go_sem,seval,a9];generalize Xw:C' _ i9 _=Y9;replace a9:=XD Xw;replace a1:=WQ Xw n19 a1;replace hs:=Xz Xw hs z9;apply sR;simp only[go_sem,seval,a9,a1,t0,r2,ab n19];generalize Xw:C' _ i9 _=Y9;replace a9:=XD Xw;replace a1:=WQ Xw n19 a1;replace hs:=Xz Xw hs z9;refine bF λi59 Z59 s59 a59 f59=>?_;have YW:=(hJ.mono hs).mono s59;obtain⟨idA,Xg,hgr⟩:=Cf YW.sub YW.no YW.row YW.of;generalize hrw:y.fs.map aJ=rows at*;have W1:(rows.length+1)*57<=140737488355328:=by omega
    simp only[go_sem,seval,Xg,bl a59,W1];refine eu λi60 Z60 s60 a60 f60=>?_;obtain⟨b1,hg⟩:=hgr Z60 i60 _ s60 a60 f60;rw[dC]at b1;obtain⟨g1,g2,g3⟩:=hg (dC b { y with fs:=y.fs++[cH y.high w] } vh (.own i60 0 (rows.length+1)) vl);simp only[go_sem,seval,b1,t0,t1,t2,t6,t7,t8,r1];refine⟨_,?_,j+1,.own i60 0 (rows.length+1),by omega,rfl,?_,_,rfl,by omega⟩
    .omega
    .rw[hsw];obtain⟨k1,k2⟩:=g3 _ _ YW.oh YW.hf.symm;obtain⟨k3,k4⟩:=g3 _ _ YW.ol YW.fl;rw[gn]at g2 k2 k4;refine⟨?_,k1,?_,k3,k2.symm,hJ.hl,k4,g1,hJ.no⟩
     .exact af
     .show aq _ _ _ _ _ ((y.fs++[cH y.high w]).map aJ);rw[cX,hrw];exact g2
   .refine GT.gZ (its:=[24,9,19,22,26]) (by kernel_rfl) ?_;refine cI (n:=0) [9,19,22,26] [24] [_] rfl rfl ?_;simp only[go_sem,seval];refine vS hs λi9 Z9 s9 a9 f9 z9 hs=>?_;obtain⟨n19,a1⟩:=WG a1 f9 s9;simp only[go_sem,seval];refine dy rfl (by simp only[go_sem,seval,a1]) ?_;refine dy rfl (by simp only[go_sem,seval,a1]) ?_;refine reP rfl (XY _) ?_;refine cI (n:=0) [] [26] [_] rfl rfl ?_;simp only[go_sem,seval,aJ,a9];generalize Xw:C' _ i9 _=Y9;replace a9:=XD Xw;replace a1:=WQ Xw n19 a1;replace hs:=Xz Xw hs z9;apply sR;simp only[go_sem,seval,a9,a1,t0,r2,ab n19];generalize Xw:C' _ i9 _=Y9;replace a9:=XD Xw;replace a1:=WQ Xw n19 a1;replace hs:=Xz Xw hs z9;refine bF λi59 Z59 s59 a59 f59=>?_;have YW:=(hJ.mono hs).mono s59;obtain⟨idA,Xg,hgr⟩:=Cf YW.sub YW.no YW.row YW.of;generalize hrw:y.fs.map aJ=rows at*;have W1:(rows.length+1)*57<=140737488355328:=by omega
    simp only[go_sem,seval,Xg,bl a59,W1];refine eu λi60 Z60 s60 a60 f60=>?_;obtain⟨b1,hg⟩:=hgr Z60 i60 _ s60 a60 f60;rw[dC]at b1;obtain⟨g1,g2,g3⟩:=hg (dC b { y with fs:=y.fs++[cH y.high w] } vh (.own i60 0 (rows.length+1)) vl);simp only[go_sem,seval,b1,t0,t1,t2,t6,t7,t8,r1];refine⟨_,?_,j+1,.own i60 0 (rows.length+1),by omega,rfl,?_,_,rfl,by omega⟩
    .omega
    .rw[hsw];obtain⟨k1,k2⟩:=g3 _ _ YW.oh YW.hf.symm;obtain⟨k3,k4⟩:=g3 _ _ YW.ol YW.fl;rw[gn]at g2 k2 k4;refine⟨?_,k1,?_,k3,k2.symm,hJ.hl,k4,g1,hJ.no⟩
     .exact af
     .show aq _ _ _ _ _ ((y.fs++[cH y.high w]).map aJ);rw[cX,hrw];exact g2
  .have q:(z<(cut:Int))=False:=H';have YK:j=n:=by omega
   subst YK;apply sR;simp only[go_sem,seval,t0,t1,t2,t6,t7,t8,q];exact⟨vf',hJ⟩
 .clear hs hJ6 a1 hJ a6;rintro⟨S,J⟩ ⟨vf',hJ,t0,t1,t2,t6,t7⟩;simp only at hJ t0 t1 t2 t6 t7;have XY:aE prog 159 [aT b.atoms,ax b.WA,aL (x.add (cE b x kept n)).s,vI cut,vI kept,vI (x.add (cE b x kept n)).shift,vI (x.add (cE b x kept n)).body] (.WC [ax (dG b.atoms b.WA x.s cut kept x.shift x.body).1,ax (dG b.atoms b.WA x.s cut kept x.shift x.body).2]):=
   JH b.atoms hb.W3 b.WA hb.flen hb.flo x.s hd cut kept x.shift x.body hk ZR
  have hrg:=oz hb hd (to:=cut) (body:=x.body) hk ZR;have hyl:(x.add (cE b x kept n)).ls.length<=1000000:=hxl;have hyh:(x.add (cE b x kept n)).high=x.high:=rfl;rw[aL]at XY;generalize dG b.atoms b.WA x.s cut kept x.shift x.body=R at*;generalize x.add (cE b x kept n)=y at*;have a1:=hJ.row;rw[dC]at a1;have hflo:=n7 b R.1 hrg.1 y hyl (λf hf=>by
   have:=hrg.2 f hf;rw[hyh];exact ae) hJ
  have hcb:cut<b.WT.length:=by have:=hb.brk;omega
  have Wz:=λU=>nN (U:=U) hcb;have hgd:b.WT.getD cut ⟨0,0,0⟩=b.WT[cut]:=by simp[hcb]
  rw[hgd];generalize b.WT[cut]=bk at*;refine mS 13 ?_;simp only[go_sem,seval,t0,t1,t2,t7,a1,Ze,Eg];refine pJ rfl XY ?_;apply sG;simp only[go_sem,seval,t0];refine Yn rfl hflo ?_;rintro r Z' ⟨vl',ZC⟩;clear a1;have a1:=ZC.row;rw[dC]at a1;have a6:=ZC.sub _ _ af;have hs:=aa.refl Z';apply sR;simp only[go_sem,seval,t0,t2,a1,Ze,Hs,Wz,bX];refine al hs λi12 Y12 s12 a12 f12 _ hs=>?_;obtain⟨n112,a1⟩:=WG a1 f12 s12;obtain⟨n612,a6⟩:=WG a6 f12 s12;simp only[go_sem,seval,a12,a6,t6,bU,bT,ab n612];exact XX ⟨vf',vl',rfl,(ZC.mono (hs.ao f12)).drop k6 _⟩
open Go.Proofs
def bN.rt:bN->bN
 |.seq _ b=>b
 |c=>c
def ie{i j:Nat}(h:i≠j):(∀(U:ad) (o:Ob),C' U i o j=U j)/\∀(U:ad) (o:Ob),C' U j o i=U i:=⟨λ_ _=>ab h.symm,λ_ _=>ab h⟩
def Fa(l:List XA)(s:XP)(WX:Int):(jV l s WX).y=0:=by
 unfold jV;split<;>rfl
def vY(b:Bk)(x:Wx):Wx:=(x.add [cH x.high (jV b.atoms x.s x.body)]).put (dG b.atoms b.WA x.s (x.s.atom+1) 0 0 x.body).1
def xT(b:Bk)(x:Wx):YG:=⟨fm b.atoms x.s x.body,(dG b.atoms b.WA x.s (x.s.atom+1) 0 0 x.body).2⟩
def tD4:List (List Nat):=[[],[],[1],[2,1],[3,2,1],[],[5],[6,5],[7,6,5],[8,7,6,5],[0,4,9,3,2,1,8,7,6,5],[10,0,4,9,3,2,1,8,7,6,5],[11,10,0,4,9,3,2,1,8,7,6,5],[11,10,0,4,9,3,2,1,8,7,6,5],[],[],[14,12,10,0,1,2,3,4,5,6,7,8,9,11,15],[15,13,16,0,1,2,3,4,5,6,7,8,9,10,11,12,14]]
def KJ(b:Bk)(hb:BkOk b)(x:Wx)(hm:cT b.atoms x.s)(hd:x.s.done<=1152921504606846976)(hx:x.fs.length<=1000000)(hxl:x.ls.length<=1000000)(hh:0<=x.high/\x.high<=1152921504606846976)(u v:Int)
 {K U:ad}{i1:Nat}{vh vf vl:V}(hJ:Zu b K i1 x U vh vf vl):
 av prog 104 [.ptr i1 0 0,vI u,vI v] U λr Z'=>∃vf' vl',r=bP (xT b x)/\Zu b K i1 (vY b x) Z' vh vf' vl':=by
 refine VU.q ?_;have Ze:br b=.agg [ay b.nodes,vI b.w,vI b.h,aT b.atoms,ax b.WA,vI b.U',aY b.WT]:=rfl;have a1:=hJ.row;rw[dC]at a1;obtain⟨ch,sh⟩:=hJ.oh.vc;have hlen:=hb.len;refine ag.mix 12 ?_;have hs:=aa.refl U;apply sR;simp only[go_sem,seval,Lm];refine al hs λi6 Z6 s6 a6 f6 _ hs=>?_;replace a1:=s6 _ _ a1;have k6:K i6=none:=hJ.sub.none f6;have hJ6:=hJ.oY s6 f6 a6;clear hJ;simp only[go_sem,seval,a1,Ze,kU,cm];have Xt:=NI b.atoms hb.W3 x.s hd x.body;have hw0:=Fa b.atoms x.s x.body;unfold vY xT;have XY:=JH b.atoms hb.W3 b.WA hb.flen hb.flo x.s hd (x.s.atom+1) 0 0 x.body (by omega) (by omega);have hrg:=oz hb hd (to:=x.s.atom+1) (kept:=0) (shift:=0) (body:=x.body) (by omega) (by omega);generalize jV b.atoms x.s x.body=w at*;generalize fm b.atoms x.s x.body=nx at*;generalize dG b.atoms b.WA x.s (x.s.atom+1) 0 0 x.body=R at*;rw[aL]at Xt XY;obtain⟨cf,sf⟩:=hJ6.of.vc;obtain⟨cl,sl⟩:=hJ6.ol.vc;have nc:(aL nx).cells=[vI nx.atom,vI nx.done,.bool nx.free]:=rfl;have ns:(aL nx).stays=true:=rfl;have fin:∀(S:Nat->V) (J:ad) (i8 i9:Nat),aa Z6 J->((∀(U:ad) (o:Ob),C' U i8 o i9=U i9)/\∀(U:ad) (o:Ob),C' U i9 o i8=U i8)->Z6 i8=none->Z6 i9=none->J i8=some ⟨123,7,[.agg [vI w.node,vI w.atom,vI w.fr,vI w.x,vI w.y,vI w.w,vI w.h]]⟩->J i9=some ⟨24,3,[.agg [vI nx.atom,vI nx.done,.bool nx.free]]⟩->
  S 0=.ptr i1 0 0->S 6=.ptr i6 0 0->S 7=aT b.atoms->S 8=.ptr i8 0 0->S 9=.ptr i9 0 0->
  ag prog 89 [It.code Lm.code.rt.rt.rt] ⟨S,J⟩ λst=>Ret [.cell true 4 (.t 6)] st λr Z'=>∃vf' vl',r=bP ⟨nx,R.2⟩/\Zu b K i1 ((x.add [cH x.high w]).put R.1) Z' vh vf' vl':=by
  intro S J i8 i9 hsY hn z8 z9 a8 a9 t0 t6 t7 t8 t9;have n69:=aQ a6 z9;have k9:=hJ6.sub.none z9;have hJ:=hJ6.oY hsY z9 a9;have n18:i1≠i8:=aQ a1 z8;have a1:=hJ.row;rw[dC]at a1;have r2:WI .i64 (w.y+x.high):=ae;have r3:WI .i64 (x.s.atom+1):=ae (by have:=hm.1;omega) (by have:=hm.1;omega);have z8:=z8;refine mS 12 ?_;simp only[go_sem,seval,Lm,bN.rt,t0,t8,a8,a1,r2,ab n18];generalize Yc:C' J i8 _=Y8;replace a8:=XD Yc;replace a9:=((congrFun Yc i9).symm.trans (hn.1 _ _)).trans a9;replace hJ:=hJ6.oY (Yc▸hsY.ao z8) z9 a9;clear Yc;refine bF λi50 Z50 s50 a50 f50=>?_;have YW:=hJ.mono s50;obtain⟨idA,Xg,hgr⟩:=Cf YW.sub YW.no YW.row YW.of;have Zh:(x.fs.map aJ).length<=1000000:=by simpa using hx
  generalize hrw:x.fs.map aJ=rows at*;have W1:(rows.length+1)*57<=140737488355328:=by omega
  simp only[go_sem,seval,Xg,bl a50,W1];refine eu λi51 Z51 s51 a51 f51=>?_;obtain⟨b1,hg⟩:=hgr Z51 i51 _ s51 a51 f51;rw[dC]at b1;obtain⟨g1,g2,g3⟩:=hg (dC b (x.add [cH x.high w]) vh (.own i51 0 (rows.length+1)) vl);have hJa:Zu b (C' (C' K i6 ⟨27,4,[.agg [vI 0,vI 0,.bool false,.aB]]⟩) i9 ⟨24,3,[.agg [vI nx.atom,vI nx.done,.bool nx.free]]⟩) i1 (x.add [cH x.high w]) (C' Z51 i1 (dC b (x.add [cH x.high w]) vh (.own i51 0 (rows.length+1)) vl)) vh (.own i51 0 (rows.length+1)) vl:=by
   obtain⟨k1,k2⟩:=g3 _ _ YW.oh YW.hf.symm;obtain⟨k3,k4⟩:=g3 _ _ YW.ol YW.fl;rw[gn]at g2 k2 k4;refine⟨af,k1,?_,k3,k2.symm,YW.hl,k4,g1,YW.no⟩;show aq _ _ _ _ _ ((x.fs++[cH x.high w]).map aJ);rw[cX,hrw];exact g2
  have hya:(x.add [cH x.high w]).high=x.high:=rfl;have hys:(x.add [cH x.high w]).ls=x.ls:=rfl;have hxl':(x.add [cH x.high w]).ls.length<=1000000:=hxl;generalize hY:x.add [cH x.high w]=y at*;simp only[go_sem,seval,b1,t0,t7,Ze,Eg,r3];generalize hq1:C' Z51 i1 _=Y1;have hJb:=hJa;rw[show C' Z51 i1 (dC b y vh (.own i51 0 (rows.length+1)) vl)=Y1 by rw[<-hq1,dC,<-hY];rfl]at hJb;clear hJa hq1;refine pJ rfl XY ?_;apply sG;simp only[go_sem,seval,t0];refine Yn rfl (n7 b R.1 hrg.1 y hxl' (λf hf=>by
   have:=hrg.2 f hf;rw[hya];exact ae) hJb) ?_
  rintro r Z' ⟨vl',ZC⟩;have c9:=ZC.sub _ _ af;have c6:=ZC.sub i6 _ ((ab n69).trans af);apply sR;simp only[go_sem,seval,t6,t9,c9,c6,bU,bT];exact XX ⟨_,vl',rfl,(ZC.narrow k9).drop k6 _⟩
 have a8:True:=trivial;have a9:True:=trivial;have hn:True:=trivial;have Xn:=aa.refl Z6;refine ag.wm (by kernel_rfl) 8 (.fork tD4 [0,1,2,3,4,5,6,7,8,9] [10,14,15] [(.fork (sX tD4 [(14,[10,0,4,9,3,2,1,8,7,6,5]),(15,[10,0,4,9,3,2,1,8,7,6,5]),(16,[10,0,4,9,3,2,1,8,7,6,5,14,12,11,15]),(17,[10,0,4,9,3,2,1,8,7,6,5,15,13,16,11,12,14])]) [10,11,12,13] [14,15] [(.leaf (sX tD4 [(14,[10,0,4,9,3,2,1,8,7,6,5]),(15,[14,10,0,4,9,3,2,1,8,7,6,5]),(16,[14,10,0,4,9,3,2,1,8,7,6,5,12,11,15]),(17,[14,10,0,4,9,3,2,1,8,7,6,5,15,13,16,11,12])]) [14,15,16,17]),(.leaf (sX tD4 [(14,[15,10,0,4,9,3,2,1,8,7,6,5]),(15,[10,0,4,9,3,2,1,8,7,6,5]),(16,[15,10,0,4,9,3,2,1,8,7,6,5,14,12,11]),(17,[15,10,0,4,9,3,2,1,8,7,6,5,13,16,11,12,14])]) [15,14,16,17])]),(.fork (sX tD4 [(10,[14,0,4,9,3,2,1,8,7,6,5]),(11,[14,10,0,4,9,3,2,1,8,7,6,5]),(12,[14,11,10,0,4,9,3,2,1,8,7,6,5]),(13,[14,11,10,0,4,9,3,2,1,8,7,6,5]),(15,[14]),(17,[14,15,13,16,0,1,2,3,4,5,6,7,8,9,10,11,12])]) [14] [10,15] [(.leaf (sX tD4 [(10,[14,0,4,9,3,2,1,8,7,6,5]),(11,[14,10,0,4,9,3,2,1,8,7,6,5]),(12,[14,11,10,0,4,9,3,2,1,8,7,6,5]),(13,[14,11,10,0,4,9,3,2,1,8,7,6,5]),(15,[10,14,0,4,9,3,2,1,8,7,6,5]),(16,[10,14,0,4,9,3,2,1,8,7,6,5,12,11,15]),(17,[10,14,0,4,9,3,2,1,8,7,6,5,15,13,16,11,12])]) [10,11,12,13,15,16,17]),(.leaf (sX tD4 [(10,[15,14,0,4,9,3,2,1,8,7,6,5]),(11,[15,14,10,0,4,9,3,2,1,8,7,6,5]),(12,[15,14,11,10,0,4,9,3,2,1,8,7,6,5]),(13,[15,14,11,10,0,4,9,3,2,1,8,7,6,5]),(15,[14]),(16,[15,14,12,10,0,1,2,3,4,5,6,7,8,9,11]),(17,[15,14,13,16,0,1,2,3,4,5,6,7,8,9,10,11,12])]) [15,10,11,12,13,16,17])]),(.fork (sX tD4 [(10,[15,0,4,9,3,2,1,8,7,6,5]),(11,[15,10,0,4,9,3,2,1,8,7,6,5]),(12,[15,11,10,0,4,9,3,2,1,8,7,6,5]),(13,[15,11,10,0,4,9,3,2,1,8,7,6,5]),(14,[15]),(16,[15,14,12,10,0,1,2,3,4,5,6,7,8,9,11])]) [15] [10,14] [(.leaf (sX tD4 [(10,[15,0,4,9,3,2,1,8,7,6,5]),(11,[15,10,0,4,9,3,2,1,8,7,6,5]),(12,[15,11,10,0,4,9,3,2,1,8,7,6,5]),(13,[15,11,10,0,4,9,3,2,1,8,7,6,5]),(14,[10,15,0,4,9,3,2,1,8,7,6,5]),(16,[10,15,0,4,9,3,2,1,8,7,6,5,14,12,11]),(17,[10,15,0,4,9,3,2,1,8,7,6,5,13,16,11,12,14])]) [10,11,12,13,14,16,17]),(.leaf (sX tD4 [(10,[14,15,0,4,9,3,2,1,8,7,6,5]),(11,[14,15,10,0,4,9,3,2,1,8,7,6,5]),(12,[14,15,11,10,0,4,9,3,2,1,8,7,6,5]),(13,[14,15,11,10,0,4,9,3,2,1,8,7,6,5]),(14,[15]),(16,[14,15,12,10,0,1,2,3,4,5,6,7,8,9,11]),(17,[14,15,13,16,0,1,2,3,4,5,6,7,8,9,10,11,12])]) [14,10,11,12,13,16,17])])]) (by kernel_rfl) ?_;refine GT.SQ (its:=[0,2,4,6,8,10,12,14,16,18]) (by kernel_rfl) ?_;refine cI (n:=0) [] [0,2,4,6,8,10,12,14,16,18] [_,_,_,_,_,_,_,_,_,_] rfl rfl ?_;simp only[go_sem,seval,a1];refine⟨?_,?_,?_⟩
 .refine GT.sY (its:=[20,22,24,26]) (by kernel_rfl) ?_;refine reP rfl (Xt _) ?_;refine cI (n:=0) [] [22,24,26] [_,_,_] rfl rfl ?_;simp only[go_sem,seval,aJ];refine⟨?_,?_⟩
  .refine GT.gZ (its:=[28,30,32,34]) (by kernel_rfl) ?_;refine cI (n:=0) [] [28,30,32,34] [_,_,_,_] rfl rfl ?_;simp only[go_sem,seval];refine bF λi8 Z8 s8 a8 f8=>?_;replace a1:=s8 _ _ a1
   try replace hn:=ie (aQ a9 f8).symm
   try replace a9:=s8 _ _ a9
   have z8:=Xn.none f8;replace Xn:=Xn.trans s8;simp only[go_sem,seval];refine bF λi9 Z9 s9 a9 f9=>?_;replace a1:=s9 _ _ a1
   try replace hn:=ie (aQ a8 f9)
   try replace a8:=s9 _ _ a8
   have z9:=Xn.none f9;replace Xn:=Xn.trans s9;simp only[go_sem,seval,nc,ns,a8,a9,hn];exact fin _ _ i8 i9 ((Xn.ao z8).ao z9) hn z8 z9 ((hn.2 _ _).trans af) af rfl rfl rfl rfl rfl
  .refine GT.gZ (its:=[30,28,32,34]) (by kernel_rfl) ?_;refine cI (n:=0) [] [30,28,32,34] [_,_,_,_] rfl rfl ?_;simp only[go_sem,seval];refine bF λi9 Z9 s9 a9 f9=>?_;replace a1:=s9 _ _ a1
   try replace hn:=ie (aQ a8 f9)
   try replace a8:=s9 _ _ a8
   have z9:=Xn.none f9;replace Xn:=Xn.trans s9;simp only[go_sem,seval];refine bF λi8 Z8 s8 a8 f8=>?_;replace a1:=s8 _ _ a1
   try replace hn:=ie (aQ a9 f8).symm
   try replace a9:=s8 _ _ a9
   have z8:=Xn.none f8;replace Xn:=Xn.trans s8;simp only[go_sem,seval,nc,ns,a8,a9,hn];exact fin _ _ i8 i9 ((Xn.ao z8).ao z9) hn z8 z9 ((hn.2 _ _).trans af) af rfl rfl rfl rfl rfl
 .refine GT.sY (its:=[28,9,19]) (by kernel_rfl) ?_;refine cI (n:=0) [9,19] [28] [_] rfl rfl ?_;simp only[go_sem,seval];refine bF λi8 Z8 s8 a8 f8=>?_;replace a1:=s8 _ _ a1
  try replace hn:=ie (aQ a9 f8).symm
  try replace a9:=s8 _ _ a9
  have z8:=Xn.none f8;replace Xn:=Xn.trans s8;simp only[go_sem,seval];refine dy rfl (by simp only[go_sem,seval,a1]) ?_;refine dy rfl (by simp only[go_sem,seval,a1]) ?_;refine⟨?_,?_⟩
  .refine GT.gZ (its:=[20,22,24,26,30,32,34]) (by kernel_rfl) ?_;refine reP rfl (Xt _) ?_;refine cI (n:=0) [] [22,24,26,30,32,34] [_,_,_,_,_,_] rfl rfl ?_;simp only[go_sem,seval,aJ];refine bF λi9 Z9 s9 a9 f9=>?_;replace a1:=s9 _ _ a1
   try replace hn:=ie (aQ a8 f9)
   try replace a8:=s9 _ _ a8
   have z9:=Xn.none f9;replace Xn:=Xn.trans s9;simp only[go_sem,seval,nc,ns,a8,a9,hn];exact fin _ _ i8 i9 ((Xn.ao z8).ao z9) hn z8 z9 ((hn.2 _ _).trans af) af rfl rfl rfl rfl rfl
  .refine GT.gZ (its:=[30,9,19,20,22,24,26,32,34]) (by kernel_rfl) ?_;refine cI (n:=0) [9,19,20,22,24,26,32,34] [30] [_] rfl rfl ?_;simp only[go_sem,seval];refine bF λi9 Z9 s9 a9 f9=>?_;replace a1:=s9 _ _ a1
   try replace hn:=ie (aQ a8 f9)
   try replace a8:=s9 _ _ a8
   have z9:=Xn.none f9;replace Xn:=Xn.trans s9;simp only[go_sem,seval];refine dy rfl (by simp only[go_sem,seval,a1]) ?_;refine dy rfl (by simp only[go_sem,seval,a1]) ?_;refine reP rfl (Xt _) ?_;refine cI (n:=0) [] [22,24,26,32,34] [_,_,_,_,_] rfl rfl ?_;simp only[go_sem,seval,aJ,nc,ns,a8,a9,hn];exact fin _ _ i8 i9 ((Xn.ao z8).ao z9) hn z8 z9 ((hn.2 _ _).trans af) af rfl rfl rfl rfl rfl
 .refine GT.sY (its:=[30,9,19]) (by kernel_rfl) ?_;refine cI (n:=0) [9,19] [30] [_] rfl rfl ?_;simp only[go_sem,seval];refine bF λi9 Z9 s9 a9 f9=>?_;replace a1:=s9 _ _ a1
  try replace hn:=ie (aQ a8 f9)
  try replace a8:=s9 _ _ a8
  have z9:=Xn.none f9;replace Xn:=Xn.trans s9;simp only[go_sem,seval];refine dy rfl (by simp only[go_sem,seval,a1]) ?_;refine dy rfl (by simp only[go_sem,seval,a1]) ?_;refine⟨?_,?_⟩
  .refine GT.gZ (its:=[20,22,24,26,28,32,34]) (by kernel_rfl) ?_;refine reP rfl (Xt _) ?_;refine cI (n:=0) [] [22,24,26,28,32,34] [_,_,_,_,_,_] rfl rfl ?_;simp only[go_sem,seval,aJ];refine bF λi8 Z8 s8 a8 f8=>?_;replace a1:=s8 _ _ a1
   try replace hn:=ie (aQ a9 f8).symm
   try replace a9:=s8 _ _ a9
   have z8:=Xn.none f8;replace Xn:=Xn.trans s8;simp only[go_sem,seval,nc,ns,a8,a9,hn];exact fin _ _ i8 i9 ((Xn.ao z8).ao z9) hn z8 z9 ((hn.2 _ _).trans af) af rfl rfl rfl rfl rfl
  .refine GT.gZ (its:=[28,9,19,20,22,24,26,32,34]) (by kernel_rfl) ?_;refine cI (n:=0) [9,19,20,22,24,26,32,34] [28] [_] rfl rfl ?_;simp only[go_sem,seval];refine bF λi8 Z8 s8 a8 f8=>?_;replace a1:=s8 _ _ a1
   try replace hn:=ie (aQ a9 f8).symm
   try replace a9:=s8 _ _ a9
   have z8:=Xn.none f8;replace Xn:=Xn.trans s8;simp only[go_sem,seval];refine dy rfl (by simp only[go_sem,seval,a1]) ?_;refine dy rfl (by simp only[go_sem,seval,a1]) ?_;refine reP rfl (Xt _) ?_;refine cI (n:=0) [] [22,24,26,32,34] [_,_,_,_,_] rfl rfl ?_;simp only[go_sem,seval,aJ,nc,ns,a8,a9,hn];exact fin _ _ i8 i9 ((Xn.ao z8).ao z9) hn z8 z9 ((hn.2 _ _).trans af) af rfl rfl rfl rfl rfl
open Go.Proofs
def rD{b:Bk}(hb:BkOk b){s:XP}(h:cT b.atoms s):0<=s.done/\s.done<=18014398509481984:=by
 obtain⟨⟨h0,h1⟩,h2,h3⟩:=h;obtain⟨k,hk⟩:∃k:Nat,s.atom=k:=⟨s.atom.toNat,by omega⟩
 have Zb:k<b.atoms.length:=by omega
 have:=hb.tight _ (Xo Zb);rw[hk,aV Zb]at h3;omega
def pc{b:Bk}(hb:BkOk b)(k:Int):-18014398509481984<=fQ b.atoms k/\fQ b.atoms k<=36028797018963968:=by
 unfold fQ;split
 .rename_i h;obtain⟨n,rfl⟩:∃n:Nat,k=n:=⟨k.toNat,by omega⟩
  have hn:n<b.atoms.length:=by omega
  have:=hb.tight _ (Xo hn);rw[aV hn];omega
 .omega
def FC{b:Bk}(hb:BkOk b)(s:XP)(WX:Int):-1152921504606846976<=gw b.atoms s WX/\gw b.atoms s WX<=2305843009213693952:=by
 unfold gw kS;split
 .split
  .rename_i h;have h1:=pc hb (s.atom-1);obtain⟨n,hn⟩:∃n:Nat,s.atom=n:=⟨s.atom.toNat,by omega⟩
   have Yb:n<b.atoms.length:=by omega
   have:=hb.tight _ (Xo Yb);rw[hn]at h1|-;rw[aV Yb];omega
  .omega
 .omega
def oC{l:List XA}{s:XP}{kept shift body:Int}:iz l s kept shift body<=l.length:=by
 unfold iz;split
 .rename_i h;have:=Ei (gk l s kept shift body) (l.length-s.atom.toNat);have:=h.1;omega
 .omega
def Fs(ah:Fd->Fd->Bool->Bool):∀(xs:List Fd) (d:Fd),(eT ah xs d).1=d\/(eT ah xs d).1∈xs:=by
 have key:∀(xs:List Fd) (p:Fd×Bool),(xs.foldl (fB ah) p).1=p.1\/(xs.foldl (fB ah) p).1∈xs:=by
  intro xs
  induction xs with
  |nil=>intro p;exact .inl rfl
  |cons x xs ih=>
   intro p;rw[gg];rcases ih (fB ah p x)with h|h
   .rw[h];unfold fB;split
    .exact .inr (by simp)
    .exact .inl rfl
   .exact .inr (by simp[h])
 exact λxs d=>key xs (d,false)
def Gs{xs:List Fd}(h:xs≠[])(d:Fd):(eT im xs d).1∈xs:=by
 obtain⟨x,xs,rfl⟩:∃x l,xs=x::l:=by cases xs with
  |nil=>exact absurd rfl h
  |cons x l=>exact⟨x,l,rfl⟩
 unfold eT;rw[gg];have:fB im (d,false) x=(x,true):=by simp[fB,im]
 rw[this];have key:∀(xs:List Fd) (p:Fd×Bool),(xs.foldl (fB im) p).1=p.1\/(xs.foldl (fB im) p).1∈xs:=by
  intro xs
  induction xs with
  |nil=>intro p;exact .inl rfl
  |cons x xs ih=>
   intro p;rw[gg];rcases ih (fB im p x)with h|h
   .rw[h];unfold fB;split
    .exact .inr (by simp)
    .exact .inl rfl
   .exact .inr (by simp[h])
 rcases key xs (x,true)with h|h
 .rw[h];simp
 .simp[h]
def rb{b:List Yr}{i fit:Int}(h:ei b i fit)(hf:fit<=(b.length:Int)-1):∃c:Nat,pT b i fit=c/\i<c/\(c:Int)<=fit:=by
 obtain⟨_,h1,h2,h3⟩:=h;have mem:∀x∈(btw b (i+1) fit).map (jc b),∃c:Nat,x.i=c/\i<c/\(c:Int)<=fit:=λx hx=>by
  obtain⟨k,hk,rfl⟩:=gb.1 hx;unfold btw mj at hk;rw[List.mem_range'_1]at hk;exact⟨k,rfl,by omega,by omega⟩
 unfold pT;split
 .refine mem _ (Gs ?_ _);intro e;have:=congrArg List.length e;simp[btw,mj]at this;omega
 .rename_i hn;rcases Fs fF ((btw b (i+1) fit).map (jc b)) uf with h|h
  .exact absurd (show ju b (i+1) fit<0 by unfold ju;rw[h];decide) hn
  .exact mem _ h
def Zu.set{b:Bk}{K:ad}{ix:Nat}{x:Wx}{U:ad}{vh vf vl:V}(h:Zu b K ix x U vh vf vl)(x':Wx)(h1:x'.hs=x.hs)(h2:x'.fs=x.fs)(h3:x'.ls=x.ls):Zu b K ix x' (C' U ix (dC b x' vh vf vl)) vh vf vl:=by
 have k2:bj K ix ix≠none:=λh=>(aF.1 h).1 rfl;exact⟨Vc.af,h1▸h.oh.ab k2,h2▸h.of.ab k2,h3▸h.ol.ab k2,h.hf,h.hl,h.fl,h.sub.ao h.no,h.no⟩
def eJ(b:Bk)(x:Wx):Int:=gw b.atoms x.s (x.body-x.shift)
def fa(b:Bk)(x:Wx):Int:=iz b.atoms x.s (eJ b x) x.shift x.body
def ze(b:Bk)(x:Wx):Int:=pT b.WT x.s.atom (fa b x)
def vO(b:Bk)(x:Wx)(kept:Int)(cut:Nat):Wx:=(x.add (cE b x kept (cut-x.s.atom.toNat))).put (dG b.atoms b.WA x.s cut kept x.shift x.body).1
def CZ(b:Bk)(x:Wx)(kept:Int)(cut:Nat):YG:=⟨⟨cut,0,decide ((b.WT.getD cut ⟨0,0,0⟩).forced≠0)⟩,(dG b.atoms b.WA x.s cut kept x.shift x.body).2⟩
def fM(b:Bk)(x:Wx):Wx:=if ei b.WT x.s.atom (fa b x)then vO b { x with kind:=1 } (eJ b x) (ze b x).toNat else vY b { x with kind:=1 }
def iJ(b:Bk)(x:Wx):YG:=if ei b.WT x.s.atom (fa b x)then CZ b { x with kind:=1 } (eJ b x) (ze b x).toNat else xT b { x with kind:=1 }
def KP(b:Bk)(hb:BkOk b)(x:Wx)(hm:cT b.atoms x.s)(hx:x.fs.length<=1000000)(hxl:x.ls.length<=1000000)(hh:0<=x.high/\x.high<=1125899906842624)(hbd:0<=x.body/\x.body<=1125899906842624)
 (ZR:0<=x.shift/\x.shift<=1125899906842624){K U:ad}{i1:Nat}{vh vf vl:V}(hJ:Zu b K i1 x U vh vf vl):
 av prog 58 [.ptr i1 0 0] U λr Z'=>∃vf' vl',r=bP (iJ b x)/\Zu b K i1 (fM b x) Z' vh vf' vl':=by
 refine e58.q ?_;have hs:=aa.refl U;have Ze:br b=.agg [ay b.nodes,vI b.w,vI b.h,aT b.atoms,ax b.WA,vI b.U',aY b.WT]:=rfl;have a1:=hJ.row;rw[dC]at a1;obtain⟨ch,sh⟩:=hJ.oh.vc;obtain⟨cf,sf⟩:=hJ.of.vc;obtain⟨cl,sl⟩:=hJ.ol.vc;have hd:=rD hb hm;have hk:=FC hb x.s (x.body-x.shift);have hlen:=hb.len;have XW:=hb.brk;have hKc:=L8 b.atoms hb.W3 x.s (x.body-x.shift);have hRc:=HB b.atoms hb.W3 x.s (by omega) (eJ b x) x.shift x.body hk ⟨by omega,by omega⟩;have hCc:=N6 b.WT (by omega) x.s.atom (fa b x);have hrl:fa b x<=b.atoms.length:=oC;have hcr:ei b.WT x.s.atom (fa b x)->∃c:Nat,ze b x=c/\x.s.atom<c/\(c:Int)<=fa b x:=λh=>rb h (by omega);have hXk:eJ b x=gw b.atoms x.s (x.body-x.shift):=rfl;rw[<-hXk]at hKc hk;have hXr:fa b x=iz b.atoms x.s (eJ b x) x.shift x.body:=rfl;rw[<-hXr]at hRc;have hXc:ze b x=pT b.WT x.s.atom (fa b x):=rfl;rw[<-hXc]at hCc;have r1:WI .i64 (x.body-x.shift):=ae;rw[aL]at hKc hRc;unfold fM iJ;generalize eJ b x=kept at*;generalize fa b x=reach at*;generalize ze b x=cut at*;refine mS 8 ?_;simp only[go_sem,seval,c58];refine al hs λi2 Z2 s2 a2 f2 _ hs=>?_;replace a1:=s2 _ _ a1;have k2:K i2=none:=hJ.sub.none f2;have hJ2:=hJ.oY s2 f2 a2;simp only[go_sem,seval,a1,Ze,kU,r1];refine pJ rfl hKc ?_;apply sG;simp only[go_sem,seval,a1,Ze,Hs];refine pJ rfl hRc ?_;apply sG;simp only[go_sem,seval];refine pJ rfl hCc ?_;have hJs:=hJ2.set { x with kind:=1 } rfl rfl rfl;rw[dC]at hJs;by_cases WB:ei b.WT x.s.atom reach
 .obtain⟨c,rfl,h1,h2⟩:=hcr WB;rw[XK WB,ak WB,ak WB,ak WB,eU];apply sG;simp only[go_sem,seval,a1];generalize hq1:C' Z2 i1 _=Y1 at*;have hw:av prog 105 [.ptr i1 0 0,vI kept,vI c] Y1 λr Z'=>∃vf' vl',r=bP (CZ b { x with kind:=1 } kept c)/\Zu b (C' K i2 ⟨27,4,[.agg [vI 0,vI 0,.bool false,.aB]]⟩) i1 (vO b { x with kind:=1 } kept c) Z' vh vf' vl':=HN b hb { x with kind:=1 } hm (by show x.s.done<=_;omega) hx hxl (by show 0<=x.high/\x.high<=_;omega) kept hk (by show 0<=x.shift/\x.shift<=_;omega) c (by show x.s.atom<=_;omega) (by omega) hJs;generalize CZ b { x with kind:=1 } kept c=Z at*;generalize vO b { x with kind:=1 } kept c=Y at*;refine ag.lX rfl rfl rfl hw ?_;rintro r Z' ⟨vf',vl',rfl,ZC⟩;have c2:=ZC.sub _ _ af;apply sR;simp only[go_sem,seval,c2,bP];exact XX ⟨vf',vl',rfl,ZC.drop k2 _⟩
 .rw[XJ WB,au WB,au WB,au WB];apply sG;simp only[go_sem,seval,a1];generalize hq1:C' Z2 i1 _=Y1 at*;have hw:av prog 104 [.ptr i1 0 0,vI kept,vI 0] Y1 λr Z'=>∃vf' vl',r=bP (xT b { x with kind:=1 })/\Zu b (C' K i2 ⟨27,4,[.agg [vI 0,vI 0,.bool false,.aB]]⟩) i1 (vY b { x with kind:=1 }) Z' vh vf' vl':=KJ b hb { x with kind:=1 } hm (by show x.s.done<=_;omega) hx hxl (by show 0<=x.high/\x.high<=_;omega) kept 0 hJs;generalize xT b { x with kind:=1 }=Z at*;generalize vY b { x with kind:=1 }=Y at*;refine ag.lX rfl rfl rfl hw ?_;rintro r Z' ⟨vf',vl',rfl,ZC⟩;have c2:=ZC.sub _ _ af;apply sR;simp only[go_sem,seval,c2,bP];exact XX ⟨vf',vl',rfl,ZC.drop k2 _⟩
end Go.Vc
