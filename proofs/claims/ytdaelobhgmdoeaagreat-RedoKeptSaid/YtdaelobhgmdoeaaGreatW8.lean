/- Part 8 of the library of this proof. -/
import Derived.Test.YtdaelobhgmdoeaaGreatW7
set_option linter.all false
set_option maxHeartbeats 8000000
set_option maxRecDepth 100000
namespace Go.Vc
open Go.Proofs Go.Proofs.Tryz
def pR(x:YJ)(first last:Bool):Prop:=
 (first=true->x.cls=0)/\(first=false->last=true->x.cls=3)/\(first=false->last=false->x.cls=1\/x.cls=2)/\
 (x.forced=0\/(2<=x.forced/\x.forced<=4/\x.cls≠3/\x.cls≠2))/\(x.XD=0\/((x.cls=1\/x.cls=2)/\x.forced=0/\0<x.XD/\x.XD<8))
instance (x:YJ) (a b:Bool):Decidable (pR x a b):=by unfold pR;infer_instance
def MQ(x:YJ)(first last:Bool):aK prog 283 [dt x,.bool first,.bool last] (.bool (decide (pR x first last))):=λU=>by
 refine Tz.r (by simp[N8]) ?_;have hs:=aa.refl U;obtain⟨c,f,r⟩:=x;refine ab.mix 9 ?_;apply sR;simp only[go_sem,seval,N8,dt];refine ad λi3 Z3 s3 a3 f3=>?_;replace hs:=hs.trans s3;unfold pR;simp only;have C:c=0\/c=1\/c=2\/c=3\/((c=0)=False/\(c=1)=False/\(c=2)=False/\(c=3)=False/\(c≠0)=True/\(c≠3)=True):=by
  by_cases h0:c=0
  .exact .inl h0
  by_cases h1:c=1
  .exact .inr (.inl h1)
  by_cases h2:c=2
  .exact .inr (.inr (.inl h2))
  by_cases h3:c=3
  .exact .inr (.inr (.inr (.inl h3)))
  .exact .inr (.inr (.inr (.inr ⟨O' h0,O' h1,O' h2,O' h3,WE h0,WE h3⟩)))
 have F:f=0\/((f=0)=False/\((f<2)=True/\(2<=f/\f<=4)=False\/(f<2)=False/\((f>4)=True/\(2<=f/\f<=4)=False\/(f>4)=False/\(2<=f)=True/\(f<=4)=True))):=by
  by_cases h0:f=0
  .exact .inl h0
  refine .inr ⟨O' h0,?_⟩;by_cases h1:f<2
  .exact .inl ⟨WE h1,O'⟩
  refine .inr ⟨O' h1,?_⟩;by_cases h2:f>4
  .exact .inl ⟨WE h2,O'⟩
  .exact .inr ⟨O' h2,WE,WE⟩
 have R:r=0\/((r=0)=False/\((r>0)=False/\(0<r)=False\/(r>0)=True/\(0<r)=True/\((r<8)=True\/(r<8)=False))):=by
  by_cases h0:r=0
  .exact .inl h0
  refine .inr ⟨O' h0,?_⟩;by_cases h1:r>0
  .refine .inr ⟨WE h1,WE h1,?_⟩;by_cases h2:r<8
   .exact .inl (WE h2)
   .exact .inr (O' h2)
  .exact .inl ⟨O' h1,O'⟩
 rcases C with rfl|rfl|rfl|rfl|⟨c0,c1,c2,c3,c4,c5⟩
 .rcases F with rfl|⟨f0,⟨f1,f2⟩|⟨f1,⟨f2,f3⟩|⟨f2,f3,f4⟩⟩⟩
  .cases first
   .cases last
    .simp only[go_sem,seval,a3];exact ak.pure hs (by simp)
    .simp only[go_sem,seval,a3];exact ak.pure hs (by simp)
   .cases last
    .rcases R with rfl|⟨r0,⟨r1,r2⟩|⟨r1,r2,r3|r3⟩⟩
     .simp only[go_sem,seval,a3];exact ak.pure hs (by simp)
     .simp only[go_sem,seval,a3,r0,r1];exact ak.pure hs (by simp)
     .simp only[go_sem,seval,a3,r0,r1,r3];exact ak.pure hs (by simp)
     .simp only[go_sem,seval,a3,r0,r1,r3];exact ak.pure hs (by simp)
    .rcases R with rfl|⟨r0,⟨r1,r2⟩|⟨r1,r2,r3|r3⟩⟩
     .simp only[go_sem,seval,a3];exact ak.pure hs (by simp)
     .simp only[go_sem,seval,a3,r0,r1];exact ak.pure hs (by simp)
     .simp only[go_sem,seval,a3,r0,r1,r3];exact ak.pure hs (by simp)
     .simp only[go_sem,seval,a3,r0,r1,r3];exact ak.pure hs (by simp)
  .cases first
   .cases last
    .simp only[go_sem,seval,a3,f0];exact ak.pure hs (by simp[f2])
    .simp only[go_sem,seval,a3,f0];exact ak.pure hs (by simp[f2])
   .cases last
    .simp only[go_sem,seval,a3,f0,f1];exact ak.pure hs (by simp[f2])
    .simp only[go_sem,seval,a3,f0,f1];exact ak.pure hs (by simp[f2])
  .cases first
   .cases last
    .simp only[go_sem,seval,a3,f0];exact ak.pure hs (by simp[f3])
    .simp only[go_sem,seval,a3,f0];exact ak.pure hs (by simp[f3])
   .cases last
    .simp only[go_sem,seval,a3,f0,f1,f2];exact ak.pure hs (by simp[f3])
    .simp only[go_sem,seval,a3,f0,f1,f2];exact ak.pure hs (by simp[f3])
  .cases first
   .cases last
    .simp only[go_sem,seval,a3,f0];exact ak.pure hs (by simp[f3,f4])
    .simp only[go_sem,seval,a3,f0];exact ak.pure hs (by simp[f3,f4])
   .cases last
    .rcases R with rfl|⟨r0,⟨r1,r2⟩|⟨r1,r2,r3|r3⟩⟩
     .simp only[go_sem,seval,a3,f0,f1,f2];exact ak.pure hs (by simp[f3,f4])
     .simp only[go_sem,seval,a3,f0,f1,f2,r0,r1];exact ak.pure hs (by simp[f3,f4])
     .simp only[go_sem,seval,a3,f0,f1,f2,r0,r1,r3];exact ak.pure hs (by simp[f3,f4])
     .simp only[go_sem,seval,a3,f0,f1,f2,r0,r1,r3];exact ak.pure hs (by simp[f3,f4])
    .rcases R with rfl|⟨r0,⟨r1,r2⟩|⟨r1,r2,r3|r3⟩⟩
     .simp only[go_sem,seval,a3,f0,f1,f2];exact ak.pure hs (by simp[f3,f4])
     .simp only[go_sem,seval,a3,f0,f1,f2,r0,r1];exact ak.pure hs (by simp[f3,f4])
     .simp only[go_sem,seval,a3,f0,f1,f2,r0,r1,r3];exact ak.pure hs (by simp[f3,f4])
     .simp only[go_sem,seval,a3,f0,f1,f2,r0,r1,r3];exact ak.pure hs (by simp[f3,f4])
 .rcases F with rfl|⟨f0,⟨f1,f2⟩|⟨f1,⟨f2,f3⟩|⟨f2,f3,f4⟩⟩⟩
  .cases first
   .cases last
    .rcases R with rfl|⟨r0,⟨r1,r2⟩|⟨r1,r2,r3|r3⟩⟩
     .simp only[go_sem,seval,a3];exact ak.pure hs (by simp)
     .simp only[go_sem,seval,a3,r0,r1];exact ak.pure hs (by simp)
     .simp only[go_sem,seval,a3,r0,r1,r3];exact ak.pure hs (by simp)
     .simp only[go_sem,seval,a3,r0,r1,r3];exact ak.pure hs (by simp)
    .simp only[go_sem,seval,a3];exact ak.pure hs (by simp)
   .cases last
    .simp only[go_sem,seval,a3];exact ak.pure hs (by simp)
    .simp only[go_sem,seval,a3];exact ak.pure hs (by simp)
  .cases first
   .cases last
    .simp only[go_sem,seval,a3,f0,f1];exact ak.pure hs (by simp[f2])
    .simp only[go_sem,seval,a3,f0];exact ak.pure hs (by simp[f2])
   .cases last
    .simp only[go_sem,seval,a3,f0];exact ak.pure hs (by simp[f2])
    .simp only[go_sem,seval,a3,f0];exact ak.pure hs (by simp[f2])
  .cases first
   .cases last
    .simp only[go_sem,seval,a3,f0,f1,f2];exact ak.pure hs (by simp[f3])
    .simp only[go_sem,seval,a3,f0];exact ak.pure hs (by simp[f3])
   .cases last
    .simp only[go_sem,seval,a3,f0];exact ak.pure hs (by simp[f3])
    .simp only[go_sem,seval,a3,f0];exact ak.pure hs (by simp[f3])
  .cases first
   .cases last
    .rcases R with rfl|⟨r0,⟨r1,r2⟩|⟨r1,r2,r3|r3⟩⟩
     .simp only[go_sem,seval,a3,f0,f1,f2];exact ak.pure hs (by simp[f3,f4])
     .simp only[go_sem,seval,a3,f0,f1,f2,r0,r1];exact ak.pure hs (by simp[f3,f4])
     .simp only[go_sem,seval,a3,f0,f1,f2,r0,r1,r3];exact ak.pure hs (by simp[f3,f4])
     .simp only[go_sem,seval,a3,f0,f1,f2,r0,r1,r3];exact ak.pure hs (by simp[f3,f4])
    .simp only[go_sem,seval,a3,f0];exact ak.pure hs (by simp[f3,f4])
   .cases last
    .simp only[go_sem,seval,a3,f0];exact ak.pure hs (by simp[f3,f4])
    .simp only[go_sem,seval,a3,f0];exact ak.pure hs (by simp[f3,f4])
 .rcases F with rfl|⟨f0,⟨f1,f2⟩|⟨f1,⟨f2,f3⟩|⟨f2,f3,f4⟩⟩⟩
  .cases first
   .cases last
    .rcases R with rfl|⟨r0,⟨r1,r2⟩|⟨r1,r2,r3|r3⟩⟩
     .simp only[go_sem,seval,a3];exact ak.pure hs (by simp)
     .simp only[go_sem,seval,a3,r0,r1];exact ak.pure hs (by simp)
     .simp only[go_sem,seval,a3,r0,r1,r3];exact ak.pure hs (by simp)
     .simp only[go_sem,seval,a3,r0,r1,r3];exact ak.pure hs (by simp)
    .simp only[go_sem,seval,a3];exact ak.pure hs (by simp)
   .cases last
    .simp only[go_sem,seval,a3];exact ak.pure hs (by simp)
    .simp only[go_sem,seval,a3];exact ak.pure hs (by simp)
  .cases first
   .cases last
    .simp only[go_sem,seval,a3,f0,f1];exact ak.pure hs (by simp)
    .simp only[go_sem,seval,a3,f0];exact ak.pure hs (by simp)
   .cases last
    .simp only[go_sem,seval,a3,f0];exact ak.pure hs (by simp)
    .simp only[go_sem,seval,a3,f0];exact ak.pure hs (by simp)
  .cases first
   .cases last
    .simp only[go_sem,seval,a3,f0,f1,f2];exact ak.pure hs (by simp)
    .simp only[go_sem,seval,a3,f0];exact ak.pure hs (by simp)
   .cases last
    .simp only[go_sem,seval,a3,f0];exact ak.pure hs (by simp)
    .simp only[go_sem,seval,a3,f0];exact ak.pure hs (by simp)
  .cases first
   .cases last
    .simp only[go_sem,seval,a3,f0,f1,f2];exact ak.pure hs (by simp[f3,f4])
    .simp only[go_sem,seval,a3,f0];exact ak.pure hs (by simp[f3,f4])
   .cases last
    .simp only[go_sem,seval,a3,f0];exact ak.pure hs (by simp[f3,f4])
    .simp only[go_sem,seval,a3,f0];exact ak.pure hs (by simp[f3,f4])
 .rcases F with rfl|⟨f0,⟨f1,f2⟩|⟨f1,⟨f2,f3⟩|⟨f2,f3,f4⟩⟩⟩
  .cases first
   .cases last
    .simp only[go_sem,seval,a3];exact ak.pure hs (by simp)
    .rcases R with rfl|⟨r0,⟨r1,r2⟩|⟨r1,r2,r3|r3⟩⟩
     .simp only[go_sem,seval,a3];exact ak.pure hs (by simp)
     .simp only[go_sem,seval,a3,r0,r1];exact ak.pure hs (by simp)
     .simp only[go_sem,seval,a3,r0,r1,r3];exact ak.pure hs (by simp)
     .simp only[go_sem,seval,a3,r0,r1,r3];exact ak.pure hs (by simp)
   .cases last
    .simp only[go_sem,seval,a3];exact ak.pure hs (by simp)
    .simp only[go_sem,seval,a3];exact ak.pure hs (by simp)
  .cases first
   .cases last
    .simp only[go_sem,seval,a3,f0];exact ak.pure hs (by simp)
    .simp only[go_sem,seval,a3,f0,f1];exact ak.pure hs (by simp)
   .cases last
    .simp only[go_sem,seval,a3,f0];exact ak.pure hs (by simp)
    .simp only[go_sem,seval,a3,f0];exact ak.pure hs (by simp)
  .cases first
   .cases last
    .simp only[go_sem,seval,a3,f0];exact ak.pure hs (by simp)
    .simp only[go_sem,seval,a3,f0,f1,f2];exact ak.pure hs (by simp)
   .cases last
    .simp only[go_sem,seval,a3,f0];exact ak.pure hs (by simp)
    .simp only[go_sem,seval,a3,f0];exact ak.pure hs (by simp)
  .cases first
   .cases last
    .simp only[go_sem,seval,a3,f0];exact ak.pure hs (by simp[f3,f4])
    .simp only[go_sem,seval,a3,f0,f1,f2];exact ak.pure hs (by simp[f3,f4])
   .cases last
    .simp only[go_sem,seval,a3,f0];exact ak.pure hs (by simp[f3,f4])
    .simp only[go_sem,seval,a3,f0];exact ak.pure hs (by simp[f3,f4])
 .rcases F with rfl|⟨f0,⟨f1,f2⟩|⟨f1,⟨f2,f3⟩|⟨f2,f3,f4⟩⟩⟩
  .cases first
   .cases last
    .simp only[go_sem,seval,a3,c0,c1,c2,c3,c5];exact ak.pure hs (by simp[c2])
    .simp only[go_sem,seval,a3,c0,c1,c2,c3,c5];exact ak.pure hs (by simp[c2])
   .cases last
    .simp only[go_sem,seval,a3,c0,c1,c2,c3,c4,c5];exact ak.pure hs (by simp[c2])
    .simp only[go_sem,seval,a3,c0,c1,c2,c3,c4,c5];exact ak.pure hs (by simp[c2])
  .cases first
   .cases last
    .simp only[go_sem,seval,a3,c0,c1,c2,c3,c5,f0];exact ak.pure hs (by simp[c2,f2])
    .simp only[go_sem,seval,a3,c0,c1,c2,c3,c5,f0];exact ak.pure hs (by simp[c2,f2])
   .cases last
    .simp only[go_sem,seval,a3,c0,c1,c2,c3,c4,c5,f0];exact ak.pure hs (by simp[c2,f2])
    .simp only[go_sem,seval,a3,c0,c1,c2,c3,c4,c5,f0];exact ak.pure hs (by simp[c2,f2])
  .cases first
   .cases last
    .simp only[go_sem,seval,a3,c0,c1,c2,c3,c5,f0];exact ak.pure hs (by simp[c2,f3])
    .simp only[go_sem,seval,a3,c0,c1,c2,c3,c5,f0];exact ak.pure hs (by simp[c2,f3])
   .cases last
    .simp only[go_sem,seval,a3,c0,c1,c2,c3,c4,c5,f0];exact ak.pure hs (by simp[c2,f3])
    .simp only[go_sem,seval,a3,c0,c1,c2,c3,c4,c5,f0];exact ak.pure hs (by simp[c2,f3])
  .cases first
   .cases last
    .simp only[go_sem,seval,a3,c0,c1,c2,c3,c5,f0];exact ak.pure hs (by simp[c2,f3,f4])
    .simp only[go_sem,seval,a3,c0,c1,c2,c3,c5,f0];exact ak.pure hs (by simp[c2,f3,f4])
   .cases last
    .simp only[go_sem,seval,a3,c0,c1,c2,c3,c4,c5,f0];exact ak.pure hs (by simp[c2,f3,f4])
    .simp only[go_sem,seval,a3,c0,c1,c2,c3,c4,c5,f0];exact ak.pure hs (by simp[c2,f3,f4])
open Go.Proofs Go.Proofs.Tryz
def Yt(b:List YJ)(i:Nat):YJ:=b.getD i ⟨0,0,0⟩
def iL(b:List YJ)(i:Nat):Bool:=decide (pR (Yt b i) (decide ((i:Int)=0)) (decide ((i:Int)=(b.length:Int)-1)))
def x9(b:List YJ):Bool:=(List.range b.length).all (iL b)&&decide ((b.length:Int)>0)
def GW{b:List YJ}{j:Nat}(h:(List.range j).all (iL b)=true)(hr:iL b j=true):(List.range (j+1)).all (iL b)=true:=by
 rw[List.range_succ,List.all_append,h];simp[hr]
def QL(b:List YJ)(hb:b.length<=1000000):aK prog 235 [bh b] (.bool (x9 b)):=λU=>by
 refine TL.r (by simp[NM]) ?_;have hlb:=Dv b;refine ab.mix 5 ?_;apply sR;simp only[go_sem,seval,NM,hlb];refine ab.eG (λst=>aa U st.U/\st.s 0=bh b/\(List.range b.length).all (iL b)=true)
  (λm st=>∃j:Nat,j<=b.length/\m=b.length-j/\aa U st.U/\(List.range j).all (iL b)=true/\st.s 0=bh b/\st.s 5=bh b/\st.s 6=vI b.length/\st.s 7=vI j) b.length ?_ ?_ ?_
 .exact⟨0,by omega,rfl,aa.refl _,rfl,rfl,rfl,rfl,rfl⟩
 .rintro m ⟨S,J⟩ ⟨j,hj,rfl,hs,XF,t0,t5,t6,t7⟩;simp only at hs t0 t5 t6 t7;refine ab.mix 5 ?_;by_cases H':j<b.length
  .have q:((j:Int)<b.length)=True:=WE;have r1:WR .i64 ((j:Int)+1):=ai;have r2:WR .i64 ((b.length:Int)-1):=ai;have U':=λU=>qI (U:=U) H';have hg:Yt b j=b[j]:=by simp[Yt,H']
   have hra:iL b j=decide (pR b[j] (decide ((j:Int)=0)) (decide ((j:Int)=(b.length:Int)-1))):=by rw[iL,hg]
   apply sR;simp only[go_sem,seval,t5,t6,t7,q,U',dt];refine ad λi4 Z4 s4 a4 f4=>?_;simp only[go_sem,seval,a4,t0,hlb,r2];generalize Ys:C' Z4 i4 _=Y4;have s4':aa J Y4:=by rw[<-Ys];exact s4.av f4
   clear Ys;refine ab.au rfl rfl rfl (MQ b[j] (decide ((j:Int)=0)) (decide ((j:Int)=(b.length:Int)-1)) _) ?_;rw[<-hra];cases hv:iL b j
   .apply sR;simp only[go_sem,seval];have hm:x9 b=false:=by
     rw[x9];have:(List.range b.length).all (iL b)=false:=by
      rw[List.all_eq_false];exact⟨j,List.mem_range.2 H',by simp[hv]⟩
     rw[this];rfl
    exact ak.pure (hs.trans s4') (by rw[hm])
   .apply sR;simp only[go_sem,seval,t0,t5,t6,t7,r1];refine⟨_,?_,j+1,by omega,rfl,hs.trans s4',GW XF hv,by simp⟩;omega
  .have q:((j:Int)<b.length)=False:=O';have Yq:j=b.length:=by omega
   subst Yq;apply sR;simp only[go_sem,seval,t0,t6,t7,q];exact⟨hs,XF⟩
 .rintro⟨S,J⟩ ⟨hs,t0,XF⟩;simp only at hs t0 XF;refine ab.mix 5 ?_;apply sR;simp only[go_sem,seval,t0,hlb];exact ak.pure hs (by rw[x9,XF];rfl)
open Go.Proofs Go.Proofs.Tryz
def jS(b:List YJ)(i:Nat):V:=.agg [vI (Yt b i).cls,vI (Yt b i).forced,vI (Yt b i).XD,vI i]
def uG(b:List YJ)(bN to:Int):Nat:=(min to ((b.length:Int)-1)+1-max bN 0).toNat
def btw(b:List YJ)(bN to:Int):List Nat:=List.range' (max bN 0).toNat (uG b bN to)
def Tg(U:ag)(b:List YJ):bF U false 1 (.rp (bh b))=some (bh b):=rfl
def range_split:∀(j s n:Nat),j<n->List.range' s n=List.range' s j++(s+j)::List.range' (s+j+1) (n-j-1)
 |0,s,n+1,_=>by simp[List.range']
 |j+1,s,n+1,h=>by
  have:=range_split j (s+1) n (by omega);rw[List.range',this,List.range'];have e1:s+1+j=s+(j+1):=by omega
  have e2:n-j-1=n+1-(j+1)-1:=by omega
  rw[e1,e2];rfl
def tJ(s j:Nat):List.range' s (j+1)=List.range' s j++[s+j]:=by
 rw[range_split j s (j+1) (by omega),show j+1-j-1=0 by omega];rfl
def Il(b:List YJ)(hb:b.length<=1000000)(bN to:Int):Iter prog 320 [.rp (vI bN),.rp (vI to),.rp (bh b)] ((btw b bN to).map λi=>[jS b i]):=by
 refine⟨S1.c,λXe τ Jx Z0 hy hJ=>?_⟩;refine(S1.r (by simp[Oh]) ?_).2;have hlb:=Dv b;refine ab.mix 6 ?_;apply sR;simp only[go_sem,seval,Oh,dr];obtain⟨s,hsv⟩:∃s:Nat,s=(max bN 0).toNat:=⟨_,rfl⟩
 have W9:max bN 0=(s:Int):=by omega
 obtain⟨n,hnv⟩:∃n:Nat,n=uG b bN to:=⟨_,rfl⟩
 have hn1:∀j:Nat,(((s+j:Nat):Int)<=min to ((b.length:Int)-1))↔j<n:=λj=>by rw[hnv,uG,W9];omega
 rw[btw,<-hsv,<-hnv]at hy|-;rw[W9];refine ab.loop (λm st=>∃(j:Nat) (ZJ:ag),j<=n/\m=n-j/\τ ((List.range' s j).map λi=>[jS b i]) ZJ/\aa ZJ st.U/\st.s 0=.yl Xe/\st.s 1=.rp (vI bN)/\st.s 2=.rp (vI to)/\st.s 3=.rp (bh b)/\st.s 5=vI (s+j:Nat)) n ?_ ?_
 .exact⟨0,Z0,by omega,rfl,by simpa using hJ,aa.refl _,rfl,rfl,rfl,rfl,rfl⟩
 .rintro m ⟨S,J⟩ ⟨j,ZJ,hj,rfl,YM,G',t0,t1,t2,t3,t5⟩;simp only at G' t0 t1 t2 t3 t5;refine ab.mix 6 ?_;have r2:WR .i64 ((b.length:Int)-1):=ai;by_cases H':j<n
  .have hle:=(hn1 j).2 H';have XU:s+j<b.length:=by omega
   have q:(((s+j:Nat):Int)<=min to ((b.length:Int)-1))=True:=WE hle;have r1:WR .i64 (((s+j:Nat):Int)+1):=ai;have U':=λU=>qI (U:=U) XU;have hg:Yt b (s+j)=b[s+j]:=by simp[Yt,XU]
   have hfd:jS b (s+j)=.agg [vI b[s+j].cls,vI b[s+j].forced,vI b[s+j].XD,vI (s+j:Nat)]:=by rw[jS,hg]
   have e:((List.range' s n).map λi=>[jS b i])=((List.range' s j).map λi=>[jS b i])++[jS b (s+j)]::((List.range' (s+j+1) (n-j-1)).map λi=>[jS b i]):=by
    rw[range_split j s n H'];simp
   have XB:((List.range' s (j+1)).map λi=>[jS b i])=((List.range' s j).map λi=>[jS b i])++[[jS b (s+j)]]:=by rw[tJ];simp
   have q5:s+(j+1)=s+j+1:=by omega
   generalize s+j=sj at*;apply sR;simp only[go_sem,seval,t0,t2,t3,t5,Tg,hlb,r2,gT,q,U',dt];rw[<-hfd];refine ab.oS (Post:=λb' Z2=>∃Xc,aY ZJ J Xc Z2/\((b'=true/\τ (((List.range' s j).map λi=>[jS b i])++[[jS b sj]]) Xc)\/(b'=false/\Jx (((List.range' s j).map λi=>[jS b i])++[[jS b sj]]) Xc))) rfl rfl rfl (hy _ [jS b sj] _ ZJ J e YM G') ?_;rintro b' Z2 ⟨Xc,Yh,XM⟩;rcases XM with⟨rfl,XM⟩|⟨rfl,XM⟩
   .apply sR;simp only[go_sem,seval,t0,t1,t2,t3,t5,r1];refine⟨_,?_,j+1,Xc,by omega,rfl,by rw[XB];exact XM,Yh.1,by simp[q5]⟩;omega
   .apply sR;simp only[go_sem,seval];exact⟨_,Xc,Yh.1,Wk.refl Yh.1 _,.inr ⟨_,⟨_,by rw[e,my];rfl⟩,XM⟩⟩
  .have q:(((s+j:Nat):Int)<=min to ((b.length:Int)-1))=False:=O' (λh=>H' ((hn1 j).1 h));have Yq:j=n:=by omega
   subst Yq;generalize s+j=sj at*;apply sR;simp only[go_sem,seval,t2,t3,t5,Tg,hlb,r2,gT,q];exact⟨_,ZJ,G',Wk.refl G' _,.inl YM⟩
open Go.Proofs Go.Proofs.Tryz
structure Fd where
 (b:YJ)(i:Int)
def gz(x:Fd):V:=.agg [vI x.b.cls,vI x.b.forced,vI x.b.XD,vI x.i]
def gy(ah:Fd->Fd->Bool->Bool)(p:Fd×Bool)(x:Fd):Fd×Bool:=if ah x p.1 p.2 then(x,true)else p
def fO(ah:Fd->Fd->Bool->Bool)(xs:List Fd)(d:Fd):Fd×Bool:=xs.foldl (gy ah) (d,false)
def vM(ah:Fd->Fd->Bool->Bool)(xs:List Fd)(x:Fd)(d:Fd):fO ah (xs++[x]) d=gy ah (fO ah xs d) x:=by simp[fO,vz]
def De{g f:FuncId}{caps:List V}{xs:List Fd}(hit:Iter prog g caps (xs.map λx=>[gz x]))(d:Fd)(ah:Fd->Fd->Bool->Bool)
 (hf:∀x y s,aK prog f [gz x,gz y,.bool s] (.bool (ah x y s))):
 aK prog 284 [.fn g caps,gz d,.fn f []] (gz (fO ah xs d).1):=λU=>by
 refine U1.r (by simp[Rp]) ?_;have hs:=aa.refl U;have ZA:(V.fn f []).cells=[.fn f []]:=rfl;have Yu:(V.fn f []).stays=true:=rfl;refine ab.mix 10 ?_;apply sR;simp only[go_sem,seval,Rp,gz];refine ad λi4 Z4 s4 a4 f4=>?_;replace hs:=hs.trans s4;simp only[go_sem,seval,ZA,Yu];refine ad λi5 Z5 s5 a5 f5=>?_;replace a4:=s5 _ _ a4;replace hs:=hs.trans s5;simp only[go_sem,seval];refine ad λi6 Z6 s6 a6 f6=>?_;replace a4:=s6 _ _ a4;replace a5:=s6 _ _ a5;have z6:=hs.none f6;replace hs:=hs.trans s6;simp only[go_sem,seval,a4];refine ad λi7 Z7 s7 a7 f7=>?_;simp only[go_sem,seval];refine ad λi8 Z8 s8 a8 f8=>?_;have n78:i7≠i8:=al a7 f8;have b7:=s8 _ _ a7;simp only[go_sem,seval,b7,a8,ae n78.symm];generalize hS:mix 10 _ _=S;have S5:S 5=.ptr i5 0 0:=by rw[<-hS];rfl
 have S6:S 6=.ptr i6 0 0:=by rw[<-hS];rfl
 have S7:S 7=.ptr i7 0 0:=by rw[<-hS];rfl
 have S8:S 8=.ptr i8 0 0:=by rw[<-hS];rfl
 have S11:S 11=.fn g caps:=by rw[<-hS];rfl
 clear hS;refine ab.ej (g:=.t 11) (caps:=caps) S11 hit (λy hy=>?_) [] (λpre ZJ=>ZJ i7=some ⟨358,4,[gz (fO ah (xs.take pre.length) d).1]⟩/\ZJ i8=some ⟨4,1,[.bool (fO ah (xs.take pre.length) d).2]⟩/\aa Z6 ZJ)
  (λ_ _ _=>False) ?_ ?_ ?_ ?_ ?_
 .obtain⟨t,_,rfl⟩:=gM.1 hy;rfl
 .refine⟨(ae n78).trans af,af,?_⟩;have h7:=(s7.trans s8).av (id:=i7) (o:=⟨358,4,[.agg [vI d.b.cls,vI d.b.forced,vI d.b.XD,vI d.i]]⟩) f7;exact h7.av (s7.none f8)
 .rintro pre y post ZJ ZB Zw ⟨J7,J8,Js⟩ G';obtain⟨t,hti,rfl⟩:=rb (f:=gz) Zw;have XB:fO ah (xs.take (pre.length+1)) d=gy ah (fO ah (xs.take pre.length) d) t:=by rw[LV,hti];exact vM _ _ _ _
  have hlen:(pre++[[gz t]]).length=pre.length+1:=by simp
  rw[hlen,XB];generalize fO ah (xs.take pre.length) d=p at*;obtain⟨p1,p2⟩:=p;simp only at J7 J8;have c7:=G' _ _ J7;have c8:=G' _ _ J8;have c5:=G' _ _ (Js _ _ a5);generalize YY:n9 S [12] [gz t]=S0;have T5:S0 5=.ptr i5 0 0:=by rw[<-YY];exact S5
  have T7:S0 7=.ptr i7 0 0:=by rw[<-YY];exact S7
  have T8:S0 8=.ptr i8 0 0:=by rw[<-YY];exact S8
  have T12:S0 12=gz t:=by rw[<-YY];rfl
  clear YY;rw[gz]at c7 T12;refine ab.mix 10 ?_;apply sR;simp only[go_sem,seval];rw[bK];intro i9 f9;have m7:i7≠i9:=al c7 f9;have m8:i8≠i9:=al c8 f9;have m5:i5≠i9:=al c5 f9;simp only[go_sem,seval,T12];have hBs:=(aY.refl G').se (o:=⟨358,4,[.agg [vI t.b.cls,vI t.b.forced,vI t.b.XD,vI t.i]]⟩) f9;have d7:=(ae (o:=⟨358,4,[.agg [vI t.b.cls,vI t.b.forced,vI t.b.XD,vI t.i]]⟩) m7).trans c7;have d8:=(ae (o:=⟨358,4,[.agg [vI t.b.cls,vI t.b.forced,vI t.b.XD,vI t.i]]⟩) m8).trans c8;have d5:=(ae (o:=⟨358,4,[.agg [vI t.b.cls,vI t.b.forced,vI t.b.XD,vI t.i]]⟩) m5).trans c5;have d9:C' ZB i9 ⟨358,4,[.agg [vI t.b.cls,vI t.b.forced,vI t.b.XD,vI t.i]]⟩ i9=_:=af;generalize C' ZB i9 ⟨358,4,[.agg [vI t.b.cls,vI t.b.forced,vI t.b.XD,vI t.i]]⟩=Y9 at*;apply sR;simp only[go_sem,seval,T5,T7,T8,d5,d7,d8,d9];refine ab.au rfl rfl rfl (hf t p1 p2 _) ?_;cases hv:ah t p1 p2
  .apply sR;simp only[go_sem,seval];refine⟨_,hBs,?_,?_,Js⟩
   .rw[gy,hv];exact J7
   .rw[gy,hv];exact J8
  .apply sR;simp only[go_sem,seval,T7,T8,d7,d8,d9,ae n78.symm];refine⟨_,(hBs.set (id:=i7) J7).set (id:=i8) (by rw[ae n78.symm];exact J8),?_,?_,?_⟩
   .rw[gy,hv];exact(ae n78).trans af
   .rw[gy,hv];exact af
   .exact(Js.av f7).av (s7.none f8)
 .rintro Z' ⟨J7,J8,Js⟩;rw[dd,iR]at J7 J8;rw[gz]at J7;have e6:=Js _ _ a6;refine ab.mix 10 ?_;apply sR;simp only[go_sem,seval,S6,S7,J7,e6];exact ak.pure ((hs.trans Js).av z6) rfl
 .intro id h;cases h
 .rintro pre Z' _ ⟨⟩
open Go.Proofs Go.Proofs.Tryz
def zA(b:List YJ)(bN to:Int):aK prog 285 [bh b,vI bN,vI to] (.fn 320 [.rp (vI bN),.rp (vI to),.rp (bh b)]):=λU=>by
 refine Wn.r (by simp[Rk]) ?_;refine ab.mix 7 ?_;have q1:=iN b;have q2:=iU b;generalize bh b=x at*;apply sR;simp only[go_sem,seval,Rk,q1,q2];refine ad λid1 Z1 s1 a1 f1=>?_;simp only[go_sem,seval];refine ad λid2 Z2 s2 a2 f2=>?_;simp only[go_sem,seval];refine ad λid3 Z3 s3 a3 f3=>?_;simp only[go_sem,seval];have hs:=(s1.trans s2).trans s3;exact⟨_,U,hs,Wk.fn (vs':=[.rp (vI bN),.rp (vI to),.rp x]) ⟨Wk.ptr hs (s3 _ _ a2) (s1.none f2),Wk.ptr hs a3 ((s1.trans s2).none f3),Wk.ptr hs (s3 _ _ (s2 _ _ a1)) f1,trivial⟩,rfl,rfl⟩
def mi(b:List YJ)(i:Nat):Fd:=⟨Yt b i,i⟩
def C7:Fd:=⟨⟨0,0,0⟩,-1⟩
def iE(x _y:Fd)(s:Bool):Bool:=!s&&decide (x.b.forced≠0)
def jR(x y:Fd)(s:Bool):Bool:=!s||decide (x.b.XD<=y.b.XD)
def HM(x y:Fd)(s:Bool):aK prog 286 [gz x,gz y,.bool s] (.bool (iE x y s)):=λU=>by
 refine VY.r (by simp[N7]) ?_;have hs:=aa.refl U;obtain⟨⟨c,f,r⟩,i⟩:=x;obtain⟨⟨c',f',r'⟩,i'⟩:=y;refine ab.mix 7 ?_;apply sR;simp only[go_sem,seval,N7,gz];refine ad λi3 Z3 s3 a3 f3=>?_;replace hs:=hs.trans s3;simp only[go_sem,seval];refine ad λi4 Z4 s4 a4 f4=>?_;replace a3:=s4 _ _ a3;replace hs:=hs.trans s4;cases s
 .by_cases h:f≠0
  .have q:(f≠0)=True:=WE h;simp only[go_sem,seval,a3,q];exact ak.pure hs (by simp[iE,h])
  .have q:(f≠0)=False:=O' h;simp only[go_sem,seval,a3,q];exact ak.pure hs (by simp[iE,h])
 .simp only[go_sem,seval];exact ak.pure hs (by simp[iE])
def LD(x y:Fd)(s:Bool):aK prog 287 [gz x,gz y,.bool s] (.bool (jR x y s)):=λU=>by
 refine Vp.r (by simp[QM]) ?_;have hs:=aa.refl U;obtain⟨⟨c,f,r⟩,i⟩:=x;obtain⟨⟨c',f',r'⟩,i'⟩:=y;refine ab.mix 7 ?_;apply sR;simp only[go_sem,seval,QM,gz];refine ad λi3 Z3 s3 a3 f3=>?_;replace hs:=hs.trans s3;simp only[go_sem,seval];refine ad λi4 Z4 s4 a4 f4=>?_;replace a3:=s4 _ _ a3;replace hs:=hs.trans s4;cases s
 .simp only[go_sem,seval];exact ak.pure hs (by simp[jR])
 .by_cases h:r<=r'
  .have q:(r<=r')=True:=WE h;simp only[go_sem,seval,a3,a4,q];exact ak.pure hs (by simp[jR,h])
  .have q:(r<=r')=False:=O' h;simp only[go_sem,seval,a3,a4,q];exact ak.pure hs (by simp[jR,h])
def lL(b:List YJ)(bN to:Int):Int:=(fO iE ((btw b bN to).map (mi b)) C7).1.i
def EG(b:List YJ)(bN to:Int):Int:=(fO jR ((btw b bN to).map (mi b)) C7).1.i
def zc(b:List YJ)(hb:b.length<=1000000)(bN to:Int):Iter prog 320 [.rp (vI bN),.rp (vI to),.rp (bh b)] (((btw b bN to).map (mi b)).map λx=>[gz x]):=by
 have h:=Il b hb bN to;rw[List.map_map];exact h
def Mp(b:List YJ)(hb:b.length<=1000000)(bN to:Int):aK prog 236 [bh b,vI bN,vI to] (vI (lL b bN to)):=λU=>by
 refine WB.r (by simp[Pt]) ?_;have hs:=aa.refl U;refine ab.mix 8 ?_;apply sR;simp only[go_sem,seval,Pt];refine ab.au rfl rfl rfl (zA b bN to _) ?_;apply sR;simp only[go_sem,seval];refine ab.au rfl rfl rfl (De (zc b hb bN to) C7 iE HM _) ?_;apply sR;simp only[go_sem,seval,gz];refine ad λi7 Z7 s7 a7 f7=>?_;have z7:=hs.none f7;replace hs:=hs.trans s7;simp only[go_sem,seval,a7];exact ak.pure (hs.av z7) rfl
def PO(b:List YJ)(hb:b.length<=1000000)(bN to:Int):aK prog 237 [bh b,vI bN,vI to] (vI (EG b bN to)):=λU=>by
 refine Tl.r (by simp[ON]) ?_;have hs:=aa.refl U;refine ab.mix 8 ?_;apply sR;simp only[go_sem,seval,ON];refine ab.au rfl rfl rfl (zA b bN to _) ?_;apply sR;simp only[go_sem,seval];refine ab.au rfl rfl rfl (De (zc b hb bN to) C7 jR LD _) ?_;apply sR;simp only[go_sem,seval,gz];refine ad λi7 Z7 s7 a7 f7=>?_;have z7:=hs.none f7;replace hs:=hs.trans s7;simp only[go_sem,seval,a7];exact ak.pure (hs.av z7) rfl
open Go.Proofs Go.Proofs.Tryz
structure Kp where
 (WQ:List Int)
 (high body:Int)
def jM(l:List Nd)(x:Kp)(a:Int):Kp:=if(YG l a).head<1\/x.body-(YG l a).head<1 then x else⟨x.WQ++[a],x.high+(YG l a).head,x.body-(YG l a).head⟩
structure KpJ(Z0:ag)(i7:Nat)(x:Kp)(U:ag):Prop where
 row:∃v,U i7=some ⟨246,3,[.agg [v,vI x.high,vI x.body]]⟩/\aM (aX Z0 i7) U 3 1 v (x.WQ.map vI)
 sub:aa Z0 U
 no:Z0 i7=none
def MC(l:List Nd)(hb:Xw l=true)(x:Kp)(hlen:x.WQ.length<=1000000)(h0:0<=x.high)(h1:x.high<=4398046511104)(h2:0<=x.body)(h3:x.body<=4398046511104)(a:Nat)(ha:a<l.length)
 {Z0 ZJ ZB:ag}{i7:Nat}(hJ:KpJ Z0 i7 x ZJ)(G':aa ZJ ZB):
 ax prog 160 [.ptr i7 0 0,aC l,vI a] ZB λ_ Z'=>∃Xc,aY ZJ ZB Xc Z'/\KpJ Z0 i7 (jM l x a) Xc:=by
 refine TU.r (by simp[H3]) ?_;have Xa:=(gC hb ha).st.head;have YK:=λU=>cA (U:=U) (l:=l) (a:=a) ha;obtain⟨⟨v,J7,Jo⟩,Js,Jn⟩:=hJ;obtain⟨hds,high,body⟩:=x;simp only at hlen h0 h1 h2 h3 J7 Jo;have hvc:v.cells=[v]:=by rcases Jo with⟨rfl,_⟩|⟨_,rfl,_⟩<;>rfl
 have c7:=G' _ _ J7;unfold jM;rw[jU ha];simp only;have same:(l[a].st.head<1\/body-l[a].st.head<1)->ak (.WJ []) ZB λ_ Z'=>∃Xc,aY ZJ ZB Xc Z'/\KpJ Z0 i7 (if l[a].st.head<1\/body-l[a].st.head<1 then⟨hds,high,body⟩else⟨hds++[(a:Int)],high+l[a].st.head,body-l[a].st.head⟩) Xc:=λh=>by
  rw[aq h];exact⟨_,ZB,aa.refl _,Wk.refl (aa.refl _) _,ZJ,aY.refl G',⟨v,J7,Jo⟩,Js,Jn⟩
 refine ab.mix 7 ?_;have r1:WR .i64 (body-l[a].st.head):=ai;have r2:WR .i64 (high+l[a].st.head):=ai;by_cases hn:l[a].st.head<1
 .have q1:(l[a].st.head<1)=True:=WE hn;have fin:=same (.inl hn);generalize hX:(if l[a].st.head<1\/body-l[a].st.head<1 then(⟨hds,high,body⟩:Kp)else⟨hds++[(a:Int)],high+l[a].st.head,body-l[a].st.head⟩)=X at*;apply sR;simp only[go_sem,seval,H3,YK,Nd.cells,q1];exact fin
 have q1:(l[a].st.head<1)=False:=O' hn;by_cases hn2:body-l[a].st.head<1
 .have q2:(body-l[a].st.head<1)=True:=WE hn2;have fin:=same (.inr hn2);generalize hX:(if l[a].st.head<1\/body-l[a].st.head<1 then(⟨hds,high,body⟩:Kp)else⟨hds++[(a:Int)],high+l[a].st.head,body-l[a].st.head⟩)=X at*;apply sR;simp only[go_sem,seval,H3,YK,Nd.cells,q1,r1,q2,c7];exact fin
 have q2:(body-l[a].st.head<1)=False:=O' hn2;rw[ao (by omega)];clear same;apply sR;simp only[go_sem,seval,H3,YK,Nd.cells,q1,r1,q2,c7];rw[bK];intro id28 f28;have hrl:(hds.map vI).length<=1000000:=by simpa using hlen
 have Xo:((hds++[(a:Int)]).map vI)=hds.map vI++[vI a]:=by simp
 generalize hds.map vI=rows at*;have hBs:=(aY.refl G').se (o:=⟨3,1,[vI (a:Int)]⟩) f28;have y2:C' ZB id28 ⟨3,1,[vI (a:Int)]⟩ i7=_:=(ae (al c7 f28)).trans c7;have a28:C' ZB id28 ⟨3,1,[vI (a:Int)]⟩ id28=some ⟨3,1,[vI (a:Int)]⟩:=af;generalize C' ZB id28 ⟨3,1,[vI (a:Int)]⟩=Z8 at*;obtain⟨WW,Yj,hdA⟩:=Jo.Hq hBs.1;have XW:(rows.length+1)*9<=140737488355328:=by omega
 have k2:aX Z0 i7 i7≠none:=λh=>(aH.1 h).1 rfl;have dne:∀(i:Nat) (Zx:ag),aX Z0 i7 i≠none->Vc.bz Zx WW i=Zx i:=λi Zx hk=>by
  cases WW with
  |none=>rfl
  |some a=>exact dg (λe=>hk (by rw[e];exact(hdA a rfl).1))
 simp only[go_sem,seval,Yj,du a28,XW];rw[bK];intro YZ f29;have f29:Z8 YZ=none:=f29;have m29:i7≠YZ:=al y2 f29;have f29':Vc.bz Z8 WW YZ=none:=by
  cases WW with
  |none=>exact f29
  |some a=>simp only[Vc.bz,del];split<;>first|rfl|exact f29
 have y2':C' (Vc.bz Z8 WW) YZ ⟨3,1,rows++[vI (a:Int)]⟩ i7=some ⟨246,3,[.agg [v,vI high,vI body]]⟩:=by rw[ae m29,dne _ _ k2];exact y2
 have hB9:=((hBs.Hd (e:=WW) λi h=>(hdA i h).2).new (o:=⟨3,1,rows++[vI (a:Int)]⟩) f29').set (id:=i7) (o:=⟨246,3,[.agg [v,vI high,vI body]]⟩) (o':=⟨246,3,[.agg [.own YZ 0 (rows.length+1),vI (high+l[a].st.head),vI (body-l[a].st.head)]]⟩) (by rw[ae m29,dne _ _ k2];exact J7);simp only[go_sem,seval,y2',r1,r2];refine⟨_,_,aa.refl _,Wk.refl (aa.refl _) _,_,hB9,⟨.own YZ 0 (rows.length+1),af,?_⟩,?_,Jn⟩
 .rw[Xo];refine aM.new (by simp) (by rw[ae m29.symm,af]) ?_;rw[aH];refine⟨m29.symm,?_⟩;cases h:Z0 YZ with
  |none=>rfl
  |some o=>rw[hBs.1 _ _ (Js _ _ h)]at f29;cases f29
 .refine aa.av (λi o h=>?_) Jn;have h1:=Js _ _ h;rw[ae (al (hBs.1 _ _ h1) f29),dne _ _ (λhk=>by rw[(aH.1 hk).2]at h;cases h)];exact h1
open Go.Proofs Go.Proofs.Tryz
def bwd(L:List Int):List (List V):=(List.range' 0 L.length).map λq=>[vI ((L.length-1-q:Nat):Int),vI (L.getD (L.length-1-q) 0)]
def I8(L:List Int)(hL:L.length<=1000000):Iter prog 213 [.rp (bb L)] (bwd L):=by
 refine⟨R4.c,λXe τ Jx Z0 hy hJ=>?_⟩;refine(R4.r (by simp[QE]) ?_).2;have hlL:=fL L;have ldI:∀(U:ag) (X:List Int),bF U false 1 (.rp (bb X))=some (bb X):=λU X=>rfl;have r2:WR .i64 ((L.length:Int)-1):=ai;refine ab.mix 4 ?_;apply sR;simp only[go_sem,seval,QE,ldI,hlL,r2];generalize hT:bwd L=T at hy|-
 let F:Nat->List V:=λq=>[vI ((L.length-1-q:Nat):Int),vI (L.getD (L.length-1-q) 0)]
 have hTF:T=(List.range' 0 L.length).map F:=hT.symm;refine ab.loop (λm st=>∃(j:Nat) (ZJ:ag),j<=L.length/\m=L.length-j/\τ ((List.range' 0 j).map F) ZJ/\aa ZJ st.U/\st.s 0=.yl Xe/\st.s 1=.rp (bb L)/\st.s 3=vI ((L.length:Int)-1-j)) L.length ?_ ?_
 .exact⟨0,Z0,by omega,rfl,by simpa using hJ,aa.refl _,rfl,rfl,by simp[aQ,mix]⟩
 .rintro m ⟨S,J⟩ ⟨j,ZJ,hj,rfl,YM,G',t0,t1,t3⟩;simp only at G' t0 t1 t3;refine ab.mix 4 ?_;by_cases H':j<L.length
  .obtain⟨i,hi⟩:∃i:Nat,i=L.length-1-j:=⟨_,rfl⟩
   have Zy:i<L.length:=by omega
   have t3':S 3=vI (i:Int):=by rw[t3];congr 1;omega
   have q:((i:Int)>=0)=True:=WE;have r1:WR .i64 ((i:Int)-1):=ai;have U':=λU=>iq (U:=U) Zy;have hF:F j=[vI (i:Int),vI L[i]]:=by
    show[vI ((L.length-1-j:Nat):Int),vI (L.getD (L.length-1-j) 0)]=_;rw[<-hi];simp[Zy]
   have e:T=((List.range' 0 j).map F)++[vI (i:Int),vI L[i]]::((List.range' (0+j+1) (L.length-j-1)).map F):=by
    rw[hTF,range_split j 0 L.length H',gB,eo,iV,hF]
   have XB:((List.range' 0 (j+1)).map F)=((List.range' 0 j).map F)++[[vI (i:Int),vI L[i]]]:=by rw[tJ,gB,iV,eo,hF];rfl
   have q5:(i:Int)-1=(L.length:Int)-1-((j+1:Nat):Int):=by omega
   apply sR;simp only[go_sem,seval,t0,t1,t3',ldI,q,U'];refine ab.oS (Post:=λb' Z2=>∃Xc,aY ZJ J Xc Z2/\((b'=true/\τ (((List.range' 0 j).map F)++[[vI (i:Int),vI L[i]]]) Xc)\/(b'=false/\Jx (((List.range' 0 j).map F)++[[vI (i:Int),vI L[i]]]) Xc))) rfl rfl rfl (hy _ [vI (i:Int),vI L[i]] _ ZJ J e YM G') ?_;rintro b' Z2 ⟨Xc,Yh,XM⟩;rcases XM with⟨rfl,XM⟩|⟨rfl,XM⟩
   .apply sR;simp only[go_sem,seval,t0,t1,t3',r1];refine⟨_,?_,j+1,Xc,by omega,rfl,by rw[XB];exact XM,Yh.1,by simp[q5]⟩;omega
   .apply sR;simp only[go_sem,seval];exact⟨_,Xc,Yh.1,Wk.refl Yh.1 _,.inr ⟨_,⟨_,by rw[e,my];rfl⟩,XM⟩⟩
  .have Yq:j=L.length:=by omega
   subst Yq;have q:((L.length:Int)-1-(L.length:Int)>=0)=False:=O';apply sR;simp only[go_sem,seval,t3,q];exact⟨_,ZJ,G',Wk.refl G' _,.inl (hTF▸YM)⟩
def SM(L:List Int):aK prog 158 [bb L] (.fn 213 [.rp (bb L)]):=λU=>by
 refine Vd.r (by simp[QB]) ?_;refine ab.mix 3 ?_;apply sR;simp only[go_sem,seval,QB,cS,ik];refine ad λid1 Z1 s1 a1 f1=>?_;simp only[go_sem,seval];exact⟨_,U,s1,Wk.fn (vs':=[.rp (bb L)]) ⟨Wk.ptr s1 a1 f1,trivial⟩,rfl,rfl⟩
open Go.Proofs Go.Proofs.Tryz
def kP(x:Kp):V:=.agg [bb x.WQ,vI x.high,vI x.body]
def gP(l:List Nd)(L:List Int)(h:Int):Nat->Kp
 |0=>⟨[],0,h⟩
 |m+1=>jM l (gP l L h m) (L.getD (L.length-1-m) 0)
def GH{l:List Nd}{x:Kp}{a:Int}{m:Nat}{h:Int}(h0:0<=(YG l a).head)(hx:x.WQ.length<=m/\0<=x.high/\0<=x.body/\x.high+x.body=h):(jM l x a).WQ.length<=m+1/\0<=(jM l x a).high/\0<=(jM l x a).body/\(jM l x a).high+(jM l x a).body=h:=by
 obtain⟨h1,h2,h3,h4⟩:=hx;unfold jM;split
 .exact⟨by omega,h2,h3,h4⟩
 .simp only[iz,XX,List.length_nil];omega
def qQ{l:List Nd}(hb:Xw l=true){L:List Int}(hL:∀x∈L,∃n:Nat,x=n/\n<l.length){h:Int}(hh:0<=h):∀m,m<=L.length->(gP l L h m).WQ.length<=m/\0<=(gP l L h m).high/\0<=(gP l L h m).body/\(gP l L h m).high+(gP l L h m).body=h
 |0,_=>by simp[gP];omega
 |m+1,hm=>by
  have ih:=qQ hb hL hh m (by omega);rw[gP];refine GH ?_ ih;have H':L.length-1-m<L.length:=by omega
  have hg:L.getD (L.length-1-m) 0=L[L.length-1-m]:=by simp[H']
  rw[hg];obtain⟨n,hn,hnl⟩:=hL _ (XI H');rw[hn,jU hnl];exact(gC hb hnl).st.head.1
def AY(l:List Nd)(a:Nat)(h:Int):Kp:=gP l (abv l a) h (abv l a).length
def JT(l:List Nd)(hl:cT l)(hb:Xw l=true)(hn:l.length<=100000)(a:Nat)(ha:a<l.length)(h:Int)(h0:0<=h)(h1:h<=2199023255552):
 aK prog 105 [aC l,vI a,vI h] (kP (AY l a h)):=λU=>by
 refine Tq.r (by simp[QH]) ?_;have hs:=aa.refl U;refine ab.mix 10 ?_;apply sR;simp only[go_sem,seval,QH,cg,dR];refine ad λi3 Z3 s3 a3 f3=>?_;replace hs:=hs.trans s3;simp only[go_sem,seval];refine ad λi6 Z6 s6 a6 f6=>?_;replace a3:=s6 _ _ a3;have z6:=hs.none f6;replace hs:=hs.trans s6;simp only[go_sem,seval];refine ad λi7 Z7 s7 a7 f7=>?_;have n37:i3≠i7:=al a3 f7;have b3:=s7 _ _ a3;simp only[go_sem,seval,a7,b3,ae n37,cg];have h7:KpJ Z6 i7 ⟨[],0,h⟩ (C' Z7 i7 ⟨246,3,[.agg [.ay,vI 0,vI h]]⟩):=⟨⟨.ay,af,aM.start⟩,s7.av f7,f7⟩
 have e3:C' Z7 i7 ⟨246,3,[.agg [.ay,vI 0,vI h]]⟩ i3=_:=(ae n37).trans b3;generalize C' Z7 i7 ⟨246,3,[.agg [.ay,vI 0,vI h]]⟩=Y7 at*;refine ab.au rfl rfl rfl (Dt l hl hb hn a ha _) ?_;have hrg:∀x∈abv l a,∃n:Nat,x=n/\n<l.length:=λx hx=>by
  obtain⟨n,h1,h2⟩:=qJ ha x hx;exact⟨n,h1,by omega⟩
 have hlL:(abv l a).length<=l.length+1:=jv _ _ _;unfold AY;generalize abv l a=L at*;apply sR;simp only[go_sem,seval];refine ab.au rfl rfl rfl (SM L _) ?_;apply sR;simp only[go_sem,seval];generalize hS:mix 10 _ _=S;have S3:S 3=.ptr i3 0 0:=by rw[<-hS];rfl
 have S6:S 6=.ptr i6 0 0:=by rw[<-hS];rfl
 have S7:S 7=.ptr i7 0 0:=by rw[<-hS];rfl
 have S16:S 16=.fn 213 [.rp (bb L)]:=by rw[<-hS];rfl
 clear hS;refine ab.ej (g:=.t 16) (caps:=[.rp (bb L)]) S16 (I8 L (by omega)) (λy hy=>?_) [] (λpre ZJ=>KpJ Z6 i7 (gP l L h pre.length) ZJ)
  (λ_ _ _=>False) ?_ ?_ ?_ ?_ ?_
 .obtain⟨t,_,rfl⟩:=gM.1 hy;rfl
 .exact h7
 .rintro pre y post ZJ ZB Zw hJ G';have hpl:pre.length<L.length:=by
   have:=congrArg List.length Zw;simp[bwd]at this;omega
  obtain⟨i,hi⟩:∃i:Nat,i=L.length-1-pre.length:=⟨_,rfl⟩
  have Zy:i<L.length:=by omega
  have hy:y=[vI (i:Int),vI (L.getD i 0)]:=by
   have h1:(bwd L)[pre.length]?=some y:=by rw[Zw];simp
   simp[bwd,hpl]at h1;rw[<-h1,hi];simp
  have hlen:(pre++[y]).length=pre.length+1:=by simp
  have hinv:=qQ hb hrg h0 pre.length (by omega);have WY:gP l L h (pre.length+1)=jM l (gP l L h pre.length) (L.getD i 0):=by rw[gP,hi]
  have hg:L.getD i 0=L[i]:=by simp[Zy]
  obtain⟨n,W6,hnl⟩:=hrg _ (XI Zy);rw[hlen,WY,hg,W6];rw[hg,W6]at hy;subst hy;generalize gP l L h pre.length=x at*;have c3:=G' _ _ (hJ.sub _ _ a3);generalize YY:n9 S [17,18] [vI (i:Int),vI (n:Int)]=S0;have T3:S0 3=.ptr i3 0 0:=by rw[<-YY];exact S3
  have T7:S0 7=.ptr i7 0 0:=by rw[<-YY];exact S7
  have T18:S0 18=vI (n:Int):=by rw[<-YY];rfl
  clear YY;refine ab.mix 10 ?_;apply sR;simp only[go_sem,seval,T18];apply sR;simp only[go_sem,seval,T3,c3,cg];have hc:=MC l hb x (by omega) (by omega) (by omega) (by omega) (by omega) n hnl hJ G';rw[<-T7]at hc;refine ab.call rfl rfl rfl hc ?_;rintro-Z2 ⟨Xc,hB,YL⟩;apply sR;simp only[go_sem,seval];exact⟨_,hB,YL⟩
 .rintro Z' hJ;have XU:(bwd L).length=L.length:=by simp[bwd]
  rw[XU]at hJ;obtain⟨⟨v,J7,Jo⟩,Js,Jn⟩:=hJ;have hvc:v.cells=[v]:=by rcases Jo with⟨rfl,_⟩|⟨_,rfl,_⟩<;>rfl
  have e6:=Js _ _ a6;refine ab.mix 10 ?_;apply sR;simp only[go_sem,seval,S6,S7,J7,e6];have WY:=(hs.trans Js).av (o:=⟨180,3,[.agg [v,vI (gP l L h L.length).high,vI (gP l L h L.length).body]]⟩) z6;have Jo':aM (aX Z6 i7) (C' Z' i6 ⟨180,3,[.agg [v,vI (gP l L h L.length).high,vI (gP l L h L.length).body]]⟩) 3 1 v ((gP l L h L.length).WQ.map vI):=by
   rcases Jo with h|⟨id,g1,g2,g3⟩
   .exact .inl h
   .refine .inr ⟨id,g1,?_,g3⟩;rw[ae (λe=>by rw[e,aH]at g3;rw[a6]at g3;cases g3.2)];exact g2
  have hK:aa U (aX Z6 i7):=λi o hh=>by
   rw[aX,ao (λe=>by rw[e,hs.none f7]at hh;cases hh)];exact hs _ _ hh
  exact⟨_,U,WY,Wk.agg (vs':=[bb (gP l L h L.length).WQ,vI (gP l L h L.length).high,vI (gP l L h L.length).body]) ⟨Jo'.wk hK WY,Wk.refl WY _,Wk.refl WY _,trivial⟩,rfl,rfl⟩
 .intro id h;cases h
 .rintro pre Z' _ ⟨⟩
open Go.Proofs Go.Proofs.Tryz
def jN(l:List Nd)(h:Int):Bool:=decide (1<=h/\h<=1099511627776)&&Xw l
def I4(l:List Nd)(hl:cT l)(h:Int):aK prog 104 [aC l,vI h] (.bool (jN l h)):=λU=>by
 refine Us.r (by simp[Pc]) ?_;refine ab.mix 5 ?_;apply sR;simp only[go_sem,seval,Pc];refine ab.au rfl rfl rfl (tk h _) ?_;unfold jN;cases hd:decide (1<=h/\h<=1099511627776)
 .apply sR;simp only[go_sem,seval];exact ak.same (by simp)
 .apply sR;simp only[go_sem,seval];refine ab.au rfl rfl rfl (FM l hl _) ?_;apply sR;simp only[go_sem,seval];exact ak.same (by simp)
def uF(l:List Nd)(a h:Int):Kp:=if jN l h=true/\0<=a/\a<l.length then AY l a.toNat h else⟨[],0,0⟩
def Ni(l:List Nd)(hl:cT l)(a h:Int):aK prog 174 [aC l,vI a,vI h] (kP (uF l a h)):=λU=>by
 refine V5.r (by simp[PH]) ?_;have hs:=aa.refl U;have hln:=fj l;have hn:l.length<=100000:=by have:=hl.1;omega
 refine ab.mix 7 ?_;apply sR;simp only[go_sem,seval,PH];refine ad λi6 Z6 s6 a6 f6=>?_;have z6:=hs.none f6;replace hs:=hs.trans s6;simp only[go_sem,seval];refine ab.au rfl rfl rfl (I4 l hl h _) ?_;have bad:¬(jN l h=true/\0<=a/\a<l.length)->ak (.agg [.ay,vI 0,vI 0]) Z6 λr Z'=>r=kP (uF l a h)/\Z'=U:=λhb=>by
  rw[uF,ao hb];exact⟨_,U,hs,Wk.agg (vs':=[bb [],vI 0,vI 0]) ⟨Wk.ay 1,Wk.refl hs _,Wk.refl hs _,trivial⟩,rfl,rfl⟩
 have a6':C' Z6 i6 ⟨180,3,[.agg [.ay,vI 0,vI 0]]⟩=Z6:=by
  funext i;by_cases hi:i=i6
  .rw[hi,af];exact a6.symm
  .rw[ae hi]
 cases hm:jN l h
 .have fin:=bad (by simp[hm]);apply sR;simp only[go_sem,seval,a6];rw[a6'];exact fin
 by_cases h0:a<0
 .have q0:(a<0)=True:=WE h0;have fin:=bad (by omega);apply sR;simp only[go_sem,seval,a6,q0];rw[a6'];exact fin
 have q0:(a<0)=False:=O' h0;by_cases h1:a>=l.length
 .have q1:(a>=l.length)=True:=WE h1;have fin:=bad (by omega);apply sR;simp only[go_sem,seval,a6,q0,q1,hln];rw[a6'];exact fin
 have q1:(a>=l.length)=False:=O' h1;clear bad a6';obtain⟨n,rfl⟩:∃n:Nat,a=n:=⟨a.toNat,by omega⟩
 have hb:Xw l=true:=by unfold jN at hm;simp at hm;exact hm.2
 have hh:1<=h/\h<=1099511627776:=by unfold jN at hm;simp at hm;exact hm.1
 have hr:uF l n h=AY l n h:=by rw[uF,aq ⟨hm,by omega,by omega⟩,fc]
 rw[hr];apply sR;simp only[go_sem,seval,q0,q1,hln];refine ab.au rfl rfl rfl (JT l hl hb hn n (by omega) h (by omega) (by omega) _) ?_;apply sR;simp only[go_sem,seval,a6,kP];exact ak.pure (hs.av z6) rfl
def jj(l:List Nd)(h:Int):Nat->Int
 |0=>h
 |j+1=>if(Xf l j).kind=2\/(Xf l j).kind=3 then min (jj l h j) (AY l j h).body else jj l h j
def iD(l:List Nd)(h:Int):Int:=if jN l h=true then jj l h l.length else 0
def J1(l:List Nd)(hl:cT l)(h:Int):aK prog 48 [aC l,vI h] (vI (iD l h)):=λU=>by
 refine e48.r (by simp[c48]) ?_;have hs:=aa.refl U;have hln:=fj l;have hn:l.length<=100000:=by have:=hl.1;omega
 refine ab.mix 8 ?_;apply sR;simp only[go_sem,seval,c48];refine ab.au rfl rfl rfl (I4 l hl h _) ?_;unfold iD;cases hm:jN l h
 .apply sR;simp only[go_sem,seval];exact ak.same rfl
 have hb:Xw l=true:=by unfold jN at hm;simp at hm;exact hm.2
 have hh:1<=h/\h<=1099511627776:=by unfold jN at hm;simp at hm;exact hm.1
 rw[aq rfl];apply sR;simp only[go_sem,seval,hln];refine ab.loop (λm st=>∃j:Nat,j<=l.length/\m=l.length-j/\aa U st.U/\st.s 0=aC l/\st.s 1=vI h/\st.s 5=vI (jj l h j)/\st.s 13=aC l/\st.s 14=vI l.length/\st.s 15=vI j) l.length ?_ ?_
 .exact⟨0,by omega,rfl,hs,rfl,rfl,rfl,rfl,rfl,rfl⟩
 .clear hs;rintro m ⟨S,J⟩ ⟨j,hj,rfl,hs,t0,t1,t5,t13,t14,t15⟩;simp only at hs t0 t1 t5 t13 t14 t15;refine ab.mix 8 ?_;by_cases H':j<l.length
  .have q:((j:Int)<l.length)=True:=WE;have r1:WR .i64 ((j:Int)+1):=ai;have YK:=λU=>cA (U:=U) (l:=l) (a:=j) H';have WY:jj l h (j+1)=if l[j].kind=2\/l[j].kind=3 then min (jj l h j) (AY l j h).body else jj l h j:=by rw[jj,jG H']
   apply sR;simp only[go_sem,seval,t13,t14,t15,q,YK,Nd.cells];refine ad λi7 Z7 s7 a7 f7=>?_;by_cases hk:l[j].kind=2
   .have q1:(l[j].kind=2)=True:=WE hk;simp only[go_sem,seval,a7,q1,t0,t1,t5];refine ab.au rfl rfl rfl (JT l hl hb hn j H' h (by omega) (by omega) _) ?_;apply sR;simp only[go_sem,seval,t0,t1,t13,t14,t15,kP,r1,gT];refine⟨_,?_,j+1,by omega,rfl,hs.trans (s7.av f7),by simp[WY,hk]⟩;omega
   .have q1:(l[j].kind=2)=False:=O' hk;by_cases hk3:l[j].kind=3
    .have q2:(l[j].kind=3)=True:=WE hk3;have hk:=hk3;simp only[go_sem,seval,a7,q1,q2,t0,t1,t5];refine ab.au rfl rfl rfl (JT l hl hb hn j H' h (by omega) (by omega) _) ?_;apply sR;simp only[go_sem,seval,t0,t1,t13,t14,t15,kP,r1,gT];refine⟨_,?_,j+1,by omega,rfl,hs.trans (s7.av f7),by simp[WY,hk]⟩;omega
    .have q2:(l[j].kind=3)=False:=O' hk3;simp only[go_sem,seval,a7,q1,q2,t0,t1,t5,t13,t14,t15,r1];refine⟨_,?_,j+1,by omega,rfl,hs.trans (s7.av f7),by simp[WY,hk,hk3]⟩;omega
  .have q:((j:Int)<l.length)=False:=O';have Yq:j=l.length:=by omega
   apply sR;simp only[go_sem,seval,t5,t14,t15,q];exact ak.pure hs (by rw[Yq])
open Go.Proofs Go.Proofs.Tryz
def cN(l:List Xv):(aW l).cells=[aW l]:=rfl
def iO(l:List Xv):(aW l).stays=true:=rfl
def fK(l:List Xv):cP false (aW l)=some (.int .i64 l.length):=by simp[aW,cP]
def iP{U:ag}{l:List Xv}{i:Nat}(h:i<l.length):bp U 8 (aW l) (.int .i64 i)=some (.rp (cp l[i])):=by simp[aW,bp,h,cp]
structure nF(l:List Xv):Prop where
 len:l.length<=1000000000
 rng:∀a∈l,-1152921504606846976<=a.y/\a.y<=1152921504606846976/\0<=a.h/\a.h<=1152921504606846976
def Ap(l:List Xv)(k:Int):aK prog 281 [aW l,vI k] (.bool (decide (0<=k/\k<l.length))):=λU=>by
 refine Wf.r (by simp[IZ]) ?_;have hl:=fK l;refine ab.mix 5 ?_;by_cases h0:k>=0
 .have q0:(k>=0)=True:=WE h0;by_cases h1:k<l.length
  .have q1:(k<l.length)=True:=WE h1;apply sR;simp only[go_sem,seval,IZ,q0,q1,hl];exact ak.same (by simp)
  .have q1:(k<l.length)=False:=O' h1;apply sR;simp only[go_sem,seval,IZ,q0,q1,hl];exact ak.same (by simp)
 .have q0:(k>=0)=False:=O' h0;apply sR;simp only[go_sem,seval,IZ,q0];exact ak.same (by simp<;>omega)
def Gs(a:Xv)(h:-1152921504606846976<=a.y/\a.y<=1152921504606846976/\0<=a.h/\a.h<=1152921504606846976):aK prog 319 [cp a] (vI (a.y+a.h)):=λU=>by
 refine Uq.r (by simp[N5]) ?_;have hs:=aa.refl U;have r1:WR .i64 (a.y+a.h):=ai;refine ab.mix 3 ?_;apply sR;simp only[go_sem,seval,N5,cp];refine ad λi1 Z1 s1 a1 f1=>?_;replace hs:=hs.trans s1;simp only[go_sem,seval,a1,r1];exact ak.pure hs rfl
def XV(l:List Xv)(k:Int):Xv:=l.getD k.toNat ⟨0,0,0,0,0,0,0,0⟩
def fN(l:List Xv)(k:Int):Int:=if 0<=k/\k<l.length then(XV l k).y+(XV l k).h else 0
def mX(l:List Xv)(k:Int):Int:=if 0<=k/\k<l.length then(XV l k).y-fN l (k-1)else 0
def gu(l:List Xv)(i k:Int):Int:=if(0<=i/\i<l.length)/\(0<=k/\k<l.length)then(XV l k).y-(XV l i).y else 0
def bg{l:List Xv}{k:Nat}(h:k<l.length):XV l k=l[k]:=by simp[XV,h]
def tO{l:List Xv}(hl:nF l)(k:Int):-1152921504606846976<=fN l k/\fN l k<=2305843009213693952:=by
 unfold fN;split
 .rename_i h;obtain⟨n,rfl⟩:∃n:Nat,k=n:=⟨k.toNat,by omega⟩
  have hn:n<l.length:=by omega
  rw[bg hn];have:=hl.rng _ (XI hn);omega
 .omega
def G2(l:List Xv)(hl:nF l)(k:Int):aK prog 282 [aW l,vI k] (vI (fN l k)):=λU=>by
 refine Wq.r (by simp[RD]) ?_;refine ab.mix 5 ?_;apply sR;simp only[go_sem,seval,RD];refine ab.au rfl rfl rfl (Ap l k _) ?_;unfold fN;by_cases h:0<=k/\k<l.length
 .obtain⟨n,rfl⟩:∃n:Nat,k=n:=⟨k.toNat,by omega⟩
  have hn:n<l.length:=by omega
  have hd:decide (0<=(n:Int)/\(n:Int)<l.length)=true:=by simp;omega
  have U':=λU=>iP (U:=U) hn;rw[hd,aq h,bg hn];apply sR;simp only[go_sem,seval,U',cp];refine ab.au rfl rfl rfl (Gs l[n] (hl.rng _ (XI hn)) _) ?_;apply sR;simp only[go_sem,seval];exact ak.same rfl
 .have hd:decide (0<=k/\k<l.length)=false:=by simpa using h
  rw[hd,ao h];apply sR;simp only[go_sem,seval];exact ak.same rfl
def Rl(l:List Xv)(hl:nF l)(k:Int):aK prog 234 [aW l,vI k] (vI (mX l k)):=λU=>by
 refine Tt.r (by simp[NY]) ?_;refine ab.mix 5 ?_;apply sR;simp only[go_sem,seval,NY];refine ab.au rfl rfl rfl (Ap l k _) ?_;unfold mX;by_cases h:0<=k/\k<l.length
 .obtain⟨n,rfl⟩:∃n:Nat,k=n:=⟨k.toNat,by omega⟩
  have hn:n<l.length:=by omega
  have hd:decide (0<=(n:Int)/\(n:Int)<l.length)=true:=by simp;omega
  have U':=λU=>iP (U:=U) hn;have hll:=hl.len;have hy:=hl.rng _ (XI hn);have hbr:=tO hl ((n:Int)-1);have r1:WR .i64 ((n:Int)-1):=ai;have r2:WR .i64 (l[n].y-fN l ((n:Int)-1)):=ai;rw[hd,aq h,bg hn];apply sR;simp only[go_sem,seval,U',cp,r1];refine Go.bw rfl rfl rfl (G2 l hl ((n:Int)-1)) ?_;apply sG;simp only[go_sem,seval,r2];exact ak.same rfl
 .have hd:decide (0<=k/\k<l.length)=false:=by simpa using h
  rw[hd,ao h];apply sR;simp only[go_sem,seval];exact ak.same rfl
def HA(l:List Xv)(hl:nF l)(i k:Int):aK prog 288 [aW l,vI i,vI k] (vI (gu l i k)):=λU=>by
 refine Vt.r (by simp[Qd]) ?_;refine ab.mix 8 ?_;apply sR;simp only[go_sem,seval,Qd];refine ab.au rfl rfl rfl (Ap l i _) ?_;unfold gu;by_cases h:0<=i/\i<l.length
 .have hd:decide (0<=i/\i<l.length)=true:=by simp;omega
  rw[hd];apply sR;simp only[go_sem,seval];refine ab.au rfl rfl rfl (Ap l k _) ?_;by_cases h2:0<=k/\k<l.length
  .obtain⟨m,rfl⟩:∃m:Nat,i=m:=⟨i.toNat,by omega⟩
   obtain⟨n,rfl⟩:∃n:Nat,k=n:=⟨k.toNat,by omega⟩
   have hm:m<l.length:=by omega
   have hn:n<l.length:=by omega
   have hd2:decide (0<=(n:Int)/\(n:Int)<l.length)=true:=by simp;omega
   have U':=λU=>iP (U:=U) hn;have hidx2:=λU=>iP (U:=U) hm;have hy:=hl.rng _ (XI hn);have hy2:=hl.rng _ (XI hm);have r1:WR .i64 (l[n].y-l[m].y):=ai;rw[hd2,aq ⟨h,h2⟩,bg hn,bg hm];apply sR;simp only[go_sem,seval,U',hidx2,cp,r1];exact ak.same rfl
  .have hd2:decide (0<=k/\k<l.length)=false:=by simpa using h2
   rw[hd2,ao (λh=>h2 h.2)];apply sR;simp only[go_sem,seval];exact ak.same rfl
 .have hd:decide (0<=i/\i<l.length)=false:=by simpa using h
  rw[hd,ao (λh'=>h h'.1)];apply sR;simp only[go_sem,seval];exact ak.same rfl
open Go.Proofs Go.Proofs.Tryz
def eD(b:List YJ)(i fit:Int):Prop:=x9 b=true/\0<=i/\i<(b.length:Int)-1/\i<fit
instance (b:List YJ) (i fit:Int):Decidable (eD b i fit):=by unfold eD;infer_instance
def qF(b:List YJ)(i fit:Int):Int:=if lL b (i+1) fit<0 then EG b (i+1) fit else lL b (i+1) fit
def Ox(b:List YJ)(hb:b.length<=1000000)(i fit:Int):aK prog 178 [bh b,vI i,vI fit] (.WJ [vI (if eD b i fit then qF b i fit else 0),.bool (decide (eD b i fit))]):=λU=>by
 refine Ue.r (by simp[OX]) ?_;have hlb:=Dv b;have r0:WR .i64 ((b.length:Int)-1):=ai;refine ab.mix 8 ?_;apply sR;simp only[go_sem,seval,OX];refine ab.au rfl rfl rfl (QL b hb _) ?_;have bad:¬eD b i fit->ak (.WJ [vI 0,.bool false]) U λr Z'=>r=.WJ [vI (if eD b i fit then qF b i fit else 0),.bool (decide (eD b i fit))]/\Z'=U:=λh=>ak.same (by rw[ao h,Xr h]);generalize hX:(V.WJ [vI (if eD b i fit then qF b i fit else 0),.bool (decide (eD b i fit))])=X at*;cases hm:x9 b
 .have fin:=bad (λh=>by rw[h.1]at hm;cases hm);apply sR;simp only[go_sem,seval];exact fin
 by_cases h0:i<0
 .have q0:(i<0)=True:=WE h0;have fin:=bad (λh=>by have:=h.2.1;omega);apply sR;simp only[go_sem,seval,q0];exact fin
 have q0:(i<0)=False:=O' h0;by_cases h1:i>=(b.length:Int)-1
 .have q1:(i>=(b.length:Int)-1)=True:=WE h1;have fin:=bad (λh=>by have:=h.2.2.1;omega);apply sR;simp only[go_sem,seval,q0,hlb,r0,q1];exact fin
 have q1:(i>=(b.length:Int)-1)=False:=O' h1;by_cases h2:fit<=i
 .have q2:(fit<=i)=True:=WE h2;have fin:=bad (λh=>by have:=h.2.2.2;omega);apply sR;simp only[go_sem,seval,q0,hlb,r0,q1,q2];exact fin
 have q2:(fit<=i)=False:=O' h2;clear bad;have WL:eD b i fit:=⟨hm,by omega,by omega,by omega⟩
 have r1:WR .i64 (i+1):=ai;rw[aq WL,XJ WL]at hX;subst hX;apply sR;simp only[go_sem,seval,q0,hlb,r0,q1,q2,r1];refine ab.au rfl rfl rfl (Mp b hb (i+1) fit _) ?_;unfold qF;by_cases h3:lL b (i+1) fit<0
 .have q3:(lL b (i+1) fit<0)=True:=WE h3;rw[aq h3];apply sR;simp only[go_sem,seval,q3,r1];refine ab.au rfl rfl rfl (PO b hb (i+1) fit _) ?_;apply sR;simp only[go_sem,seval];exact ak.same rfl
 .have q3:(lL b (i+1) fit<0)=False:=O' h3;rw[ao h3];apply sR;simp only[go_sem,seval,q3];exact ak.same rfl
open Go.Proofs Go.Proofs.Tryz
structure Xp where
 (atom done:Int)
 free:Bool
def aU(s:Xp):V:=.agg [vI s.atom,vI s.done,.bool s.free]
def vQ(s:Xp)(l:List Xv):V:=.agg [vI s.atom,vI s.done,.bool s.free,aW l]
def bS(l:List Xv)(s:Xp):Prop:=(0<=s.atom/\s.atom<l.length)/\0<=s.done/\(s.done=0\/s.done<(XV l s.atom).h)
instance (l:List Xv) (s:Xp):Decidable (bS l s):=by unfold bS;infer_instance
def D2(l:List Xv)(s:Xp):aK prog 175 [vQ s l] (.bool (decide (bS l s))):=λU=>by
 refine TR.r (by simp[NF]) ?_;have hs:=aa.refl U;have hl:=fK l;obtain⟨a,d,fr⟩:=s;refine ab.mix 3 ?_;apply sR;simp only[go_sem,seval,NF,vQ];refine ad λi1 Z1 s1 a1 f1=>?_;replace hs:=hs.trans s1;by_cases h0:a>=0
 .have q0:(a>=0)=True:=WE h0;by_cases h1:a<l.length
  .have q1:(a<l.length)=True:=WE h1;obtain⟨n,rfl⟩:∃n:Nat,a=n:=⟨a.toNat,by omega⟩
   have hn:n<l.length:=by omega
   have U':=λU=>iP (U:=U) hn;have hg:=bg hn;by_cases h2:d>=0
   .have q2:(d>=0)=True:=WE h2;by_cases h3:d=0
    .have q3:(d=0)=True:=WE h3;simp only[go_sem,seval,a1,q0,q1,q2,q3,hl];have hh:bS l ⟨n,d,fr⟩:=⟨⟨h0,h1⟩,h2,.inl h3⟩
     exact ak.pure hs (by rw[XJ hh])
    .have q3:(d=0)=False:=O' h3;by_cases h4:d<l[n].h
     .have q4:(d<l[n].h)=True:=WE h4;simp only[go_sem,seval,a1,q0,q1,q2,q3,q4,hl,U',cp];have hh:bS l ⟨n,d,fr⟩:=⟨⟨h0,h1⟩,h2,.inr (by rw[hg];exact h4)⟩
      exact ak.pure hs (by rw[XJ hh])
     .have q4:(d<l[n].h)=False:=O' h4;simp only[go_sem,seval,a1,q0,q1,q2,q3,q4,hl,U',cp];exact ak.pure hs (by rw[Xr (λh:bS l ⟨n,d,fr⟩=>by rcases h.2.2 with h|h;exact h3 h;rw[hg]at h;exact h4 h)])
   .have q2:(d>=0)=False:=O' h2;simp only[go_sem,seval,a1,q0,q1,q2,hl];exact ak.pure hs (by rw[Xr (λh:bS l ⟨n,d,fr⟩=>h2 h.2.1)])
  .have q1:(a<l.length)=False:=O' h1;simp only[go_sem,seval,a1,q0,q1,hl];exact ak.pure hs (by rw[Xr (λh:bS l ⟨a,d,fr⟩=>h1 h.1.2)])
 .have q0:(a>=0)=False:=O' h0;simp only[go_sem,seval,a1,q0];exact ak.pure hs (by rw[Xr (λh:bS l ⟨a,d,fr⟩=>h0 h.1.1)])
def sV(l:List Xv)(s:Xp):aK prog 173 [aW l,aU s] (.bool (decide (bS l s))):=λU=>by
 refine TB.r (by simp[RA]) ?_;have hs:=aa.refl U;have hc:=D2 l s;obtain⟨a,d,fr⟩:=s;rw[vQ]at hc;refine ab.mix 5 ?_;apply sR;simp only[go_sem,seval,RA,aU];refine ad λi3 Z3 s3 a3 f3=>?_;replace hs:=hs.trans s3;simp only[go_sem,seval,a3,cN,iO];refine ab.au rfl rfl rfl (hc _) ?_;apply sR;simp only[go_sem,seval];exact ak.pure hs rfl
def FB(l:List Xv)(hl:nF l)(s:Xp)(h:bS l s)(hd:s.done<=1152921504606846976):aK prog 176 [vQ s l] (vI ((XV l s.atom).h-s.done)):=λU=>by
 refine Uz.r (by simp[Oe]) ?_;have hs:=aa.refl U;obtain⟨a,d,fr⟩:=s;obtain⟨⟨h0,h1⟩,h2,h3⟩:=h;simp only at h0 h1 h2 h3 hd|-;obtain⟨n,rfl⟩:∃n:Nat,a=n:=⟨a.toNat,by omega⟩
 have hn:n<l.length:=by omega
 have U':=λU=>iP (U:=U) hn;have hy:=hl.rng _ (XI hn);rw[bg hn];have r1:WR .i64 (l[n].h-d):=ai;refine ab.mix 3 ?_;apply sR;simp only[go_sem,seval,Oe,vQ];refine ad λi1 Z1 s1 a1 f1=>?_;replace hs:=hs.trans s1;simp only[go_sem,seval,a1,U',r1,cp];exact ak.pure hs rfl
def iW(l:List Xv)(s:Xp)(Xh:Int):Int:=if bS l s/\s.free=true/\s.done=0/\mX l s.atom+((XV l s.atom).h-s.done)<=Xh then mX l s.atom else 0
def I0{l:List Xv}(hl:nF l)(k:Int):-3458764513820540928<=mX l k/\mX l k<=2305843009213693952:=by
 unfold mX;have hb:=tO hl (k-1);split
 .rename_i h;obtain⟨n,rfl⟩:∃n:Nat,k=n:=⟨k.toNat,by omega⟩
  have hn:n<l.length:=by omega
  rw[bg hn];have:=hl.rng _ (XI hn);omega
 .omega
def EZ(l:List Xv)(hl:nF l)(s:Xp)(Xh:Int):aK prog 177 [aW l,aU s,vI Xh] (vI (iW l s Xh)):=λU=>by
 refine Wr.r (by simp[QI]) ?_;have hs:=aa.refl U;have hc:=D2 l s;have hlf:=λh hd=>FB l hl s h hd;have hgr:=I0 hl s.atom;obtain⟨a,d,fr⟩:=s;rw[vQ]at hc hlf;simp only at hgr hlf;refine ab.mix 9 ?_;apply sR;simp only[go_sem,seval,QI,aU];refine ad λi4 Z4 s4 a4 f4=>?_;replace hs:=hs.trans s4;simp only[go_sem,seval,a4,cN,iO];refine ad λi7 Z7 s7 a7 f7=>?_;replace a4:=s7 _ _ a4;have z7:=hs.none f7;replace hs:=hs.trans s7;simp only[go_sem,seval,a7];refine ab.au rfl rfl rfl (hc _) ?_;have bad:¬(bS l ⟨a,d,fr⟩/\fr=true/\d=0/\mX l a+((XV l a).h-d)<=Xh)->iW l ⟨a,d,fr⟩ Xh=0:=λh=>ao h;by_cases hm:bS l ⟨a,d,fr⟩
 .rw[XJ hm];cases fr
  .apply sR;simp only[go_sem,seval];exact ak.pure (hs.av z7) (by rw[bad (λh=>by cases h.2.1)])
  have hd0:=hm.2.1;simp only at hd0;by_cases hd:d>0
  .have q:(d>0)=True:=WE hd;apply sR;simp only[go_sem,seval,q];exact ak.pure (hs.av z7) (by rw[bad (λh=>by have:=h.2.2.1;omega)])
  .have q:(d>0)=False:=O' hd;obtain rfl:d=0:=by omega
   apply sR;simp only[go_sem,seval,q];refine ab.au rfl rfl rfl (Rl l hl a _) ?_;have hlf':=hlf hm (by omega);have hy:0<=(XV l a).h/\(XV l a).h<=1152921504606846976:=by
    obtain⟨h0,h1⟩:=hm.1;simp only at h0 h1;obtain⟨n,rfl⟩:∃n:Nat,a=n:=⟨a.toNat,by omega⟩
    have hn:n<l.length:=by omega
    rw[bg hn];exact(hl.rng _ (XI hn)).2.2
   have r1:WR .i64 (mX l a+((XV l a).h-0)):=ai;apply sR;simp only[go_sem,seval,af];refine ab.au rfl rfl rfl (hlf' _) ?_;by_cases h4:mX l a+((XV l a).h-0)<=Xh
   .have q4:(mX l a+((XV l a).h-0)<=Xh)=True:=WE h4;have hk:iW l ⟨a,0,true⟩ Xh=mX l a:=aq ⟨hm,rfl,rfl,h4⟩;rw[hk];apply sR;simp only[go_sem,seval,r1,q4];exact ak.pure (hs.av z7) rfl
   .have q4:(mX l a+((XV l a).h-0)<=Xh)=False:=O' h4;rw[bad (λh=>h4 h.2.2.2)];apply sR;simp only[go_sem,seval,r1,q4];exact ak.pure (hs.av z7) rfl
 .rw[Xr hm];apply sR;simp only[go_sem,seval];exact ak.pure (hs.av z7) (by rw[bad (λh=>hm h.1)])
open Go.Proofs Go.Proofs.Tryz
def iy(l:List Xv)(s:Xp):Int:=if bS l s then(XV l s.atom).h-s.done else 0
def M0(l:List Xv)(hl:nF l)(s:Xp)(hd:s.done<=1152921504606846976):aK prog 119 [aW l,aU s] (vI (iy l s)):=λU=>by
 refine TY.r (by simp[PM]) ?_;have hs:=aa.refl U;have hc:=D2 l s;have hlf:=λh=>FB l hl s h hd;unfold iy;obtain⟨a,d,fr⟩:=s;rw[vQ]at hc hlf;refine ab.mix 6 ?_;apply sR;simp only[go_sem,seval,PM,aU];refine ad λi3 Z3 s3 a3 f3=>?_;replace hs:=hs.trans s3;simp only[go_sem,seval,a3,cN,iO];refine ad λi5 Z5 s5 a5 f5=>?_;replace a3:=s5 _ _ a3;have z5:=hs.none f5;replace hs:=hs.trans s5;simp only[go_sem,seval,a5];refine ab.au rfl rfl rfl (hc _) ?_;by_cases hm:bS l ⟨a,d,fr⟩
 .rw[XJ hm,aq hm];apply sR;simp only[go_sem,seval];refine ab.au rfl rfl rfl (hlf hm _) ?_;apply sR;simp only[go_sem,seval];exact ak.pure (hs.av z5) rfl
 .rw[Xr hm,ao hm];apply sR;simp only[go_sem,seval];exact ak.pure (hs.av z5) rfl
def dh(l:List Xv)(s:Xp)(kept shift k:Int):Int:=if bS l s/\s.atom<=k/\k<l.length then gu l s.atom k-s.done+kept+shift else 0
def tC{l:List Xv}(hl:nF l)(i k:Int):-2305843009213693952<=gu l i k/\gu l i k<=2305843009213693952:=by
 unfold gu;split
 .rename_i h;obtain⟨n,rfl⟩:∃n:Nat,k=n:=⟨k.toNat,by omega⟩
  obtain⟨m,rfl⟩:∃m:Nat,i=m:=⟨i.toNat,by omega⟩
  have hn:n<l.length:=by omega
  have hm:m<l.length:=by omega
  rw[bg hn,bg hm];have h1:=hl.rng _ (XI hn);have h2:=hl.rng _ (XI hm);omega
 .omega
def B8(l:List Xv)(hl:nF l)(s:Xp)(hd:s.done<=1152921504606846976)(kept shift k:Int)(hk:-1152921504606846976<=kept/\kept<=2305843009213693952)(hsh:0<=shift/\shift<=1152921504606846976):
 aK prog 240 [aW l,aU s,vI kept,vI shift,vI k] (vI (dh l s kept shift k)):=λU=>by
 refine UM.r (by simp[O5]) ?_;have hs:=aa.refl U;have hc:=sV l s;have hor:=tC hl s.atom k;have hlen:=fK l;have bad:¬(bS l s/\s.atom<=k/\k<l.length)->dh l s kept shift k=0:=λh=>ao h;have good:(bS l s/\s.atom<=k/\k<l.length)->dh l s kept shift k=gu l s.atom k-s.done+kept+shift:=λh=>aq h;generalize dh l s kept shift k=P at*;obtain⟨a,d,fr⟩:=s;rw[aU]at hc;simp only at hor hd good bad;refine ab.mix 11 ?_;apply sR;simp only[go_sem,seval,O5,aU];refine ad λi6 Z6 s6 a6 f6=>?_;replace hs:=hs.trans s6;simp only[go_sem,seval,a6];refine ab.au rfl rfl rfl (hc _) ?_;by_cases hm:bS l ⟨a,d,fr⟩
 .rw[XJ hm];by_cases h1:k<a
  .have q1:(k<a)=True:=WE h1;apply sR;simp only[go_sem,seval,a6,q1];exact ak.pure hs (by rw[bad (λh=>by omega)])
  have q1:(k<a)=False:=O' h1;by_cases h2:k>=l.length
  .have q2:(k>=l.length)=True:=WE h2;apply sR;simp only[go_sem,seval,a6,q1,q2,hlen];exact ak.pure hs (by rw[bad (λh=>by omega)])
  have q2:(k>=l.length)=False:=O' h2;rw[good ⟨hm,by omega,by omega⟩];have hd0:=hm.2.1;simp only at hd0;have r1:WR .i64 (gu l a k-d):=ai;have r2:WR .i64 (gu l a k-d+kept):=ai;have r3:WR .i64 (gu l a k-d+kept+shift):=ai;apply sR;simp only[go_sem,seval,a6,q1,q2,hlen];refine Go.bw rfl rfl rfl (HA l hl a k) ?_;apply sG;simp only[go_sem,seval,a6,r1,r2,r3];exact ak.pure hs rfl
 .rw[Xr hm];apply sR;simp only[go_sem,seval];exact ak.pure hs (by rw[bad (λh=>hm h.1)])
open Go.Proofs Go.Proofs.Tryz
def KK{m:Int}(h1:0<=m)(h2:m<=18446744073709551615):WR .u64 m:=by
 unfold WR IntKind.wrap;simp only[IntKind.signed,IntKind.bits];simp;omega
def lR(p:Nat->Bool):Nat->Nat->Nat->Nat
 |0,i,_=>i
 |f+1,i,j=>if i<j then if p ((i+j)/2)then lR p f i ((i+j)/2)else lR p f ((i+j)/2+1) j else i
def D8(p:Nat->Bool)(n:Nat):Nat:=lR p n 0 n
def o6(p:Nat->Bool):∀(f g i j:Nat),j-i<=f->j-i<=g->lR p f i j=lR p g i j
 |0,0,_,_,_,_=>rfl
 |0,g+1,i,j,h,_=>by rw[lR,lR,ao (by omega)]
 |f+1,0,i,j,_,h=>by rw[lR,lR,ao (by omega)]
 |f+1,g+1,i,j,h1,h2=>by
  rw[lR,lR];split
  .rename_i H';split
   .exact o6 p f g i ((i+j)/2) (by omega) (by omega)
   .exact o6 p f g ((i+j)/2+1) j (by omega) (by omega)
  .rfl
def I5{f:FuncId}{caps:List V}(p:Nat->Bool)(n:Nat)(hn:n<=1000000000){U:ag}(hf:∀i:Nat,i<n->ax prog f (vI i::caps) U λr Z'=>r=.bool (p i)/\Z'=U):
 ax prog 238 [vI n,.fn f caps] U λr Z'=>r=vI (D8 p n)/\Z'=U:=by
 refine VP.r (by simp[NT]) ?_;refine ab.mix 8 ?_;apply sR;simp only[go_sem,seval,NT];refine ab.loop (λm st=>∃i j:Nat,i<=j/\j<=n/\m=j-i/\D8 p n=lR p (j-i) i j/\st.U=U/\st.s 1=.fn f caps/\st.s 5=vI i/\st.s 6=vI j) n ?_ ?_
 .exact⟨0,n,by omega,by omega,rfl,rfl,rfl,rfl,rfl,rfl⟩
 .rintro m ⟨S,J⟩ ⟨i,j,hij,hjn,rfl,heq,W4,t1,t5,t6⟩;simp only at W4 t1 t5 t6;subst W4;refine ab.mix 8 ?_;by_cases H':i<j
  .have q:((i:Int)<j)=True:=WE;have r1:WR .i64 ((i:Int)+j):=ai;apply sR;simp only[go_sem,seval,t1,t5,t6,q,r1];have hh:((i:Int)+j).fdiv (2^min 1 64)=(((i+j)/2:Nat):Int):=by
    rw[show(2^min 1 64:Int)=2 from rfl,Int.fdiv_eq_ediv_of_nonneg _ (by decide)];omega
   rw[hh];refine⟨KK (by omega) (by omega),ai,?_⟩;obtain⟨k,hk⟩:∃k:Nat,k=(i+j)/2:=⟨_,rfl⟩
   rw[<-hk];obtain⟨w,hw⟩:∃w:Nat,j-i=w+1:=⟨j-i-1,by omega⟩
   rw[hw,lR,aq H',<-hk]at heq;refine ab.au rfl rfl rfl (hf k (by omega)) ?_;have r2:WR .i64 ((k:Int)+1):=ai;cases hp:p k
   .rw[hp]at heq;apply sR;simp only[go_sem,seval,t1,t6,r2];refine⟨_,?_,k+1,j,by omega,hjn,rfl,?_,by simp⟩
    .omega
    .rw[heq];exact o6 p _ _ _ _ (by omega) (by omega)
   .rw[hp]at heq;apply sR;simp only[go_sem,seval,t1,t5];refine⟨_,?_,i,k,by omega,by omega,rfl,?_,by simp⟩
    .omega
    .rw[heq];exact o6 p _ _ _ _ (by omega) (by omega)
  .have q:((i:Int)<j)=False:=O';have ZI:i=j:=by omega
   subst ZI;apply sR;simp only[go_sem,seval,t5,t6,q];refine ak.same ?_;rw[heq,Nat.sub_self];rfl
open Go.Proofs Go.Proofs.Tryz
def fP(l:List Xv)(s:Xp)(kept shift body:Int)(n:Nat):Bool:=decide (dh l s kept shift (s.atom+n)+(XV l (s.atom+n)).h>body)
def jD(l:List Xv)(s:Xp)(kept shift body:Int):Int:=if bS l s then s.atom+D8 (fP l s kept shift body) (l.length-s.atom.toNat)else 0
def Af(p:Nat->Bool):∀(f i j:Nat),i<=j->lR p f i j<=j
 |0,i,j,h=>h
 |f+1,i,j,h=>by
  rw[lR];split
  .split
   .exact jx (Af p f _ _ (by omega)) (by omega)
   .exact Af p f _ _ (by omega)
  .exact h
def Fq(p:Nat->Bool)(n:Nat):D8 p n<=n:=Af p n 0 n (Nat.zero_le n)
def qH{l:List Xv}(hl:nF l){s:Xp}(hd:s.done<=1152921504606846976){kept shift:Int}(hk:-1152921504606846976<=kept/\kept<=2305843009213693952)(hsh:0<=shift/\shift<=1152921504606846976)(k:Int):
 -4611686018427387904<=dh l s kept shift k/\dh l s kept shift k<=5764607523034234880:=by
 unfold dh;have h1:=tC hl s.atom k;split
 .rename_i h;have:=h.1.2.1;omega
 .omega
def J5(l:List Xv)(hl:nF l)(s:Xp)(hm:bS l s)(hd:s.done<=1152921504606846976)(kept shift body:Int)(hk:-1152921504606846976<=kept/\kept<=2305843009213693952)(hsh:0<=shift/\shift<=1152921504606846976)
 {U:ag}{i5 i6 i7 i8 i9:Nat}(a5:U i5=some ⟨77,1,[aW l]⟩)(a6:U i6=some ⟨42,3,[aU s]⟩)(a7:U i7=some ⟨3,1,[vI kept]⟩)(a8:U i8=some ⟨3,1,[vI shift]⟩)(a9:U i9=some ⟨3,1,[vI body]⟩)
 (n:Nat)(hn:n<l.length-s.atom.toNat):
 ax prog 239 [vI n,.ptr i6 0 0,.ptr i5 0 0,.ptr i7 0 0,.ptr i8 0 0,.ptr i9 0 0] U λr Z'=>r=.bool (fP l s kept shift body n)/\Z'=U:=by
 refine UF.r (by simp[LS]) ?_;have hpr:=qH hl hd hk hsh (s.atom+n);have XP:=B8 l hl s hd kept shift (s.atom+n) hk hsh;unfold fP;have hll:=hl.len;obtain⟨a,d,fr⟩:=s;obtain⟨h0,h1⟩:=hm.1;rw[aU]at a6 XP;simp only at h0 h1 hn hpr XP|-;obtain⟨m,rfl⟩:∃m:Nat,a=m:=⟨a.toNat,by omega⟩
 have e1:(m:Int)+(n:Int)=((m+n:Nat):Int):=by omega
 rw[e1]at hpr XP|-;have hmn:m+n<l.length:=by omega
 have U':=λU=>iP (U:=U) hmn;have hy:=hl.rng _ (XI hmn);rw[bg hmn];have r1:WR .i64 ((m+n:Nat):Int):=ai;generalize dh l ⟨m,d,fr⟩ kept shift ((m+n:Nat):Int)=P at*;have r2:WR .i64 (P+l[m+n].h):=ai;generalize m+n=q at*;refine ab.mix 9 ?_;by_cases hb:P+l[q].h>body
 .have q1:(P+l[q].h>body)=True:=WE hb;apply sR;simp only[go_sem,seval,LS,a5,a6,a7,a8,e1,r1,cN];refine Go.bw rfl rfl rfl XP ?_;apply sG;simp only[go_sem,seval,a5,a9,r2,U',cp,q1,cN];exact ak.same rfl
 .have q1:(P+l[q].h>body)=False:=O' hb;apply sR;simp only[go_sem,seval,LS,a5,a6,a7,a8,e1,r1,cN];refine Go.bw rfl rfl rfl XP ?_;apply sG;simp only[go_sem,seval,a5,a9,r2,U',cp,q1,cN];exact ak.same rfl
def Be(l:List Xv)(hl:nF l)(s:Xp)(hd:s.done<=1152921504606846976)(kept shift body:Int)(hk:-1152921504606846976<=kept/\kept<=2305843009213693952)(hsh:0<=shift/\shift<=1152921504606846976):
 aK prog 179 [aW l,aU s,vI kept,vI shift,vI body] (vI (jD l s kept shift body)):=λU=>by
 refine TE.r (by simp[OB]) ?_;have hs:=aa.refl U;have hc:=sV l s;have hlen:=fK l;have hll:=hl.len;refine ab.mix 12 ?_;have hsc:(aU s).cells=[vI s.atom,vI s.done,.bool s.free]:=rfl;have hss:(aU s).stays=true:=rfl;apply sR;simp only[go_sem,seval,OB,cN,iO];refine ad λi5 Z5 s5 a5 f5=>?_;replace hs:=hs.trans s5;simp only[go_sem,seval,hsc,hss];refine ad λi6 Z6 s6 a6 f6=>?_;replace a5:=s6 _ _ a5;replace hs:=hs.trans s6;simp only[go_sem,seval];refine ad λi7 Z7 s7 a7 f7=>?_;replace a5:=s7 _ _ a5;replace a6:=s7 _ _ a6;replace hs:=hs.trans s7;simp only[go_sem,seval];refine ad λi8 Z8 s8 a8 f8=>?_;replace a5:=s8 _ _ a5;replace a6:=s8 _ _ a6;replace a7:=s8 _ _ a7;replace hs:=hs.trans s8;simp only[go_sem,seval];refine ad λi9 Z9 s9 a9 f9=>?_;replace a5:=s9 _ _ a5;replace a6:=s9 _ _ a6;replace a7:=s9 _ _ a7;replace a8:=s9 _ _ a8;replace hs:=hs.trans s9;have b6:=a6;rw[aU]at b6;simp only[go_sem,seval,a5,b6,cN];refine ab.au rfl rfl rfl (hc _) ?_;unfold jD;by_cases hm:bS l s
 .obtain⟨h0,h1⟩:=hm.1;obtain⟨m,hmm⟩:∃m:Nat,s.atom=m:=⟨s.atom.toNat,by omega⟩
  have hn:((l.length:Int)-s.atom)=((l.length-s.atom.toNat:Nat):Int):=by omega
  have r1:WR .i64 ((l.length-s.atom.toNat:Nat):Int):=ai;rw[XJ hm,aq hm];apply sR;simp only[go_sem,seval,a5,b6,hlen,hn,r1,cN];refine ab.au rfl rfl rfl (I5 (fP l s kept shift body) (l.length-s.atom.toNat) (by omega) (λi hi=>J5 l hl s hm hd kept shift body hk hsh a5 a6 a7 a8 a9 i hi)) ?_;have hse:=Fq (fP l s kept shift body) (l.length-s.atom.toNat);have r2:WR .i64 (s.atom+(D8 (fP l s kept shift body) (l.length-s.atom.toNat):Nat)):=ai;apply sR;simp only[go_sem,seval,b6,r2];exact ak.pure hs rfl
 .rw[Xr hm,ao hm];apply sR;simp only[go_sem,seval];exact ak.pure hs rfl
open Go.Proofs Go.Proofs.Tryz
structure Xs where
 (node atom fr x y w h:Int)
deriving DecidableEq
def bl(f:Xs):V:=.agg [vI f.node,vI f.atom,vI f.fr,vI f.x,vI f.y,vI f.w,vI f.h]
def fe(l:List Xv)(k:Int):Xs:=⟨(XV l k).node,k,0,(XV l k).x,0,(XV l k).w,(XV l k).h⟩
def Xs.bN(f:Xs)(d:Int):Xs:={ f with fr:=d,h:=f.h-d }
def Xs.cut(f:Xs)(a:Int):Xs:={ f with h:=min f.h a }
def iQ(l:List Xv)(f:Xs):Xp:=if f.fr+f.h<(XV l f.atom).h then⟨f.atom,f.fr+f.h,false⟩else⟨f.atom+1,0,false⟩
def JM(l:List Xv)(k:Nat)(hk:k<l.length):aK prog 289 [aW l,vI k] (bl (fe l k)):=λU=>by
 refine T1.r (by simp[Qm]) ?_;have hs:=aa.refl U;have U':=λU=>iP (U:=U) hk;rw[fe,bg hk];refine ab.mix 6 ?_;apply sR;simp only[go_sem,seval,Qm];refine ad λi4 Z4 s4 a4 f4=>?_;have z4:=hs.none f4;replace hs:=hs.trans s4;simp only[go_sem,seval,U',cp];refine ad λi5 Z5 s5 a5 f5=>?_;have n45:=al a4 f5;replace a4:=s5 _ _ a4;have z5:=hs.none f5;replace hs:=hs.trans s5;simp only[go_sem,seval,a5,a4,ae n45];exact ak.pure ((hs.av z5).av z4) rfl
def Bm(f:Xs)(d:Int)(hr:WR .i64 (f.h-d)){U:ag}{i:Nat}(h:U i=some ⟨367,7,[bl f]⟩):
 ax prog 290 [.ptr i 0 0,vI d] U λ_ Z'=>Z'=C' U i ⟨367,7,[bl (f.bN d)]⟩:=by
 refine UU.r (by simp[OG]) ?_;rw[bl]at h;refine ab.mix 4 ?_;generalize hX:(C' U i ⟨367,7,[bl (f.bN d)]⟩)=X;apply sR;simp only[go_sem,seval,OG,h,hr];exact⟨_,_,aa.refl _,Wk.refl (aa.refl _) _,hX⟩
def KU(f:Xs)(a:Int){U:ag}{i:Nat}(h:U i=some ⟨367,7,[bl f]⟩):
 ax prog 291 [.ptr i 0 0,vI a] U λ_ Z'=>Z'=C' U i ⟨367,7,[bl (f.cut a)]⟩:=by
 refine TQ.r (by simp[NI]) ?_;rw[bl]at h;refine ab.mix 4 ?_;generalize hX:(C' U i ⟨367,7,[bl (f.cut a)]⟩)=X;apply sR;simp only[go_sem,seval,NI,h,gT];exact⟨_,_,aa.refl _,Wk.refl (aa.refl _) _,hX⟩
def Ec(l:List Xv)(f:Xs)(k:Nat)(hf:f.atom=k)(hk:k<l.length)(hl:l.length<=1000000000)(hr:WR .i64 (f.fr+f.h)){U:ag}{i:Nat}(h:U i=some ⟨367,7,[bl f]⟩):
 ax prog 292 [.ptr i 0 0,aW l] U λr Z'=>r=aU (iQ l f)/\Z'=U:=by
 refine Ua.r (by simp[Qr]) ?_;have hs:=aa.refl U;have U':=λU=>iP (U:=U) hk;obtain⟨nd,Xg,fr,x,y,w,hh⟩:=f;simp only at hf hr;subst hf;rw[bl]at h;unfold iQ;simp only;rw[bg hk];have r1:WR .i64 ((k:Int)+1):=ai;refine ab.mix 6 ?_;apply sR;simp only[go_sem,seval,Qr];refine ad λi4 Z4 s4 a4 f4=>?_;have z4:=hs.none f4;replace hs:=hs.trans s4;have b:=s4 _ _ h;by_cases hc:fr+hh<l[k].h
 .have q:(fr+hh<l[k].h)=True:=WE hc;rw[aq hc];simp only[go_sem,seval,a4,b,hr,q,U',cp];exact ak.pure (hs.av z4) rfl
 .have q:(fr+hh<l[k].h)=False:=O' hc;rw[ao hc];simp only[go_sem,seval,a4,b,hr,r1,q,U',cp];exact ak.pure (hs.av z4) rfl
open Go.Proofs Go.Proofs.Tryz
def lK{s:Nat->V}{U:ag}{a1 a2:Bool}{n1 n2 d e:Nat}{Post:V->ag->Prop}:
 Ret [.cell a1 n1 (.t d),.cell a2 n2 (.t e)] ⟨s,U⟩ Post=dy (bF U a1 n1 (s d)) λv=>dy (bF U a2 n2 (s e)) λw=>ak (.WJ [v,w]) U Post:=by
 unfold Ret ak oN;simp only[eJ,gE,VX.ev];cases bF U a1 n1 (s d)<;>cases bF U a2 n2 (s e)<;>simp[dy]
def dE(l:List Xv)(s:Xp)(Xh:Int):Xs:=((fe l s.atom).bN s.done).cut Xh
def kZ(l:List Xv)(s:Xp)(Xh:Int):Prop:=bS l s/\1<=Xh
instance (l:List Xv) (s:Xp) (Xh:Int):Decidable (kZ l s Xh):=by unfold kZ;infer_instance
def iZ(l:List Xv)(s:Xp)(Xh:Int):Xs:=if kZ l s Xh then dE l s Xh else⟨0,0,0,0,0,0,0⟩
def dp(l:List Xv)(s:Xp)(Xh:Int):Xp:=if kZ l s Xh then iQ l (dE l s Xh)else⟨0,0,false⟩
def OI(l:List Xv)(hl:nF l)(s:Xp)(hd:s.done<=1152921504606846976)(Xh:Int):aK prog 241 [aW l,aU s,vI Xh] (.WJ [bl (iZ l s Xh),aU (dp l s Xh)]):=λU=>by
 refine UN.r (by simp[Ps]) ?_;have hs:=aa.refl U;have hll:=hl.len;have hsc:(aU s).cells=[vI s.atom,vI s.done,.bool s.free]:=rfl;have hss:(aU s).stays=true:=rfl;refine ab.mix 9 ?_;apply sR;simp only[go_sem,seval,Ps,hsc,hss];refine ad λi4 Z4 s4 a4 f4=>?_;replace hs:=hs.trans s4;simp only[go_sem,seval];refine ad λi6 Z6 s6 a6 f6=>?_;replace a4:=s6 _ _ a4;have z6:=hs.none f6;replace hs:=hs.trans s6;simp only[go_sem,seval];refine ad λi7 Z7 s7 a7 f7=>?_;replace a4:=s7 _ _ a4;have n67:=al a6 f7;replace a6:=s7 _ _ a6;have z7:=hs.none f7;replace hs:=hs.trans s7;have b4:=a4;rw[aU]at b4;simp only[go_sem,seval,b4];refine ab.au rfl rfl rfl (sV l s _) ?_;have bad:¬kZ l s Xh->(bl (iZ l s Xh)=.agg [vI 0,vI 0,vI 0,vI 0,vI 0,vI 0,vI 0]/\aU (dp l s Xh)=.agg [vI 0,vI 0,.bool false]):=λh=>by
  rw[iZ,dp,ao h,ao h];exact⟨rfl,rfl⟩
 have good:kZ l s Xh->(iZ l s Xh=dE l s Xh/\dp l s Xh=iQ l (dE l s Xh)):=λh=>⟨aq h,aq h⟩
 generalize iZ l s Xh=X at*;generalize dp l s Xh=Y at*;by_cases hm:bS l s
 .rw[XJ hm];by_cases h1:Xh<1
  .have q1:(Xh<1)=True:=WE h1;obtain⟨e1,e2⟩:=bad (λh=>by have:=h.2;omega);rw[e1,e2];apply sR;simp only[go_sem,seval,a6,a7,ae n67,ae n67.symm,q1,lK];exact ak.pure ((hs.av z6).av z7) rfl
  have q1:(Xh<1)=False:=O' h1;obtain⟨rfl,rfl⟩:=good ⟨hm,by omega⟩;clear good bad;obtain⟨h0,h2⟩:=hm.1;obtain⟨k,hk⟩:∃k:Nat,s.atom=k:=⟨s.atom.toNat,by omega⟩
  have Yn:k<l.length:=by omega
  apply sR;simp only[go_sem,seval,b4,hk,q1];refine ab.au rfl rfl rfl (JM l k Yn _) ?_;have ZA:∀f,(bl f).cells=[vI f.node,vI f.atom,vI f.fr,vI f.x,vI f.y,vI f.w,vI f.h]:=λ_=>rfl;apply sR;simp only[go_sem,seval];refine ad λi8 Z8 s8 a8 f8=>?_;have n48:=al a4 f8;replace a4:=s8 _ _ a4;have n68:=al a6 f8;replace a6:=s8 _ _ a6;have n78:=al a7 f8;replace a7:=s8 _ _ a7;have z8:=hs.none f8;replace hs:=hs.trans s8;have hd0:=hm.2.1;have hy:=hl.rng _ (XI Yn);have hdh:s.done=0\/s.done<l[k].h:=by have:=hm.2.2;rw[hk,bg Yn]at this;exact this
  have hph:(fe l k).h=l[k].h:=by rw[fe,bg Yn]
  have Yu:∀f,(bl f).stays=true:=λ_=>rfl;rw[aU]at a4;simp only[go_sem,seval,a8,a4,ae n48,ZA,Yu];generalize Yf:C' _ i8 _=Y8;replace a8:=(congrFun Yf i8).symm.trans af;replace a4:=((congrFun Yf i4).symm.trans (ae n48)).trans a4;replace a6:=((congrFun Yf i6).symm.trans (ae n68)).trans a6;replace a7:=((congrFun Yf i7).symm.trans (ae n78)).trans a7;replace hs:=Eq.subst (motive:=aa _) Yf (hs.av z8);clear Yf;have h8:Y8 i8=some ⟨367,7,[bl (fe l k)]⟩:=a8;refine ab.call rfl rfl rfl (Bm (fe l k) s.done (ai) h8) ?_;rintro-Z9 rfl;generalize Yf:C' _ i8 _=Y8;replace a8:=(congrFun Yf i8).symm.trans af;replace a4:=((congrFun Yf i4).symm.trans (ae n48)).trans a4;replace a6:=((congrFun Yf i6).symm.trans (ae n68)).trans a6;replace a7:=((congrFun Yf i7).symm.trans (ae n78)).trans a7;replace hs:=Eq.subst (motive:=aa _) Yf (hs.av z8);clear Yf;apply sR;simp only[go_sem,seval];refine ab.call rfl rfl rfl (KU ((fe l k).bN s.done) Xh a8) ?_;rintro-Z9 rfl;generalize Yf:C' _ i8 _=Y8;replace a8:=(congrFun Yf i8).symm.trans af;replace a4:=((congrFun Yf i4).symm.trans (ae n48)).trans a4;replace a6:=((congrFun Yf i6).symm.trans (ae n68)).trans a6;replace a7:=((congrFun Yf i7).symm.trans (ae n78)).trans a7;replace hs:=Eq.subst (motive:=aa _) Yf (hs.av z8);clear Yf;have hsl:((fe l k).bN s.done).cut Xh=dE l s Xh:=by rw[dE,hk]
  rw[hsl]at a8;have ha:(dE l s Xh).atom=k:=by rw[<-hsl];rfl
  have hfr:(dE l s Xh).fr=s.done:=by rw[<-hsl];rfl
  have hhh:(dE l s Xh).h=min (l[k].h-s.done) Xh:=by rw[<-hsl,<-hph];rfl
  have hbe:=λ(Z1:ag) (h1:aa Y8 Z1)=>Ec l (dE l s Xh) k ha Yn hll (ai) (h1 _ _ a8);generalize iQ l (dE l s Xh)=Y at*;generalize dE l s Xh=X at*;have b8:=a8;rw[bl]at b8;apply sR;simp only[go_sem,seval,b8];refine Go.At rfl rfl rfl (λZ1 h1=>hbe Z1 h1) ?_;have hyc:(aU Y).cells=[vI Y.atom,vI Y.done,.bool Y.free]:=rfl;have hys:(aU Y).stays=true:=rfl;apply sG;simp only[go_sem,seval,a6,a7,ae n67,ae n67.symm,hyc,hys,lK];exact ak.pure ((hs.av z6).av z7) rfl
 .rw[Xr hm];obtain⟨e1,e2⟩:=bad (λh=>hm h.1);rw[e1,e2];apply sR;simp only[go_sem,seval,a6,a7,ae n67,ae n67.symm,lK];exact ak.pure ((hs.av z6).av z7) rfl
open Go.Proofs Go.Proofs.Tryz
def kK(l:List Xv)(k:Int)(y:Int):Xs:={ fe l k with y:=y }
def cF(l:List Xv)(s:Xp)(kept shift k:Int):Xs:=
 if bS l s/\s.atom<=k/\k<l.length then
  (if k=s.atom then{ (kK l k (dh l s kept shift k)).bN s.done with y:=dh l s kept shift k+s.done }else kK l k (dh l s kept shift k))
 else⟨0,0,0,0,0,0,0⟩
def GI(l:List Xv)(hl:nF l)(s:Xp)(hd:s.done<=1152921504606846976)(kept shift k:Int)(hk:-1152921504606846976<=kept/\kept<=2305843009213693952)(hsh:0<=shift/\shift<=1152921504606846976):
 aK prog 243 [aW l,aU s,vI kept,vI shift,vI k] (bl (cF l s kept shift k)):=λU=>by
 refine UW.r (by simp[Oa]) ?_;have hs:=aa.refl U;have hlen:=fK l;have hsc:(aU s).cells=[vI s.atom,vI s.done,.bool s.free]:=rfl;have hss:(aU s).stays=true:=rfl;have XP:=B8 l hl s hd kept shift k hk hsh;have hpr:=qH hl hd hk hsh k;refine ab.mix 12 ?_;apply sR;simp only[go_sem,seval,Oa,hsc,hss];refine ad λi6 Z6 s6 a6 f6=>?_;have z6:=hs.none f6;replace hs:=hs.trans s6;simp only[go_sem,seval];refine ad λXk Z10 YP Xy f10=>?_;have n610:=al a6 f10;replace a6:=YP _ _ a6;have z10:=hs.none f10;replace hs:=hs.trans YP;rw[aU]at a6 XP;simp only[go_sem,seval,a6];refine ab.au rfl rfl rfl (sV l s _) ?_;have bad:¬(bS l s/\s.atom<=k/\k<l.length)->bl (cF l s kept shift k)=.agg [vI 0,vI 0,vI 0,vI 0,vI 0,vI 0,vI 0]:=λh=>by
  rw[cF,ao h];rfl
 have good:(bS l s/\s.atom<=k/\k<l.length)->cF l s kept shift k=(if k=s.atom then{ (kK l k (dh l s kept shift k)).bN s.done with y:=dh l s kept shift k+s.done }else kK l k (dh l s kept shift k)):=λh=>aq h;generalize cF l s kept shift k=X at*;by_cases hm:bS l s
 .rw[XJ hm];by_cases h1:k<s.atom
  .have q1:(k<s.atom)=True:=WE h1;rw[bad (λh=>by omega)];apply sR;simp only[go_sem,seval,a6,Xy,q1];exact ak.pure (hs.av z10) rfl
  have q1:(k<s.atom)=False:=O' h1;by_cases h2:k>=l.length
  .have q2:(k>=l.length)=True:=WE h2;rw[bad (λh=>by omega)];apply sR;simp only[go_sem,seval,a6,Xy,q1,q2,hlen];exact ak.pure (hs.av z10) rfl
  have q2:(k>=l.length)=False:=O' h2;obtain rfl:=good ⟨hm,by omega,by omega⟩;clear good bad;obtain⟨h0,h3⟩:=hm.1;obtain⟨n,rfl⟩:∃n:Nat,k=n:=⟨k.toNat,by omega⟩
  have hnl:n<l.length:=by omega
  apply sR;simp only[go_sem,seval,a6,q1,q2,hlen];refine ab.au rfl rfl rfl (JM l n hnl _) ?_;have ZA:∀f,(bl f).cells=[vI f.node,vI f.atom,vI f.fr,vI f.x,vI f.y,vI f.w,vI f.h]:=λ_=>rfl;have Yu:∀f,(bl f).stays=true:=λ_=>rfl;generalize dh l s kept shift (n:Int)=P at*;apply sR;simp only[go_sem,seval];refine ad λYm Z11 s11 Zk f11=>?_;have n611:=al a6 f11;replace a6:=s11 _ _ a6;have ZD:=al Xy f11;replace Xy:=s11 _ _ Xy;have z11:=hs.none f11;replace hs:=hs.trans s11;simp only[go_sem,seval,Zk,a6,ae n611,ZA,Yu];generalize YF:C' _ Ym _=Y11;replace Zk:=(congrFun YF Ym).symm.trans af;replace a6:=((congrFun YF i6).symm.trans (ae n611)).trans a6;replace Xy:=((congrFun YF Xk).symm.trans (ae ZD)).trans Xy;replace hs:=Eq.subst (motive:=aa _) YF (hs.av z11);clear YF;refine ab.au rfl rfl rfl (XP _) ?_;rw[bl]at Zk;have hd0:=hm.2.1;have hy:=hl.rng _ (XI hnl);have hph:(fe l n).h=l[n].h:=by rw[fe,bg hnl]
  by_cases he:(n:Int)=s.atom
  .have q3:((n:Int)=s.atom)=True:=WE he;rw[aq he];have r2:WR .i64 (P+s.done):=ai;apply sR;simp only[go_sem,seval,Zk,a6,q3,ae n611];generalize YF:C' _ Ym _=Y11;replace Zk:=(congrFun YF Ym).symm.trans af;replace a6:=((congrFun YF i6).symm.trans (ae n611)).trans a6;replace Xy:=((congrFun YF Xk).symm.trans (ae ZD)).trans Xy;replace hs:=Eq.subst (motive:=aa _) YF (hs.av z11);clear YF;have h11:Y11 Ym=some ⟨367,7,[bl (kK l n P)]⟩:=Zk;refine ab.call rfl rfl rfl (Bm (kK l n P) s.done (ai (by show _<=(fe l n).h-s.done;omega) (by show(fe l n).h-s.done<=_;omega)) h11) ?_;rintro-Z9 rfl;generalize YF:C' _ Ym _=Y11;replace Zk:=(congrFun YF Ym).symm.trans af;replace a6:=((congrFun YF i6).symm.trans (ae n611)).trans a6;replace Xy:=((congrFun YF Xk).symm.trans (ae ZD)).trans Xy;replace hs:=Eq.subst (motive:=aa _) YF (hs.av z11);clear YF;rw[bl]at Zk;have r3:WR .i64 (((kK l n P).bN s.done).y+s.done):=r2;apply sR;simp only[go_sem,seval,Zk,a6,Xy,r3,ae ZD];exact ak.pure ((hs.av z11).av z10) rfl
  .have q3:((n:Int)=s.atom)=False:=O' he;rw[ao he];apply sR;simp only[go_sem,seval,Zk,a6,Xy,q3,ae n611,ae ZD];exact ak.pure ((hs.av z11).av z10) rfl
 .rw[Xr hm];rw[bad (λh=>hm h.1)];apply sR;simp only[go_sem,seval,Xy];exact ak.pure (hs.av z10) rfl
open Go.Proofs Go.Proofs.Tryz
def mulR(a n:Int):Int:=
 if dF n≠0/\(dF a>(1099511627776:Int).tdiv (max (dF n) (-dF n))\/dF a<(-1099511627776:Int).tdiv (max (dF n) (-dF n)))then
  (if decide (dF a<0)=decide (dF n<0)then 1099511627776 else -1099511627776)
 else dF a*dF n
def Mt{A B:Int}(h1:A<=(1099511627776:Int).tdiv (max B (-B)))(h2:(-1099511627776:Int).tdiv (max B (-B))<=A)(hB:B≠0):-1099511627776<=A*B/\A*B<=1099511627776:=by
 obtain⟨M,hM⟩:∃M,M=max B (-B):=⟨_,rfl⟩
 rw[<-hM]at h1 h2;have hM1:1<=M:=by omega
 rw[Int.neg_tdiv]at h2;rw[Int.tdiv_eq_ediv_of_nonneg (by omega)]at h1 h2;have h3:(1099511627776:Int)/M*M<=1099511627776:=Int.ediv_mul_le _ (by omega);have h4:=Int.mul_le_mul_of_nonneg_right h1 (by omega:0<=M);have h5:=Int.mul_le_mul_of_nonneg_right h2 (by omega:0<=M);rw[Int.neg_mul]at h5;rcases(by omega:M=B\/M=-B)with e|e
 .rw[e]at h4 h5 h3;omega
 .have hb:B=-M:=by omega
  rw[hb,Int.mul_neg];omega
def Ta(a n:Int):aK prog 47 [vI a,vI n] (vI (mulR a n)):=λU=>by
 refine e47.r (by simp[c47]) ?_;refine ab.mix 5 ?_;apply sR;simp only[go_sem,seval,c47];refine ab.au rfl rfl rfl (B2 a _) ?_;apply sR;simp only[go_sem,seval];refine ab.au rfl rfl rfl (B2 n _) ?_;unfold mulR;have hA:-1099511627776<=dF a/\dF a<=1099511627776:=by unfold dF;omega
 have hB:-1099511627776<=dF n/\dF n<=1099511627776:=by unfold dF;omega
 generalize dF a=A at*;generalize dF n=B at*;have b1:(true==true)=true:=rfl;have b2:(true==false)=false:=rfl;have b3:(false==true)=false:=rfl;have b4:(false==false)=true:=rfl;by_cases h0:B=0
 .subst h0;have q0:((0:Int)≠0)=False:=O' (λh=>h rfl);have r1:WR .i64 (A*0):=ai;apply sR;simp only[go_sem,seval,q0,r1];exact ak.same (by rw[ao (by simp)])
 have q0:(B≠0)=True:=WE h0;have hM1:1<=max B (-B)/\max B (-B)<=1099511627776:=by omega
 have qM:(max B (-B)=0)=False:=O';have rn:WR .i64 (-B):=ai;have t1:0<=(1099511627776:Int).tdiv (max B (-B))/\(1099511627776:Int).tdiv (max B (-B))<=1099511627776:=by
  rw[Int.tdiv_eq_ediv_of_nonneg (by omega)];exact⟨Int.ediv_nonneg (by omega) (by omega),Int.ediv_le_self _ (by omega)⟩
 have t2:(-1099511627776:Int).tdiv (max B (-B))=-((1099511627776:Int).tdiv (max B (-B))):=Int.neg_tdiv ..;have hr:=Mt (A:=A) (B:=B);have rq1:WR .i64 ((1099511627776:Int).tdiv (max B (-B))):=ai;have rq2:WR .i64 ((-1099511627776:Int).tdiv (max B (-B))):=ai;by_cases h1:A>(1099511627776:Int).tdiv (max B (-B))
 .have q1:(A>(1099511627776:Int).tdiv (max B (-B)))=True:=WE h1;rw[aq ⟨h0,.inl h1⟩];by_cases sA:A<0
  .have qA:(A<0)=True:=WE sA;by_cases sB:B<0
   .have qB:(B<0)=True:=WE sB;apply sR;simp only[go_sem,seval,q0,Int.zero_sub,rn,dr,qM,rq1,q1,qA,qB,b1];exact ak.same (by first|rfl|simp[sA,sB])
   .have qB:(B<0)=False:=O' sB;apply sR;simp only[go_sem,seval,q0,Int.zero_sub,rn,dr,qM,rq1,q1,qA,qB,b2];exact ak.same (by first|rfl|simp[sA,sB])
  .have qA:(A<0)=False:=O' sA;by_cases sB:B<0
   .have qB:(B<0)=True:=WE sB;apply sR;simp only[go_sem,seval,q0,Int.zero_sub,rn,dr,qM,rq1,q1,qA,qB,b3];exact ak.same (by first|rfl|simp[sA,sB])
   .have qB:(B<0)=False:=O' sB;apply sR;simp only[go_sem,seval,q0,Int.zero_sub,rn,dr,qM,rq1,q1,qA,qB,b4];exact ak.same (by first|rfl|simp[sA,sB])
 have q1:(A>(1099511627776:Int).tdiv (max B (-B)))=False:=O' h1;by_cases h2:A<(-1099511627776:Int).tdiv (max B (-B))
 .have q2:(A<(-1099511627776:Int).tdiv (max B (-B)))=True:=WE h2;rw[aq ⟨h0,.inr h2⟩];by_cases sA:A<0
  .have qA:(A<0)=True:=WE sA;by_cases sB:B<0
   .have qB:(B<0)=True:=WE sB;apply sR;simp only[go_sem,seval,q0,Int.zero_sub,rn,dr,qM,rq1,q1,rq2,q2,qA,qB,b1];exact ak.same (by first|rfl|simp[sA,sB])
   .have qB:(B<0)=False:=O' sB;apply sR;simp only[go_sem,seval,q0,Int.zero_sub,rn,dr,qM,rq1,q1,rq2,q2,qA,qB,b2];exact ak.same (by first|rfl|simp[sA,sB])
  .have qA:(A<0)=False:=O' sA;by_cases sB:B<0
   .have qB:(B<0)=True:=WE sB;apply sR;simp only[go_sem,seval,q0,Int.zero_sub,rn,dr,qM,rq1,q1,rq2,q2,qA,qB,b3];exact ak.same (by first|rfl|simp[sA,sB])
   .have qB:(B<0)=False:=O' sB;apply sR;simp only[go_sem,seval,q0,Int.zero_sub,rn,dr,qM,rq1,q1,rq2,q2,qA,qB,b4];exact ak.same (by first|rfl|simp[sA,sB])
 have q2:(A<(-1099511627776:Int).tdiv (max B (-B)))=False:=O' h2;have hr':=hr (by omega) (by omega) h0;have r3:WR .i64 (A*B):=ai;rw[ao (λh=>by rcases h.2 with h|h;exact h1 h;exact h2 h)]
 apply sR;simp only[go_sem,seval,q0,Int.zero_sub,rn,dr,qM,rq1,q1,rq2,q2,r3];exact ak.same rfl
open Go.Proofs Go.Proofs.Tryz
def Gu(l:List T')(hl:l.length<=1000000):Iter prog 321 [.rp (aB l)] (l.map λf=>[aJ f]):=by
 refine⟨Sr.c,λXe τ Jx Z0 hy hJ=>?_⟩;refine(Sr.r (by simp[NS]) ?_).2;have ldF:∀U:ag,bF U false 1 (.rp (aB l))=some (aB l):=λU=>rfl;have hln:=fM l;refine ab.mix 5 ?_;apply sR;simp only[go_sem,seval,NS,ldF,hln];refine ab.loop (λm st=>∃(j:Nat) (ZJ:ag),j<=l.length/\m=l.length-j/\τ ((l.take j).map λf=>[aJ f]) ZJ/\aa ZJ st.U/\st.s 0=.yl Xe/\st.s 5=aB l/\st.s 6=vI l.length/\st.s 7=vI j) l.length ?_ ?_
 .exact⟨0,Z0,by omega,rfl,by simpa using hJ,aa.refl _,rfl,rfl,rfl,rfl⟩
 .rintro m ⟨S,J⟩ ⟨j,ZJ,hj,rfl,YM,G',t0,t5,t6,t7⟩;simp only at G' t0 t5 t6 t7;refine ab.mix 5 ?_;by_cases H':j<l.length
  .have q:((j:Int)<l.length)=True:=WE;have r1:WR .i64 ((j:Int)+1):=ai;have U':=λU=>j2 (U:=U) H';have e0':l=l.take j++l[j]::l.drop (j+1):=by rw[<-gF H',uR]
   have e:(l.map λf=>[aJ f])=((l.take j).map λf=>[aJ f])++[aJ l[j]]::((l.drop (j+1)).map λf=>[aJ f]):=by
    have:=congrArg (List.map λf=>[aJ f]) e0'
    rwa [gB,eo]at this
   have XB:((l.take (j+1)).map λf=>[aJ f])=((l.take j).map λf=>[aJ f])++[[aJ l[j]]]:=by rw[ZS H',gB];rfl
   have hfl:aJ l[j]=.agg [vI l[j].node,vI l[j].side,vI l[j].anchor,vI l[j].x,vI l[j].y,vI l[j].w,vI l[j].h]:=rfl;generalize l[j]=x at*;apply sR;simp only[go_sem,seval,t5,t6,t7,q,U',hfl];refine ad λi4 Z4 s4 a4 f4=>?_;simp only[go_sem,seval,a4,t0];generalize Ys:C' Z4 i4 _=Y4;have hs4:aa J Y4:=by rw[<-Ys];exact s4.av f4
   clear Ys;refine ab.oS (Post:=λb' Z2=>∃Xc,aY ZJ Y4 Xc Z2/\((b'=true/\τ (((l.take j).map λf=>[aJ f])++[[aJ x]]) Xc)\/(b'=false/\Jx (((l.take j).map λf=>[aJ f])++[[aJ x]]) Xc))) rfl rfl rfl (hy _ [aJ x] _ ZJ Y4 e YM (G'.trans hs4)) ?_;rintro b' Z2 ⟨Xc,Yh,XM⟩;rcases XM with⟨rfl,XM⟩|⟨rfl,XM⟩
   .apply sR;simp only[go_sem,seval,t0,t5,t6,t7,r1];refine⟨_,?_,j+1,Xc,by omega,rfl,by rw[XB];exact XM,Yh.1,by simp⟩;omega
   .apply sR;simp only[go_sem,seval];exact⟨_,Xc,Yh.1,Wk.refl Yh.1 _,.inr ⟨_,⟨_,by rw[e,my];rfl⟩,XM⟩⟩
  .have q:((j:Int)<l.length)=False:=O';rw[lg (by omega)]at YM;apply sR;simp only[go_sem,seval,t6,t7,q];exact⟨_,ZJ,G',Wk.refl G' _,.inl YM⟩
def OM(l:List T'):aK prog 293 [aB l] (.fn 321 [.rp (aB l)]):=λU=>by
 refine Vk.r (by simp[Qw]) ?_;refine ab.mix 3 ?_;have q1:=dI l;have q2:=dK l;generalize aB l=x at*;apply sR;simp only[go_sem,seval,Qw,q1,q2];refine ad λid1 Z1 s1 a1 f1=>?_;simp only[go_sem,seval];exact⟨_,U,s1,Wk.fn (vs':=[.rp x]) ⟨Wk.ptr s1 a1 f1,trivial⟩,rfl,rfl⟩
def pQ(bN to:Int)(f:T'):Bool:=decide (f.anchor<bN\/f.anchor>=to)
def Ou(bN to:Int)(f:T'){U:ag}{i4 i5:Nat}(a4:U i4=some ⟨3,1,[vI bN]⟩)(a5:U i5=some ⟨3,1,[vI to]⟩):
 ax prog 334 [aJ f,.ptr i4 0 0,.ptr i5 0 0] U λr Z'=>r=.bool (pQ bN to f)/\Z'=U:=by
 refine Wy.r (by simp[OA]) ?_;have hs:=aa.refl U;refine ab.mix 5 ?_;apply sR;simp only[go_sem,seval,OA,aJ];refine ad λi3 Z3 s3 a3 f3=>?_;replace hs:=hs.trans s3;have b4:=s3 _ _ a4;have b5:=s3 _ _ a5;by_cases h0:f.anchor<bN
 .have q0:(f.anchor<bN)=True:=WE h0;simp only[go_sem,seval,a3,b4,q0];exact ak.pure hs (by simp[pQ,h0])
 .have q0:(f.anchor<bN)=False:=O' h0;by_cases h1:f.anchor>=to
  .have q1:(f.anchor>=to)=True:=WE h1;simp only[go_sem,seval,a3,b4,b5,q0,q1];exact ak.pure hs (by simp[pQ,h1])
  .have q1:(f.anchor>=to)=False:=O' h1;simp only[go_sem,seval,a3,b4,b5,q0,q1];exact ak.pure hs (by simp only[pQ];rw[Xr (by omega)])
open Go.Proofs Go.Proofs.Tryz
def gq(p:T'->Bool):List T'->Nat->Int
 |[],_=>-1
 |f::r,i=>if p f then i else gq p r (i+1)
def Bt{p:T'->Bool}{l:List T'}{i:Nat}(h:i<l.length):gq p (l.drop i) i=if p l[i]then(i:Int)else gq p (l.drop (i+1)) (i+1):=by
 rw[gF h,gq]
def Kv{U:ag}{v:V}(l:List T')(hl:l.length<=1000000)(hr:Reads U 7 true v (l.map aJ)){f:FuncId}{caps:List V}(p:T'->Bool)
 (hf:∀x∈l,ax prog f (aJ x::caps) U λr Z'=>r=.bool (p x)/\Z'=U):
 ax prog 244 [v,.fn f caps] U λr Z'=>r=vI (gq p l 0)/\Z'=U:=by
 refine VH.r (by simp[O3]) ?_;have hlv:cP false v=some (.int .i64 l.length):=by rw[hr.1,dd]
 refine ab.mix 6 ?_;apply sR;simp only[go_sem,seval,O3,hlv];refine ab.loop (λm st=>∃i:Nat,i<=l.length/\m=l.length-i/\gq p l 0=gq p (l.drop i) i/\st.U=U/\st.s 0=v/\st.s 1=.fn f caps/\st.s 7=vI l.length/\st.s 8=vI i) l.length ?_ ?_
 .exact⟨0,by omega,rfl,rfl,rfl,rfl,rfl,rfl,rfl⟩
 .rintro m ⟨s,Z'⟩ ⟨i,hi,rfl,heq,W4,h0,h1,h7,h8⟩;simp only at W4 h0 h1 h7 h8;subst W4;refine ab.mix 6 ?_;by_cases H':i<l.length
  .have q:((i:Int)<l.length)=True:=WE;have hd:=Bt (p:=p) H';obtain⟨a,ha,Zl⟩:=hr.2 i (aJ l[i]) (by simp[H']);have hfx:=hf l[i] (XI H');have r1:WR .i64 ((i:Int)+1):=ai;generalize l[i]=x at*;apply sR;simp only[go_sem,seval,h0,h1,h7,h8,q,ha,Zl];refine ab.au rfl rfl rfl hfx ?_;cases hp:p x
   .rw[hp]at hd;apply sR;simp only[go_sem,seval,h0,h1,h7,h8,r1];refine⟨_,?_,i+1,by omega,rfl,?_,by simp⟩
    .omega
    .rw[heq,hd];rfl
   .rw[hp]at hd;apply sR;simp only[go_sem,seval];refine ak.same ?_;rw[heq,hd];rfl
  .have q:((i:Int)<l.length)=False:=O';have ZI:i=l.length:=by omega
   apply sR;simp only[go_sem,seval,h7,h8,q];refine ak.same ?_;rw[heq,ZI,zN];rfl
open Go.Proofs Go.Proofs.Tryz
def KB(l:List Xv)(hl:l.length<=1000000000):aK prog 61 [aW l] (aW l):=
 wQ func61 (e61.b.trans rfl) e61.c (l.map cp) (by simp;omega)
def Ch(l:List T')(hl:l.length<=1000000000):aK prog 62 [aB l] (aB l):=
 wQ func62 (e62.b.trans rfl) e62.c (l.map aJ) (by simp;omega)
open Go.Proofs Go.Proofs.Tryz
def mq(a:T'):List T'->Nat->Int
 |[],_=>-1
 |q::r,i=>if a=q then i else mq a r (i+1)
def F0{a:T'}{p:List T'}{i:Nat}(h:i<p.length):mq a (p.drop i) i=if a=p[i]then(i:Int)else mq a (p.drop (i+1)) (i+1):=by
 rw[gF h,mq]
def Jp(p:List T')(hp:p.length<=1000000000)(a:T'):aK prog 172 [aB p,aJ a] (vI (mq a p 0)):=λU=>by
 refine TP.r (by simp[N0]) ?_;have hs:=aa.refl U;have hlp:=fM p;have hac:(aJ a).cells=[vI a.node,vI a.side,vI a.anchor,vI a.x,vI a.y,vI a.w,vI a.h]:=rfl;have has:(aJ a).stays=true:=rfl;have he:∀b:T',mW false [0,0,0,0,0,0,0] (.agg [vI a.node,vI a.side,vI a.anchor,vI a.x,vI a.y,vI a.w,vI a.h]) (.agg [vI b.node,vI b.side,vI b.anchor,vI b.x,vI b.y,vI b.w,vI b.h])=some (.bool (decide (a=b))):=λb=>by
  have:(a=b)↔(a.node=b.node/\a.side=b.side/\a.anchor=b.anchor/\a.x=b.x/\a.y=b.y/\a.w=b.w/\a.h=b.h):=by
   cases a;cases b;simp
  simp only[mW,iM,fo,jh,this];simp
 refine ab.mix 9 ?_;apply sR;simp only[go_sem,seval,N0,hac,has];refine ad λi3 Z3 s3 a3 f3=>?_;have z3:=hs.none f3;replace hs:=hs.trans s3;simp only[go_sem,seval,hlp];rw[aJ]at a3;refine ab.loop (λm st=>∃(i:Nat),i<=p.length/\m=p.length-i/\mq a p 0=mq a (p.drop i) i/\st.U=Z3/\st.s 0=aB p/\st.s 3=.ptr i3 0 0/\st.s 7=vI p.length/\st.s 8=vI i) p.length ?_ ?_
 .exact⟨0,by omega,rfl,rfl,rfl,rfl,rfl,rfl,rfl⟩
 .rintro m ⟨s,Z'⟩ ⟨i,hi,rfl,heq,W4,h0,h3,h7,h8⟩;simp only at W4 h0 h3 h7 h8;subst W4;refine ab.mix 9 ?_;by_cases H':i<p.length
  .have q:((i:Int)<p.length)=True:=WE;have hd:=F0 (a:=a) H';have U':=λU=>j2 (U:=U) H';have r1:WR .i64 ((i:Int)+1):=ai;have hee:=he p[i];have hfl:aJ p[i]=.agg [vI p[i].node,vI p[i].side,vI p[i].anchor,vI p[i].x,vI p[i].y,vI p[i].w,vI p[i].h]:=rfl;by_cases hc:a=p[i]
   .rw[XJ hc]at hee;apply sR;simp only[BB,seval,bf,ez,aF,dV,iJ,V.cells,Yp.nothing,h0,h3,h7,h8,q,a3,U',hfl,hee];refine ak.pure hs ?_;rw[heq,hd,aq hc]
   .rw[Xr hc]at hee;apply sR;simp only[BB,seval,bf,ez,aF,dV,iJ,V.cells,Yp.nothing,h0,h3,h7,h8,q,a3,U',hfl,hee,r1];refine⟨_,?_,i+1,by omega,rfl,?_,by simp⟩
    .omega
    .rw[heq,hd,ao hc]
  .have q:((i:Int)<p.length)=False:=O';have ZI:i=p.length:=by omega
   apply sR;simp only[go_sem,seval,h7,h8,q];refine ak.pure hs ?_;rw[heq,ZI,zN];rfl
open Go
def YX.same{U:ag}{N:Nat->Prop}:∀(vs:List V),gA vs=true->YX U N vs vs
 |[],_=>.nil
 |v::vs,h=>by
  simp only[gA,Ba]at h;exact .cons _ _ _ _ (.same v h.1) (YX.same vs h.2)
def YX.app{U:ag}{N:Nat->Prop}:∀{a b c d:List V},YX U N a b->YX U N c d->YX U N (a++c) (b++d)
 |_,_,_,_,.nil,h=>h
 |_,_,_,_,.cons v u vs us h h',h2=>.cons v u _ _ h (YX.app h' h2)
def YX.one{U:ag}{N:Nat->Prop}{v u:V}(h:Fz U N v u):YX U N [v] [u]:=.cons _ _ _ _ h .nil
def aM.fz{K U:ag}{N:Nat->Prop}{e sz:Nat}{v:V}{rows:List V}(h:aM K U e sz v rows)(hN:∀id,K id=none->N id)(hr:gA rows=true):Fz U N v (.sl sz rows):=by
 rcases h with⟨rfl,rfl⟩|⟨id,rfl,ho,hk⟩
 .exact .nil sz
 .exact .own id 0 rows.length ⟨e,sz,rows⟩ rows ho (hN id hk) (by simp) (by rw[wV,iR];exact YX.same rows hr)
def aM.ae{K U:ag}{e sz:Nat}{v:V}{rows:List V}(h:aM K U e sz v rows){id:Nat}{o:Ob}(hK:K id≠none):aM K (C' U id o) e sz v rows:=by
 rcases h with h|⟨q,h1,h2,h3⟩
 .exact .inl h
 .have:q≠id:=λe=>hK (by rw[<-e];exact h3);exact .inr ⟨q,h1,by rw[Vc.ae this];exact h2,h3⟩
def Ga(l:List Int):gA (l.map vI)=true:=by
 induction l with
 |nil=>rfl
 |cons x l ih=>rw[eo,gA,ih];rfl
abbrev Sw(x:Nd):List V:=[vI x.kind,vI x.size,vI x.st.top,vI x.st.W3,vI x.st.WU,vI x.st.WI,vI x.st.XO,vI x.st.Xj,vI x.st.Xt,vI x.st.head,vI x.st.before,vI x.st.after,vI x.st.inside,vI x.st.clear,vI x.line,vI x.space]
def ndW(x:Nd)(v:V):V:=.agg [vI x.kind,vI x.size,vI x.st.top,vI x.st.W3,vI x.st.WU,vI x.st.WI,vI x.st.XO,vI x.st.Xj,vI x.st.Xt,vI x.st.head,vI x.st.before,vI x.st.after,vI x.st.inside,vI x.st.clear,vI x.line,vI x.space,v,vI x.side,vI x.w,vI x.h]
def RZ{U:ag}{N:Nat->Prop}{x:Nd}{v:V}(h:Fz U N v (bb x.words)):Fz U N (ndW x v) (jE x):=by
 refine .agg _ _ ?_;exact(YX.same (Sw x) rfl).app ((YX.one h).app (YX.same [vI x.side,vI x.w,vI x.h] rfl))
def gg(K U:ag):List Nd->List V->Prop
 |[],[]=>True
 |x::l,r::rows=>(∃w,r=ndW x w/\aM K U 3 1 w (x.words.map vI))/\gg K U l rows
 |_,_=>False
def aM.kept{K U Z':ag}{id e:Nat}{w:V}{rows rows0:List V}(h:aM K U 3 1 w rows)(ho:U id=some ⟨e,20,rows0⟩)(hs:∀i,i≠id->∀o,U i=some o->Z' i=some o):aM K Z' 3 1 w rows:=by
 rcases h with h|⟨i,h1,h2,h3⟩
 .exact .inl h
 .have W6:i≠id:=λe=>by subst e;rw[ho]at h2;simp at h2
  exact .inr ⟨i,h1,hs i W6 _ h2,h3⟩
def gg.kept{K U Z':ag}{id e:Nat}{rows0:List V}(ho:U id=some ⟨e,20,rows0⟩)(hs:∀i,i≠id->∀o,U i=some o->Z' i=some o):∀{l:List Nd} {rows:List V},gg K U l rows->gg K Z' l rows
 |[],[],_=>trivial
 |_::_,_::_,⟨⟨w,h1,h2⟩,h⟩=>⟨⟨w,h1,h2.kept ho hs⟩,gg.kept ho hs h⟩
 |[],_::_,h=>h.elim
 |_::_,[],h=>h.elim
def gg.mono{K U Z':ag}(hs:aa U Z'):∀{l:List Nd} {rows:List V},gg K U l rows->gg K Z' l rows
 |[],[],_=>trivial
 |_::_,_::_,⟨⟨w,h1,h2⟩,h⟩=>⟨⟨w,h1,h2.mono hs⟩,gg.mono hs h⟩
 |[],_::_,h=>h.elim
 |_::_,[],h=>h.elim
def aM.Nf{K K' U:ag}{e sz:Nat}{v:V}{rows:List V}(h:aM K U e sz v rows)(hk:aa K' K):aM K' U e sz v rows:=by
 rcases h with h|⟨i,h1,h2,h3⟩
 .exact .inl h
 .exact .inr ⟨i,h1,h2,hk.none h3⟩
def gg.app{K U:ag}:∀{l l2:List Nd} {rows rows2:List V},gg K U l rows->gg K U l2 rows2->gg K U (l++l2) (rows++rows2)
 |[],_,[],_,_,h2=>h2
 |_::_,_,_::_,_,⟨h1,h⟩,h2=>⟨h1,gg.app h h2⟩
 |[],_,_::_,_,h,_=>h.elim
 |_::_,_,[],_,h,_=>h.elim
def gg.fz{K U:ag}{N:Nat->Prop}(hN:∀id,K id=none->N id):∀{l:List Nd} {rows:List V},gg K U l rows->YX U N rows (l.map jE)
 |[],[],_=>.nil
 |_::_,_::_,⟨⟨w,h1,h2⟩,h⟩=>by
  rw[h1];exact .cons _ _ _ _ (RZ (h2.fz hN (Ga _))) (gg.fz hN h)
 |[],_::_,h=>h.elim
 |_::_,[],h=>h.elim
def CW(K U:ag)(v:V)(l:List Nd):Prop:=∃rows,aM K U 59 20 v rows/\gg K U l rows
def CW.fz{K U:ag}{N:Nat->Prop}{v:V}{l:List Nd}(h:CW K U v l)(hN:∀id,K id=none->N id):Fz U N v (aC l):=by
 obtain⟨rows,ho,hr⟩:=h;have hf:=hr.fz hN;rcases ho with⟨rfl,rfl⟩|⟨id,rfl,ho,hk⟩
 .cases l with
  |nil=>exact .nil 20
  |cons x l=>exact hr.elim
 .exact .own id 0 rows.length ⟨_,20,rows⟩ _ ho (hN id hk) (by simp) (by rw[wV,iR];exact hf)
open Go.Proofs Go.Proofs.Tryz
def Lm(l:List Nd)(hl:l.length<=10000)(U:ag):ax prog 49 [aC l] U λr Z'=>aa U Z'/\aM U Z' 59 20 r (l.map jE):=by
 refine e49.r (by simp[c49]) ?_;refine ab.mix 3 ?_
 (refine ab.bt Yp.nothing 8 ?_;simp only[go_sem,seval,jF,c49])
 refine ab.Gx rfl rfl rfl λb hb=>?_;cases b
 .apply sR;simp only[go_sem,seval];refine ad λid1 Z1 s1 a1 f1=>?_;obtain⟨WW,hd,X7⟩:=(aM.new (K:=U) (e:=59) (sz:=20) (n:=0) (rows:=[]) rfl a1 f1).dst (aa.refl _);have hsrc:∀U,bI U 20 (aC l)=some (l.map jE):=λU=>by simp[aC,bI]
  have XW:l.length*177<=140737488355328:=by omega
  simp only[go_sem,seval,hd,hsrc,dd,XW];refine eF λid2 Z2 s2 a2 f2=>?_;have ZM:=(X7 U (aa.refl _) Z1 s1).trans s2;simp only[go_sem,seval];refine⟨_,_,aa.refl _,Wk.refl (aa.refl _) _,ZM,aM.new (by simp) a2 (s1.none f2)⟩
 .apply sR;simp only[go_sem,seval];refine⟨_,_,aa.refl _,Wk.refl (aa.refl _) _,aa.refl _,?_⟩;have:l.map jE=[]:=hb rfl;rw[this];exact aM.start
def HS(l:List Int)(hl:l.length<=1000000000)(U:ag):ax prog 50 [bb l] U λr Z'=>aa U Z'/\aM U Z' 3 1 r (l.map vI):=by
 refine e50.r (by simp[c50]) ?_;refine ab.mix 3 ?_
 (refine ab.bt Yp.nothing 8 ?_;simp only[go_sem,seval,jF,c50])
 refine ab.Gx rfl rfl rfl λb hb=>?_;cases b
 .apply sR;simp only[go_sem,seval];refine ad λid1 Z1 s1 a1 f1=>?_;obtain⟨WW,hd,X7⟩:=(aM.new (K:=U) (e:=3) (sz:=1) (n:=0) (rows:=[]) rfl a1 f1).dst (aa.refl _);have XW:l.length*9<=140737488355328:=by omega
  simp only[go_sem,seval,hd,AS,dd,XW];refine eF λid2 Z2 s2 a2 f2=>?_;have ZM:=(X7 U (aa.refl _) Z1 s1).trans s2;simp only[go_sem,seval];exact⟨_,_,aa.refl _,Wk.refl (aa.refl _) _,ZM,aM.new (by simp) a2 (s1.none f2)⟩
 .apply sR;simp only[go_sem,seval];have:l.map vI=[]:=hb rfl;refine⟨_,_,aa.refl _,Wk.refl (aa.refl _) _,aa.refl _,?_⟩;rw[this];exact aM.start
open Go.Proofs Go.Proofs.Tryz
def Mb(K U:ag)(e sz:Nat)(v:V)(rows:List V):Prop:=(v=.ay/\rows=[])\/∃id all,v=.own id 0 rows.length/\U id=some ⟨e,sz,all⟩/\all.take rows.length=rows/\K id=none
def aM.Vi{K U:ag}{e sz:Nat}{v:V}{rows:List V}(h:aM K U e sz v rows):Mb K U e sz v rows:=by
 rcases h with h|⟨id,h1,h2,h3⟩
 .exact .inl h
 .exact .inr ⟨id,rows,h1,h2,iR,h3⟩
def Mb.wk{K U:ag}{e sz:Nat}{v:V}{rows:List V}(h:Mb K U e sz v rows){K':ag}(hK:aa K' K)(hs:aa K' U):Wk U K' v (.sl sz rows):=by
 rcases h with⟨rfl,rfl⟩|⟨id,all,rfl,ho,ht,hk⟩
 .exact Wk.ay sz
 .have hl:rows.length<=all.length:=by
   have:=congrArg List.length ht;simp at this;omega
  have:=Wk.own hs ho (hK.none hk) (off:=0) (len:=rows.length) (by simpa using hl);rw[wV,ht]at this;exact this
open Go.Proofs Go.Proofs.Tryz
def tQ{p:T'->Bool}:∀(l:List T') (i:Nat),gq p l i<0->l.filter (λf=>!p f)=l
 |[],_,_=>rfl
 |x::l,i,h=>by
  rw[gq]at h;split at h
  .omega
  .rename_i hp;have hp':p x=false:=by simpa using hp
   simp only[List.filter_cons,hp',Bool.not_false,if_true,tQ l _ h]
def uu{p:T'->Bool}:∀(l:List T') (i:Nat),¬gq p l i<0->∃w:Nat,gq p l i=((i+w:Nat):Int)/\w<l.length/\(l.take w).filter (λf=>!p f)=l.take w/\∀x,l[w]?=some x->p x=true
 |[],i,h=>by simp[gq]at h
 |x::l,i,h=>by
  rw[gq]at h|-;split
  .rename_i hp;exact⟨0,by simp,by simp,by simp,λy hy=>by simp at hy;subst hy;exact hp⟩
  .rename_i hp;rw[ao hp]at h;have hp':p x=false:=by simpa using hp
   obtain⟨w,h1,h2,h3,h4⟩:=uu l (i+1) h;refine⟨w+1,by rw[h1];congr 1;omega,by simp;omega,?_,by simpa using h4⟩;simp only[px,List.filter_cons,hp',Bool.not_false,if_true,h3]
def vR{p:T'->Bool}:∀(l:List T') (i:Nat),gq p l i<0->gq p l i=-1
 |[],_,_=>rfl
 |x::l,i,h=>by
  rw[gq]at h|-;split
  .rename_i hp;rw[aq hp]at h;omega
  .rename_i hp;rw[ao hp]at h;exact vR l _ h
abbrev mf(p:T'->Bool)(l:List T'):List T':=l.filter λf=>!p f
def yM{K U:ag}{v:V}(l:List T')(hl:l.length<=1000000)(hK:aa K U)(ho:aM K U 150 7 v (l.map aJ)){f:FuncId}{caps:List V}(p:T'->Bool)
 (hf:∀x∈l,∀J,aa K J->ax prog f (aJ x::caps) J λr Z'=>r=.bool (p x)/\Z'=J):
 ax prog 188 [v,.fn f caps] U λr Z'=>Mb K Z' 150 7 r ((mf p l).map aJ)/\aa K Z':=by
 have hr:Reads U 7 true v (l.map aJ):=by
  rcases ho with⟨rfl,h0⟩|⟨id,rfl,h2,h3⟩
  .rw[h0];exact⟨rfl,λi v h=>by simp at h⟩
  .refine⟨by simp[cP],λi r hi=>⟨_,lj h2 (by have:=jn.1 hi;exact this.1),?_⟩⟩;have hx:∃x,r=aJ x:=by
    have:=yk hi;simp only[gM]at this;obtain⟨n,_,rfl⟩:=this;exact⟨n,rfl⟩
   obtain⟨x,rfl⟩:=hx;simp only[bF,h2,hi,if_true];rw[aq ⟨trivial,rfl⟩];rfl
 refine Ur.r (by simp[O8]) ?_;refine ab.mix 8 ?_;apply sR;simp only[go_sem,seval,O8];refine ab.au rfl rfl rfl (Kv l hl hr p (λx hx=>hf x hx U hK)) ?_;generalize hw:gq p l 0=w;by_cases hn:w<0
 .have hw1:w=-1:=by rw[<-hw];exact vR _ _ (by rw[hw];exact hn)
  have hk:mf p l=l:=tQ l 0 (by rw[hw];exact hn);have q:(w=-1)=True:=WE hw1;apply sR;simp only[go_sem,seval,q];rw[hk];exact⟨_,U,aa.refl _,Wk.refl (aa.refl _) _,ho.Vi,hK⟩
 .obtain⟨u0,g0,g1,g2,g3⟩:=uu l 0 (by rw[hw];exact hn);rw[hw,iV]at g0;subst g0;have q:((u0:Int)=-1)=False:=O';have r1:WR .i64 ((u0:Int)+1):=ai;obtain⟨i1,rfl,h2,h3⟩:∃id,v=.own id 0 (l.map aJ).length/\U id=some ⟨150,7,l.map aJ⟩/\K id=none:=by
   rcases ho with⟨_,h0⟩|h
   .have:l=[]:=by simpa using h0
    subst this;simp at g1
   .exact h
  rw[dd]at*;apply sR;simp only[go_sem,seval,q,r1];refine ab.loop (λm st=>∃(u j:Nat) (cur:List T'),u<j/\j<=l.length/\m=l.length-j/\cur.length=l.length/\cur.take u=mf p (l.take j)/\(∀q,j<=q->cur[q]?=l[q]?)/\aa K st.U/\st.U i1=some ⟨150,7,cur.map aJ⟩/\
   st.s 0=.own i1 0 l.length/\st.s 1=.fn f caps/\st.s 5=vI u/\∃z:Int,st.s 6=vI z/\z=j) (l.length-(u0+1)) ?_ ?_
  .refine⟨u0,u0+1,l,by omega,by omega,rfl,rfl,?_,λ_ _=>rfl,hK,h2,rfl,rfl,rfl,_,rfl,by omega⟩;have hp:=g3 l[u0] (by simp[g1]);rw[ZS g1];have g2':mf p (l.take u0)=l.take u0:=g2;simp only[mf,List.filter_append]at g2'|-;rw[g2'];simp[hp]
  .rintro m ⟨s,J⟩ ⟨u,j,cur,huj,hjk,rfl,XH,hct,hcr,hs,a1,h0,h1,h5,z,h6,rfl⟩;simp only at hs a1 h0 h1 h5 h6;refine ab.mix 8 ?_;have hlm:(cur.map aJ).length=l.length:=by rw[dd,XH]
   by_cases H':j<l.length
   .have q1:((j:Int)<l.length)=True:=WE;have hjc:j<cur.length:=by omega
    have huc:u<cur.length:=by omega
    have hfj:l[j]?=some cur[j]:=by rw[<-hcr j (Xm _)];simp[hjc]
    have hmem:cur[j]∈l:=yk hfj;have htj:l.take (j+1)=l.take j++[cur[j]]:=by
     rw[ZS H'];congr 2;rw[ZF H']at hfj;simpa using hfj
    have iX:∀(J:ag) (rows:List V) (k n:Nat),J i1=some ⟨150,7,rows⟩->rows.length=l.length->n=l.length->k<l.length->bp J 7 (.own i1 0 n) (.int .i64 k)=some (.ptr i1 k 0):=λJ rows k n h e hn hk=>by subst hn;rw[<-e];exact lj h (by omega)
    have e1:=iX _ _ j _ a1 hlm rfl H';have v1:(cur.map aJ)[j]?=some (aJ cur[j]):=by simp[hjc]
    have vu:(cur.map aJ)[u]?=some (aJ cur[u]):=by simp[huc]
    have hset:(cur.set u cur[j]).map aJ=(cur.map aJ).set u (aJ cur[j]):=List.map_set;have ZA:=hf cur[j] hmem;have hfc7:∀f:T',(aJ f).cells=[vI f.node,vI f.side,vI f.anchor,vI f.x,vI f.y,vI f.w,vI f.h]:=λ_=>rfl;have hsu:(cur.set u cur[j]).take (u+1)=cur.take u++[cur[j]]:=by
     rw[ZS (by simpa using huc),List.take_set,List.set_eq_of_length_le (by simp;omega)];simp
    have r2:WR .i64 ((u:Int)+1):=ai;have r3:WR .i64 ((j:Int)+1):=ai;generalize cur[j]=x at*;generalize cur[u]=y at*;apply sR;simp only[go_sem,seval,h0,h6,q1,a1,e1,v1,hfc7];refine ad λi7 Z7 s7 a7 f7=>?_;have n17:=al a1 f7;replace a1:=s7 _ _ a1;have z7:=hs.none f7;replace hs:=hs.trans s7;simp only[go_sem,seval,a7,h1];generalize YD:C' _ i7 _=Y7;replace a7:=(congrFun YD i7).symm.trans af;replace a1:=((congrFun YD i1).symm.trans (ae n17)).trans a1;replace hs:=Eq.subst (motive:=aa _) YD (hs.av z7);clear YD;refine ab.au rfl rfl rfl (ZA _ hs) ?_;have e2:=iX _ _ u _ a1 hlm rfl (by omega);cases hp:p x
    .apply sR;simp only[go_sem,seval,h0,h1,h5,h6,a7,a1,e2,vu,hfc7,r2,r3];refine⟨_,?_,u+1,j+1,cur.set u x,by omega,by omega,rfl,by simpa using XH,?_,λq hq=>?_,hs.av h3,?_,by simp,_,rfl,by omega⟩
     .omega
     .rw[hsu,htj,hct];simp[mf,List.filter_append,hp]
     .rw[List.getElem?_set_ne (by omega)];exact hcr q (by omega)
     .rw[hset];rfl
    .apply sR;simp only[go_sem,seval,h0,h1,h5,h6,r3];refine⟨_,?_,u,j+1,cur,by omega,by omega,rfl,XH,?_,λq hq=>hcr q (by omega),hs,a1,by simp,_,rfl,by omega⟩
     .omega
     .rw[htj,hct];simp[mf,List.filter_append,hp]
   .have q1:((j:Int)<l.length)=False:=O';have hjk':j=l.length:=by omega
    subst hjk';rw[iR]at hct;have b3:(0:Int)<=u:=by omega
    have b4:(u:Int)<=l.length:=by omega
    apply sR;simp only[go_sem,seval,h0,h5,h6,q1,a1,b3,b4,Int.le_refl,fc];refine ab.clear (id:=i1) (off:=u) (len:=l.length-u) (ob:=⟨150,7,cur.map aJ⟩) rfl rfl rfl a1 rfl (by simp;omega) ?_;apply sR;simp only[go_sem,seval,h0,h5,b3,b4,Int.le_refl,fc,Nat.sub_zero];have hlu:((mf p l).map aJ).length=u:=by rw[dd,<-hct,gO];omega
    refine⟨_,_,aa.refl _,Wk.refl (aa.refl _) _,.inr ⟨i1,_,by rw[hlu],af,?_,h3⟩,hs.av h3⟩;rw[hlu,my,MW (by simp;omega),List.take_take,Nat.min_self,<-List.map_take,hct]
open Go.Proofs Go.Proofs.Tryz
def tP(l:List T')(fr to:Int):List T':=mf (pQ fr to) l
def oU(l:List T')(fr to:Int):(tP l fr to).length<=l.length:=List.length_filter_le _ _
def KF(l:List T')(hl:l.length<=1000000)(fr to:Int):aK prog 322 [aB l,vI fr,vI to] (aB (tP l fr to)):=λU=>by
 refine T9.r (by simp[Qu]) ?_;have hs:=aa.refl U;refine ab.mix 7 ?_;apply sR;simp only[go_sem,seval,Qu];refine ad λi4 Z4 s4 a4 f4=>?_;replace hs:=hs.trans s4;simp only[go_sem,seval];refine ad λi5 Z5 s5 a5 f5=>?_;replace a4:=s5 _ _ a4;replace hs:=hs.trans s5;simp only[go_sem,seval];refine ab.call rfl rfl rfl (oJ func62 (e62.b.trans rfl) e62.c (l.map aJ) (by simp;omega) _) ?_;rintro r Z9 ⟨h9,ho9⟩;apply sR;simp only[go_sem,seval];refine ab.call rfl rfl rfl (yM l hl h9 ho9 (pQ fr to) (λx _ J hτ=>Ou fr to x (hτ _ _ a4) (hτ _ _ a5))) ?_;rintro r2 Z10 ⟨hp,h10⟩;apply sR;simp only[go_sem,seval];exact⟨_,U,hs.trans h10,hp.wk hs (hs.trans h10),rfl,rfl⟩
def dG(l:List T')(s:Xp)(to:Int):List T':=tP l (if s.done>0 then s.atom+1 else s.atom) to
def IJ(l:List T')(hl:l.length<=1000000)(s:Xp)(ha:WR .i64 (s.atom+1))(to:Int):aK prog 294 [aB l,aU s,vI to] (aB (dG l s to)):=λU=>by
 refine Uk.r (by simp[OE]) ?_;have hs:=aa.refl U;have hsc:(aU s).cells=[vI s.atom,vI s.done,.bool s.free]:=rfl;have hss:(aU s).stays=true:=rfl;refine ab.mix 7 ?_;apply sR;simp only[go_sem,seval,OE,hsc,hss];refine ad λi4 Z4 s4 a4 f4=>?_;have z4:=hs.none f4;replace hs:=hs.trans s4;rw[aU]at a4;by_cases hd:s.done>0
 .have q:(s.done>0)=True:=WE hd;simp only[go_sem,seval,a4,q,ha];refine ab.au rfl rfl rfl (KF l hl _ _ _) ?_;apply sR;simp only[go_sem,seval];exact ak.pure hs (by rw[dG,aq hd])
 .have q:(s.done>0)=False:=O' hd;simp only[go_sem,seval,a4,q];refine ab.au rfl rfl rfl (KF l hl _ _ _) ?_;apply sR;simp only[go_sem,seval];exact ak.pure hs (by rw[dG,ao hd])
open Go.Proofs Go.Proofs.Tryz
def dO(v u:V):Prop:=∀a n b m,v=.own a 0 n->u=.own b 0 m->a≠b
def dO.symm{v u:V}(h:dO v u):dO u v:=λa n b m h1 h2 e=>h b m a n h2 h1 e.symm
def dO.ay(u:V):dO .ay u:=λ_ _ _ _ h _=>by cases h
def aM.Qp{K ZJ Z1:ag}{e sz:Nat}{v:V}{rows:List V}(h:aM K ZJ e sz v rows)(hs:aa ZJ Z1):
 ∃WW,bV Z1 e sz v=some (rows,WW)/\∀i,WW=some i->K i=none/\(∃o,ZJ i=some o)/\v=.own i 0 rows.length:=by
 rcases h with⟨rfl,rfl⟩|⟨id,rfl,ho,hk⟩
 .exact⟨none,rfl,λ_ h=>by cases h⟩
 .refine⟨some id,?_,λi h=>by cases h;exact⟨hk,⟨_,ho⟩,rfl⟩⟩;simp only[bV,hs _ _ ho];rw[aq ⟨trivial,trivial,trivial,Xm _⟩,iR]
def aM.UZ{K U:ag}{e sz:Nat}{v:V}{rows:List V}(h:aM K U e sz v rows){WW:Option Nat}(h1:∀i,WW=some i->∀n,v≠.own i 0 n){id:Nat}{o:Ob}(h2:U id=none):aM K (C' (Vc.bz U WW) id o) e sz v rows:=by
 rcases h with h|⟨a,rfl,ho,hk⟩
 .exact .inl h
 .refine .inr ⟨a,rfl,?_,hk⟩;have hai:a≠id:=λe=>by subst e;rw[ho]at h2;cases h2
  rw[Vc.ae hai];cases WW with
  |none=>exact ho
  |some i=>
   have:a≠i:=λe=>h1 i rfl _ (by rw[e]);simp only[Vc.bz];rw[dg this];exact ho
def dO.new{U K:ag}{e sz id n:Nat}{u:V}{rows:List V}(hu:aM K U e sz u rows)(h:U id=none):dO (.own id 0 n) u:=by
 rintro a k b m h1 rfl e;cases h1;subst e;rcases hu with⟨h,_⟩|⟨i,h,h2,_⟩
 .cases h
 .cases h;rw[h]at h2;cases h2
structure SoJ(Z0:ag)(ix:Nat)(p q:List T')(U:ag):Prop where
 row:∃v u,U ix=some ⟨371,2,[.agg [v,u]]⟩/\aM (aX Z0 ix) U 150 7 v (p.map aJ)/\aM (aX Z0 ix) U 150 7 u (q.map aJ)/\dO v u
 sub:aa Z0 U
 no:Z0 ix=none
def Jj{Z0 ZJ ZB Z8:ag}{ix e sz:Nat}{v u:V}{rows rowsU:List V}(hBs:aY ZJ ZB ZJ Z8)(Js:aa Z0 ZJ)(Jn:Z0 ix=none){ox:Ob}(Jx:ZJ ix=some ox)
 (Jv:aM (aX Z0 ix) ZJ e sz v rows)(Ju:aM (aX Z0 ix) ZJ e sz u rowsU)(hap:dO v u):
 ∃WW,bV Z8 e sz v=some (rows,WW)/\∀(id:Nat) (WM:List V) (o':Ob),Z8 id=none->
  ix≠id/\Vc.bz Z8 WW ix=some ox/\aa Z0 (C' (C' (Vc.bz ZJ WW) id ⟨e,sz,WM⟩) ix o')/\aY ZJ ZB (C' (C' (Vc.bz ZJ WW) id ⟨e,sz,WM⟩) ix o') (C' (C' (Vc.bz Z8 WW) id ⟨e,sz,WM⟩) ix o')/\
  aM (aX Z0 ix) (C' (C' (Vc.bz ZJ WW) id ⟨e,sz,WM⟩) ix o') e sz (.own id 0 WM.length) WM/\aM (aX Z0 ix) (C' (C' (Vc.bz ZJ WW) id ⟨e,sz,WM⟩) ix o') e sz u rowsU/\dO (.own id 0 WM.length) u:=by
 obtain⟨WW,Yj,hdA⟩:=Jv.Qp hBs.1;refine⟨WW,Yj,λid WM o' f=>?_⟩;have k2:aX Z0 ix ix≠none:=λh=>(aH.1 h).1 rfl;have dne:∀(i:Nat) (Zx:ag),aX Z0 ix i≠none->Vc.bz Zx WW i=Zx i:=λi Zx hk=>by
  cases WW with
  |none=>rfl
  |some a=>exact dg (λe=>hk (by rw[e];exact(hdA a rfl).1))
 have c8:=hBs.1 _ _ Jx;have m:ix≠id:=al c8 f;have fJ:ZJ id=none:=by
  cases h:ZJ id with
  |none=>rfl
  |some o=>rw[hBs.1 _ _ h]at f;cases f
 have f':Vc.bz Z8 WW id=none:=by
  cases WW with
  |none=>exact f
  |some a=>simp only[Vc.bz,del];split<;>first|rfl|exact f
 have hk:aX Z0 ix id=none:=by
  rw[aH];refine⟨m.symm,?_⟩;cases h:Z0 id with
  |none=>rfl
  |some o=>rw[Js _ _ h]at fJ;cases fJ
 refine⟨m,by rw[dne _ _ k2];exact c8,?_,((hBs.Hd (e:=WW) λi h=>(hdA i h).2.1).new f').set (id:=ix) (o:=ox) (by rw[ae m,dne _ _ k2];exact Jx),?_,?_,dO.new Ju fJ⟩
 .refine aa.av (λi o h=>?_) Jn;have h1:=Js _ _ h;rw[ae (λe=>by subst e;rw[h1]at fJ;cases fJ),dne _ _ (λhk=>by rw[(aH.1 hk).2]at h;cases h)];exact h1
 .exact aM.new rfl (by rw[ae m.symm,af]) hk
 .exact(Ju.UZ (λi h n e=>hap _ _ _ _ (hdA i h).2.2 e rfl) fJ).ae k2
def pA(q:List T')(m:T')(body:Int):Bool:=decide (q≠[]\/m.y+m.h>body)
def MV(p q:List T')(hp:p.length<=1000000)(hq:q.length<=1000000)(f m:T')(body:Int)(hr:WR .i64 (m.y+m.h)){Z0 ZJ ZB:ag}{ix:Nat}(hJ:SoJ Z0 ix p q ZJ)(G':aa ZJ ZB):
 ax prog 295 [.ptr ix 0 0,aJ f,aJ m,vI body] ZB λ_ Z'=>∃Xc,aY ZJ ZB Xc Z'/\SoJ Z0 ix (if pA q m body then p else p++[m]) (if pA q m body then q++[f]else q) Xc:=by
 refine TT.r (by simp[Rx]) ?_;obtain⟨⟨v,u,Jx,Jv,Ju,hap⟩,Js,Jn⟩:=hJ;obtain⟨vc,vs⟩:=Jv.vc;obtain⟨uc,us⟩:=Ju.vc;have ZA:∀f:T',(aJ f).cells=[vI f.node,vI f.side,vI f.anchor,vI f.x,vI f.y,vI f.w,vI f.h]:=λ_=>rfl;have Yu:∀f:T',(aJ f).stays=true:=λ_=>rfl;refine ab.mix 5 ?_;apply sR;simp only[go_sem,seval,Rx,ZA,Yu];rw[bK];intro i5 f5;have hB5:=(aY.refl G').se (o:=⟨150,7,[aJ f]⟩) f5;have a5:C' ZB i5 ⟨150,7,[aJ f]⟩ i5=some ⟨150,7,[aJ f]⟩:=af;generalize X9:C' ZB i5 ⟨150,7,[aJ f]⟩=Z5 at*;simp only[go_sem,seval,ZA,Yu];rw[bK];intro i6 f6;have hB6:=hB5.se (o:=⟨150,7,[aJ m]⟩) f6;have a6:C' Z5 i6 ⟨150,7,[aJ m]⟩ i6=some ⟨150,7,[aJ m]⟩:=af;replace a5:=(ae (o:=⟨150,7,[aJ m]⟩) (al a5 f6)).trans a5;generalize ZX:C' Z5 i6 ⟨150,7,[aJ m]⟩=Z6 at*;have cx:=hB6.1 _ _ Jx;have hlq:cP false u=some (.int .i64 q.length):=by have:=Ju.len;rwa [dd]at this
 have hrq:((q++[f]).map aJ)=q.map aJ++[aJ f]:=by simp
 have hrp:((p++[m]).map aJ)=p.map aJ++[aJ m]:=by simp
 have hql:(q.map aJ).length<=1000000:=by simpa using hq
 have hpl:(p.map aJ).length<=1000000:=by simpa using hp
 have hql0:(q.map aJ).length=q.length:=dd _;rw[aJ]at a5 a6;by_cases hl:pA q m body=true
 .rw[aq hl,aq hl];by_cases hq0:q=[]
  .have q13:((q.length:Int)>0)=False:=by subst hq0;simp
   have qy:(m.y+m.h>body)=True:=by
    simp only[pA,hq0,Zs]at hl;exact WE (hl.resolve_left (by simp))
   simp only[go_sem,seval,cx,hlq,q13,qy,hr,a5,a6];rw[fC];intro i29 f29;have hB7:=hB6.se (o:=⟨150,7,[(V.agg [vI f.node,vI f.side,vI f.anchor,vI f.x,vI f.y,vI f.w,vI f.h])]⟩) f29;have a29:C' Z6 i29 ⟨150,7,[(V.agg [vI f.node,vI f.side,vI f.anchor,vI f.x,vI f.y,vI f.w,vI f.h])]⟩ i29=some ⟨150,7,[(V.agg [vI f.node,vI f.side,vI f.anchor,vI f.x,vI f.y,vI f.w,vI f.h])]⟩:=af;generalize YD:C' Z6 i29 ⟨150,7,[(V.agg [vI f.node,vI f.side,vI f.anchor,vI f.x,vI f.y,vI f.w,vI f.h])]⟩=Z7 at*;obtain⟨WW,Yj,hgr⟩:=Jj hB7 Js Jn Jx Ju Jv hap.symm;generalize q.map aJ=rows at*;have XW:(rows.length+1)*57<=140737488355328:=by omega
   simp only[go_sem,seval,Yj,du a29,XW];rw[fC];intro i30 f30;obtain⟨m30,hx,g1,g2,g3,g4,g5⟩:=hgr i30 (rows++[(V.agg [vI f.node,vI f.side,vI f.anchor,vI f.x,vI f.y,vI f.w,vI f.h])]) ⟨371,2,[.agg [v,.own i30 0 (rows++[(V.agg [vI f.node,vI f.side,vI f.anchor,vI f.x,vI f.y,vI f.w,vI f.h])]).length]]⟩ f30;have y2:C' (Vc.bz Z7 WW) i30 ⟨150,7,rows++[(V.agg [vI f.node,vI f.side,vI f.anchor,vI f.x,vI f.y,vI f.w,vI f.h])]⟩ ix=_:=(ae m30).trans hx;have hll:(rows++[(V.agg [vI f.node,vI f.side,vI f.anchor,vI f.x,vI f.y,vI f.w,vI f.h])]).length=rows.length+1:=by simp
   rw[hll]at g1 g2 g3 g4 g5;simp only[go_sem,seval,y2];refine⟨_,_,aa.refl _,Wk.refl (aa.refl _) _,_,g2,⟨v,_,af,g4,?_,g5.symm⟩,g1,Jn⟩;rw[hrq];exact g3
  .have q13:((q.length:Int)>0)=True:=WE (by have:=py.2 hq0;omega);simp only[go_sem,seval,cx,hlq,q13,a5];rw[fC];intro i29 f29;have hB7:=hB6.se (o:=⟨150,7,[(V.agg [vI f.node,vI f.side,vI f.anchor,vI f.x,vI f.y,vI f.w,vI f.h])]⟩) f29;have a29:C' Z6 i29 ⟨150,7,[(V.agg [vI f.node,vI f.side,vI f.anchor,vI f.x,vI f.y,vI f.w,vI f.h])]⟩ i29=some ⟨150,7,[(V.agg [vI f.node,vI f.side,vI f.anchor,vI f.x,vI f.y,vI f.w,vI f.h])]⟩:=af;generalize YD:C' Z6 i29 ⟨150,7,[(V.agg [vI f.node,vI f.side,vI f.anchor,vI f.x,vI f.y,vI f.w,vI f.h])]⟩=Z7 at*;obtain⟨WW,Yj,hgr⟩:=Jj hB7 Js Jn Jx Ju Jv hap.symm;generalize q.map aJ=rows at*;have XW:(rows.length+1)*57<=140737488355328:=by omega
   simp only[go_sem,seval,Yj,du a29,XW];rw[fC];intro i30 f30;obtain⟨m30,hx,g1,g2,g3,g4,g5⟩:=hgr i30 (rows++[(V.agg [vI f.node,vI f.side,vI f.anchor,vI f.x,vI f.y,vI f.w,vI f.h])]) ⟨371,2,[.agg [v,.own i30 0 (rows++[(V.agg [vI f.node,vI f.side,vI f.anchor,vI f.x,vI f.y,vI f.w,vI f.h])]).length]]⟩ f30;have y2:C' (Vc.bz Z7 WW) i30 ⟨150,7,rows++[(V.agg [vI f.node,vI f.side,vI f.anchor,vI f.x,vI f.y,vI f.w,vI f.h])]⟩ ix=_:=(ae m30).trans hx;have hll:(rows++[(V.agg [vI f.node,vI f.side,vI f.anchor,vI f.x,vI f.y,vI f.w,vI f.h])]).length=rows.length+1:=by simp
   rw[hll]at g1 g2 g3 g4 g5;simp only[go_sem,seval,y2];refine⟨_,_,aa.refl _,Wk.refl (aa.refl _) _,_,g2,⟨v,_,af,g4,?_,g5.symm⟩,g1,Jn⟩;rw[hrq];exact g3
 .rw[ao hl,ao hl];simp only[pA,Zs,not_or,Decidable.not_not]at hl;have q13:((q.length:Int)>0)=False:=by rw[hl.1];simp
  have qy:(m.y+m.h>body)=False:=O' hl.2;simp only[go_sem,seval,cx,hlq,q13,qy,hr,a6];rw[fC];intro i29 f29;have hB7:=hB6.se (o:=⟨150,7,[(V.agg [vI m.node,vI m.side,vI m.anchor,vI m.x,vI m.y,vI m.w,vI m.h])]⟩) f29;have a29:C' Z6 i29 ⟨150,7,[(V.agg [vI m.node,vI m.side,vI m.anchor,vI m.x,vI m.y,vI m.w,vI m.h])]⟩ i29=some ⟨150,7,[(V.agg [vI m.node,vI m.side,vI m.anchor,vI m.x,vI m.y,vI m.w,vI m.h])]⟩:=af;generalize YD:C' Z6 i29 ⟨150,7,[(V.agg [vI m.node,vI m.side,vI m.anchor,vI m.x,vI m.y,vI m.w,vI m.h])]⟩=Z7 at*;obtain⟨WW,Yj,hgr⟩:=Jj hB7 Js Jn Jx Jv Ju hap;generalize p.map aJ=rows at*;have XW:(rows.length+1)*57<=140737488355328:=by omega
  simp only[go_sem,seval,Yj,du a29,XW];rw[fC];intro i30 f30;obtain⟨m30,hx,g1,g2,g3,g4,g5⟩:=hgr i30 (rows++[(V.agg [vI m.node,vI m.side,vI m.anchor,vI m.x,vI m.y,vI m.w,vI m.h])]) ⟨371,2,[.agg [.own i30 0 (rows++[(V.agg [vI m.node,vI m.side,vI m.anchor,vI m.x,vI m.y,vI m.w,vI m.h])]).length,u]]⟩ f30;have y2:C' (Vc.bz Z7 WW) i30 ⟨150,7,rows++[(V.agg [vI m.node,vI m.side,vI m.anchor,vI m.x,vI m.y,vI m.w,vI m.h])]⟩ ix=_:=(ae m30).trans hx;have hll:(rows++[(V.agg [vI m.node,vI m.side,vI m.anchor,vI m.x,vI m.y,vI m.w,vI m.h])]).length=rows.length+1:=by simp
  rw[hll]at g1 g2 g3 g4 g5;simp only[go_sem,seval,y2];refine⟨_,_,aa.refl _,Wk.refl (aa.refl _) _,_,g2,⟨_,u,af,?_,g4,g5⟩,g1,Jn⟩;rw[hrp];exact g3
open Go.Proofs Go.Proofs.Tryz
def aY.from{ZJ U J Xc Z':ag}(h:aY ZJ J Xc Z')(hs:aa U J):aY ZJ U Xc Z':=⟨h.1,λi o h1 h2=>h.2 i o h1 (hs _ _ h2)⟩
def lC(body:Int)(x:List T'×List T')(f m:T'):List T'×List T':=(if pA x.2 m body then x.1 else x.1++[m],if pA x.2 m body then x.2++[f]else x.2)
def dY(top shift:Int)(f:T'):T':={ f with y:=max 0 (f.y-top)+shift }
def jw(top shift body:Int)(L:List T'):List T'×List T':=L.foldl (λx f=>lC body x f (dY top shift f)) ([],[])
def DC(top shift body:Int)(L:List T')(f:T'):jw top shift body (L++[f])=lC body (jw top shift body L) f (dY top shift f):=by
 unfold jw;rw[vz];rfl
def pq(top shift body:Int)(L:List T'):(jw top shift body L).1.length+(jw top shift body L).2.length=L.length:=by
 have key:∀(L:List T') (x:List T'×List T'),(L.foldl (λx f=>lC body x f (dY top shift f)) x).1.length+(L.foldl (λx f=>lC body x f (dY top shift f)) x).2.length=x.1.length+x.2.length+L.length:=by
  intro L
  induction L with
  |nil=>intro x;rfl
  |cons f L ih=>
   intro x;rw[jm,ih];unfold lC;split<;>simp<;>omega
 have:=key L ([],[]);simpa[jw]using this
def sQ(l:List Xv)(s:Xp)(kept:Int):Int:=(XV l s.atom).y+s.done-kept
def cu(l:List Xv)(fl:List T')(s:Xp)(to kept shift body:Int):List T'×List T':=if bS l s then jw (sQ l s kept) shift body (dG fl s to)else([],[])
def Ib(x:Int):(if x>0 then x else 0)=max 0 x:=by split<;>omega
def IH(l:List Xv)(hl:nF l)(fl:List T')(hfl:fl.length<=1000000)(hfo:∀f∈fl,f.ok)(s:Xp)(hd:s.done<=1152921504606846976)(to kept shift body:Int)(hk:-1152921504606846976<=kept/\kept<=2305843009213693952)(hsh:0<=shift/\shift<=1152921504606846976):
 aK prog 242 [aW l,aB fl,aU s,vI to,vI kept,vI shift,vI body] (.WJ [aB (cu l fl s to kept shift body).1,aB (cu l fl s to kept shift body).2]):=λU=>by
 refine Wm.r (by simp[PC]) ?_;have hs:=aa.refl U;have hll:=hl.len;have hsc:(aU s).cells=[vI s.atom,vI s.done,.bool s.free]:=rfl;have hss:(aU s).stays=true:=rfl;refine ab.mix 20 ?_;apply sR;simp only[go_sem,seval,PC,hsc,hss];refine ad λi9 Z9 s9 a9 f9=>?_;replace hs:=hs.trans s9;simp only[go_sem,seval];refine ad λYH Z12 s12 a12 f12=>?_;replace a9:=s12 _ _ a9;replace hs:=hs.trans s12;simp only[go_sem,seval];refine ad λi13 Y13 s13 Yr f13=>?_;replace a9:=s13 _ _ a9;have n1213:=al a12 f13;replace a12:=s13 _ _ a12;have z13:=hs.none f13;replace hs:=hs.trans s13;rw[aU]at a9;simp only[go_sem,seval,a9];refine ab.au rfl rfl rfl (sV l s _) ?_;unfold cu;by_cases hm:bS l s
 .rw[XJ hm,aq hm];obtain⟨h0,h2⟩:=hm.1;obtain⟨k,hkk⟩:∃k:Nat,s.atom=k:=⟨s.atom.toNat,by omega⟩
  have Yn:k<l.length:=by omega
  have U':=λU=>iP (U:=U) Yn;have hy:=hl.rng _ (XI Yn);have hd0:=hm.2.1;have htop:sQ l s kept=l[k].y+s.done-kept:=by rw[sQ,hkk,bg Yn]
  have r1:WR .i64 (l[k].y+s.done):=ai;have r2:WR .i64 (l[k].y+s.done-kept):=ai;have htr:-4611686018427387904<=sQ l s kept/\sQ l s kept<=4611686018427387904:=by rw[htop];omega
  have XH:=oU fl (if s.done>0 then s.atom+1 else s.atom) to;have hcm:∀f∈dG fl s to,f.ok:=λf hf=>hfo f ((tm.1 hf).1);have hca:=IJ fl hfl s (ai) to;have hcl':(dG fl s to).length<=1000000:=jx XH hfl;generalize dG fl s to=L at*;rw[hkk]at a9;apply sR;simp only[go_sem,seval,hkk];refine ad λi16 Z16 s16 a16 f16=>?_;have n916:=al a9 f16;replace a9:=s16 _ _ a9;have n1216:=al a12 f16;replace a12:=s16 _ _ a12;have n1316:=al Yr f16;replace Yr:=s16 _ _ Yr;have z16:=hs.none f16;replace hs:=hs.trans s16;simp only[go_sem,seval,a9,U',cp,r1,r2];refine aS λi17 Y17 s17 a17 f17=>?_;have n917:=al a9 f17;replace a9:=s17 _ _ a9;have n1217:=al a12 f17;replace a12:=s17 _ _ a12;have n1317:=al Yr f17;replace Yr:=s17 _ _ Yr;have n1617:=al a16 f17;replace a16:=s17 _ _ a16;have z17:=hs.none f17;replace hs:=hs.trans s17;simp only[go_sem,seval,a17,a9,ae n917];generalize hq17:C' _ i17 _=Z17;replace a17:=(congrFun hq17 i17).symm.trans af;replace a9:=((congrFun hq17 i9).symm.trans (ae n917)).trans a9;replace a12:=((congrFun hq17 YH).symm.trans (ae n1217)).trans a12;replace Yr:=((congrFun hq17 i13).symm.trans (ae n1317)).trans Yr;replace a16:=((congrFun hq17 i16).symm.trans (ae n1617)).trans a16;replace hs:=Eq.subst (motive:=aa _) hq17 (hs.av z17);clear hq17;rw[aU,hkk]at hca;refine ab.au rfl rfl rfl (hca _) ?_;apply sR;simp only[go_sem,seval];refine ab.au rfl rfl rfl (OM L _) ?_;apply sR;simp only[go_sem,seval];rw[<-htop]at a17;generalize sQ l s kept=top at*;generalize hS:mix 20 _ _=S;have S12:S 12=.ptr YH 0 0:=by rw[<-hS];rfl
  have S13:S 13=.ptr i13 0 0:=by rw[<-hS];rfl
  have S16:S 16=.ptr i16 0 0:=by rw[<-hS];rfl
  have S17:S 17=.ptr i17 0 0:=by rw[<-hS];rfl
  have S39:S 39=.fn 321 [.rp (aB L)]:=by rw[<-hS];rfl
  clear hS;obtain⟨Z0,hY0⟩:∃Z0,Z0=del Z17 i16:=⟨_,rfl⟩
  have d0:∀i,i≠i16->Z0 i=Z17 i:=λi hi=>by rw[hY0];exact dg hi
  have b12:Z0 YH=_:=(d0 _ n1216).trans a12;have b13:Z0 i13=_:=(d0 _ n1316).trans Yr;have b17:Z0 i17=_:=(d0 _ n1617.symm).trans a17;have b16:Z0 i16=none:=by rw[hY0];simp[del]
  have W9:aa U Z0:=λi o h=>by
   rw[d0 i (λe=>by rw[e,z16]at h;cases h)];exact hs _ _ h
  have h16:SoJ Z0 i16 [] [] Z17:=⟨⟨.ay,.ay,a16,aM.start,aM.start,dO.ay _⟩,hY0▸aa.AE _ _,b16⟩
  refine ab.ej (g:=.t 39) (caps:=[.rp (aB L)]) S39 (Gu L hcl') (λy hy=>?_) [] (λpre ZJ=>SoJ Z0 i16 (jw top shift body (L.take pre.length)).1 (jw top shift body (L.take pre.length)).2 ZJ)
   (λ_ _ _=>False) ?_ ?_ ?_ ?_ ?_
  .obtain⟨t,_,rfl⟩:=gM.1 hy;rfl
  .exact h16
  .rintro pre y post ZJ ZB Zw hJ G';obtain⟨f,hf,rfl⟩:=rb Zw;obtain⟨H',hfe⟩:=jn.1 hf;have hlen:(pre++[[aJ f]]).length=pre.length+1:=by simp
   have XB:L.take (pre.length+1)=L.take pre.length++[f]:=by rw[ZS H',hfe]
   have Yn:=pq top shift body (L.take pre.length);have hpl:(L.take pre.length).length<=1000000:=by rw[gO];omega
   rw[hlen,XB,DC];generalize jw top shift body (L.take pre.length)=x at*;have hfo':=hcm f (yk hf);have a12:=G' _ _ (hJ.sub _ _ b12);have Yr:=G' _ _ (hJ.sub _ _ b13);have a17:=G' _ _ (hJ.sub _ _ b17);obtain⟨o1,o2,o3,o4⟩:=hfo';unfold Bq at o1 o2 o3 o4;have q1:WR .i64 (f.y-top):=ai;have q2:WR .i64 (max 0 (f.y-top)+shift):=ai;generalize YY:n9 S [40] [aJ f]=S0;have T12:S0 12=.ptr YH 0 0:=by rw[<-YY];exact S12
   have T13:S0 13=.ptr i13 0 0:=by rw[<-YY];exact S13
   have T16:S0 16=.ptr i16 0 0:=by rw[<-YY];exact S16
   have T17:S0 17=.ptr i17 0 0:=by rw[<-YY];exact S17
   have T40:S0 40=.agg [vI f.node,vI f.side,vI f.anchor,vI f.x,vI f.y,vI f.w,vI f.h]:=by rw[<-YY];rfl
   clear YY;have hs:=aa.refl ZB;refine ab.mix 20 ?_;apply sR;simp only[go_sem,seval];refine ad λi18 Z18 s18 a18 f18=>?_;have n1218:=al a12 f18;replace a12:=s18 _ _ a12;have n1318:=al Yr f18;replace Yr:=s18 _ _ Yr;have n1718:=al a17 f18;replace a17:=s18 _ _ a17;have z18:=hs.none f18;replace hs:=hs.trans s18;simp only[go_sem,seval,a18,T40];generalize hq18:C' _ i18 _=Y18;replace a18:=(congrFun hq18 i18).symm.trans af;replace a12:=((congrFun hq18 YH).symm.trans (ae n1218)).trans a12;replace Yr:=((congrFun hq18 i13).symm.trans (ae n1318)).trans Yr;replace a17:=((congrFun hq18 i17).symm.trans (ae n1718)).trans a17;replace hs:=Eq.subst (motive:=aa _) hq18 (hs.av z18);clear hq18;apply sR;simp only[go_sem,seval,a18];refine ad λi19 Z19 s19 a19 f19=>?_;have n1819:=al a18 f19;replace a18:=s19 _ _ a18;have n1219:=al a12 f19;replace a12:=s19 _ _ a12;have n1319:=al Yr f19;replace Yr:=s19 _ _ Yr;have n1719:=al a17 f19;replace a17:=s19 _ _ a17;have z19:=hs.none f19;replace hs:=hs.trans s19;simp only[go_sem,seval,a19,a18,a17,a12,Yr,T12,T13,T17,ae n1819,ae n1719,ae n1219,ae n1319,q1,q2,Ib];generalize hq19:C' _ i19 _=Y19;replace a19:=(congrFun hq19 i19).symm.trans af;replace a18:=((congrFun hq19 i18).symm.trans (ae n1819)).trans a18;replace a12:=((congrFun hq19 YH).symm.trans (ae n1219)).trans a12;replace Yr:=((congrFun hq19 i13).symm.trans (ae n1319)).trans Yr;replace a17:=((congrFun hq19 i17).symm.trans (ae n1719)).trans a17;replace hs:=Eq.subst (motive:=aa _) hq19 (hs.av z19);clear hq19;have hc:=MV x.1 x.2 (by omega) (by omega) f (dY top shift f) body (ai (by simp only[dY];omega) (by simp only[dY];omega)) hJ (G'.trans hs);rw[<-T16]at hc;refine ab.call rfl rfl rfl hc ?_;rintro-Z2 ⟨Xc,hB,YL⟩;apply sR;simp only[go_sem,seval];exact⟨_,hB.from hs,YL⟩
  .rintro Z' hJ;have XU:(L.map λf=>[aJ f]).length=L.length:=by simp
   rw[XU,iR]at hJ;obtain⟨⟨v,u,Jx,Jv,Ju,_⟩,Js,Jn⟩:=hJ;obtain⟨vc,vs⟩:=Jv.vc;obtain⟨uc,us⟩:=Ju.vc;refine ab.mix 20 ?_;apply sR;simp only[go_sem,seval,S16,Jx];have WY:=W9.trans Js;have hK:aa U (aX Z0 i16):=λi o hh=>by
    rw[aX,ao (λe=>by rw[e,z16]at hh;cases hh)];exact W9 _ _ hh
   exact⟨_,U,WY,Wk.WJ (vs':=[aB (jw top shift body L).1,aB (jw top shift body L).2]) ⟨Jv.wk hK WY,Ju.wk hK WY,trivial⟩,rfl,rfl⟩
  .intro id h;cases h
  .rintro pre Z' _ ⟨⟩
 .rw[Xr hm,ao hm];apply sR;simp only[go_sem,seval];exact⟨_,U,hs,Wk.WJ (vs':=[aB [],aB []]) ⟨Wk.ay 7,Wk.ay 7,trivial⟩,rfl,rfl⟩
variable {P:Program} {n:Nat} {st:St} {Q:St->Prop} {k:List It} {I:Mu} {w:World}
def KY{o:Op}{sz:Nat}{xs:List VX}(h:WX P n o=.more (.cpy sz) xs):∃x y t e args argTypes,o=.call { callee:=.builtin .copy,args:=args,argTypes:=argTypes }/\
 args=#[x,y]/\argTypes[0]?=some t/\P.underlying t=some (.slice e)/\bO P e=true/\P.cellsOf e=sz/\xs=[cx n x,cx n y]:=by
 cases o
 case call c=>
  obtain⟨callee,args,argTypes⟩:=c;cases callee
  case builtin b=>
   cases b
   case copy=>
    simp only[WX,cy]at h;split at h
    .rename_i x y t h1 h2;split at h
     .rename_i e he;split at h
      .rename_i hz;simp only[W5.more.injEq,MOp.cpy.injEq]at h;exact⟨x,y,t,e,args,argTypes,rfl,by apply Array.ext';simpa using h1,h2,he,hz,h.1,h.2.symm⟩
      .cases h
     .cases h
    .cases h
   all_goals (simp only[WX,cy]at h;(repeat' split at h)<;>cases h)
  all_goals (simp only[WX,cy]at h;(repeat' split at h)<;>cases h)
 case unOp op t x=>cases op<;>simp only[WX,cy]at h<;>cases h
 case makeFunc f a b=>cases f<;>simp only[WX,cy]at h<;>(repeat' split at h)<;>cases h
 all_goals (simp only[WX,cy]at h;(repeat' split at h)<;>cases h)
def GZ{F:Fr}{a:Act}(hs:cQ F I st a w){o:Oper}{x y:Operand}{t e:TypeId}{args:Array Operand}{argTypes:Array TypeId}
 (hoo:o.op=.call { callee:=.builtin .copy,args:=args,argTypes:=argTypes })(harg:args=#[x,y])(hty:argTypes[0]?=some t)
 (ht:P.underlying t=some (.slice e))(hk:bO P e=true){id off len:Nat}(h1:(cx F.n x).ev st.s=.own id off len){ob:Ob}(h2:st.U id=some ob)
 (h3:ob.sz=P.cellsOf e)(h4:off+len<=ob.rows.length){rows:List V}(h5:bI st.U (P.cellsOf e) ((cx F.n y).ev st.s)=some rows)(h6:rows.length=len):
 ∃y w',(execOp a.eval o).run P w=.ok (.value y) w'/\
  cQ F I ⟨aQ st.s (o.dst.filter (·<F.n)) (.int .i64 len),C' st.U id { ob with rows:=ob.rows.take off++rows++ob.rows.drop (off+len) }⟩ (a.put o.dst y) w':=by
 have Ye:=(dz hk).2.2;have R:=bU hs;have hx:=R x;rw[h1]at hx;simp only[E']at hx;obtain⟨news,hY,n1,n2,n3,n4,n5⟩:=pC (P:=P) hs.sat Ye h5 (R y);have Xi:∀v w',(Builtin.copy_ argTypes o.type #[a.eval x,a.eval y]).run P w=.ok v w'->(execOp a.eval o).run P w=.ok (.value v) w':=by
  intro v w' hw';unfold execOp;rw[hoo];simp[resolve,invoke,Go.builtin,harg,hw']
 have Zn:E' I (az I st.U) w (.int .i64 len) (goInt len):=by simp only[E'];rfl
 have hcopy:∀b c,a.eval x=.slice b len c->(Builtin.copy_ argTypes o.type #[a.eval x,a.eval y]).run P w=((match b with|some q=>storeCells q news 0|none=>pure ()).run P w).andThen λ_ w'=>.ok (goInt len) w':=by
  intro b c hX;have hlen:=hY w;have ZA:=n5 w (λ_ _ _ h=>h);rw[h6]at hlen ZA;rw[hX];have hm:Nat.min len len=len:=Nat.min_self len;cases b
  .simp[Builtin.copy_,hty,run_underlying ht,hlen,hm,cc hk,ZA]
  .simp[Builtin.copy_,hty,run_underlying ht,hlen,hm,cc hk,ZA]
 have hzero:len=0->∃y w',(execOp a.eval o).run P w=.ok (.value y) w'/\
  cQ F I ⟨aQ st.s (o.dst.filter (·<F.n)) (.int .i64 len),C' st.U id { ob with rows:=ob.rows.take off++rows++ob.rows.drop (off+len) }⟩ (a.put o.dst y) w':=by
  intro h0;subst h0;have hX:∃b c,a.eval x=.slice b 0 c:=by
   split at hx
   .exact hx.elim
   .exact⟨_,_,hx.1⟩
   .obtain⟨o',c,h,_⟩:=hx;exact⟨_,_,h⟩
  obtain⟨b,c,hX⟩:=hX;obtain rfl:rows=[]:=rF h6;obtain rfl:news=[]:=rF (by simpa using n4);have WY:C' st.U id { ob with rows:=ob.rows.take off++[]++ob.rows.drop (off+0) }=st.U:=by
   funext j;simp only[C',lO,Nat.add_zero,uR];split
   .rename_i e';rw[e',h2]
   .rfl
  rw[WY];refine⟨goInt 0,w,Xi _ w ?_,hs.pure Zn⟩;rw[hcopy b c hX];cases b<;>simp[storeCells]
 split at hx
 .exact hx.elim
 .exact hzero hx.2.2
 .rename_i b szb cap P';obtain⟨o',c,hX,c1,c2,c3,hz0⟩:=hx;by_cases h0:len=0
  .exact hzero h0
  have Xz:=hs.sat.obj id ob h2;rw[P']at Xz;obtain⟨cur,e1,e2,e3,e4,e5,e6,e7⟩:=Xz.plain hz0;obtain⟨g1,xs,g2,g3,g4,g5⟩:=e7.cur e1;have hoff:o'=off*szb:=by
   rcases c3 with c3|c3
   .exact c3
   .omega
  subst hoff;have WT:szb=P.cellsOf e:=by omega
  subst WT;have hbound:off*P.cellsOf e+len*P.cellsOf e<=ob.rows.length*P.cellsOf e:=by rw[<-Nat.add_mul];exact Nat.mul_le_mul_right _ h4
  have hbound2:ob.rows.length*P.cellsOf e<=cap*P.cellsOf e:=Nat.mul_le_mul_right _ e5;rw[h6]at n4;have WY:=run_storeCells_at P b (off*P.cellsOf e) ob.elem news 0 cur w e1 (by rw[n4];omega) n3;simp only[Nat.add_zero]at WY;refine⟨goInt len,w.setRow b (cur.toList.take (off*P.cellsOf e)++news++cur.toList.drop (off*P.cellsOf e+news.length)).toArray,Xi _ _ ?_,?_⟩
  .rw[hcopy _ c hX];simp only[WY,Result.andThen_ok]
  .have hgrow:w.grownBy (w.setRow b (cur.toList.take (off*P.cellsOf e)++news++cur.toList.drop (off*P.cellsOf e+news.length)).toArray) (some b):=
    ⟨rfl,rfl,rfl,by simp,λkk _ hkk=>setRow_other w b kk _ (λe=>hkk (by rw[e]))⟩
   have hrows':∀q∈ob.rows.take off++rows++ob.rows.drop (off+len),q.cells.length=P.cellsOf e:=by
    intro q hq;simp only[dD]at hq;rcases hq with(hq|hq)|hq
    .exact g1 q (qp hq)
    .exact n1 q hq
    .exact g1 q (List.mem_of_mem_drop hq)
   have hflat:flat (ob.rows.take off++rows++ob.rows.drop (off+len))=
    (flat ob.rows).take (off*P.cellsOf e)++flat rows++(flat ob.rows).drop (off*P.cellsOf e+len*P.cellsOf e):=by
    rw[ic,ic,sD g1];congr 1;rw[yT g1,Nat.add_mul]
   have hch:=hs.sat.change h2 P' (by omega) hgrow _ (ob.rows.take off++rows++ob.rows.drop (off+len)) (xs.take (off*P.cellsOf e)++news++xs.drop (off*P.cellsOf e+news.length))
    (setRow_heap w b cur _ ob.elem _ e1) (by simp only[List.size_toArray,iz,gO,oG,n4];rw[Array.length_toList];omega) (by simp;omega) hrows'
    (by rw[hflat,n4];exact((g2.take _).append n2).append (g2.drop _))
    (by intro u hu
        simp only[dD]at hu;rcases hu with(hu|hu)|hu
        .exact g3 u (qp hu)
        .exact n3 u hu
        .exact g3 u (List.mem_of_mem_drop hu))
    (by intro j u hu
        have:=lJ cur.toList xs _ g5 (off*P.cellsOf e) (by rw[n4,g4];omega) j u hu;simpa using this)
   exact hs.step hch.1 (cI.refl _) hch.2 (by simp) (by simp only[E'];rfl)
def ab.cpy{i:aD}{l:List aD}{sz:Nat}{xa xb:VX}(hw:aZ st.s i.g=some true)(ho:i.op=.more (.cpy sz) [xa,xb])
 {id off len:Nat}(h1:xa.ev st.s=.own id off len){ob:Ob}(h2:st.U id=some ob)(h3:ob.sz=sz)(h4:off+len<=ob.rows.length){rows:List V}(h5:bI st.U sz (xb.ev st.s)=some rows)(h6:rows.length=len)
 (h:ab P n (.ops l::k) ⟨aQ st.s i.dst (.int .i64 len),C' st.U id { ob with rows:=ob.rows.take off++rows++ob.rows.drop (off+len) }⟩ Q):ab P n (.ops (i::l)::k) st Q:=by
 refine ab.ins (by rw[ho];simp) hw λF hn I a w o all hi hs next Q' WK=>?_
 subst hn;obtain⟨WN,hd⟩:=cW hi;rw[ho]at WN;obtain⟨x,y,t,e,args,argTypes,g1,g2,g3,g4,g5,rfl,Zw⟩:=KY WN;simp only[List.cons.injEq,and_true]at Zw;obtain⟨rfl,rfl⟩:=Zw;obtain⟨y,w',hx,WT⟩:=GZ hs g1 g2 g3 g4 g5 h1 h2 h3 h4 h5 h6;unfold Oper.wp;rw[hx];refine WK _ _ _ ⟨I,?_⟩ h;rw[<-hd];exact WT
open Go.Proofs Go.Proofs.Tryz
def cC(body:Int):List T'->Int->List T'×List T'×Int
 |[],sh=>([],[],sh)
 |f::r,sh=>if sh+min f.h body>body then([],f::r,sh)else({ f with y:=sh,h:=min f.h body }::(cC body r (sh+min f.h body)).1,(cC body r (sh+min f.h body)).2)
def sq{P:List T'}{j:Nat}(h:j<=P.length):∀U,eK U 7 (aB P) (some (.int .i64 j)) none none=some (aB (P.drop j)):=λU=>by
 have h1:(j:Int)<=P.length:=by omega
 simp only[aB,eK,bX,dd];rw[aq ⟨by omega,h1,Int.le_refl _,Int.le_refl _,trivial⟩,fc,fc,<-List.map_drop,lg (by simp)]
def Jb(P:List T')(hP:P.length<=1000000)(body:Int)(hb0:1<=body)(hb1:body<=1099511627776)(hh:∀f∈P,0<=f.h):
 aK prog 117 [aB P,vI body] (.WJ [aB (cC body P 0).1,aB (cC body P 0).2.1,vI (cC body P 0).2.2]):=λU=>by
 refine Wt.r (by simp[Qv]) ?_;have hs:=aa.refl U;have hlp:=fM P;refine ab.mix 13 ?_;apply sR;simp only[go_sem,seval,Qv,hlp];refine ab.eG (λst=>∃p q sh,cC body P 0=(p,q,sh)/\aa U st.U/\aM U st.U 150 7 (st.s 4) (p.map aJ)/\aM U st.U 150 7 (st.s 5) (q.map aJ)/\st.s 6=vI sh)
  (λm st=>∃(j:Nat) (acc:List T') (sh:Int),j<=P.length/\m=P.length-j/\acc.length=j/\cC body P 0=(acc++(cC body (P.drop j) sh).1,(cC body (P.drop j) sh).2)/\0<=sh/\sh<=body/\aa U st.U/\aM U st.U 150 7 (st.s 4) (acc.map aJ)/\st.s 5=.ay/\st.s 6=vI sh/\st.s 0=aB P/\st.s 1=vI body/\st.s 10=aB P/\st.s 11=vI P.length/\st.s 12=vI j) P.length ?_ ?_ ?_
 .exact⟨0,[],0,by omega,rfl,rfl,rfl,by omega,by omega,hs,aM.start,rfl,rfl,rfl,rfl,rfl,rfl,rfl⟩
 .clear hs;rintro m ⟨S,J⟩ ⟨j,acc,sh,hj,rfl,Zh,heq,h0,h1,hs,ho,t5,t6,t0,t1,t10,t11,t12⟩;simp only at hs ho t5 t6 t0 t1 t10 t11 t12;generalize hv4:S 4=v4 at ho;refine ab.mix 13 ?_;by_cases H':j<P.length
  .have q:((j:Int)<P.length)=True:=WE;have U':=λU=>j2 (U:=U) H';have hf0:=hh _ (XI H');have hd:P.drop j=P[j]::P.drop (j+1):=gF H';have hfl:aJ P[j]=.agg [vI P[j].node,vI P[j].side,vI P[j].anchor,vI P[j].x,vI P[j].y,vI P[j].w,vI P[j].h]:=rfl;rw[hd,cC]at heq;generalize P[j]=f at*;have hsY:=hs;replace hs:=aa.refl J;have r1:WR .i64 ((j:Int)+1):=ai;have r2:WR .i64 (sh+min f.h body):=ai;apply sR;simp only[go_sem,seval,t10,t11,t12,q,U',hfl];refine ad λi8 Z8 s8 a8 f8=>?_;have z8:=hs.none f8;replace hs:=hs.trans s8;simp only[go_sem,seval,a8];generalize Yf:C' _ i8 _=Y8;replace a8:=(congrFun Yf i8).symm.trans af;replace hs:=Eq.subst (motive:=aa _) Yf (hs.av z8);clear Yf;refine ad λi9 Z9 s9 a9 f9=>?_;have n89:=al a8 f9;replace a8:=s9 _ _ a8;have z9:=hs.none f9;replace hs:=hs.trans s9;simp only[go_sem,seval,a9,cK];generalize XQ:C' _ i9 _=Y9;replace a9:=(congrFun XQ i9).symm.trans af;replace a8:=((congrFun XQ i8).symm.trans (ae n89)).trans a8;replace hs:=Eq.subst (motive:=aa _) XQ (hs.av z9);clear XQ;refine ab.uH (by kernel_rfl) [0,1,2,3,4,5,6,7,8] [[],[],[1],[],[1,2,3],[0],[0,5],[0,1,2,3,4,5,6],[0,1,2,3,4,5,6,7]] [0,2,4,6,8,10,12,5,14,16] (by kernel_rfl) (by kernel_rfl) ?_;refine RE.XG (n:=0) [5,14,16] [0,2,4,6,8,10,12] [⟨(.some 18),(.W1 (.t 6)),.none⟩,⟨(.some 19),(.W7 .false 6 1 (.t 8)),.none⟩,⟨(.some 20),(.load .false 1 (.t 19)),.none⟩,⟨(.some 21),(.W1 (.t 1)),.none⟩,⟨(.some 22),(.minmax .false (.t 20) (.t 21)),.none⟩,⟨(.some 23),(.W7 .false 4 1 (.t 9)),.none⟩,⟨.none,(.store 1 (.t 23) (.t 18)),.none⟩] rfl rfl ?_;apply sG;simp only[go_sem,seval,a9,a8,t6,t1,gT];refine RE.X2 rfl rfl rfl rfl rfl trivial (by simp only[go_sem,seval,a8,ae n89]) ?_;refine RE.XG (n:=0) [] [14,16] [⟨(.some 24),(.W7 .false 6 1 (.t 9)),.none⟩,⟨.none,(.store 1 (.t 24) (.t 22)),.none⟩] rfl rfl ?_;apply sG;simp only[go_sem,seval];generalize XQ:C' _ i9 _=Y9;replace a9:=(congrFun XQ i9).symm.trans af;replace a8:=((congrFun XQ i8).symm.trans (ae n89)).trans a8;replace hs:=Eq.subst (motive:=aa _) XQ (hs.av z9);clear XQ;by_cases hgt:sh+min f.h body>body
   .have q1:(sh+min f.h body>body)=True:=WE hgt;rw[aq hgt]at heq;have r3:WR .i64 ((P.length:Int)-j):=ai;apply sR;simp only[go_sem,seval,a9,t0,t1,hlp,r2,q1,r3];obtain⟨n,hn⟩:∃n:Nat,n=P.length-j:=⟨_,rfl⟩
    have hnj:(P.length:Int)-j=(n:Int):=by omega
    rw[hnj];have hbm:(0:Int)<=n/\(n:Int).toNat*57<=140737488355328:=by omega
    simp only[go_sem,seval,hbm];refine ad λi36 Z36 s36 a36 f36=>?_;have hsl:=sq hj;simp only[BB,seval,bf,ez,aF,t0,hsl,fc];have hnl:(P.drop j).length=n:=by rw[oG,hn]
    refine ab.cpy (id:=i36) (off:=0) (len:=n) (rows:=(P.drop j).map aJ) rfl rfl rfl a36 rfl (by simp) rfl (by rw[dd,hnl]) ?_;have hrw:(List.replicate (n:Int).toNat (V.agg [vI 0,vI 0,vI 0,vI 0,vI 0,vI 0,vI 0])).take 0++(P.drop j).map aJ++(List.replicate (n:Int).toNat (V.agg [vI 0,vI 0,vI 0,vI 0,vI 0,vI 0,vI 0])).drop (0+n)=(P.drop j).map aJ:=by
     generalize (P.drop j).map aJ=X;simp
    rw[hrw];apply sR;simp only[go_sem,seval,t6,hv4];have WY:=(hsY.trans (hs.trans s36)).av (o:=⟨150,7,(P.drop j).map aJ⟩) ((hsY.trans hs).none f36);refine⟨acc,P.drop j,sh,?_,WY,?_,?_,rfl⟩
    .rw[heq,lO,hd]
    .exact ho.mono ((hs.trans s36).av (hs.none f36))
    .exact aM.new (by rw[dd,hnl]) af ((hsY.trans hs).none f36)
   .have q1:(sh+min f.h body>body)=False:=O' hgt;rw[ao hgt]at heq;apply sR;simp only[go_sem,seval,a9,t1,hv4,r2,q1];refine ad λi44 Z44 s44 a44 f44=>?_;obtain⟨WW,Yj,X7,hd1,hd2⟩:=ho.Ey (hs.trans s44);have hlm:(acc.map aJ).length=j:=by rw[dd,Zh]
    have XW:(j+1)*57<=140737488355328:=by omega
    simp only[go_sem,seval,Yj,du a44,hlm,XW];refine eF λi45 Z45 s45 a45 f45=>?_;have b9:=s45 _ _ ((hd2 i9 z9 Z44).trans (s44 _ _ a9));have k45:=(X7 U (aa.refl _) Z44 (hsY.trans (hs.trans s44))).trans s45;have n45:U i45=none:=(hsY.trans (hs.trans s44)).none f45;simp only[go_sem,seval,t0,t1,t5,t6,t10,t11,t12,b9,r1,r2];refine⟨_,?_,j+1,acc++[{ f with y:=sh,h:=min f.h body }],sh+min f.h body,by omega,rfl,by simp[Zh],?_,by omega,by omega,k45,?_,by simp⟩
    .omega
    .rw[heq,my];rfl
    .rw[gB];exact aM.new (by simp[Zh]) a45 n45
  .have q:((j:Int)<P.length)=False:=O';have Yq:j=P.length:=by omega
   rw[Yq,zN,cC,lO]at heq;apply sR;simp only[go_sem,seval,t5,t6,t11,t12,hv4,q];exact⟨acc,[],sh,heq,hs,hv4▸ho,aM.start,rfl⟩
 .rintro⟨S,J⟩ ⟨p,q,sh,heq,hs,ho,hu,t6⟩;simp only at hs ho hu t6;generalize hv4:S 4=v4 at ho;generalize hv5:S 5=v5 at hu;refine ab.mix 13 ?_;apply sR;simp only[go_sem,seval,hv4,hv5,t6];rw[heq];exact⟨_,U,hs,Wk.WJ (vs':=[aB p,aB q,vI sh]) ⟨ho.wk (aa.refl _) hs,hu.wk (aa.refl _) hs,Wk.refl hs _,trivial⟩,rfl,rfl⟩
open Go.Proofs Go.Proofs.Tryz
structure Bk where
 nodes:List Nd
 (w h:Int)
 atoms:List Xv
 M':List T'
 WG:Int
 L':List YJ
def bc(b:Bk):V:=.agg [aC b.nodes,vI b.w,vI b.h,aW b.atoms,aB b.M',vI b.WG,bh b.L']
structure Wx where
 WQ:V
 (high body:Int)
 s:Xp
 kind:Int
 (hs fs ls:List Xs)
 shift:Int
def di(b:Bk)(x:Wx)(vh vf vl:V):Ob:=⟨219,13,[.agg [x.WQ,vI x.high,vI x.body,.rp (bc b),vI x.s.atom,vI x.s.done,.bool x.s.free,vI 0,vI x.kind,vh,vf,vl,vI x.shift]]⟩
structure Zr(b:Bk)(K:ag)(ix:Nat)(x:Wx)(U:ag)(vh vf vl:V):Prop where
 row:U ix=some (di b x vh vf vl)
 oh:aM (aX K ix) U 63 7 vh (x.hs.map bl)
 of:aM (aX K ix) U 63 7 vf (x.fs.map bl)
 ol:aM (aX K ix) U 63 7 vl (x.ls.map bl)
 hf:dO vh vf
 hl:dO vh vl
 fl:dO vf vl
 sub:aa K U
 no:K ix=none
def Zr.mono{b:Bk}{K:ag}{ix:Nat}{x:Wx}{U J:ag}{vh vf vl:V}(h:Zr b K ix x U vh vf vl)(hs:aa U J):Zr b K ix x J vh vf vl:=
 ⟨hs _ _ h.row,h.oh.mono hs,h.of.mono hs,h.ol.mono hs,h.hf,h.hl,h.fl,h.sub.trans hs,h.no⟩
def y6{K Z8:ag}{ix e sz:Nat}{v:V}{rows:List V}(Js:aa K Z8)(Jn:K ix=none){ox:Ob}(Jx:Z8 ix=some ox)(Jv:aM (aX K ix) Z8 e sz v rows):
 ∃WW,bV Z8 e sz v=some (rows,WW)/\∀(Z9:ag) (id:Nat) (WM:List V),aa (Vc.bz Z8 WW) Z9->Z9 id=some ⟨e,sz,WM⟩->Z8 id=none->
  Z9 ix=some ox/\∀o',aa K (C' Z9 ix o')/\aM (aX K ix) (C' Z9 ix o') e sz (.own id 0 WM.length) WM/\
  ∀u rowsU,aM (aX K ix) Z8 e sz u rowsU->dO v u->aM (aX K ix) (C' Z9 ix o') e sz u rowsU/\dO (.own id 0 WM.length) u:=by
 obtain⟨WW,Yj,hdA⟩:=Jv.Qp (aa.refl Z8);have k2:aX K ix ix≠none:=λh=>(aH.1 h).1 rfl;have dne:∀(i:Nat),aX K ix i≠none->Vc.bz Z8 WW i=Z8 i:=λi hk=>by
  cases WW with
  |none=>rfl
  |some a=>exact dg (λe=>hk (by rw[e];exact(hdA a rfl).1))
 refine⟨WW,Yj,λZ9 id WM hs9 h9 f=>⟨hs9 _ _ ((dne _ k2).trans Jx),λo'=>⟨?_,?_,λu rowsU hu hap=>⟨?_,dO.new hu f⟩⟩⟩⟩
 .refine aa.av (λi o h=>hs9 _ _ ((dne _ (λhk=>?_)).trans (Js _ _ h))) Jn;rw[(aH.1 hk).2]at h;cases h
 .have m:id≠ix:=λe=>by rw[e,Jx]at f;cases f
  refine aM.new rfl ((ae m).trans h9) (aH.2 ⟨m,?_⟩);exact Js.none f
 .rcases hu with h|⟨a,rfl,h1,h2⟩
  .exact .inl h
  .refine .inr ⟨a,rfl,(ae (aH.1 h2).1).trans (hs9 _ _ ?_),h2⟩;cases hA:WW with
   |none=>exact h1
   |some i=>
    have:a≠i:=λe=>hap _ _ _ _ (hdA i hA).2.2 rfl e.symm;simp only[Vc.bz];rw[dg this];exact h1
def mG(high:Int)(f:T'):Xs:=⟨f.node,-1,0,f.x,f.y+high,f.w,f.h⟩
def Wx.put(x:Wx)(l:List T'):Wx:={ x with ls:=x.ls++l.map (mG x.high) }
def pt(b:Bk)(l:List T')(hl:l.length<=1000000)(x:Wx)(hx:x.ls.length<=1000000)(hr:∀f∈l,WR .i64 (f.y+x.high)){K U:ag}{i1:Nat}{vh vf vl:V}(hJ:Zr b K i1 x U vh vf vl):
 ax prog 118 [.ptr i1 0 0,aB l] U λ_ Z'=>∃vl',Zr b K i1 (x.put l) Z' vh vf vl':=by
 refine VT.r (by simp[O1]) ?_;have hln:=fM l;obtain⟨ch,sh⟩:=hJ.oh.vc;obtain⟨cf,sf⟩:=hJ.of.vc;refine ab.mix 9 ?_;apply sR;simp only[go_sem,seval,O1,hln];refine ab.loop (λm st=>∃(j:Nat) (vl':V),j<=l.length/\m=l.length-j/\Zr b K i1 (x.put (l.take j)) st.U vh vf vl'/\st.s 0=.ptr i1 0 0/\st.s 6=aB l/\st.s 7=vI l.length/\st.s 8=vI j) l.length ?_ ?_
 .exact⟨0,vl,by omega,rfl,by simpa[Wx.put]using hJ,rfl,rfl,rfl,rfl⟩
 .rintro m ⟨S,J⟩ ⟨j,vl',hj,rfl,hJ,t0,t6,t7,t8⟩;simp only at hJ t0 t6 t7 t8;refine ab.mix 9 ?_;by_cases H':j<l.length
  .have q:((j:Int)<l.length)=True:=WE;have U':=λU=>j2 (U:=U) H';have hfl:aJ l[j]=.agg [vI l[j].node,vI l[j].side,vI l[j].anchor,vI l[j].x,vI l[j].y,vI l[j].w,vI l[j].h]:=rfl;have XB:l.take (j+1)=l.take j++[l[j]]:=ZS H';have hput:x.put (l.take (j+1))={ x.put (l.take j)with ls:=(x.put (l.take j)).ls++[mG x.high l[j]] }:=by
    rw[XB];simp only[Wx.put,gB,eo,List.map_nil,my]
   have r0:=hr _ (XI H');have r1:WR .i64 ((j:Int)+1):=ai;have hyl:((x.put (l.take j)).ls.map bl).length<=2000000:=by simp[Wx.put];omega
   have hyh:(x.put (l.take j)).high=x.high:=rfl;rw[<-hyh]at hput r0;generalize l[j]=f at*;generalize x.put (l.take j)=y at*;have hs:=aa.refl J;have a1:=hJ.row;rw[di]at a1;obtain⟨cl,sl⟩:=hJ.ol.vc;apply sR;simp only[go_sem,seval,t6,t7,t8,q,U',hfl];refine ad λi5 Z5 s5 a5 f5=>?_;have n15:=al a1 f5;replace a1:=s5 _ _ a1;have z5:=hs.none f5;replace hs:=hs.trans s5;simp only[go_sem,seval,a5,a1,t0,ae n15,r0];generalize X9:C' _ i5 _=Y5;replace a5:=(congrFun X9 i5).symm.trans af;replace a1:=((congrFun X9 i1).symm.trans (ae n15)).trans a1;replace hs:=Eq.subst (motive:=aa _) X9 (hs.av z5);clear X9;refine aS λi35 Z35 s35 a35 f35=>?_;have hJ5:=hJ.mono (hs.trans s35);obtain⟨WW,Yj,hgr⟩:=y6 hJ5.sub hJ5.no hJ5.row hJ5.ol;generalize hrw:y.ls.map bl=rows at*;have XW:(rows.length+1)*57<=140737488355328:=by omega
   simp only[go_sem,seval,Yj,du a35,XW];refine ku λi36 Z36 s36 a36 f36=>?_;obtain⟨b1,hg⟩:=hgr Z36 i36 _ s36 a36 f36;rw[di]at b1;obtain⟨g1,g2,g3⟩:=hg (di b { y with ls:=y.ls++[mG y.high f] } vh vf (.own i36 0 (rows.length+1)));simp only[go_sem,seval,b1,t0,t6,t7,t8,r1];refine⟨_,?_,j+1,.own i36 0 (rows.length+1),by omega,rfl,?_,by simp⟩
   .omega
   .rw[hput];obtain⟨k1,k2⟩:=g3 _ _ hJ5.oh hJ5.hl.symm;obtain⟨k3,k4⟩:=g3 _ _ hJ5.of hJ5.fl.symm;rw[iz]at g2 k2 k4;refine⟨af,k1,k3,?_,hJ.hf,k2.symm,k4.symm,g1,hJ.no⟩;show aM _ _ _ _ _ ((y.ls++[mG y.high f]).map bl);rw[gB,hrw];exact g2
  .have q:((j:Int)<l.length)=False:=O';have Yq:j=l.length:=by omega
   rw[Yq,iR]at hJ;apply sR;simp only[go_sem,seval,t7,t8,q];exact⟨_,_,aa.refl _,Wk.refl (aa.refl _) _,vl',hJ⟩
open Go.Proofs Go.Proofs.Tryz
structure BkOk(b:Bk):Prop where
 Xg:nF b.atoms
 tight:∀a∈b.atoms,-18014398509481984<=a.y/\a.y<=18014398509481984/\0<=a.h/\a.h<=18014398509481984
 len:b.atoms.length<=900000
 Zi:b.M'.length<=1000000
 flo:∀f∈b.M',f.ok
 brk:b.L'.length=b.atoms.length+1
structure XE where
 s:Xp
 bx:List T'
def bC(x:XE):V:=.agg [vI x.s.atom,vI x.s.done,.bool x.s.free,aB x.bx]
def GP{top shift body:Int}:∀{L:List T'} {m:T'},m∈(jw top shift body L).1->∃f∈L,m=dY top shift f:=by
 have key:∀(L L0:List T') (x:List T'×List T'),(∀m∈x.1,∃f∈L0,m=dY top shift f)->∀m∈(L.foldl (λx f=>lC body x f (dY top shift f)) x).1,∃f∈L0++L,m=dY top shift f:=by
  intro L
  induction L with
  |nil=>intro L0 x h m hm;simpa using h m hm
  |cons f L ih=>
   intro L0 x h m hm;rw[jm]at hm;have:=ih (L0++[f]) _ (λm hm=>?_) m hm
   .simpa using this
   .unfold lC at hm;simp only at hm;split at hm
    .obtain⟨g,hg,e⟩:=h m hm;exact⟨g,by simp[hg],e⟩
    .rcases dD.1 hm with hm|hm
     .obtain⟨g,hg,e⟩:=h m hm;exact⟨g,by simp[hg],e⟩
     .simp at hm;exact⟨f,by simp,hm⟩
 intro L m hm;have:=key L [] ([],[]) (by simp) m hm;simpa using this
def yS{b:Bk}(hb:BkOk b){s:Xp}(hd:s.done<=1152921504606846976){to kept shift body:Int}(hk:-1152921504606846976<=kept/\kept<=2305843009213693952)(hsh:0<=shift/\shift<=1152921504606846976):
 (cu b.atoms b.M' s to kept shift body).1.length<=1000000/\∀m∈(cu b.atoms b.M' s to kept shift body).1,0<=m.y/\m.y<=6917529027641081856:=by
 unfold cu;split
 .rename_i hm;have h1:=pq (sQ b.atoms s kept) shift body (dG b.M' s to);have h2:(dG b.M' s to).length<=b.M'.length:=oU _ _ _;have h3:=hb.Zi;refine⟨by omega,λm hmm=>?_⟩;obtain⟨f,hf,rfl⟩:=GP hmm;have hfo:=hb.flo f (tm.1 hf).1;obtain⟨_,⟨o1,o2⟩,_⟩:=hfo;obtain⟨h0,h4⟩:=hm.1;have htop:-4611686018427387904<=sQ b.atoms s kept:=by
   unfold sQ;have:=hm.2.1;obtain⟨k,hkk⟩:∃k:Nat,s.atom=k:=⟨s.atom.toNat,by omega⟩
   have Yn:k<b.atoms.length:=by omega
   have hy:=hb.Xg.rng _ (XI Yn);rw[hkk,bg Yn];omega
  simp only[dY];omega
 .simp
def ct(high:Int)(f:Xs):Xs:={ f with y:=f.y+high }
def bY(b:Bk)(x:Wx)(kept:Int)(n:Nat):List Xs:=(List.range n).map λi:Nat=>ct x.high (cF b.atoms x.s kept x.shift (x.s.atom+(i:Nat)))
def Wx.add(x:Wx)(l:List Xs):Wx:={ x with fs:=x.fs++l }
def DQ{l:List Xv}(hl:nF l){s:Xp}(hd0:0<=s.done)(hd:s.done<=1152921504606846976){kept shift:Int}(hk:-1152921504606846976<=kept/\kept<=2305843009213693952)(hsh:0<=shift/\shift<=1152921504606846976)(k:Int):
 -4611686018427387904<=(cF l s kept shift k).y/\(cF l s kept shift k).y<=6917529027641081856:=by
 have h:=qH hl hd hk hsh k;unfold cF;split
 .split
  .simp only;omega
  .simp only[kK];omega
 .simp
def kF(l:List Xv)(U:ag):bF U false 1 (.rp (aW l))=some (aW l):=rfl
def Fc(l:List T')(U:ag):bF U false 1 (.rp (aB l))=some (aB l):=rfl
def Ia(l:List YJ)(U:ag):bF U false 1 (.rp (bh l))=some (bh l):=rfl
def RP(l:List Nd)(U:ag):bF U false 1 (.rp (aC l))=some (aC l):=rfl
def Zr.pM{b:Bk}{K:ag}{ix:Nat}{x:Wx}{U J:ag}{vh vf vl:V}(h:Zr b K ix x U vh vf vl)(hs:aa U J){i:Nat}{o:Ob}(h1:U i=none)(h2:J i=some o):Zr b (C' K i o) ix x J vh vf vl:=by
 have key:∀{v rows},aM (aX K ix) U 63 7 v rows->aM (aX (C' K i o) ix) J 63 7 v rows:=λhv=>by
  rcases hv with h|⟨a,e,h3,h4⟩
  .exact .inl h
  .refine .inr ⟨a,e,hs _ _ h3,aH.2 ⟨(aH.1 h4).1,?_⟩⟩;rw[ae (λe=>by subst e;rw[h1]at h3;cases h3)];exact(aH.1 h4).2
 refine⟨hs _ _ h.row,key h.oh,key h.of,key h.ol,h.hf,h.hl,h.fl,λa q ha=>?_,?_⟩
 .by_cases e:a=i
  .subst e;rw[Vc.af]at ha;cases ha;exact h2
  .rw[Vc.ae e]at ha;exact hs _ _ (h.sub _ _ ha)
 .rw[Vc.ae (λe=>by subst e;rw[h.row]at h1;cases h1)];exact h.no
def Zr.narrow{b:Bk}{K:ag}{ix i:Nat}{o:Ob}{x:Wx}{U:ag}{vh vf vl:V}(h:Zr b (C' K i o) ix x U vh vf vl)(hK:K i=none):Zr b K ix x U vh vf vl:=by
 have hk:∀a,C' K i o a=none->K a=none:=λa ha=>by
  by_cases e:a=i
  .subst e;exact hK
  .rwa [Vc.ae e]at ha
 have key:∀{v rows},aM (aX (C' K i o) ix) U 63 7 v rows->aM (aX K ix) U 63 7 v rows:=λhv=>by
  rcases hv with h|⟨a,e,h3,h4⟩
  .exact .inl h
  .exact .inr ⟨a,e,h3,aH.2 ⟨(aH.1 h4).1,hk _ (aH.1 h4).2⟩⟩
 refine⟨h.row,key h.oh,key h.of,key h.ol,h.hf,h.hl,h.fl,λa q ha=>h.sub _ _ ?_,hk _ h.no⟩;rw[Vc.ae (λe=>by subst e;rw[hK]at ha;cases ha)];exact ha
def Zr.drop{b:Bk}{K:ag}{ix i:Nat}{o:Ob}{x:Wx}{U:ag}{vh vf vl:V}(h:Zr b (C' K i o) ix x U vh vf vl)(hK:K i=none)(o':Ob):Zr b K ix x (C' U i o') vh vf vl:=by
 have hn:ix≠i:=λe=>by have:=h.no;subst e;rw[Vc.af]at this;cases this
 have key:∀{v rows},aM (aX K ix) U 63 7 v rows->aM (aX (C' K i o) ix) U 63 7 v rows->aM (aX K ix) (C' U i o') 63 7 v rows:=λhv hw=>by
  rcases hv with h|⟨a,rfl,h3,h4⟩
  .exact .inl h
  .refine .inr ⟨a,rfl,?_,h4⟩;rcases hw with⟨h,_⟩|⟨c,h,h5,h6⟩
   .cases h
   .cases h;have:a≠i:=λe=>by subst e;have:=(aH.1 h6).2;rw[Vc.af]at this;cases this
    rw[Vc.ae this];exact h3
 have g:=h.narrow hK;refine⟨(Vc.ae hn).trans h.row,key g.oh h.oh,key g.of h.of,key g.ol h.ol,h.hf,h.hl,h.fl,g.sub.av hK,g.no⟩
def Jz(b:Bk)(hb:BkOk b)(x:Wx)(hm:bS b.atoms x.s)(hd:x.s.done<=1152921504606846976)(hx:x.fs.length<=1000000)(hxl:x.ls.length<=1000000)(hh:0<=x.high/\x.high<=1152921504606846976)(kept:Int)(hk:-1152921504606846976<=kept/\kept<=2305843009213693952)
 (hsh:0<=x.shift/\x.shift<=1152921504606846976)(cut:Nat)(hc:x.s.atom<=cut)(XH:cut<=b.atoms.length){K U:ag}{i1:Nat}{vh vf vl:V}(hJ:Zr b K i1 x U vh vf vl):
 ax prog 181 [.ptr i1 0 0,vI kept,vI cut] U λr Z'=>∃vf' vl',r=bC ⟨⟨cut,0,decide ((b.L'.getD cut ⟨0,0,0⟩).forced≠0)⟩,(cu b.atoms b.M' x.s cut kept x.shift x.body).2⟩/\
  Zr b K i1 ((x.add (bY b x kept (cut-x.s.atom.toNat))).put (cu b.atoms b.M' x.s cut kept x.shift x.body).1) Z' vh vf' vl':=by
 refine TA.r (by simp[Pv]) ?_;have hs:=aa.refl U;have hbk:bc b=.agg [aC b.nodes,vI b.w,vI b.h,aW b.atoms,aB b.M',vI b.WG,bh b.L']:=rfl;have a1:=hJ.row;rw[di]at a1;obtain⟨ch,sh⟩:=hJ.oh.vc;obtain⟨a,haa⟩:∃a:Nat,x.s.atom=a:=⟨x.s.atom.toNat,by have:=hm.1;omega⟩
 obtain⟨n,hn⟩:∃n,n=cut-x.s.atom.toNat:=⟨_,rfl⟩
 have hnc:a+n=cut:=by omega
 rw[<-hn];have hlen:=hb.len;refine ab.mix 13 ?_;apply sR;simp only[go_sem,seval,Pv];refine ad λi6 Z6 s6 a6 f6=>?_;replace a1:=s6 _ _ a1;replace hs:=hs.trans s6;have hJ6:=hJ.pM s6 f6 a6;have k6:K i6=none:=hJ.sub.none f6;simp only[go_sem,seval,a1,hbk,haa,kF];refine ab.eG (λst=>∃vf',Zr b (C' K i6 ⟨45,4,[.agg [vI 0,vI 0,.bool false,.ay]]⟩) i1 (x.add (bY b x kept n)) st.U vh vf' vl/\st.s 0=.ptr i1 0 0/\st.s 1=vI kept/\st.s 2=vI cut/\st.s 6=.ptr i6 0 0/\st.s 7=aW b.atoms)
  (λm st=>∃(j:Nat) (vf':V),j<=n/\m=n-j/\Zr b (C' K i6 ⟨45,4,[.agg [vI 0,vI 0,.bool false,.ay]]⟩) i1 (x.add (bY b x kept j)) st.U vh vf' vl/\st.s 0=.ptr i1 0 0/\st.s 1=vI kept/\st.s 2=vI cut/\st.s 6=.ptr i6 0 0/\st.s 7=aW b.atoms/\∃z:Int,st.s 8=vI z/\z=(a:Int)+j) n ?_ ?_ ?_
 .exact⟨0,vf,by omega,rfl,by simpa[Wx.add,bY]using hJ6,rfl,rfl,rfl,rfl,rfl,_,rfl,by omega⟩
 .clear hs hJ6 a1 hJ a6;rintro m ⟨S,J⟩ ⟨j,vf',hj,rfl,hJ,t0,t1,t2,t6,t7,z,t8,hz⟩;simp only at hJ t0 t1 t2 t6 t7 t8;refine ab.mix 13 ?_;by_cases H':j<n
  .have q:(z<(cut:Int))=True:=WE;have hsw:x.add (bY b x kept (j+1))={ x.add (bY b x kept j)with fs:=(x.add (bY b x kept j)).fs++[ct x.high (cF b.atoms x.s kept x.shift z)] }:=by
    simp only[Wx.add,bY,List.range_succ,gB,eo,List.map_nil,my];rw[hz,haa]
   have Yz:aK prog 243 [aW b.atoms,aU (x.add (bY b x kept j)).s,vI kept,vI (x.add (bY b x kept j)).shift,vI z] (bl (cF b.atoms x.s kept x.shift z)):=GI b.atoms hb.Xg x.s hd kept x.shift z hk hsh;have hrg:=DQ hb.Xg hm.2.1 hd hk hsh z;have hyl:((x.add (bY b x kept j)).fs.map bl).length<=2000000:=by simp[Wx.add,bY];omega
   have hyh:(x.add (bY b x kept j)).high=x.high:=rfl;rw[<-hyh]at hsw;generalize cF b.atoms x.s kept x.shift z=w at*;generalize x.add (bY b x kept j)=y at*;have hs:=aa.refl J;have a1:=hJ.row;rw[di]at a1;rw[aU]at Yz;have r1:WR .i64 (z+1):=ai;have r2:WR .i64 (w.y+y.high):=ai;obtain⟨cf,sf⟩:=hJ.of.vc;obtain⟨cl,sl⟩:=hJ.ol.vc;apply sR;simp only[go_sem,seval,t2,t8,q,cK];refine ab.D3 (by kernel_rfl) 8 (.fork [[],[],[1],[2,1],[3,2,1],[],[],[6],[7,6],[8,7,6],[],[0,4,5,9,10,3,2,1,8,7,6],[],[12,11,0,1,2,3,4,5,6,7,8,9,10]] [0,1,2,3,4,5,6,7,8,9,10] [11,12] [(.leaf [[],[],[1],[2,1],[3,2,1],[],[],[6],[7,6],[8,7,6],[],[0,4,5,9,10,3,2,1,8,7,6],[11,0,4,5,9,10,3,2,1,8,7,6],[11,0,4,5,9,10,3,2,1,8,7,6,12]] [11,12,13]),(.leaf [[],[],[1],[2,1],[3,2,1],[],[],[6],[7,6],[8,7,6],[],[12,0,4,5,9,10,3,2,1,8,7,6],[],[12,11,0,1,2,3,4,5,6,7,8,9,10]] [12,11,13])]) (by kernel_rfl) ?_;refine GT.ny (its:=[0,2,4,6,8,10,12,14,16,18,20]) (by kernel_rfl) ?_;refine RE.XG (n:=0) [] [0,2,4,6,8,10,12,14,16,18,20] [⟨(.some 31),(.W1 (.t 7)),.none⟩,⟨(.some 32),(.W1 (.t 0)),.none⟩,⟨(.some 33),(.nilCheck (.t 32)),.none⟩,⟨(.some 34),(.W7 .true 4 3 (.t 33)),.none⟩,⟨(.some 35),(.load .true 3 (.t 34)),.none⟩,⟨(.some 36),(.W1 (.t 1)),.none⟩,⟨(.some 37),(.W1 (.t 0)),.none⟩,⟨(.some 38),(.nilCheck (.t 37)),.none⟩,⟨(.some 39),(.W7 .false 12 1 (.t 38)),.none⟩,⟨(.some 40),(.load .false 1 (.t 39)),.none⟩,⟨(.some 41),(.W1 (.t 8)),.none⟩] rfl rfl ?_;apply sG;simp only[go_sem,seval,a1,t0,t1,t7,t8];refine⟨?_,?_⟩
   .refine GT.gm (its:=[22,24,26]) (by kernel_rfl) ?_;refine RE.au rfl rfl rfl rfl rfl (Yz _) ?_;refine RE.XG (n:=0) [] [24,26] [⟨(.some 9),(.alloc 63 7 (.agg [(.int .i64 0),(.int .i64 0),(.int .i64 0),(.int .i64 0),(.int .i64 0),(.int .i64 0),(.int .i64 0)])),.none⟩,⟨.none,(.store 7 (.t 9) (.t 42)),.none⟩] rfl rfl ?_;apply sG;simp only[go_sem,seval,bl];refine aS λi9 Z9 s9 a9 f9=>?_;have n19:=al a1 f9;replace a1:=s9 _ _ a1;have z9:=hs.none f9;replace hs:=hs.trans s9;simp only[go_sem,seval,a9];generalize XQ:C' _ i9 _=Y9;replace a9:=(congrFun XQ i9).symm.trans af;replace a1:=((congrFun XQ i1).symm.trans (ae n19)).trans a1;replace hs:=Eq.subst (motive:=aa _) XQ (hs.av z9);clear XQ;apply sR;simp only[go_sem,seval,a9,a1,t0,r2,ae n19];generalize XQ:C' _ i9 _=Y9;replace a9:=(congrFun XQ i9).symm.trans af;replace a1:=((congrFun XQ i1).symm.trans (ae n19)).trans a1;replace hs:=Eq.subst (motive:=aa _) XQ (hs.av z9);clear XQ;refine aS λi59 Z59 s59 a59 f59=>?_;have YT:=(hJ.mono hs).mono s59;obtain⟨WW,Yj,hgr⟩:=y6 YT.sub YT.no YT.row YT.of;generalize hrw:y.fs.map bl=rows at*;have XW:(rows.length+1)*57<=140737488355328:=by omega
    simp only[go_sem,seval,Yj,du a59,XW];refine ku λi60 Z60 s60 a60 f60=>?_;obtain⟨b1,hg⟩:=hgr Z60 i60 _ s60 a60 f60;rw[di]at b1;obtain⟨g1,g2,g3⟩:=hg (di b { y with fs:=y.fs++[ct y.high w] } vh (.own i60 0 (rows.length+1)) vl);simp only[go_sem,seval,b1,t0,t1,t2,t6,t7,t8,r1];refine⟨_,?_,j+1,.own i60 0 (rows.length+1),by omega,rfl,?_,_,rfl,by omega⟩
    .omega
    .rw[hsw];obtain⟨k1,k2⟩:=g3 _ _ YT.oh YT.hf.symm;obtain⟨k3,k4⟩:=g3 _ _ YT.ol YT.fl;rw[iz]at g2 k2 k4;refine⟨?_,k1,?_,k3,k2.symm,hJ.hl,k4,g1,hJ.no⟩
     .exact af
     .show aM _ _ _ _ _ ((y.fs++[ct y.high w]).map bl);rw[gB,hrw];exact g2
   .refine GT.gm (its:=[24,9,19,22,26]) (by kernel_rfl) ?_;refine RE.XG (n:=0) [9,19,22,26] [24] [⟨(.some 9),(.alloc 63 7 (.agg [(.int .i64 0),(.int .i64 0),(.int .i64 0),(.int .i64 0),(.int .i64 0),(.int .i64 0),(.int .i64 0)])),.none⟩] rfl rfl ?_;apply sG;simp only[go_sem,seval];refine aS λi9 Z9 s9 a9 f9=>?_;have n19:=al a1 f9;replace a1:=s9 _ _ a1;have z9:=hs.none f9;replace hs:=hs.trans s9;simp only[go_sem,seval];refine RE.X2 rfl rfl rfl rfl rfl trivial (by simp only[go_sem,seval,a1]) ?_;refine RE.X2 rfl rfl rfl rfl rfl trivial (by simp only[go_sem,seval,a1]) ?_;refine RE.au rfl rfl rfl rfl rfl (Yz _) ?_;refine RE.XG (n:=0) [] [26] [⟨.none,(.store 7 (.t 9) (.t 42)),.none⟩] rfl rfl ?_;apply sG;simp only[go_sem,seval,bl,a9];generalize XQ:C' _ i9 _=Y9;replace a9:=(congrFun XQ i9).symm.trans af;replace a1:=((congrFun XQ i1).symm.trans (ae n19)).trans a1;replace hs:=Eq.subst (motive:=aa _) XQ (hs.av z9);clear XQ;apply sR;simp only[go_sem,seval,a9,a1,t0,r2,ae n19];generalize XQ:C' _ i9 _=Y9;replace a9:=(congrFun XQ i9).symm.trans af;replace a1:=((congrFun XQ i1).symm.trans (ae n19)).trans a1;replace hs:=Eq.subst (motive:=aa _) XQ (hs.av z9);clear XQ;refine aS λi59 Z59 s59 a59 f59=>?_;have YT:=(hJ.mono hs).mono s59;obtain⟨WW,Yj,hgr⟩:=y6 YT.sub YT.no YT.row YT.of;generalize hrw:y.fs.map bl=rows at*;have XW:(rows.length+1)*57<=140737488355328:=by omega
    simp only[go_sem,seval,Yj,du a59,XW];refine ku λi60 Z60 s60 a60 f60=>?_;obtain⟨b1,hg⟩:=hgr Z60 i60 _ s60 a60 f60;rw[di]at b1;obtain⟨g1,g2,g3⟩:=hg (di b { y with fs:=y.fs++[ct y.high w] } vh (.own i60 0 (rows.length+1)) vl);simp only[go_sem,seval,b1,t0,t1,t2,t6,t7,t8,r1];refine⟨_,?_,j+1,.own i60 0 (rows.length+1),by omega,rfl,?_,_,rfl,by omega⟩
    .omega
    .rw[hsw];obtain⟨k1,k2⟩:=g3 _ _ YT.oh YT.hf.symm;obtain⟨k3,k4⟩:=g3 _ _ YT.ol YT.fl;rw[iz]at g2 k2 k4;refine⟨?_,k1,?_,k3,k2.symm,hJ.hl,k4,g1,hJ.no⟩
     .exact af
     .show aM _ _ _ _ _ ((y.fs++[ct y.high w]).map bl);rw[gB,hrw];exact g2
  .have q:(z<(cut:Int))=False:=O';have Yq:j=n:=by omega
   subst Yq;apply sR;simp only[go_sem,seval,t0,t1,t2,t6,t7,t8,q];exact⟨vf',hJ⟩
 .clear hs hJ6 a1 hJ a6;rintro⟨S,J⟩ ⟨vf',hJ,t0,t1,t2,t6,t7⟩;simp only at hJ t0 t1 t2 t6 t7;have Yz:aK prog 242 [aW b.atoms,aB b.M',aU (x.add (bY b x kept n)).s,vI cut,vI kept,vI (x.add (bY b x kept n)).shift,vI (x.add (bY b x kept n)).body] (.WJ [aB (cu b.atoms b.M' x.s cut kept x.shift x.body).1,aB (cu b.atoms b.M' x.s cut kept x.shift x.body).2]):=
   IH b.atoms hb.Xg b.M' hb.Zi hb.flo x.s hd cut kept x.shift x.body hk hsh
  have hrg:=yS hb hd (to:=cut) (body:=x.body) hk hsh;have hyl:(x.add (bY b x kept n)).ls.length<=1000000:=hxl;have hyh:(x.add (bY b x kept n)).high=x.high:=rfl;rw[aU]at Yz;generalize cu b.atoms b.M' x.s cut kept x.shift x.body=R at*;generalize x.add (bY b x kept n)=y at*;have a1:=hJ.row;rw[di]at a1;have hflo:=pt b R.1 hrg.1 y hyl (λf hf=>by
   have:=hrg.2 f hf;rw[hyh];exact ai) hJ
  have hcb:cut<b.L'.length:=by have:=hb.brk;omega
  have U':=λU=>qI (U:=U) hcb;have hgd:b.L'.getD cut ⟨0,0,0⟩=b.L'[cut]:=by simp[hcb]
  rw[hgd];generalize b.L'[cut]=bk at*;refine ab.mix 13 ?_;apply sR;simp only[go_sem,seval,t0,t1,t2,t7,a1,hbk,Fc];refine Go.bw rfl rfl rfl Yz ?_;apply sG;simp only[go_sem,seval,t0];refine ab.call rfl rfl rfl hflo ?_;rintro r Z' ⟨vl',YL⟩;clear a1;have a1:=YL.row;rw[di]at a1;have a6:=YL.sub _ _ af;have hs:=aa.refl Z';apply sR;simp only[go_sem,seval,t0,t2,a1,hbk,Ia,U',dt];refine ad λYH Z12 s12 a12 f12=>?_;have n112:=al a1 f12;replace a1:=s12 _ _ a1;have n612:=al a6 f12;replace a6:=s12 _ _ a6;replace hs:=hs.trans s12;simp only[go_sem,seval,a12,a6,t6,dI,dK,ae n612];exact⟨_,_,aa.refl _,Wk.refl (aa.refl _) _,vf',vl',rfl,(YL.mono (hs.av f12)).drop k6 _⟩
open Go.Proofs Go.Proofs.Tryz
def bG.rt:bG->bG
 |.seq _ b=>b
 |c=>c
def bD{i j:Nat}(h:i≠j):(∀(U:ag) (o:Ob),C' U i o j=U j)/\∀(U:ag) (o:Ob),C' U j o i=U i:=⟨λ_ _=>ae h.symm,λ_ _=>ae h⟩
def Ld(l:List Xv)(s:Xp)(Xh:Int):(iZ l s Xh).y=0:=by
 unfold iZ;split<;>rfl
def ui(b:Bk)(x:Wx):Wx:=(x.add [ct x.high (iZ b.atoms x.s x.body)]).put (cu b.atoms b.M' x.s (x.s.atom+1) 0 0 x.body).1
def uv(b:Bk)(x:Wx):XE:=⟨dp b.atoms x.s x.body,(cu b.atoms b.M' x.s (x.s.atom+1) 0 0 x.body).2⟩
def MM(b:Bk)(hb:BkOk b)(x:Wx)(hm:bS b.atoms x.s)(hd:x.s.done<=1152921504606846976)(hx:x.fs.length<=1000000)(hxl:x.ls.length<=1000000)(hh:0<=x.high/\x.high<=1152921504606846976)(u v:Int)
 {K U:ag}{i1:Nat}{vh vf vl:V}(hJ:Zr b K i1 x U vh vf vl):
 ax prog 180 [.ptr i1 0 0,vI u,vI v] U λr Z'=>∃vf' vl',r=bC (uv b x)/\Zr b K i1 (ui b x) Z' vh vf' vl':=by
 refine VZ.r (by simp[IX]) ?_;have hbk:bc b=.agg [aC b.nodes,vI b.w,vI b.h,aW b.atoms,aB b.M',vI b.WG,bh b.L']:=rfl;have a1:=hJ.row;rw[di]at a1;obtain⟨ch,sh⟩:=hJ.oh.vc;have hlen:=hb.len;refine ab.mix 12 ?_;have hs:=aa.refl U;apply sR;simp only[go_sem,seval,IX];refine ad λi6 Z6 s6 a6 f6=>?_;replace a1:=s6 _ _ a1;replace hs:=hs.trans s6;have k6:K i6=none:=hJ.sub.none f6;have hJ6:=hJ.pM s6 f6 a6;clear hJ;simp only[go_sem,seval,a1,hbk,kF,cK];have Ya:=OI b.atoms hb.Xg x.s hd x.body;have hw0:=Ld b.atoms x.s x.body;unfold ui uv;have Yz:=IH b.atoms hb.Xg b.M' hb.Zi hb.flo x.s hd (x.s.atom+1) 0 0 x.body (by omega) (by omega);have hrg:=yS hb hd (to:=x.s.atom+1) (kept:=0) (shift:=0) (body:=x.body) (by omega) (by omega);generalize iZ b.atoms x.s x.body=w at*;generalize dp b.atoms x.s x.body=nx at*;generalize cu b.atoms b.M' x.s (x.s.atom+1) 0 0 x.body=R at*;rw[aU]at Ya Yz;obtain⟨cf,sf⟩:=hJ6.of.vc;obtain⟨cl,sl⟩:=hJ6.ol.vc;have nc:(aU nx).cells=[vI nx.atom,vI nx.done,.bool nx.free]:=rfl;have ns:(aU nx).stays=true:=rfl;have fin:∀(S:Nat->V) (J:ag) (i8 i9:Nat),aa Z6 J->((∀(U:ag) (o:Ob),C' U i8 o i9=U i9)/\∀(U:ag) (o:Ob),C' U i9 o i8=U i8)->Z6 i8=none->Z6 i9=none->J i8=some ⟨63,7,[.agg [vI w.node,vI w.atom,vI w.fr,vI w.x,vI w.y,vI w.w,vI w.h]]⟩->J i9=some ⟨42,3,[.agg [vI nx.atom,vI nx.done,.bool nx.free]]⟩->
  S 0=.ptr i1 0 0->S 6=.ptr i6 0 0->S 7=aW b.atoms->S 8=.ptr i8 0 0->S 9=.ptr i9 0 0->
  ab prog 89 [It.code IX.code.rt.rt.rt] ⟨S,J⟩ λst=>Ret [.cell true 4 (.t 6)] st λr Z'=>∃vf' vl',r=bC ⟨nx,R.2⟩/\Zr b K i1 ((x.add [ct x.high w]).put R.1) Z' vh vf' vl':=by
  intro S J i8 i9 hsZ hn z8 z9 a8 a9 t0 t6 t7 t8 t9;have n69:=al a6 z9;have k9:=hJ6.sub.none z9;have hJ:=hJ6.pM hsZ z9 a9;have n18:i1≠i8:=al a1 z8;have a1:=hJ.row;rw[di]at a1;have r2:WR .i64 (w.y+x.high):=ai;have r3:WR .i64 (x.s.atom+1):=ai (by have:=hm.1;omega) (by have:=hm.1;omega);have z8:=z8;refine ab.mix 12 ?_;apply sR;simp only[go_sem,seval,IX,bG.rt,t0,t8,a8,a1,r2,ae n18];generalize Yf:C' J i8 _=Y8;replace a8:=(congrFun Yf i8).symm.trans af;replace a9:=((congrFun Yf i9).symm.trans (hn.1 _ _)).trans a9;replace hJ:=hJ6.pM (Yf▸hsZ.av z8) z9 a9;clear Yf;refine aS λi50 Z50 s50 a50 f50=>?_;have YT:=hJ.mono s50;obtain⟨WW,Yj,hgr⟩:=y6 YT.sub YT.no YT.row YT.of;have hfl:(x.fs.map bl).length<=1000000:=by simpa using hx
  generalize hrw:x.fs.map bl=rows at*;have XW:(rows.length+1)*57<=140737488355328:=by omega
  simp only[go_sem,seval,Yj,du a50,XW];refine ku λi51 Z51 s51 a51 f51=>?_;obtain⟨b1,hg⟩:=hgr Z51 i51 _ s51 a51 f51;rw[di]at b1;obtain⟨g1,g2,g3⟩:=hg (di b (x.add [ct x.high w]) vh (.own i51 0 (rows.length+1)) vl);have hJa:Zr b (C' (C' K i6 ⟨45,4,[.agg [vI 0,vI 0,.bool false,.ay]]⟩) i9 ⟨42,3,[.agg [vI nx.atom,vI nx.done,.bool nx.free]]⟩) i1 (x.add [ct x.high w]) (C' Z51 i1 (di b (x.add [ct x.high w]) vh (.own i51 0 (rows.length+1)) vl)) vh (.own i51 0 (rows.length+1)) vl:=by
   obtain⟨k1,k2⟩:=g3 _ _ YT.oh YT.hf.symm;obtain⟨k3,k4⟩:=g3 _ _ YT.ol YT.fl;rw[iz]at g2 k2 k4;refine⟨af,k1,?_,k3,k2.symm,YT.hl,k4,g1,YT.no⟩;show aM _ _ _ _ _ ((x.fs++[ct x.high w]).map bl);rw[gB,hrw];exact g2
  have hya:(x.add [ct x.high w]).high=x.high:=rfl;have hys:(x.add [ct x.high w]).ls=x.ls:=rfl;have hxl':(x.add [ct x.high w]).ls.length<=1000000:=hxl;generalize hY:x.add [ct x.high w]=y at*;simp only[go_sem,seval,b1,t0,t7,hbk,Fc,r3];generalize hq1:C' Z51 i1 _=Y1;have hJb:=hJa;rw[show C' Z51 i1 (di b y vh (.own i51 0 (rows.length+1)) vl)=Y1 by rw[<-hq1,di,<-hY];rfl]at hJb;clear hJa hq1;refine Go.bw rfl rfl rfl Yz ?_;apply sG;simp only[go_sem,seval,t0];refine ab.call rfl rfl rfl (pt b R.1 hrg.1 y hxl' (λf hf=>by
   have:=hrg.2 f hf;rw[hya];exact ai) hJb) ?_
  rintro r Z' ⟨vl',YL⟩;have c9:=YL.sub _ _ af;have c6:=YL.sub i6 _ ((ae n69).trans af);apply sR;simp only[go_sem,seval,t6,t9,c9,c6,dI,dK];exact⟨_,_,aa.refl _,Wk.refl (aa.refl _) _,_,vl',rfl,(YL.narrow k9).drop k6 _⟩
 have a8:True:=trivial;have a9:True:=trivial;have hn:True:=trivial;have W9:=aa.refl Z6;refine ab.D3 (by kernel_rfl) 8 (.fork [[],[],[1],[2,1],[3,2,1],[],[5],[6,5],[7,6,5],[8,7,6,5],[0,4,9,3,2,1,8,7,6,5],[10,0,4,9,3,2,1,8,7,6,5],[11,10,0,4,9,3,2,1,8,7,6,5],[11,10,0,4,9,3,2,1,8,7,6,5],[],[],[14,12,10,0,1,2,3,4,5,6,7,8,9,11,15],[15,13,16,0,1,2,3,4,5,6,7,8,9,10,11,12,14]] [0,1,2,3,4,5,6,7,8,9] [10,14,15] [(.fork [[],[],[1],[2,1],[3,2,1],[],[5],[6,5],[7,6,5],[8,7,6,5],[0,4,9,3,2,1,8,7,6,5],[10,0,4,9,3,2,1,8,7,6,5],[11,10,0,4,9,3,2,1,8,7,6,5],[11,10,0,4,9,3,2,1,8,7,6,5],[10,0,4,9,3,2,1,8,7,6,5],[10,0,4,9,3,2,1,8,7,6,5],[10,0,4,9,3,2,1,8,7,6,5,14,12,11,15],[10,0,4,9,3,2,1,8,7,6,5,15,13,16,11,12,14]] [10,11,12,13] [14,15] [(.leaf [[],[],[1],[2,1],[3,2,1],[],[5],[6,5],[7,6,5],[8,7,6,5],[0,4,9,3,2,1,8,7,6,5],[10,0,4,9,3,2,1,8,7,6,5],[11,10,0,4,9,3,2,1,8,7,6,5],[11,10,0,4,9,3,2,1,8,7,6,5],[10,0,4,9,3,2,1,8,7,6,5],[14,10,0,4,9,3,2,1,8,7,6,5],[14,10,0,4,9,3,2,1,8,7,6,5,12,11,15],[14,10,0,4,9,3,2,1,8,7,6,5,15,13,16,11,12]] [14,15,16,17]),(.leaf [[],[],[1],[2,1],[3,2,1],[],[5],[6,5],[7,6,5],[8,7,6,5],[0,4,9,3,2,1,8,7,6,5],[10,0,4,9,3,2,1,8,7,6,5],[11,10,0,4,9,3,2,1,8,7,6,5],[11,10,0,4,9,3,2,1,8,7,6,5],[15,10,0,4,9,3,2,1,8,7,6,5],[10,0,4,9,3,2,1,8,7,6,5],[15,10,0,4,9,3,2,1,8,7,6,5,14,12,11],[15,10,0,4,9,3,2,1,8,7,6,5,13,16,11,12,14]] [15,14,16,17])]),(.fork [[],[],[1],[2,1],[3,2,1],[],[5],[6,5],[7,6,5],[8,7,6,5],[14,0,4,9,3,2,1,8,7,6,5],[14,10,0,4,9,3,2,1,8,7,6,5],[14,11,10,0,4,9,3,2,1,8,7,6,5],[14,11,10,0,4,9,3,2,1,8,7,6,5],[],[14],[14,12,10,0,1,2,3,4,5,6,7,8,9,11,15],[14,15,13,16,0,1,2,3,4,5,6,7,8,9,10,11,12]] [14] [10,15] [(.leaf [[],[],[1],[2,1],[3,2,1],[],[5],[6,5],[7,6,5],[8,7,6,5],[14,0,4,9,3,2,1,8,7,6,5],[14,10,0,4,9,3,2,1,8,7,6,5],[14,11,10,0,4,9,3,2,1,8,7,6,5],[14,11,10,0,4,9,3,2,1,8,7,6,5],[],[10,14,0,4,9,3,2,1,8,7,6,5],[10,14,0,4,9,3,2,1,8,7,6,5,12,11,15],[10,14,0,4,9,3,2,1,8,7,6,5,15,13,16,11,12]] [10,11,12,13,15,16,17]),(.leaf [[],[],[1],[2,1],[3,2,1],[],[5],[6,5],[7,6,5],[8,7,6,5],[15,14,0,4,9,3,2,1,8,7,6,5],[15,14,10,0,4,9,3,2,1,8,7,6,5],[15,14,11,10,0,4,9,3,2,1,8,7,6,5],[15,14,11,10,0,4,9,3,2,1,8,7,6,5],[],[14],[15,14,12,10,0,1,2,3,4,5,6,7,8,9,11],[15,14,13,16,0,1,2,3,4,5,6,7,8,9,10,11,12]] [15,10,11,12,13,16,17])]),(.fork [[],[],[1],[2,1],[3,2,1],[],[5],[6,5],[7,6,5],[8,7,6,5],[15,0,4,9,3,2,1,8,7,6,5],[15,10,0,4,9,3,2,1,8,7,6,5],[15,11,10,0,4,9,3,2,1,8,7,6,5],[15,11,10,0,4,9,3,2,1,8,7,6,5],[15],[],[15,14,12,10,0,1,2,3,4,5,6,7,8,9,11],[15,13,16,0,1,2,3,4,5,6,7,8,9,10,11,12,14]] [15] [10,14] [(.leaf [[],[],[1],[2,1],[3,2,1],[],[5],[6,5],[7,6,5],[8,7,6,5],[15,0,4,9,3,2,1,8,7,6,5],[15,10,0,4,9,3,2,1,8,7,6,5],[15,11,10,0,4,9,3,2,1,8,7,6,5],[15,11,10,0,4,9,3,2,1,8,7,6,5],[10,15,0,4,9,3,2,1,8,7,6,5],[],[10,15,0,4,9,3,2,1,8,7,6,5,14,12,11],[10,15,0,4,9,3,2,1,8,7,6,5,13,16,11,12,14]] [10,11,12,13,14,16,17]),(.leaf [[],[],[1],[2,1],[3,2,1],[],[5],[6,5],[7,6,5],[8,7,6,5],[14,15,0,4,9,3,2,1,8,7,6,5],[14,15,10,0,4,9,3,2,1,8,7,6,5],[14,15,11,10,0,4,9,3,2,1,8,7,6,5],[14,15,11,10,0,4,9,3,2,1,8,7,6,5],[15],[],[14,15,12,10,0,1,2,3,4,5,6,7,8,9,11],[14,15,13,16,0,1,2,3,4,5,6,7,8,9,10,11,12]] [14,10,11,12,13,16,17])])]) (by kernel_rfl) ?_;refine GT.Nz (its:=[0,2,4,6,8,10,12,14,16,18]) (by kernel_rfl) ?_;refine RE.XG (n:=0) [] [0,2,4,6,8,10,12,14,16,18] [⟨(.some 21),(.W1 (.t 7)),.none⟩,⟨(.some 22),(.W1 (.t 0)),.none⟩,⟨(.some 23),(.nilCheck (.t 22)),.none⟩,⟨(.some 24),(.W7 .true 4 3 (.t 23)),.none⟩,⟨(.some 25),(.load .true 3 (.t 24)),.none⟩,⟨(.some 26),(.W1 (.t 0)),.none⟩,⟨(.some 27),(.nilCheck (.t 26)),.none⟩,⟨(.some 28),(.W7 .true 0 3 (.t 27)),.none⟩,⟨(.some 29),(.W7 .false 2 1 (.t 28)),.none⟩,⟨(.some 30),(.load .false 1 (.t 29)),.none⟩] rfl rfl ?_;apply sG;simp only[go_sem,seval,a1];refine⟨?_,?_,?_⟩
 .refine GT.ny (its:=[20,22,24,26]) (by kernel_rfl) ?_;refine RE.au rfl rfl rfl rfl rfl (Ya _) ?_;refine RE.XG (n:=0) [] [22,24,26] [⟨(.some 20),(.W1 (.t 31)),.none⟩,⟨(.some 32),(.ext 0 (.t 20)),.none⟩,⟨(.some 33),(.ext 1 (.t 20)),.none⟩] rfl rfl ?_;apply sG;simp only[go_sem,seval,bl];refine⟨?_,?_⟩
  .refine GT.gm (its:=[28,30,32,34]) (by kernel_rfl) ?_;refine RE.XG (n:=0) [] [28,30,32,34] [⟨(.some 8),(.alloc 63 7 (.agg [(.int .i64 0),(.int .i64 0),(.int .i64 0),(.int .i64 0),(.int .i64 0),(.int .i64 0),(.int .i64 0)])),.none⟩,⟨(.some 9),(.alloc 42 3 (.agg [(.int .i64 0),(.int .i64 0),(.bool .false)])),.none⟩,⟨.none,(.store 7 (.t 8) (.t 32)),.none⟩,⟨.none,(.store 3 (.t 9) (.t 33)),.none⟩] rfl rfl ?_;apply sG;simp only[go_sem,seval];refine aS λi8 Z8 s8 a8 f8=>?_;replace a1:=s8 _ _ a1
   try replace hn:=bD (al a9 f8).symm
   try replace a9:=s8 _ _ a9
   have z8:=W9.none f8;replace W9:=W9.trans s8;simp only[go_sem,seval];refine aS λi9 Z9 s9 a9 f9=>?_;replace a1:=s9 _ _ a1
   try replace hn:=bD (al a8 f9)
   try replace a8:=s9 _ _ a8
   have z9:=W9.none f9;replace W9:=W9.trans s9;simp only[go_sem,seval,nc,ns,a8,a9,hn];exact fin _ _ i8 i9 ((W9.av z8).av z9) hn z8 z9 ((hn.2 _ _).trans af) af rfl rfl rfl rfl rfl
  .refine GT.gm (its:=[30,28,32,34]) (by kernel_rfl) ?_;refine RE.XG (n:=0) [] [30,28,32,34] [⟨(.some 9),(.alloc 42 3 (.agg [(.int .i64 0),(.int .i64 0),(.bool .false)])),.none⟩,⟨(.some 8),(.alloc 63 7 (.agg [(.int .i64 0),(.int .i64 0),(.int .i64 0),(.int .i64 0),(.int .i64 0),(.int .i64 0),(.int .i64 0)])),.none⟩,⟨.none,(.store 7 (.t 8) (.t 32)),.none⟩,⟨.none,(.store 3 (.t 9) (.t 33)),.none⟩] rfl rfl ?_;apply sG;simp only[go_sem,seval];refine aS λi9 Z9 s9 a9 f9=>?_;replace a1:=s9 _ _ a1
   try replace hn:=bD (al a8 f9)
   try replace a8:=s9 _ _ a8
   have z9:=W9.none f9;replace W9:=W9.trans s9;simp only[go_sem,seval];refine aS λi8 Z8 s8 a8 f8=>?_;replace a1:=s8 _ _ a1
   try replace hn:=bD (al a9 f8).symm
   try replace a9:=s8 _ _ a9
   have z8:=W9.none f8;replace W9:=W9.trans s8;simp only[go_sem,seval,nc,ns,a8,a9,hn];exact fin _ _ i8 i9 ((W9.av z8).av z9) hn z8 z9 ((hn.2 _ _).trans af) af rfl rfl rfl rfl rfl
 .refine GT.ny (its:=[28,9,19]) (by kernel_rfl) ?_;refine RE.XG (n:=0) [9,19] [28] [⟨(.some 8),(.alloc 63 7 (.agg [(.int .i64 0),(.int .i64 0),(.int .i64 0),(.int .i64 0),(.int .i64 0),(.int .i64 0),(.int .i64 0)])),.none⟩] rfl rfl ?_;apply sG;simp only[go_sem,seval];refine aS λi8 Z8 s8 a8 f8=>?_;replace a1:=s8 _ _ a1
  try replace hn:=bD (al a9 f8).symm
  try replace a9:=s8 _ _ a9
  have z8:=W9.none f8;replace W9:=W9.trans s8;simp only[go_sem,seval];refine RE.X2 rfl rfl rfl rfl rfl trivial (by simp only[go_sem,seval,a1]) ?_;refine RE.X2 rfl rfl rfl rfl rfl trivial (by simp only[go_sem,seval,a1]) ?_;refine⟨?_,?_⟩
  .refine GT.gm (its:=[20,22,24,26,30,32,34]) (by kernel_rfl) ?_;refine RE.au rfl rfl rfl rfl rfl (Ya _) ?_;refine RE.XG (n:=0) [] [22,24,26,30,32,34] [⟨(.some 20),(.W1 (.t 31)),.none⟩,⟨(.some 32),(.ext 0 (.t 20)),.none⟩,⟨(.some 33),(.ext 1 (.t 20)),.none⟩,⟨(.some 9),(.alloc 42 3 (.agg [(.int .i64 0),(.int .i64 0),(.bool .false)])),.none⟩,⟨.none,(.store 7 (.t 8) (.t 32)),.none⟩,⟨.none,(.store 3 (.t 9) (.t 33)),.none⟩] rfl rfl ?_;apply sG;simp only[go_sem,seval,bl];refine aS λi9 Z9 s9 a9 f9=>?_;replace a1:=s9 _ _ a1
   try replace hn:=bD (al a8 f9)
   try replace a8:=s9 _ _ a8
   have z9:=W9.none f9;replace W9:=W9.trans s9;simp only[go_sem,seval,nc,ns,a8,a9,hn];exact fin _ _ i8 i9 ((W9.av z8).av z9) hn z8 z9 ((hn.2 _ _).trans af) af rfl rfl rfl rfl rfl
  .refine GT.gm (its:=[30,9,19,20,22,24,26,32,34]) (by kernel_rfl) ?_;refine RE.XG (n:=0) [9,19,20,22,24,26,32,34] [30] [⟨(.some 9),(.alloc 42 3 (.agg [(.int .i64 0),(.int .i64 0),(.bool .false)])),.none⟩] rfl rfl ?_;apply sG;simp only[go_sem,seval];refine aS λi9 Z9 s9 a9 f9=>?_;replace a1:=s9 _ _ a1
   try replace hn:=bD (al a8 f9)
   try replace a8:=s9 _ _ a8
   have z9:=W9.none f9;replace W9:=W9.trans s9;simp only[go_sem,seval];refine RE.X2 rfl rfl rfl rfl rfl trivial (by simp only[go_sem,seval,a1]) ?_;refine RE.X2 rfl rfl rfl rfl rfl trivial (by simp only[go_sem,seval,a1]) ?_;refine RE.au rfl rfl rfl rfl rfl (Ya _) ?_;refine RE.XG (n:=0) [] [22,24,26,32,34] [⟨(.some 20),(.W1 (.t 31)),.none⟩,⟨(.some 32),(.ext 0 (.t 20)),.none⟩,⟨(.some 33),(.ext 1 (.t 20)),.none⟩,⟨.none,(.store 7 (.t 8) (.t 32)),.none⟩,⟨.none,(.store 3 (.t 9) (.t 33)),.none⟩] rfl rfl ?_;apply sG;simp only[go_sem,seval,bl,nc,ns,a8,a9,hn];exact fin _ _ i8 i9 ((W9.av z8).av z9) hn z8 z9 ((hn.2 _ _).trans af) af rfl rfl rfl rfl rfl
 .refine GT.ny (its:=[30,9,19]) (by kernel_rfl) ?_;refine RE.XG (n:=0) [9,19] [30] [⟨(.some 9),(.alloc 42 3 (.agg [(.int .i64 0),(.int .i64 0),(.bool .false)])),.none⟩] rfl rfl ?_;apply sG;simp only[go_sem,seval];refine aS λi9 Z9 s9 a9 f9=>?_;replace a1:=s9 _ _ a1
  try replace hn:=bD (al a8 f9)
  try replace a8:=s9 _ _ a8
  have z9:=W9.none f9;replace W9:=W9.trans s9;simp only[go_sem,seval];refine RE.X2 rfl rfl rfl rfl rfl trivial (by simp only[go_sem,seval,a1]) ?_;refine RE.X2 rfl rfl rfl rfl rfl trivial (by simp only[go_sem,seval,a1]) ?_;refine⟨?_,?_⟩
  .refine GT.gm (its:=[20,22,24,26,28,32,34]) (by kernel_rfl) ?_;refine RE.au rfl rfl rfl rfl rfl (Ya _) ?_;refine RE.XG (n:=0) [] [22,24,26,28,32,34] [⟨(.some 20),(.W1 (.t 31)),.none⟩,⟨(.some 32),(.ext 0 (.t 20)),.none⟩,⟨(.some 33),(.ext 1 (.t 20)),.none⟩,⟨(.some 8),(.alloc 63 7 (.agg [(.int .i64 0),(.int .i64 0),(.int .i64 0),(.int .i64 0),(.int .i64 0),(.int .i64 0),(.int .i64 0)])),.none⟩,⟨.none,(.store 7 (.t 8) (.t 32)),.none⟩,⟨.none,(.store 3 (.t 9) (.t 33)),.none⟩] rfl rfl ?_;apply sG;simp only[go_sem,seval,bl];refine aS λi8 Z8 s8 a8 f8=>?_;replace a1:=s8 _ _ a1
   try replace hn:=bD (al a9 f8).symm
   try replace a9:=s8 _ _ a9
   have z8:=W9.none f8;replace W9:=W9.trans s8;simp only[go_sem,seval,nc,ns,a8,a9,hn];exact fin _ _ i8 i9 ((W9.av z8).av z9) hn z8 z9 ((hn.2 _ _).trans af) af rfl rfl rfl rfl rfl
  .refine GT.gm (its:=[28,9,19,20,22,24,26,32,34]) (by kernel_rfl) ?_;refine RE.XG (n:=0) [9,19,20,22,24,26,32,34] [28] [⟨(.some 8),(.alloc 63 7 (.agg [(.int .i64 0),(.int .i64 0),(.int .i64 0),(.int .i64 0),(.int .i64 0),(.int .i64 0),(.int .i64 0)])),.none⟩] rfl rfl ?_;apply sG;simp only[go_sem,seval];refine aS λi8 Z8 s8 a8 f8=>?_;replace a1:=s8 _ _ a1
   try replace hn:=bD (al a9 f8).symm
   try replace a9:=s8 _ _ a9
   have z8:=W9.none f8;replace W9:=W9.trans s8;simp only[go_sem,seval];refine RE.X2 rfl rfl rfl rfl rfl trivial (by simp only[go_sem,seval,a1]) ?_;refine RE.X2 rfl rfl rfl rfl rfl trivial (by simp only[go_sem,seval,a1]) ?_;refine RE.au rfl rfl rfl rfl rfl (Ya _) ?_;refine RE.XG (n:=0) [] [22,24,26,32,34] [⟨(.some 20),(.W1 (.t 31)),.none⟩,⟨(.some 32),(.ext 0 (.t 20)),.none⟩,⟨(.some 33),(.ext 1 (.t 20)),.none⟩,⟨.none,(.store 7 (.t 8) (.t 32)),.none⟩,⟨.none,(.store 3 (.t 9) (.t 33)),.none⟩] rfl rfl ?_;apply sG;simp only[go_sem,seval,bl,nc,ns,a8,a9,hn];exact fin _ _ i8 i9 ((W9.av z8).av z9) hn z8 z9 ((hn.2 _ _).trans af) af rfl rfl rfl rfl rfl
open Go.Proofs Go.Proofs.Tryz
def td{b:Bk}(hb:BkOk b){s:Xp}(h:bS b.atoms s):0<=s.done/\s.done<=18014398509481984:=by
 obtain⟨⟨h0,h1⟩,h2,h3⟩:=h;obtain⟨k,hk⟩:∃k:Nat,s.atom=k:=⟨s.atom.toNat,by omega⟩
 have Yn:k<b.atoms.length:=by omega
 have:=hb.tight _ (XI Yn);rw[hk,bg Yn]at h3;omega
def yn{b:Bk}(hb:BkOk b)(k:Int):-18014398509481984<=fN b.atoms k/\fN b.atoms k<=36028797018963968:=by
 unfold fN;split
 .rename_i h;obtain⟨n,rfl⟩:∃n:Nat,k=n:=⟨k.toNat,by omega⟩
  have hn:n<b.atoms.length:=by omega
  have:=hb.tight _ (XI hn);rw[bg hn];omega
 .omega
def zr{b:Bk}(hb:BkOk b)(s:Xp)(Xh:Int):-1152921504606846976<=iW b.atoms s Xh/\iW b.atoms s Xh<=2305843009213693952:=by
 unfold iW mX;split
 .split
  .rename_i h;have h1:=yn hb (s.atom-1);obtain⟨n,hn⟩:∃n:Nat,s.atom=n:=⟨s.atom.toNat,by omega⟩
   have hnl:n<b.atoms.length:=by omega
   have:=hb.tight _ (XI hnl);rw[hn]at h1|-;rw[bg hnl];omega
  .omega
 .omega
def oZ{l:List Xv}{s:Xp}{kept shift body:Int}:jD l s kept shift body<=l.length:=by
 unfold jD;split
 .rename_i h;have:=Fq (fP l s kept shift body) (l.length-s.atom.toNat);have:=h.1;omega
 .omega
def Hl(ah:Fd->Fd->Bool->Bool):∀(xs:List Fd) (d:Fd),(fO ah xs d).1=d\/(fO ah xs d).1∈xs:=by
 have key:∀(xs:List Fd) (p:Fd×Bool),(xs.foldl (gy ah) p).1=p.1\/(xs.foldl (gy ah) p).1∈xs:=by
  intro xs
  induction xs with
  |nil=>intro p;exact .inl rfl
  |cons x xs ih=>
   intro p;rw[jm];rcases ih (gy ah p x)with h|h
   .rw[h];unfold gy;split
    .exact .inr (by simp)
    .exact .inl rfl
   .exact .inr (by simp[h])
 exact λxs d=>key xs (d,false)
def F8{xs:List Fd}(h:xs≠[])(d:Fd):(fO jR xs d).1∈xs:=by
 obtain⟨x,xs,rfl⟩:∃x l,xs=x::l:=by cases xs with
  |nil=>exact absurd rfl h
  |cons x l=>exact⟨x,l,rfl⟩
 unfold fO;rw[jm];have:gy jR (d,false) x=(x,true):=by simp[gy,jR]
 rw[this];have key:∀(xs:List Fd) (p:Fd×Bool),(xs.foldl (gy jR) p).1=p.1\/(xs.foldl (gy jR) p).1∈xs:=by
  intro xs
  induction xs with
  |nil=>intro p;exact .inl rfl
  |cons x xs ih=>
   intro p;rw[jm];rcases ih (gy jR p x)with h|h
   .rw[h];unfold gy;split
    .exact .inr (by simp)
    .exact .inl rfl
   .exact .inr (by simp[h])
 rcases key xs (x,true)with h|h
 .rw[h];simp
 .simp[h]
def qL{b:List YJ}{i fit:Int}(h:eD b i fit)(hf:fit<=(b.length:Int)-1):∃c:Nat,qF b i fit=c/\i<c/\(c:Int)<=fit:=by
 obtain⟨_,h1,h2,h3⟩:=h;have mem:∀x∈(btw b (i+1) fit).map (mi b),∃c:Nat,x.i=c/\i<c/\(c:Int)<=fit:=λx hx=>by
  obtain⟨k,hk,rfl⟩:=gM.1 hx;unfold btw uG at hk;rw[List.mem_range'_1]at hk;exact⟨k,rfl,by omega,by omega⟩
 unfold qF;split
 .refine mem _ (F8 ?_ _);intro e;have:=congrArg List.length e;simp[btw,uG]at this;omega
 .rename_i hn;rcases Hl iE ((btw b (i+1) fit).map (mi b)) C7 with h|h
  .exact absurd (show lL b (i+1) fit<0 by unfold lL;rw[h];decide) hn
  .exact mem _ h
def Zr.set{b:Bk}{K:ag}{ix:Nat}{x:Wx}{U:ag}{vh vf vl:V}(h:Zr b K ix x U vh vf vl)(x':Wx)(h1:x'.hs=x.hs)(h2:x'.fs=x.fs)(h3:x'.ls=x.ls):Zr b K ix x' (C' U ix (di b x' vh vf vl)) vh vf vl:=by
 have k2:aX K ix ix≠none:=λh=>(aH.1 h).1 rfl;exact⟨Vc.af,h1▸h.oh.ae k2,h2▸h.of.ae k2,h3▸h.ol.ae k2,h.hf,h.hl,h.fl,h.sub.av h.no,h.no⟩
def cD(b:Bk)(x:Wx):Int:=iW b.atoms x.s (x.body-x.shift)
def cj(b:Bk)(x:Wx):Int:=jD b.atoms x.s (cD b x) x.shift x.body
def p9(b:Bk)(x:Wx):Int:=qF b.L' x.s.atom (cj b x)
def sE(b:Bk)(x:Wx)(kept:Int)(cut:Nat):Wx:=(x.add (bY b x kept (cut-x.s.atom.toNat))).put (cu b.atoms b.M' x.s cut kept x.shift x.body).1
def xJ(b:Bk)(x:Wx)(kept:Int)(cut:Nat):XE:=⟨⟨cut,0,decide ((b.L'.getD cut ⟨0,0,0⟩).forced≠0)⟩,(cu b.atoms b.M' x.s cut kept x.shift x.body).2⟩
def cZ(b:Bk)(x:Wx):Wx:=if eD b.L' x.s.atom (cj b x)then sE b { x with kind:=1 } (cD b x) (p9 b x).toNat else ui b { x with kind:=1 }
def dQ(b:Bk)(x:Wx):XE:=if eD b.L' x.s.atom (cj b x)then xJ b { x with kind:=1 } (cD b x) (p9 b x).toNat else uv b { x with kind:=1 }
def Ly(b:Bk)(hb:BkOk b)(x:Wx)(hm:bS b.atoms x.s)(hx:x.fs.length<=1000000)(hxl:x.ls.length<=1000000)(hh:0<=x.high/\x.high<=1125899906842624)(hbd:0<=x.body/\x.body<=1125899906842624)
 (hsh:0<=x.shift/\x.shift<=1125899906842624){K U:ag}{i1:Nat}{vh vf vl:V}(hJ:Zr b K i1 x U vh vf vl):
 ax prog 120 [.ptr i1 0 0] U λr Z'=>∃vf' vl',r=bC (dQ b x)/\Zr b K i1 (cZ b x) Z' vh vf' vl':=by
 refine Tw.r (by simp[NZ]) ?_;have hs:=aa.refl U;have hbk:bc b=.agg [aC b.nodes,vI b.w,vI b.h,aW b.atoms,aB b.M',vI b.WG,bh b.L']:=rfl;have a1:=hJ.row;rw[di]at a1;obtain⟨ch,sh⟩:=hJ.oh.vc;obtain⟨cf,sf⟩:=hJ.of.vc;obtain⟨cl,sl⟩:=hJ.ol.vc;have hd:=td hb hm;have hk:=zr hb x.s (x.body-x.shift);have hlen:=hb.len;have XU:=hb.brk;have hKc:=EZ b.atoms hb.Xg x.s (x.body-x.shift);have hRc:=Be b.atoms hb.Xg x.s (by omega) (cD b x) x.shift x.body hk ⟨by omega,by omega⟩;have hCc:=Ox b.L' (by omega) x.s.atom (cj b x);have hrl:cj b x<=b.atoms.length:=oZ;have hcr:eD b.L' x.s.atom (cj b x)->∃c:Nat,p9 b x=c/\x.s.atom<c/\(c:Int)<=cj b x:=λh=>qL h (by omega);have hXk:cD b x=iW b.atoms x.s (x.body-x.shift):=rfl;rw[<-hXk]at hKc hk;have hXr:cj b x=jD b.atoms x.s (cD b x) x.shift x.body:=rfl;rw[<-hXr]at hRc;have hXc:p9 b x=qF b.L' x.s.atom (cj b x):=rfl;rw[<-hXc]at hCc;have r1:WR .i64 (x.body-x.shift):=ai;rw[aU]at hKc hRc;unfold cZ dQ;generalize cD b x=kept at*;generalize cj b x=reach at*;generalize p9 b x=cut at*;refine ab.mix 8 ?_;apply sR;simp only[go_sem,seval,NZ];refine ad λi2 Z2 s2 a2 f2=>?_;replace a1:=s2 _ _ a1;replace hs:=hs.trans s2;have k2:K i2=none:=hJ.sub.none f2;have hJ2:=hJ.pM s2 f2 a2;simp only[go_sem,seval,a1,hbk,kF,r1];refine Go.bw rfl rfl rfl hKc ?_;apply sG;simp only[go_sem,seval,a1,hbk,Ia];refine Go.bw rfl rfl rfl hRc ?_;apply sG;simp only[go_sem,seval];refine Go.bw rfl rfl rfl hCc ?_;have hJs:=hJ2.set { x with kind:=1 } rfl rfl rfl;rw[di]at hJs;by_cases WL:eD b.L' x.s.atom reach
 .obtain⟨c,rfl,h1,h2⟩:=hcr WL;rw[XJ WL,aq WL,aq WL,aq WL,fc];apply sG;simp only[go_sem,seval,a1];generalize hq1:C' Z2 i1 _=Y1 at*;have hw:ax prog 181 [.ptr i1 0 0,vI kept,vI c] Y1 λr Z'=>∃vf' vl',r=bC (xJ b { x with kind:=1 } kept c)/\Zr b (C' K i2 ⟨45,4,[.agg [vI 0,vI 0,.bool false,.ay]]⟩) i1 (sE b { x with kind:=1 } kept c) Z' vh vf' vl':=Jz b hb { x with kind:=1 } hm (by show x.s.done<=_;omega) hx hxl (by show 0<=x.high/\x.high<=_;omega) kept hk (by show 0<=x.shift/\x.shift<=_;omega) c (by show x.s.atom<=_;omega) (by omega) hJs;generalize xJ b { x with kind:=1 } kept c=Z at*;generalize sE b { x with kind:=1 } kept c=Y at*;refine ab.mj rfl rfl rfl hw ?_;rintro r Z' ⟨vf',vl',rfl,YL⟩;have c2:=YL.sub _ _ af;apply sR;simp only[go_sem,seval,c2,bC];exact⟨_,_,aa.refl _,Wk.refl (aa.refl _) _,vf',vl',rfl,YL.drop k2 _⟩
 .rw[Xr WL,ao WL,ao WL,ao WL];apply sG;simp only[go_sem,seval,a1];generalize hq1:C' Z2 i1 _=Y1 at*;have hw:ax prog 180 [.ptr i1 0 0,vI kept,vI 0] Y1 λr Z'=>∃vf' vl',r=bC (uv b { x with kind:=1 })/\Zr b (C' K i2 ⟨45,4,[.agg [vI 0,vI 0,.bool false,.ay]]⟩) i1 (ui b { x with kind:=1 }) Z' vh vf' vl':=MM b hb { x with kind:=1 } hm (by show x.s.done<=_;omega) hx hxl (by show 0<=x.high/\x.high<=_;omega) kept 0 hJs;generalize uv b { x with kind:=1 }=Z at*;generalize ui b { x with kind:=1 }=Y at*;refine ab.mj rfl rfl rfl hw ?_;rintro r Z' ⟨vf',vl',rfl,YL⟩;have c2:=YL.sub _ _ af;apply sR;simp only[go_sem,seval,c2,bC];exact⟨_,_,aa.refl _,Wk.refl (aa.refl _) _,vf',vl',rfl,YL.drop k2 _⟩
open Go.Proofs Go.Proofs.Tryz
def kf(body:Int)(f:T'):Bool:=decide (f.y+f.h<=body)
def xq(b:Bk)(x:Wx):Wx:={ (x.put (b.M'.takeWhile (kf x.body)))with kind:=2 }
def lq(b:Bk)(x:Wx):XE:=⟨⟨0,0,false⟩,b.M'.dropWhile (kf x.body)⟩
def Ce{P:List T'}{j:Nat}(h:j<=P.length):∀U,eK U 7 (aB P) none (some (.int .i64 j)) none=some (aB (P.take j)):=λU=>by
 have h1:(j:Int)<=P.length:=by omega
 simp only[aB,eK,bX,dd];rw[aq ⟨Int.le_refl _,by omega,h1,Int.le_refl _,trivial⟩];simp[List.map_take]
def AQ{α:Type}{p:α->Bool}:∀{l:List α} {j:Nat},(∀x∈l.take j,p x=true)->(∀x,l[j]?=some x->p x=false)->j<=l.length->l.takeWhile p=l.take j/\l.dropWhile p=l.drop j
 |[],j,_,_,h=>by simp
 |x::l,0,_,h2,_=>by
  have:=h2 x rfl;simp[this]
 |x::l,j+1,h1,h2,h=>by
  have hx:=h1 x (by simp);have ih:=AQ (p:=p) (l:=l) (j:=j) (λy hy=>h1 y (by simp[hy])) (λy hy=>h2 y (by simpa using hy)) (by simpa using h);simp[hx,ih.1,ih.2]
def Kt(b:Bk)(hb:BkOk b)(x:Wx)(hxl:x.ls.length<=1000000)(hh:0<=x.high/\x.high<=1125899906842624){K U:ag}{i1:Nat}{vh vf vl:V}(hJ:Zr b K i1 x U vh vf vl):
 ax prog 116 [.ptr i1 0 0] U λr Z'=>∃vl',r=bC (lq b x)/\Zr b K i1 (xq b x) Z' vh vf vl':=by
 refine Tv.r (by simp[Q1]) ?_;have hs:=aa.refl U;have hbk:bc b=.agg [aC b.nodes,vI b.w,vI b.h,aW b.atoms,aB b.M',vI b.WG,bh b.L']:=rfl;have a1:=hJ.row;rw[di]at a1;obtain⟨ch,sh⟩:=hJ.oh.vc;obtain⟨cf,sf⟩:=hJ.of.vc;obtain⟨cl,sl⟩:=hJ.ol.vc;have hfn:=hb.Zi;have hlp:=fM b.M';unfold xq lq;refine ab.mix 5 ?_;apply sR;simp only[go_sem,seval,Q1];refine ad λi2 Z2 s2 a2 f2=>?_;have n12:=al a1 f2;replace a1:=s2 _ _ a1;replace hs:=hs.trans s2;have k2:K i2=none:=hJ.sub.none f2;have hJ2:=hJ.pM s2 f2 a2;simp only[go_sem,seval,a1,hbk,Fc];refine ab.eG (λst=>∃j:Nat,j<=b.M'.length/\b.M'.takeWhile (kf x.body)=b.M'.take j/\b.M'.dropWhile (kf x.body)=b.M'.drop j/\st.U=Z2/\st.s 0=.ptr i1 0 0/\st.s 2=.ptr i2 0 0/\st.s 3=vI j/\st.s 4=aB b.M')
  (λm st=>∃j:Nat,j<=b.M'.length/\m=b.M'.length-j/\(∀f∈b.M'.take j,kf x.body f=true)/\st.U=Z2/\st.s 0=.ptr i1 0 0/\st.s 2=.ptr i2 0 0/\st.s 3=vI j/\st.s 4=aB b.M') b.M'.length ?_ ?_ ?_
 .exact⟨0,by omega,rfl,by simp,rfl,rfl,rfl,rfl,rfl⟩
 .rintro m ⟨S,J⟩ ⟨j,hj,rfl,XF,W4,t0,t2,t3,t4⟩;simp only at W4 t0 t2 t3 t4;subst W4;refine ab.mix 5 ?_;by_cases H':j<b.M'.length
  .have q:((j:Int)<b.M'.length)=True:=WE;have U':=λU=>j2 (U:=U) H';have hfl:aJ b.M'[j]=.agg [vI b.M'[j].node,vI b.M'[j].side,vI b.M'[j].anchor,vI b.M'[j].x,vI b.M'[j].y,vI b.M'[j].w,vI b.M'[j].h]:=rfl;obtain⟨_,⟨o1,o2⟩,_,o3,o4⟩:=hb.flo _ (XI H');have XB:b.M'.take (j+1)=b.M'.take j++[b.M'[j]]:=ZS H';have ZU:b.M'[j]?=some b.M'[j]:=ZF H';generalize b.M'[j]=f at*;have r1:WR .i64 (f.y+f.h):=ai;have r2:WR .i64 ((j:Int)+1):=ai;by_cases hle:f.y+f.h<=x.body
   .have q1:(f.y+f.h<=x.body)=True:=WE hle;apply sR;simp only[go_sem,seval,t0,t2,t3,t4,hlp,q,U',hfl,a1,r1,q1,r2];refine⟨_,?_,j+1,by omega,rfl,?_,by simp⟩
    .omega
    .rw[XB];intro g hg;rcases dD.1 hg with hg|hg
     .exact XF g hg
     .simp at hg;subst hg;exact XJ hle
   .have q1:(f.y+f.h<=x.body)=False:=O' hle;apply sR;simp only[go_sem,seval,t0,t2,t3,t4,hlp,q,U',hfl,a1,r1,q1];obtain⟨e1,e2⟩:=AQ XF (λg hg=>by rw[ZU]at hg;cases hg;exact Xr hle) hj;exact⟨j,hj,e1,e2,by simp⟩
  .have q:((j:Int)<b.M'.length)=False:=O';apply sR;simp only[go_sem,seval,t0,t2,t3,t4,hlp,q];obtain⟨e1,e2⟩:=AQ XF (λg hg=>by rw[oE (by omega)]at hg;cases hg) hj;exact⟨j,hj,e1,e2,by simp⟩
 .rintro⟨S,J⟩ ⟨j,hj,e1,e2,W4,t0,t2,t3,t4⟩;simp only at W4 t0 t2 t3 t4;subst W4;rw[e1,e2];have hsl:=Ce hj;have hsl2:=sq hj;refine ab.mix 5 ?_;apply sR;simp only[BB,seval,bf,ez,aF,Yp.nothing,t0,t3,t4,hsl];refine ab.call rfl rfl rfl (pt b (b.M'.take j) (by rw[gO];omega) x hxl (λf hf=>by
   obtain⟨_,⟨o1,o2⟩,_,o3,o4⟩:=hb.flo f (qp hf);exact ai) hJ2) ?_
  rintro r Z' ⟨vl',YL⟩;have b1:=YL.row;have n12':i1≠i2:=n12;rw[di]at b1;generalize x.put (b.M'.take j)=y at*;have hJs:=YL.set { y with kind:=2 } rfl rfl rfl;rw[di]at hJs;apply sR;simp only[BB,seval,bf,ez,aF,lx,jW,fI,ec,ia,V.cells,V.stays,Yp.nothing,t0,t3,t4,b1,hsl2];generalize hq1:C' Z' i1 _=Y1 at*;replace c2:=hJs.sub _ _ af;refine ab.au rfl rfl rfl (Ch (b.M'.drop j) (by rw[oG];omega) _) ?_;apply sR;simp only[go_sem,seval,c2,t2,dI,dK];exact⟨_,_,aa.refl _,Wk.refl (aa.refl _) _,vl',rfl,hJs.drop k2 _⟩
end Go.Vc
