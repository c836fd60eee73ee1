/- Part 9 of the library of this proof. -/
import Derived.Test.YtdaelobhgmdoeaaGreatW8
set_option linter.all false
set_option maxHeartbeats 8000000
set_option maxRecDepth 100000
namespace Go.Vc
open Go.Proofs Go.Proofs.Tryz
def qo(x:Brk)(first last:Bool):Prop:=
 (first=true->x.cls=0)/\(first=false->last=true->x.cls=3)/\(first=false->last=false->x.cls=1\/x.cls=2)/\
 (x.forced=0\/(2<=x.forced/\x.forced<=4/\x.cls≠3/\x.cls≠2))/\(x.Zq=0\/((x.cls=1\/x.cls=2)/\x.forced=0/\0<x.Zq/\x.Zq<8))
instance (x:Brk) (a b:Bool):Decidable (qo x a b):=by unfold qo;infer_instance
def M0(x:Brk)(first last:Bool):aJ prog 283 [e8 x,.bool first,.bool last] (.bool (decide (qo x first last))):=λU=>by
 refine W3.r (by simp[P0]) ?_;have hs:=aa.refl U;obtain⟨c,f,r⟩:=x;refine ab.mix 9 ?_;apply sR;simp only[go_sem,seval,P0,e8];refine ad λi3 Z3 s3 a3 f3=>?_;replace hs:=hs.trans s3;unfold qo;simp only;have C:c=0\/c=1\/c=2\/c=3\/((c=0)=False/\(c=1)=False/\(c=2)=False/\(c=3)=False/\(c≠0)=True/\(c≠3)=True):=by
  by_cases h0:c=0
  .exact .inl h0
  by_cases h1:c=1
  .exact .inr (.inl h1)
  by_cases h2:c=2
  .exact .inr (.inr (.inl h2))
  by_cases h3:c=3
  .exact .inr (.inr (.inr (.inl h3)))
  .exact .inr (.inr (.inr (.inr ⟨T' h0,T' h1,T' h2,T' h3,Yd h0,Yd h3⟩)))
 have F:f=0\/((f=0)=False/\((f<2)=True/\(2<=f/\f<=4)=False\/(f<2)=False/\((f>4)=True/\(2<=f/\f<=4)=False\/(f>4)=False/\(2<=f)=True/\(f<=4)=True))):=by
  by_cases h0:f=0
  .exact .inl h0
  refine .inr ⟨T' h0,?_⟩;by_cases h1:f<2
  .exact .inl ⟨Yd h1,T'⟩
  refine .inr ⟨T' h1,?_⟩;by_cases h2:f>4
  .exact .inl ⟨Yd h2,T'⟩
  .exact .inr ⟨T' h2,Yd,Yd⟩
 have R:r=0\/((r=0)=False/\((r>0)=False/\(0<r)=False\/(r>0)=True/\(0<r)=True/\((r<8)=True\/(r<8)=False))):=by
  by_cases h0:r=0
  .exact .inl h0
  refine .inr ⟨T' h0,?_⟩;by_cases h1:r>0
  .refine .inr ⟨Yd h1,Yd h1,?_⟩;by_cases h2:r<8
   .exact .inl (Yd h2)
   .exact .inr (T' h2)
  .exact .inl ⟨T' h1,T'⟩
 rcases C with rfl|rfl|rfl|rfl|⟨c0,c1,c2,c3,c4,c5⟩
 .rcases F with rfl|⟨f0,⟨f1,f2⟩|⟨f1,⟨f2,f3⟩|⟨f2,f3,f4⟩⟩⟩
  .cases first
   .cases last
    .simp only[go_sem,seval,a3];exact ak.pure hs (by simp)
    .simp only[go_sem,seval,a3];exact ak.pure hs (by simp)
   .cases last
    .rcases R with rfl|⟨r0,⟨r1,r2⟩|⟨r1,r2,r3|r3⟩⟩
     .simp only[go_sem,seval,a3];exact ak.pure hs (by simp)
     .simp only[go_sem,seval,a3,r0,r1];exact ak.pure hs (by simp)
     .simp only[go_sem,seval,a3,r0,r1,r3];exact ak.pure hs (by simp)
     .simp only[go_sem,seval,a3,r0,r1,r3];exact ak.pure hs (by simp)
    .rcases R with rfl|⟨r0,⟨r1,r2⟩|⟨r1,r2,r3|r3⟩⟩
     .simp only[go_sem,seval,a3];exact ak.pure hs (by simp)
     .simp only[go_sem,seval,a3,r0,r1];exact ak.pure hs (by simp)
     .simp only[go_sem,seval,a3,r0,r1,r3];exact ak.pure hs (by simp)
     .simp only[go_sem,seval,a3,r0,r1,r3];exact ak.pure hs (by simp)
  .cases first
   .cases last
    .simp only[go_sem,seval,a3,f0];exact ak.pure hs (by simp[f2])
    .simp only[go_sem,seval,a3,f0];exact ak.pure hs (by simp[f2])
   .cases last
    .simp only[go_sem,seval,a3,f0,f1];exact ak.pure hs (by simp[f2])
    .simp only[go_sem,seval,a3,f0,f1];exact ak.pure hs (by simp[f2])
  .cases first
   .cases last
    .simp only[go_sem,seval,a3,f0];exact ak.pure hs (by simp[f3])
    .simp only[go_sem,seval,a3,f0];exact ak.pure hs (by simp[f3])
   .cases last
    .simp only[go_sem,seval,a3,f0,f1,f2];exact ak.pure hs (by simp[f3])
    .simp only[go_sem,seval,a3,f0,f1,f2];exact ak.pure hs (by simp[f3])
  .cases first
   .cases last
    .simp only[go_sem,seval,a3,f0];exact ak.pure hs (by simp[f3,f4])
    .simp only[go_sem,seval,a3,f0];exact ak.pure hs (by simp[f3,f4])
   .cases last
    .rcases R with rfl|⟨r0,⟨r1,r2⟩|⟨r1,r2,r3|r3⟩⟩
     .simp only[go_sem,seval,a3,f0,f1,f2];exact ak.pure hs (by simp[f3,f4])
     .simp only[go_sem,seval,a3,f0,f1,f2,r0,r1];exact ak.pure hs (by simp[f3,f4])
     .simp only[go_sem,seval,a3,f0,f1,f2,r0,r1,r3];exact ak.pure hs (by simp[f3,f4])
     .simp only[go_sem,seval,a3,f0,f1,f2,r0,r1,r3];exact ak.pure hs (by simp[f3,f4])
    .rcases R with rfl|⟨r0,⟨r1,r2⟩|⟨r1,r2,r3|r3⟩⟩
     .simp only[go_sem,seval,a3,f0,f1,f2];exact ak.pure hs (by simp[f3,f4])
     .simp only[go_sem,seval,a3,f0,f1,f2,r0,r1];exact ak.pure hs (by simp[f3,f4])
     .simp only[go_sem,seval,a3,f0,f1,f2,r0,r1,r3];exact ak.pure hs (by simp[f3,f4])
     .simp only[go_sem,seval,a3,f0,f1,f2,r0,r1,r3];exact ak.pure hs (by simp[f3,f4])
 .rcases F with rfl|⟨f0,⟨f1,f2⟩|⟨f1,⟨f2,f3⟩|⟨f2,f3,f4⟩⟩⟩
  .cases first
   .cases last
    .rcases R with rfl|⟨r0,⟨r1,r2⟩|⟨r1,r2,r3|r3⟩⟩
     .simp only[go_sem,seval,a3];exact ak.pure hs (by simp)
     .simp only[go_sem,seval,a3,r0,r1];exact ak.pure hs (by simp)
     .simp only[go_sem,seval,a3,r0,r1,r3];exact ak.pure hs (by simp)
     .simp only[go_sem,seval,a3,r0,r1,r3];exact ak.pure hs (by simp)
    .simp only[go_sem,seval,a3];exact ak.pure hs (by simp)
   .cases last
    .simp only[go_sem,seval,a3];exact ak.pure hs (by simp)
    .simp only[go_sem,seval,a3];exact ak.pure hs (by simp)
  .cases first
   .cases last
    .simp only[go_sem,seval,a3,f0,f1];exact ak.pure hs (by simp[f2])
    .simp only[go_sem,seval,a3,f0];exact ak.pure hs (by simp[f2])
   .cases last
    .simp only[go_sem,seval,a3,f0];exact ak.pure hs (by simp[f2])
    .simp only[go_sem,seval,a3,f0];exact ak.pure hs (by simp[f2])
  .cases first
   .cases last
    .simp only[go_sem,seval,a3,f0,f1,f2];exact ak.pure hs (by simp[f3])
    .simp only[go_sem,seval,a3,f0];exact ak.pure hs (by simp[f3])
   .cases last
    .simp only[go_sem,seval,a3,f0];exact ak.pure hs (by simp[f3])
    .simp only[go_sem,seval,a3,f0];exact ak.pure hs (by simp[f3])
  .cases first
   .cases last
    .rcases R with rfl|⟨r0,⟨r1,r2⟩|⟨r1,r2,r3|r3⟩⟩
     .simp only[go_sem,seval,a3,f0,f1,f2];exact ak.pure hs (by simp[f3,f4])
     .simp only[go_sem,seval,a3,f0,f1,f2,r0,r1];exact ak.pure hs (by simp[f3,f4])
     .simp only[go_sem,seval,a3,f0,f1,f2,r0,r1,r3];exact ak.pure hs (by simp[f3,f4])
     .simp only[go_sem,seval,a3,f0,f1,f2,r0,r1,r3];exact ak.pure hs (by simp[f3,f4])
    .simp only[go_sem,seval,a3,f0];exact ak.pure hs (by simp[f3,f4])
   .cases last
    .simp only[go_sem,seval,a3,f0];exact ak.pure hs (by simp[f3,f4])
    .simp only[go_sem,seval,a3,f0];exact ak.pure hs (by simp[f3,f4])
 .rcases F with rfl|⟨f0,⟨f1,f2⟩|⟨f1,⟨f2,f3⟩|⟨f2,f3,f4⟩⟩⟩
  .cases first
   .cases last
    .rcases R with rfl|⟨r0,⟨r1,r2⟩|⟨r1,r2,r3|r3⟩⟩
     .simp only[go_sem,seval,a3];exact ak.pure hs (by simp)
     .simp only[go_sem,seval,a3,r0,r1];exact ak.pure hs (by simp)
     .simp only[go_sem,seval,a3,r0,r1,r3];exact ak.pure hs (by simp)
     .simp only[go_sem,seval,a3,r0,r1,r3];exact ak.pure hs (by simp)
    .simp only[go_sem,seval,a3];exact ak.pure hs (by simp)
   .cases last
    .simp only[go_sem,seval,a3];exact ak.pure hs (by simp)
    .simp only[go_sem,seval,a3];exact ak.pure hs (by simp)
  .cases first
   .cases last
    .simp only[go_sem,seval,a3,f0,f1];exact ak.pure hs (by simp)
    .simp only[go_sem,seval,a3,f0];exact ak.pure hs (by simp)
   .cases last
    .simp only[go_sem,seval,a3,f0];exact ak.pure hs (by simp)
    .simp only[go_sem,seval,a3,f0];exact ak.pure hs (by simp)
  .cases first
   .cases last
    .simp only[go_sem,seval,a3,f0,f1,f2];exact ak.pure hs (by simp)
    .simp only[go_sem,seval,a3,f0];exact ak.pure hs (by simp)
   .cases last
    .simp only[go_sem,seval,a3,f0];exact ak.pure hs (by simp)
    .simp only[go_sem,seval,a3,f0];exact ak.pure hs (by simp)
  .cases first
   .cases last
    .simp only[go_sem,seval,a3,f0,f1,f2];exact ak.pure hs (by simp[f3,f4])
    .simp only[go_sem,seval,a3,f0];exact ak.pure hs (by simp[f3,f4])
   .cases last
    .simp only[go_sem,seval,a3,f0];exact ak.pure hs (by simp[f3,f4])
    .simp only[go_sem,seval,a3,f0];exact ak.pure hs (by simp[f3,f4])
 .rcases F with rfl|⟨f0,⟨f1,f2⟩|⟨f1,⟨f2,f3⟩|⟨f2,f3,f4⟩⟩⟩
  .cases first
   .cases last
    .simp only[go_sem,seval,a3];exact ak.pure hs (by simp)
    .rcases R with rfl|⟨r0,⟨r1,r2⟩|⟨r1,r2,r3|r3⟩⟩
     .simp only[go_sem,seval,a3];exact ak.pure hs (by simp)
     .simp only[go_sem,seval,a3,r0,r1];exact ak.pure hs (by simp)
     .simp only[go_sem,seval,a3,r0,r1,r3];exact ak.pure hs (by simp)
     .simp only[go_sem,seval,a3,r0,r1,r3];exact ak.pure hs (by simp)
   .cases last
    .simp only[go_sem,seval,a3];exact ak.pure hs (by simp)
    .simp only[go_sem,seval,a3];exact ak.pure hs (by simp)
  .cases first
   .cases last
    .simp only[go_sem,seval,a3,f0];exact ak.pure hs (by simp)
    .simp only[go_sem,seval,a3,f0,f1];exact ak.pure hs (by simp)
   .cases last
    .simp only[go_sem,seval,a3,f0];exact ak.pure hs (by simp)
    .simp only[go_sem,seval,a3,f0];exact ak.pure hs (by simp)
  .cases first
   .cases last
    .simp only[go_sem,seval,a3,f0];exact ak.pure hs (by simp)
    .simp only[go_sem,seval,a3,f0,f1,f2];exact ak.pure hs (by simp)
   .cases last
    .simp only[go_sem,seval,a3,f0];exact ak.pure hs (by simp)
    .simp only[go_sem,seval,a3,f0];exact ak.pure hs (by simp)
  .cases first
   .cases last
    .simp only[go_sem,seval,a3,f0];exact ak.pure hs (by simp[f3,f4])
    .simp only[go_sem,seval,a3,f0,f1,f2];exact ak.pure hs (by simp[f3,f4])
   .cases last
    .simp only[go_sem,seval,a3,f0];exact ak.pure hs (by simp[f3,f4])
    .simp only[go_sem,seval,a3,f0];exact ak.pure hs (by simp[f3,f4])
 .rcases F with rfl|⟨f0,⟨f1,f2⟩|⟨f1,⟨f2,f3⟩|⟨f2,f3,f4⟩⟩⟩
  .cases first
   .cases last
    .simp only[go_sem,seval,a3,c0,c1,c2,c3,c5];exact ak.pure hs (by simp[c2])
    .simp only[go_sem,seval,a3,c0,c1,c2,c3,c5];exact ak.pure hs (by simp[c2])
   .cases last
    .simp only[go_sem,seval,a3,c0,c1,c2,c3,c4,c5];exact ak.pure hs (by simp[c2])
    .simp only[go_sem,seval,a3,c0,c1,c2,c3,c4,c5];exact ak.pure hs (by simp[c2])
  .cases first
   .cases last
    .simp only[go_sem,seval,a3,c0,c1,c2,c3,c5,f0];exact ak.pure hs (by simp[c2,f2])
    .simp only[go_sem,seval,a3,c0,c1,c2,c3,c5,f0];exact ak.pure hs (by simp[c2,f2])
   .cases last
    .simp only[go_sem,seval,a3,c0,c1,c2,c3,c4,c5,f0];exact ak.pure hs (by simp[c2,f2])
    .simp only[go_sem,seval,a3,c0,c1,c2,c3,c4,c5,f0];exact ak.pure hs (by simp[c2,f2])
  .cases first
   .cases last
    .simp only[go_sem,seval,a3,c0,c1,c2,c3,c5,f0];exact ak.pure hs (by simp[c2,f3])
    .simp only[go_sem,seval,a3,c0,c1,c2,c3,c5,f0];exact ak.pure hs (by simp[c2,f3])
   .cases last
    .simp only[go_sem,seval,a3,c0,c1,c2,c3,c4,c5,f0];exact ak.pure hs (by simp[c2,f3])
    .simp only[go_sem,seval,a3,c0,c1,c2,c3,c4,c5,f0];exact ak.pure hs (by simp[c2,f3])
  .cases first
   .cases last
    .simp only[go_sem,seval,a3,c0,c1,c2,c3,c5,f0];exact ak.pure hs (by simp[c2,f3,f4])
    .simp only[go_sem,seval,a3,c0,c1,c2,c3,c5,f0];exact ak.pure hs (by simp[c2,f3,f4])
   .cases last
    .simp only[go_sem,seval,a3,c0,c1,c2,c3,c4,c5,f0];exact ak.pure hs (by simp[c2,f3,f4])
    .simp only[go_sem,seval,a3,c0,c1,c2,c3,c4,c5,f0];exact ak.pure hs (by simp[c2,f3,f4])
open Go.Proofs Go.Proofs.Tryz
def bkG(b:List Brk)(i:Nat):Brk:=b.getD i ⟨0,0,0⟩
def iq(b:List Brk)(i:Nat):Bool:=decide (qo (bkG b i) (decide ((i:Int)=0)) (decide ((i:Int)=(b.length:Int)-1)))
def xV(b:List Brk):Bool:=(List.range b.length).all (iq b)&&decide ((b.length:Int)>0)
def Hd{b:List Brk}{j:Nat}(h:(List.range j).all (iq b)=true)(hr:iq b j=true):(List.range (j+1)).all (iq b)=true:=by
 rw[List.range_succ,List.all_append,h];simp[hr]
def Rh(b:List Brk)(hb:b.length<=1000000):aJ prog 235 [bE b] (.bool (xV b)):=λU=>by
 refine Xu.r (by simp[RI]) ?_;have hlb:=Fa b;refine ab.mix 5 ?_;apply sR;simp only[go_sem,seval,RI,hlb];refine ab.fj (λst=>aa U st.U/\st.s 0=bE b/\(List.range b.length).all (iq b)=true)
  (λm st=>∃j:Nat,j<=b.length/\m=b.length-j/\aa U st.U/\(List.range j).all (iq b)=true/\st.s 0=bE b/\st.s 5=bE b/\st.s 6=vI b.length/\st.s 7=vI j) b.length ?_ ?_ ?_
 .exact⟨0,by omega,rfl,aa.refl _,rfl,rfl,rfl,rfl,rfl⟩
 .rintro m ⟨S,J⟩ ⟨j,hj,rfl,hs,YU,t0,t5,t6,t7⟩;simp only at hs t0 t5 t6 t7;refine ab.mix 5 ?_;by_cases H':j<b.length
  .have q:((j:Int)<b.length)=True:=Yd;have r1:Yl .i64 ((j:Int)+1):=ai;have r2:Yl .i64 ((b.length:Int)-1):=ai;have X2:=λU=>rV (U:=U) H';have hg:bkG b j=b[j]:=by simp[bkG,H']
   have hra:iq b j=decide (qo b[j] (decide ((j:Int)=0)) (decide ((j:Int)=(b.length:Int)-1))):=by rw[iq,hg]
   apply sR;simp only[go_sem,seval,t5,t6,t7,q,X2,e8];refine ad λi4 Z4 s4 a4 f4=>?_;simp only[go_sem,seval,a4,t0,hlb,r2];generalize hq4:C' Z4 i4 _=Y4;have s4':aa J Y4:=by rw[<-hq4];exact s4.ax f4
   clear hq4;refine ab.ay rfl rfl rfl (M0 b[j] (decide ((j:Int)=0)) (decide ((j:Int)=(b.length:Int)-1)) _) ?_;rw[<-hra];cases hv:iq b j
   .apply sR;simp only[go_sem,seval];have hm:xV b=false:=by
     rw[xV];have:(List.range b.length).all (iq b)=false:=by
      rw[List.all_eq_false];exact⟨j,List.mem_range.2 H',by simp[hv]⟩
     rw[this];rfl
    exact ak.pure (hs.trans s4') (by rw[hm])
   .apply sR;simp only[go_sem,seval,t0,t5,t6,t7,r1];refine⟨_,?_,j+1,by omega,rfl,hs.trans s4',Hd YU hv,by simp⟩;omega
  .have q:((j:Int)<b.length)=False:=T';have hje:j=b.length:=by omega
   subst hje;apply sR;simp only[go_sem,seval,t0,t6,t7,q];exact⟨hs,YU⟩
 .rintro⟨S,J⟩ ⟨hs,t0,YU⟩;simp only at hs t0 YU;refine ab.mix 5 ?_;apply sR;simp only[go_sem,seval,t0,hlb];exact ak.pure hs (by rw[xV,YU];rfl)
open Go.Proofs Go.Proofs.Tryz
def jL(b:List Brk)(i:Nat):V:=.agg [vI (bkG b i).cls,vI (bkG b i).forced,vI (bkG b i).Zq,vI i]
def xS(b:List Brk)(bK to:Int):Nat:=(min to ((b.length:Int)-1)+1-max bK 0).toNat
def btw(b:List Brk)(bK to:Int):List Nat:=List.range' (max bK 0).toNat (xS b bK to)
def TZ(U:af)(b:List Brk):bB U false 1 (.rp (bE b))=some (bE b):=rfl
def range_split:∀(j s n:Nat),j<n->List.range' s n=List.range' s j++(s+j)::List.range' (s+j+1) (n-j-1)
 |0,s,n+1,_=>by simp[List.range']
 |j+1,s,n+1,h=>by
  have:=range_split j (s+1) n (by omega);rw[List.range',this,List.range'];have e1:s+1+j=s+(j+1):=by omega
  have e2:n-j-1=n+1-(j+1)-1:=by omega
  rw[e1,e2];rfl
def ue(s j:Nat):List.range' s (j+1)=List.range' s j++[s+j]:=by
 rw[range_split j s (j+1) (by omega),show j+1-j-1=0 by omega];rfl
def Lw(b:List Brk)(hb:b.length<=1000000)(bK to:Int):Iter prog 320 [.rp (vI bK),.rp (vI to),.rp (bE b)] ((btw b bK to).map λi=>[jL b i]):=by
 refine⟨TJ.c,λYp τ Jx Z0 hy hJ=>?_⟩;refine(TJ.r (by simp[Pu]) ?_).2;have hlb:=Fa b;refine ab.mix 6 ?_;apply sR;simp only[go_sem,seval,Pu,df];obtain⟨s,hsv⟩:∃s:Nat,s=(max bK 0).toNat:=⟨_,rfl⟩
 have YL:max bK 0=(s:Int):=by omega
 obtain⟨n,hnv⟩:∃n:Nat,n=xS b bK to:=⟨_,rfl⟩
 have hn1:∀j:Nat,(((s+j:Nat):Int)<=min to ((b.length:Int)-1))↔j<n:=λj=>by rw[hnv,xS,YL];omega
 rw[btw,<-hsv,<-hnv]at hy|-;rw[YL];refine ab.loop (λm st=>∃(j:Nat) (ZJ:af),j<=n/\m=n-j/\τ ((List.range' s j).map λi=>[jL b i]) ZJ/\aa ZJ st.U/\st.s 0=.yl Yp/\st.s 1=.rp (vI bK)/\st.s 2=.rp (vI to)/\st.s 3=.rp (bE b)/\st.s 5=vI (s+j:Nat)) n ?_ ?_
 .exact⟨0,Z0,by omega,rfl,by simpa using hJ,aa.refl _,rfl,rfl,rfl,rfl,rfl⟩
 .rintro m ⟨S,J⟩ ⟨j,ZJ,hj,rfl,hJj,G',t0,t1,t2,t3,t5⟩;simp only at G' t0 t1 t2 t3 t5;refine ab.mix 6 ?_;have r2:Yl .i64 ((b.length:Int)-1):=ai;by_cases H':j<n
  .have hle:=(hn1 j).2 H';have ZE:s+j<b.length:=by omega
   have q:(((s+j:Nat):Int)<=min to ((b.length:Int)-1))=True:=Yd hle;have r1:Yl .i64 (((s+j:Nat):Int)+1):=ai;have X2:=λU=>rV (U:=U) ZE;have hg:bkG b (s+j)=b[s+j]:=by simp[bkG,ZE]
   have hfd:jL b (s+j)=.agg [vI b[s+j].cls,vI b[s+j].forced,vI b[s+j].Zq,vI (s+j:Nat)]:=by rw[jL,hg]
   have e:((List.range' s n).map λi=>[jL b i])=((List.range' s j).map λi=>[jL b i])++[jL b (s+j)]::((List.range' (s+j+1) (n-j-1)).map λi=>[jL b i]):=by
    rw[range_split j s n H'];simp
   have Zb:((List.range' s (j+1)).map λi=>[jL b i])=((List.range' s j).map λi=>[jL b i])++[[jL b (s+j)]]:=by rw[ue];simp
   have q5:s+(j+1)=s+j+1:=by omega
   generalize s+j=sj at*;apply sR;simp only[go_sem,seval,t0,t2,t3,t5,TZ,hlb,r2,gF,q,X2,e8];rw[<-hfd];refine ab.nb (Post:=λb' Z2=>∃Yr,aT ZJ J Yr Z2/\((b'=true/\τ (((List.range' s j).map λi=>[jL b i])++[[jL b sj]]) Yr)\/(b'=false/\Jx (((List.range' s j).map λi=>[jL b i])++[[jL b sj]]) Yr))) rfl rfl rfl (hy _ [jL b sj] _ ZJ J e hJj G') ?_;rintro b' Z2 ⟨Yr,ZU,Zn⟩;rcases Zn with⟨rfl,Zn⟩|⟨rfl,Zn⟩
   .apply sR;simp only[go_sem,seval,t0,t1,t2,t3,t5,r1];refine⟨_,?_,j+1,Yr,by omega,rfl,by rw[Zb];exact Zn,ZU.1,by simp[q5]⟩;omega
   .apply sR;simp only[go_sem,seval];exact⟨_,Yr,ZU.1,Wk.refl ZU.1 _,.inr ⟨_,⟨_,by rw[e,lz];rfl⟩,Zn⟩⟩
  .have q:(((s+j:Nat):Int)<=min to ((b.length:Int)-1))=False:=T' (λh=>H' ((hn1 j).1 h));have hje:j=n:=by omega
   subst hje;generalize s+j=sj at*;apply sR;simp only[go_sem,seval,t2,t3,t5,TZ,hlb,r2,gF,q];exact⟨_,ZJ,G',Wk.refl G' _,.inl hJj⟩
open Go.Proofs Go.Proofs.Tryz
structure Fd where
 (b:Brk)(i:Int)
def gd(x:Fd):V:=.agg [vI x.b.cls,vI x.b.forced,vI x.b.Zq,vI x.i]
def gb(ah:Fd->Fd->Bool->Bool)(p:Fd×Bool)(x:Fd):Fd×Bool:=if ah x p.1 p.2 then(x,true)else p
def fq(ah:Fd->Fd->Bool->Bool)(xs:List Fd)(d:Fd):Fd×Bool:=xs.foldl (gb ah) (d,false)
def wo(ah:Fd->Fd->Bool->Bool)(xs:List Fd)(x:Fd)(d:Fd):fq ah (xs++[x]) d=gb ah (fq ah xs d) x:=by simp[fq,wG]
def Dv{g f:FuncId}{caps:List V}{xs:List Fd}(hit:Iter prog g caps (xs.map λx=>[gd x]))(d:Fd)(ah:Fd->Fd->Bool->Bool)
 (hf:∀x y s,aJ prog f [gd x,gd y,.bool s] (.bool (ah x y s))):
 aJ prog 284 [.fn g caps,gd d,.fn f []] (gd (fq ah xs d).1):=λU=>by
 refine U9.r (by simp[PI]) ?_;have hs:=aa.refl U;have hfc:(V.fn f []).cells=[.fn f []]:=rfl;have hfs:(V.fn f []).stays=true:=rfl;refine ab.mix 10 ?_;apply sR;simp only[go_sem,seval,PI,gd];refine ad λi4 Z4 s4 a4 f4=>?_;replace hs:=hs.trans s4;simp only[go_sem,seval,hfc,hfs];refine ad λi5 Z5 s5 a5 f5=>?_;replace a4:=s5 _ _ a4;replace hs:=hs.trans s5;simp only[go_sem,seval];refine ad λi6 Z6 s6 a6 f6=>?_;replace a4:=s6 _ _ a4;replace a5:=s6 _ _ a5;have z6:=hs.none f6;replace hs:=hs.trans s6;simp only[go_sem,seval,a4];refine ad λi7 Z7 s7 a7 f7=>?_;simp only[go_sem,seval];refine ad λi8 Z8 s8 a8 f8=>?_;have n78:i7≠i8:=ao a7 f8;have b7:=s8 _ _ a7;simp only[go_sem,seval,b7,a8,ae n78.symm];generalize hS:mix 10 _ _=S;have S5:S 5=.ptr i5 0 0:=by rw[<-hS];rfl
 have S6:S 6=.ptr i6 0 0:=by rw[<-hS];rfl
 have S7:S 7=.ptr i7 0 0:=by rw[<-hS];rfl
 have S8:S 8=.ptr i8 0 0:=by rw[<-hS];rfl
 have S11:S 11=.fn g caps:=by rw[<-hS];rfl
 clear hS;refine ab.cA (g:=.t 11) (caps:=caps) S11 hit (λy hy=>?_) [] (λpre ZJ=>ZJ i7=some ⟨358,4,[gd (fq ah (xs.take pre.length) d).1]⟩/\ZJ i8=some ⟨4,1,[.bool (fq ah (xs.take pre.length) d).2]⟩/\aa Z6 ZJ)
  (λ_ _ _=>False) ?_ ?_ ?_ ?_ ?_
 .obtain⟨t,_,rfl⟩:=gg.1 hy;rfl
 .refine⟨(ae n78).trans ag,ag,?_⟩;have h7:=(s7.trans s8).ax (id:=i7) (o:=⟨358,4,[.agg [vI d.b.cls,vI d.b.forced,vI d.b.Zq,vI d.i]]⟩) f7;exact h7.ax (s7.none f8)
 .rintro pre y post ZJ ZB hxs ⟨J7,J8,Js⟩ G';obtain⟨t,hti,rfl⟩:=qX (f:=gd) hxs;have Zb:fq ah (xs.take (pre.length+1)) d=gb ah (fq ah (xs.take pre.length) d) t:=by rw[HL,hti];exact wo _ _ _ _
  have hlen:(pre++[[gd t]]).length=pre.length+1:=by simp
  rw[hlen,Zb];generalize fq ah (xs.take pre.length) d=p at*;obtain⟨p1,p2⟩:=p;simp only at J7 J8;have c7:=G' _ _ J7;have c8:=G' _ _ J8;have c5:=G' _ _ (Js _ _ a5);generalize hSS:kW S [12] [gd t]=S0;have T5:S0 5=.ptr i5 0 0:=by rw[<-hSS];exact S5
  have T7:S0 7=.ptr i7 0 0:=by rw[<-hSS];exact S7
  have T8:S0 8=.ptr i8 0 0:=by rw[<-hSS];exact S8
  have T12:S0 12=gd t:=by rw[<-hSS];rfl
  clear hSS;rw[gd]at c7 T12;refine ab.mix 10 ?_;apply sR;simp only[go_sem,seval];rw[bG];intro i9 f9;have m7:i7≠i9:=ao c7 f9;have m8:i8≠i9:=ao c8 f9;have m5:i5≠i9:=ao c5 f9;simp only[go_sem,seval,T12];have hBs:=(aT.refl G').rU (o:=⟨358,4,[.agg [vI t.b.cls,vI t.b.forced,vI t.b.Zq,vI t.i]]⟩) f9;have d7:=(ae (o:=⟨358,4,[.agg [vI t.b.cls,vI t.b.forced,vI t.b.Zq,vI t.i]]⟩) m7).trans c7;have d8:=(ae (o:=⟨358,4,[.agg [vI t.b.cls,vI t.b.forced,vI t.b.Zq,vI t.i]]⟩) m8).trans c8;have d5:=(ae (o:=⟨358,4,[.agg [vI t.b.cls,vI t.b.forced,vI t.b.Zq,vI t.i]]⟩) m5).trans c5;have d9:C' ZB i9 ⟨358,4,[.agg [vI t.b.cls,vI t.b.forced,vI t.b.Zq,vI t.i]]⟩ i9=_:=ag;generalize C' ZB i9 ⟨358,4,[.agg [vI t.b.cls,vI t.b.forced,vI t.b.Zq,vI t.i]]⟩=Y9 at*;apply sR;simp only[go_sem,seval,T5,T7,T8,d5,d7,d8,d9];refine ab.ay rfl rfl rfl (hf t p1 p2 _) ?_;cases hv:ah t p1 p2
  .apply sR;simp only[go_sem,seval];refine⟨_,hBs,?_,?_,Js⟩
   .rw[gb,hv];exact J7
   .rw[gb,hv];exact J8
  .apply sR;simp only[go_sem,seval,T7,T8,d7,d8,d9,ae n78.symm];refine⟨_,(hBs.set (id:=i7) J7).set (id:=i8) (by rw[ae n78.symm];exact J8),?_,?_,?_⟩
   .rw[gb,hv];exact(ae n78).trans ag
   .rw[gb,hv];exact ag
   .exact(Js.ax f7).ax (s7.none f8)
 .rintro Z' ⟨J7,J8,Js⟩;rw[cL,hU]at J7 J8;rw[gd]at J7;have e6:=Js _ _ a6;refine ab.mix 10 ?_;apply sR;simp only[go_sem,seval,S6,S7,J7,e6];exact ak.pure ((hs.trans Js).ax z6) rfl
 .intro id h;cases h
 .rintro pre Z' _ ⟨⟩
open Go.Proofs Go.Proofs.Tryz
def zf(b:List Brk)(bK to:Int):aJ prog 285 [bE b,vI bK,vI to] (.fn 320 [.rp (vI bK),.rp (vI to),.rp (bE b)]):=λU=>by
 refine Xz.r (by simp[P8]) ?_;refine ab.mix 7 ?_;have q1:=mM b;have q2:=mQ b;generalize bE b=x at*;apply sR;simp only[go_sem,seval,P8,q1,q2];refine ad λid1 Z1 s1 a1 f1=>?_;simp only[go_sem,seval];refine ad λid2 Z2 s2 a2 f2=>?_;simp only[go_sem,seval];refine ad λid3 Z3 s3 a3 f3=>?_;simp only[go_sem,seval];have hs:=(s1.trans s2).trans s3;exact⟨_,U,hs,Wk.fn (vs':=[.rp (vI bK),.rp (vI to),.rp x]) ⟨Wk.ptr hs (s3 _ _ a2) (s1.none f2),Wk.ptr hs a3 ((s1.trans s2).none f3),Wk.ptr hs (s3 _ _ (s2 _ _ a1)) f1,trivial⟩,rfl,rfl⟩
def oe(b:List Brk)(i:Nat):Fd:=⟨bkG b i,i⟩
def CZ:Fd:=⟨⟨0,0,0⟩,-1⟩
def iC(x _y:Fd)(s:Bool):Bool:=!s&&decide (x.b.forced≠0)
def jM(x y:Fd)(s:Bool):Bool:=!s||decide (x.b.Zq<=y.b.Zq)
def Kr(x y:Fd)(s:Bool):aJ prog 286 [gd x,gd y,.bool s] (.bool (iC x y s)):=λU=>by
 refine V4.r (by simp[P7]) ?_;have hs:=aa.refl U;obtain⟨⟨c,f,r⟩,i⟩:=x;obtain⟨⟨c',f',r'⟩,i'⟩:=y;refine ab.mix 7 ?_;apply sR;simp only[go_sem,seval,P7,gd];refine ad λi3 Z3 s3 a3 f3=>?_;replace hs:=hs.trans s3;simp only[go_sem,seval];refine ad λi4 Z4 s4 a4 f4=>?_;replace a3:=s4 _ _ a3;replace hs:=hs.trans s4;cases s
 .by_cases h:f≠0
  .have q:(f≠0)=True:=Yd h;simp only[go_sem,seval,a3,q];exact ak.pure hs (by simp[iC,h])
  .have q:(f≠0)=False:=T' h;simp only[go_sem,seval,a3,q];exact ak.pure hs (by simp[iC,h])
 .simp only[go_sem,seval];exact ak.pure hs (by simp[iC])
def Ng(x y:Fd)(s:Bool):aJ prog 287 [gd x,gd y,.bool s] (.bool (jM x y s)):=λU=>by
 refine Wj.r (by simp[Sl]) ?_;have hs:=aa.refl U;obtain⟨⟨c,f,r⟩,i⟩:=x;obtain⟨⟨c',f',r'⟩,i'⟩:=y;refine ab.mix 7 ?_;apply sR;simp only[go_sem,seval,Sl,gd];refine ad λi3 Z3 s3 a3 f3=>?_;replace hs:=hs.trans s3;simp only[go_sem,seval];refine ad λi4 Z4 s4 a4 f4=>?_;replace a3:=s4 _ _ a3;replace hs:=hs.trans s4;cases s
 .simp only[go_sem,seval];exact ak.pure hs (by simp[jM])
 .by_cases h:r<=r'
  .have q:(r<=r')=True:=Yd h;simp only[go_sem,seval,a3,a4,q];exact ak.pure hs (by simp[jM,h])
  .have q:(r<=r')=False:=T' h;simp only[go_sem,seval,a3,a4,q];exact ak.pure hs (by simp[jM,h])
def mV(b:List Brk)(bK to:Int):Int:=(fq iC ((btw b bK to).map (oe b)) CZ).1.i
def K7(b:List Brk)(bK to:Int):Int:=(fq jM ((btw b bK to).map (oe b)) CZ).1.i
def zz(b:List Brk)(hb:b.length<=1000000)(bK to:Int):Iter prog 320 [.rp (vI bK),.rp (vI to),.rp (bE b)] (((btw b bK to).map (oe b)).map λx=>[gd x]):=by
 have h:=Lw b hb bK to;rw[List.map_map];exact h
def LX(b:List Brk)(hb:b.length<=1000000)(bK to:Int):aJ prog 236 [bE b,vI bK,vI to] (vI (mV b bK to)):=λU=>by
 refine Xt.r (by simp[Sw]) ?_;have hs:=aa.refl U;refine ab.mix 8 ?_;apply sR;simp only[go_sem,seval,Sw];refine ab.ay rfl rfl rfl (zf b bK to _) ?_;apply sR;simp only[go_sem,seval];refine ab.ay rfl rfl rfl (Dv (zz b hb bK to) CZ iC Kr _) ?_;apply sR;simp only[go_sem,seval,gd];refine ad λi7 Z7 s7 a7 f7=>?_;have z7:=hs.none f7;replace hs:=hs.trans s7;simp only[go_sem,seval,a7];exact ak.pure (hs.ax z7) rfl
def SY(b:List Brk)(hb:b.length<=1000000)(bK to:Int):aJ prog 237 [bE b,vI bK,vI to] (vI (K7 b bK to)):=λU=>by
 refine XX.r (by simp[Ru]) ?_;have hs:=aa.refl U;refine ab.mix 8 ?_;apply sR;simp only[go_sem,seval,Ru];refine ab.ay rfl rfl rfl (zf b bK to _) ?_;apply sR;simp only[go_sem,seval];refine ab.ay rfl rfl rfl (Dv (zz b hb bK to) CZ jM Ng _) ?_;apply sR;simp only[go_sem,seval,gd];refine ad λi7 Z7 s7 a7 f7=>?_;have z7:=hs.none f7;replace hs:=hs.trans s7;simp only[go_sem,seval,a7];exact ak.pure (hs.ax z7) rfl
open Go.Proofs Go.Proofs.Tryz
structure Kp where
 (Yz:List Int)
 (high body:Int)
def jJ(l:List Nd)(x:Kp)(a:Int):Kp:=if(stA l a).head<1\/x.body-(stA l a).head<1 then x else⟨x.Yz++[a],x.high+(stA l a).head,x.body-(stA l a).head⟩
structure KpJ(Z0:af)(i7:Nat)(x:Kp)(U:af):Prop where
 row:∃v,U i7=some ⟨246,3,[.agg [v,vI x.high,vI x.body]]⟩/\aL (aU Z0 i7) U 3 1 v (x.Yz.map vI)
 sub:aa Z0 U
 no:Z0 i7=none
def LK(l:List Nd)(hb:Zd l=true)(x:Kp)(hlen:x.Yz.length<=1000000)(h0:0<=x.high)(h1:x.high<=4398046511104)(h2:0<=x.body)(h3:x.body<=4398046511104)(a:Nat)(ha:a<l.length)
 {Z0 ZJ ZB:af}{i7:Nat}(hJ:KpJ Z0 i7 x ZJ)(G':aa ZJ ZB):
 au prog 160 [.ptr i7 0 0,aH l,vI a] ZB λ_ Z'=>∃Yr,aT ZJ ZB Yr Z'/\KpJ Z0 i7 (jJ l x a) Yr:=by
 refine VI.r (by simp[Kb]) ?_;have Yx:=(gi hb ha).st.head;have hnd:=λU=>db (U:=U) (l:=l) (a:=a) ha;obtain⟨⟨v,J7,Jo⟩,Js,Jn⟩:=hJ;obtain⟨hds,high,body⟩:=x;simp only at hlen h0 h1 h2 h3 J7 Jo;have hvc:v.cells=[v]:=by rcases Jo with⟨rfl,_⟩|⟨_,rfl,_⟩<;>rfl
 have c7:=G' _ _ J7;unfold jJ;rw[jQ ha];simp only;have same:(l[a].st.head<1\/body-l[a].st.head<1)->ak (.P' []) ZB λ_ Z'=>∃Yr,aT ZJ ZB Yr Z'/\KpJ Z0 i7 (if l[a].st.head<1\/body-l[a].st.head<1 then⟨hds,high,body⟩else⟨hds++[(a:Int)],high+l[a].st.head,body-l[a].st.head⟩) Yr:=λh=>by
  rw[ar h];exact⟨_,ZB,aa.refl _,Wk.refl (aa.refl _) _,ZJ,aT.refl G',⟨v,J7,Jo⟩,Js,Jn⟩
 refine ab.mix 7 ?_;have r1:Yl .i64 (body-l[a].st.head):=ai;have r2:Yl .i64 (high+l[a].st.head):=ai;by_cases hn:l[a].st.head<1
 .have q1:(l[a].st.head<1)=True:=Yd hn;have fin:=same (.inl hn);generalize hX:(if l[a].st.head<1\/body-l[a].st.head<1 then(⟨hds,high,body⟩:Kp)else⟨hds++[(a:Int)],high+l[a].st.head,body-l[a].st.head⟩)=X at*;apply sR;simp only[go_sem,seval,Kb,hnd,Nd.cells,q1];exact fin
 have q1:(l[a].st.head<1)=False:=T' hn;by_cases hn2:body-l[a].st.head<1
 .have q2:(body-l[a].st.head<1)=True:=Yd hn2;have fin:=same (.inr hn2);generalize hX:(if l[a].st.head<1\/body-l[a].st.head<1 then(⟨hds,high,body⟩:Kp)else⟨hds++[(a:Int)],high+l[a].st.head,body-l[a].st.head⟩)=X at*;apply sR;simp only[go_sem,seval,Kb,hnd,Nd.cells,q1,r1,q2,c7];exact fin
 have q2:(body-l[a].st.head<1)=False:=T' hn2;rw[av (by omega)];clear same;apply sR;simp only[go_sem,seval,Kb,hnd,Nd.cells,q1,r1,q2,c7];rw[bG];intro id28 f28;have hrl:(hds.map vI).length<=1000000:=by simpa using hlen
 have YK:((hds++[(a:Int)]).map vI)=hds.map vI++[vI a]:=by simp
 generalize hds.map vI=rows at*;have hBs:=(aT.refl G').rU (o:=⟨3,1,[vI (a:Int)]⟩) f28;have y2:C' ZB id28 ⟨3,1,[vI (a:Int)]⟩ i7=_:=(ae (ao c7 f28)).trans c7;have a28:C' ZB id28 ⟨3,1,[vI (a:Int)]⟩ id28=some ⟨3,1,[vI (a:Int)]⟩:=ag;generalize C' ZB id28 ⟨3,1,[vI (a:Int)]⟩=Z8 at*;obtain⟨Yn,ZV,hdA⟩:=Jo.Hi hBs.1;have Zl:(rows.length+1)*9<=140737488355328:=by omega
 have k2:aU Z0 i7 i7≠none:=λh=>(aF.1 h).1 rfl;have dne:∀(i:Nat) (Zx:af),aU Z0 i7 i≠none->Vc.bt Zx Yn i=Zx i:=λi Zx hk=>by
  cases Yn with
  |none=>rfl
  |some a=>exact bR (λe=>hk (by rw[e];exact(hdA a rfl).1))
 simp only[go_sem,seval,ZV,cT a28,Zl];rw[bG];intro id29 f29;have f29:Z8 id29=none:=f29;have m29:i7≠id29:=ao y2 f29;have f29':Vc.bt Z8 Yn id29=none:=by
  cases Yn with
  |none=>exact f29
  |some a=>simp only[Vc.bt,del];split<;>first|rfl|exact f29
 have y2':C' (Vc.bt Z8 Yn) id29 ⟨3,1,rows++[vI (a:Int)]⟩ i7=some ⟨246,3,[.agg [v,vI high,vI body]]⟩:=by rw[ae m29,dne _ _ k2];exact y2
 have hB9:=((hBs.Hv (e:=Yn) λi h=>(hdA i h).2).new (o:=⟨3,1,rows++[vI (a:Int)]⟩) f29').set (id:=i7) (o:=⟨246,3,[.agg [v,vI high,vI body]]⟩) (o':=⟨246,3,[.agg [.own id29 0 (rows.length+1),vI (high+l[a].st.head),vI (body-l[a].st.head)]]⟩) (by rw[ae m29,dne _ _ k2];exact J7);simp only[go_sem,seval,y2',r1,r2];refine⟨_,_,aa.refl _,Wk.refl (aa.refl _) _,_,hB9,⟨.own id29 0 (rows.length+1),ag,?_⟩,?_,Jn⟩
 .rw[YK];refine aL.new (by simp) (by rw[ae m29.symm,ag]) ?_;rw[aF];refine⟨m29.symm,?_⟩;cases h:Z0 id29 with
  |none=>rfl
  |some o=>rw[hBs.1 _ _ (Js _ _ h)]at f29;cases f29
 .refine aa.ax (λi o h=>?_) Jn;have h1:=Js _ _ h;rw[ae (ao (hBs.1 _ _ h1) f29),dne _ _ (λhk=>by rw[(aF.1 hk).2]at h;cases h)];exact h1
open Go.Proofs Go.Proofs.Tryz
def bwd(L:List Int):List (List V):=(List.range' 0 L.length).map λq=>[vI ((L.length-1-q:Nat):Int),vI (L.getD (L.length-1-q) 0)]
def Iu(L:List Int)(hL:L.length<=1000000):Iter prog 213 [.rp (bl L)] (bwd L):=by
 refine⟨TW.c,λYp τ Jx Z0 hy hJ=>?_⟩;refine(TW.r (by simp[RW]) ?_).2;have hlL:=fo L;have ldI:∀(U:af) (X:List Int),bB U false 1 (.rp (bl X))=some (bl X):=λU X=>rfl;have r2:Yl .i64 ((L.length:Int)-1):=ai;refine ab.mix 4 ?_;apply sR;simp only[go_sem,seval,RW,ldI,hlL,r2];generalize hT:bwd L=T at hy|-
 let F:Nat->List V:=λq=>[vI ((L.length-1-q:Nat):Int),vI (L.getD (L.length-1-q) 0)]
 have hTF:T=(List.range' 0 L.length).map F:=hT.symm;refine ab.loop (λm st=>∃(j:Nat) (ZJ:af),j<=L.length/\m=L.length-j/\τ ((List.range' 0 j).map F) ZJ/\aa ZJ st.U/\st.s 0=.yl Yp/\st.s 1=.rp (bl L)/\st.s 3=vI ((L.length:Int)-1-j)) L.length ?_ ?_
 .exact⟨0,Z0,by omega,rfl,by simpa using hJ,aa.refl _,rfl,rfl,by simp[aO,mix]⟩
 .rintro m ⟨S,J⟩ ⟨j,ZJ,hj,rfl,hJj,G',t0,t1,t3⟩;simp only at G' t0 t1 t3;refine ab.mix 4 ?_;by_cases H':j<L.length
  .obtain⟨i,hi⟩:∃i:Nat,i=L.length-1-j:=⟨_,rfl⟩
   have hil:i<L.length:=by omega
   have t3':S 3=vI (i:Int):=by rw[t3];congr 1;omega
   have q:((i:Int)>=0)=True:=Yd;have r1:Yl .i64 ((i:Int)-1):=ai;have X2:=λU=>iQ (U:=U) hil;have hF:F j=[vI (i:Int),vI L[i]]:=by
    show[vI ((L.length-1-j:Nat):Int),vI (L.getD (L.length-1-j) 0)]=_;rw[<-hi];simp[hil]
   have e:T=((List.range' 0 j).map F)++[vI (i:Int),vI L[i]]::((List.range' (0+j+1) (L.length-j-1)).map F):=by
    rw[hTF,range_split j 0 L.length H',gl,dS,gY,hF]
   have Zb:((List.range' 0 (j+1)).map F)=((List.range' 0 j).map F)++[[vI (i:Int),vI L[i]]]:=by rw[ue,gl,gY,dS,hF];rfl
   have q5:(i:Int)-1=(L.length:Int)-1-((j+1:Nat):Int):=by omega
   apply sR;simp only[go_sem,seval,t0,t1,t3',ldI,q,X2];refine ab.nb (Post:=λb' Z2=>∃Yr,aT ZJ J Yr Z2/\((b'=true/\τ (((List.range' 0 j).map F)++[[vI (i:Int),vI L[i]]]) Yr)\/(b'=false/\Jx (((List.range' 0 j).map F)++[[vI (i:Int),vI L[i]]]) Yr))) rfl rfl rfl (hy _ [vI (i:Int),vI L[i]] _ ZJ J e hJj G') ?_;rintro b' Z2 ⟨Yr,ZU,Zn⟩;rcases Zn with⟨rfl,Zn⟩|⟨rfl,Zn⟩
   .apply sR;simp only[go_sem,seval,t0,t1,t3',r1];refine⟨_,?_,j+1,Yr,by omega,rfl,by rw[Zb];exact Zn,ZU.1,by simp[q5]⟩;omega
   .apply sR;simp only[go_sem,seval];exact⟨_,Yr,ZU.1,Wk.refl ZU.1 _,.inr ⟨_,⟨_,by rw[e,lz];rfl⟩,Zn⟩⟩
  .have hje:j=L.length:=by omega
   subst hje;have q:((L.length:Int)-1-(L.length:Int)>=0)=False:=T';apply sR;simp only[go_sem,seval,t3,q];exact⟨_,ZJ,G',Wk.refl G' _,.inl (hTF▸hJj)⟩
def Um(L:List Int):aJ prog 158 [bl L] (.fn 213 [.rp (bl L)]):=λU=>by
 refine Vy.r (by simp[OO]) ?_;refine ab.mix 3 ?_;apply sR;simp only[go_sem,seval,OO,cJ,gV];refine ad λid1 Z1 s1 a1 f1=>?_;simp only[go_sem,seval];exact⟨_,U,s1,Wk.fn (vs':=[.rp (bl L)]) ⟨Wk.ptr s1 a1 f1,trivial⟩,rfl,rfl⟩
open Go.Proofs Go.Proofs.Tryz
def xH(x:Kp):V:=.agg [bl x.Yz,vI x.high,vI x.body]
def gy(l:List Nd)(L:List Int)(h:Int):Nat->Kp
 |0=>⟨[],0,h⟩
 |m+1=>jJ l (gy l L h m) (L.getD (L.length-1-m) 0)
def Hx{l:List Nd}{x:Kp}{a:Int}{m:Nat}{h:Int}(h0:0<=(stA l a).head)(hx:x.Yz.length<=m/\0<=x.high/\0<=x.body/\x.high+x.body=h):(jJ l x a).Yz.length<=m+1/\0<=(jJ l x a).high/\0<=(jJ l x a).body/\(jJ l x a).high+(jJ l x a).body=h:=by
 obtain⟨h1,h2,h3,h4⟩:=hx;unfold jJ;split
 .exact⟨by omega,h2,h3,h4⟩
 .simp only[gZ,ZK,List.length_nil];omega
def qI{l:List Nd}(hb:Zd l=true){L:List Int}(hL:∀x∈L,∃n:Nat,x=n/\n<l.length){h:Int}(hh:0<=h):∀m,m<=L.length->(gy l L h m).Yz.length<=m/\0<=(gy l L h m).high/\0<=(gy l L h m).body/\(gy l L h m).high+(gy l L h m).body=h
 |0,_=>by simp[gy];omega
 |m+1,hm=>by
  have ih:=qI hb hL hh m (by omega);rw[gy];refine Hx ?_ ih;have H':L.length-1-m<L.length:=by omega
  have hg:L.getD (L.length-1-m) 0=L[L.length-1-m]:=by simp[H']
  rw[hg];obtain⟨n,hn,hnl⟩:=hL _ (Zr H');rw[hn,jQ hnl];exact(gi hb hnl).st.head.1
def Ai(l:List Nd)(a:Nat)(h:Int):Kp:=gy l (abv l a) h (abv l a).length
def KV(l:List Nd)(hl:dU l)(hb:Zd l=true)(hn:l.length<=100000)(a:Nat)(ha:a<l.length)(h:Int)(h0:0<=h)(h1:h<=2199023255552):
 aJ prog 105 [aH l,vI a,vI h] (xH (Ai l a h)):=λU=>by
 refine Wn.r (by simp[QW]) ?_;have hs:=aa.refl U;refine ab.mix 10 ?_;apply sR;simp only[go_sem,seval,QW,cu,eL];refine ad λi3 Z3 s3 a3 f3=>?_;replace hs:=hs.trans s3;simp only[go_sem,seval];refine ad λi6 Z6 s6 a6 f6=>?_;replace a3:=s6 _ _ a3;have z6:=hs.none f6;replace hs:=hs.trans s6;simp only[go_sem,seval];refine ad λi7 Z7 s7 a7 f7=>?_;have n37:i3≠i7:=ao a3 f7;have b3:=s7 _ _ a3;simp only[go_sem,seval,a7,b3,ae n37,cu];have h7:KpJ Z6 i7 ⟨[],0,h⟩ (C' Z7 i7 ⟨246,3,[.agg [.aC,vI 0,vI h]]⟩):=⟨⟨.aC,ag,aL.start⟩,s7.ax f7,f7⟩
 have e3:C' Z7 i7 ⟨246,3,[.agg [.aC,vI 0,vI h]]⟩ i3=_:=(ae n37).trans b3;generalize C' Z7 i7 ⟨246,3,[.agg [.aC,vI 0,vI h]]⟩=Y7 at*;refine ab.ay rfl rfl rfl (CT l hl hb hn a ha _) ?_;have hrg:∀x∈abv l a,∃n:Nat,x=n/\n<l.length:=λx hx=>by
  obtain⟨n,h1,h2⟩:=ru ha x hx;exact⟨n,h1,by omega⟩
 have hlL:(abv l a).length<=l.length+1:=jv _ _ _;unfold Ai;generalize abv l a=L at*;apply sR;simp only[go_sem,seval];refine ab.ay rfl rfl rfl (Um L _) ?_;apply sR;simp only[go_sem,seval];generalize hS:mix 10 _ _=S;have S3:S 3=.ptr i3 0 0:=by rw[<-hS];rfl
 have S6:S 6=.ptr i6 0 0:=by rw[<-hS];rfl
 have S7:S 7=.ptr i7 0 0:=by rw[<-hS];rfl
 have S16:S 16=.fn 213 [.rp (bl L)]:=by rw[<-hS];rfl
 clear hS;refine ab.cA (g:=.t 16) (caps:=[.rp (bl L)]) S16 (Iu L (by omega)) (λy hy=>?_) [] (λpre ZJ=>KpJ Z6 i7 (gy l L h pre.length) ZJ)
  (λ_ _ _=>False) ?_ ?_ ?_ ?_ ?_
 .obtain⟨t,_,rfl⟩:=gg.1 hy;rfl
 .exact h7
 .rintro pre y post ZJ ZB hxs hJ G';have hpl:pre.length<L.length:=by
   have:=congrArg List.length hxs;simp[bwd]at this;omega
  obtain⟨i,hi⟩:∃i:Nat,i=L.length-1-pre.length:=⟨_,rfl⟩
  have hil:i<L.length:=by omega
  have hy:y=[vI (i:Int),vI (L.getD i 0)]:=by
   have h1:(bwd L)[pre.length]?=some y:=by rw[hxs];simp
   simp[bwd,hpl]at h1;rw[<-h1,hi];simp
  have hlen:(pre++[y]).length=pre.length+1:=by simp
  have hinv:=qI hb hrg h0 pre.length (by omega);have Ys:gy l L h (pre.length+1)=jJ l (gy l L h pre.length) (L.getD i 0):=by rw[gy,hi]
  have hg:L.getD i 0=L[i]:=by simp[hil]
  obtain⟨n,YA,hnl⟩:=hrg _ (Zr hil);rw[hlen,Ys,hg,YA];rw[hg,YA]at hy;subst hy;generalize gy l L h pre.length=x at*;have c3:=G' _ _ (hJ.sub _ _ a3);generalize hSS:kW S [17,18] [vI (i:Int),vI (n:Int)]=S0;have T3:S0 3=.ptr i3 0 0:=by rw[<-hSS];exact S3
  have T7:S0 7=.ptr i7 0 0:=by rw[<-hSS];exact S7
  have T18:S0 18=vI (n:Int):=by rw[<-hSS];rfl
  clear hSS;refine ab.mix 10 ?_;apply sR;simp only[go_sem,seval,T18];apply sR;simp only[go_sem,seval,T3,c3,cu];have hc:=LK l hb x (by omega) (by omega) (by omega) (by omega) (by omega) n hnl hJ G';rw[<-T7]at hc;refine ab.call rfl rfl rfl hc ?_;rintro-Z2 ⟨Yr,hB,hJ'⟩;apply sR;simp only[go_sem,seval];exact⟨_,hB,hJ'⟩
 .rintro Z' hJ;have ZE:(bwd L).length=L.length:=by simp[bwd]
  rw[ZE]at hJ;obtain⟨⟨v,J7,Jo⟩,Js,Jn⟩:=hJ;have hvc:v.cells=[v]:=by rcases Jo with⟨rfl,_⟩|⟨_,rfl,_⟩<;>rfl
  have e6:=Js _ _ a6;refine ab.mix 10 ?_;apply sR;simp only[go_sem,seval,S6,S7,J7,e6];have Ys:=(hs.trans Js).ax (o:=⟨180,3,[.agg [v,vI (gy l L h L.length).high,vI (gy l L h L.length).body]]⟩) z6;have Jo':aL (aU Z6 i7) (C' Z' i6 ⟨180,3,[.agg [v,vI (gy l L h L.length).high,vI (gy l L h L.length).body]]⟩) 3 1 v ((gy l L h L.length).Yz.map vI):=by
   rcases Jo with h|⟨id,g1,g2,g3⟩
   .exact .inl h
   .refine .inr ⟨id,g1,?_,g3⟩;rw[ae (λe=>by rw[e,aF]at g3;rw[a6]at g3;cases g3.2)];exact g2
  have hK:aa U (aU Z6 i7):=λi o hh=>by
   rw[aU,av (λe=>by rw[e,hs.none f7]at hh;cases hh)];exact hs _ _ hh
  exact⟨_,U,Ys,Wk.agg (vs':=[bl (gy l L h L.length).Yz,vI (gy l L h L.length).high,vI (gy l L h L.length).body]) ⟨Jo'.wk hK Ys,Wk.refl Ys _,Wk.refl Ys _,trivial⟩,rfl,rfl⟩
 .intro id h;cases h
 .rintro pre Z' _ ⟨⟩
open Go.Proofs Go.Proofs.Tryz
def jK(l:List Nd)(h:Int):Bool:=decide (1<=h/\h<=1099511627776)&&Zd l
def IN(l:List Nd)(hl:dU l)(h:Int):aJ prog 104 [aH l,vI h] (.bool (jK l h)):=λU=>by
 refine Wd.r (by simp[Ro]) ?_;refine ab.mix 5 ?_;apply sR;simp only[go_sem,seval,Ro];refine ab.ay rfl rfl rfl (si h _) ?_;unfold jK;cases hd:decide (1<=h/\h<=1099511627776)
 .apply sR;simp only[go_sem,seval];exact ak.same (by simp)
 .apply sR;simp only[go_sem,seval];refine ab.ay rfl rfl rfl (Gj l hl _) ?_;apply sR;simp only[go_sem,seval];exact ak.same (by simp)
def uu(l:List Nd)(a h:Int):Kp:=if jK l h=true/\0<=a/\a<l.length then Ai l a.toNat h else⟨[],0,0⟩
def TB(l:List Nd)(hl:dU l)(a h:Int):aJ prog 174 [aH l,vI a,vI h] (xH (uu l a h)):=λU=>by
 refine UU.r (by simp[Sj]) ?_;have hs:=aa.refl U;have hln:=eO l;have hn:l.length<=100000:=by have:=hl.1;omega
 refine ab.mix 7 ?_;apply sR;simp only[go_sem,seval,Sj];refine ad λi6 Z6 s6 a6 f6=>?_;have z6:=hs.none f6;replace hs:=hs.trans s6;simp only[go_sem,seval];refine ab.ay rfl rfl rfl (IN l hl h _) ?_;have bad:¬(jK l h=true/\0<=a/\a<l.length)->ak (.agg [.aC,vI 0,vI 0]) Z6 λr Z'=>r=xH (uu l a h)/\Z'=U:=λhb=>by
  rw[uu,av hb];exact⟨_,U,hs,Wk.agg (vs':=[bl [],vI 0,vI 0]) ⟨Wk.aC 1,Wk.refl hs _,Wk.refl hs _,trivial⟩,rfl,rfl⟩
 have a6':C' Z6 i6 ⟨180,3,[.agg [.aC,vI 0,vI 0]]⟩=Z6:=by
  funext i;by_cases hi:i=i6
  .rw[hi,ag];exact a6.symm
  .rw[ae hi]
 cases hm:jK l h
 .have fin:=bad (by simp[hm]);apply sR;simp only[go_sem,seval,a6];rw[a6'];exact fin
 by_cases h0:a<0
 .have q0:(a<0)=True:=Yd h0;have fin:=bad (by omega);apply sR;simp only[go_sem,seval,a6,q0];rw[a6'];exact fin
 have q0:(a<0)=False:=T' h0;by_cases h1:a>=l.length
 .have q1:(a>=l.length)=True:=Yd h1;have fin:=bad (by omega);apply sR;simp only[go_sem,seval,a6,q0,q1,hln];rw[a6'];exact fin
 have q1:(a>=l.length)=False:=T' h1;clear bad a6';obtain⟨n,rfl⟩:∃n:Nat,a=n:=⟨a.toNat,by omega⟩
 have hb:Zd l=true:=by unfold jK at hm;simp at hm;exact hm.2
 have hh:1<=h/\h<=1099511627776:=by unfold jK at hm;simp at hm;exact hm.1
 have hr:uu l n h=Ai l n h:=by rw[uu,ar ⟨hm,by omega,by omega⟩,eX]
 rw[hr];apply sR;simp only[go_sem,seval,q0,q1,hln];refine ab.ay rfl rfl rfl (KV l hl hb hn n (by omega) h (by omega) (by omega) _) ?_;apply sR;simp only[go_sem,seval,a6,xH];exact ak.pure (hs.ax z6) rfl
def je(l:List Nd)(h:Int):Nat->Int
 |0=>h
 |j+1=>if(YJ l j).kind=2\/(YJ l j).kind=3 then min (je l h j) (Ai l j h).body else je l h j
def iE(l:List Nd)(h:Int):Int:=if jK l h=true then je l h l.length else 0
def I4(l:List Nd)(hl:dU l)(h:Int):aJ prog 48 [aH l,vI h] (vI (iE l h)):=λU=>by
 refine e48.r (by simp[c48]) ?_;have hs:=aa.refl U;have hln:=eO l;have hn:l.length<=100000:=by have:=hl.1;omega
 refine ab.mix 8 ?_;apply sR;simp only[go_sem,seval,c48];refine ab.ay rfl rfl rfl (IN l hl h _) ?_;unfold iE;cases hm:jK l h
 .apply sR;simp only[go_sem,seval];exact ak.same rfl
 have hb:Zd l=true:=by unfold jK at hm;simp at hm;exact hm.2
 have hh:1<=h/\h<=1099511627776:=by unfold jK at hm;simp at hm;exact hm.1
 rw[ar rfl];apply sR;simp only[go_sem,seval,hln];refine ab.loop (λm st=>∃j:Nat,j<=l.length/\m=l.length-j/\aa U st.U/\st.s 0=aH l/\st.s 1=vI h/\st.s 5=vI (je l h j)/\st.s 13=aH l/\st.s 14=vI l.length/\st.s 15=vI j) l.length ?_ ?_
 .exact⟨0,by omega,rfl,hs,rfl,rfl,rfl,rfl,rfl,rfl⟩
 .clear hs;rintro m ⟨S,J⟩ ⟨j,hj,rfl,hs,t0,t1,t5,t13,t14,t15⟩;simp only at hs t0 t1 t5 t13 t14 t15;refine ab.mix 8 ?_;by_cases H':j<l.length
  .have q:((j:Int)<l.length)=True:=Yd;have r1:Yl .i64 ((j:Int)+1):=ai;have hnd:=λU=>db (U:=U) (l:=l) (a:=j) H';have Ys:je l h (j+1)=if l[j].kind=2\/l[j].kind=3 then min (je l h j) (Ai l j h).body else je l h j:=by rw[je,jD H']
   apply sR;simp only[go_sem,seval,t13,t14,t15,q,hnd,Nd.cells];refine ad λi7 Z7 s7 a7 f7=>?_;by_cases hk:l[j].kind=2
   .have q1:(l[j].kind=2)=True:=Yd hk;simp only[go_sem,seval,a7,q1,t0,t1,t5];refine ab.ay rfl rfl rfl (KV l hl hb hn j H' h (by omega) (by omega) _) ?_;apply sR;simp only[go_sem,seval,t0,t1,t13,t14,t15,xH,r1,gF];refine⟨_,?_,j+1,by omega,rfl,hs.trans (s7.ax f7),by simp[Ys,hk]⟩;omega
   .have q1:(l[j].kind=2)=False:=T' hk;by_cases hk3:l[j].kind=3
    .have q2:(l[j].kind=3)=True:=Yd hk3;have hk:=hk3;simp only[go_sem,seval,a7,q1,q2,t0,t1,t5];refine ab.ay rfl rfl rfl (KV l hl hb hn j H' h (by omega) (by omega) _) ?_;apply sR;simp only[go_sem,seval,t0,t1,t13,t14,t15,xH,r1,gF];refine⟨_,?_,j+1,by omega,rfl,hs.trans (s7.ax f7),by simp[Ys,hk]⟩;omega
    .have q2:(l[j].kind=3)=False:=T' hk3;simp only[go_sem,seval,a7,q1,q2,t0,t1,t5,t13,t14,t15,r1];refine⟨_,?_,j+1,by omega,rfl,hs.trans (s7.ax f7),by simp[Ys,hk,hk3]⟩;omega
  .have q:((j:Int)<l.length)=False:=T';have hje:j=l.length:=by omega
   apply sR;simp only[go_sem,seval,t5,t14,t15,q];exact ak.pure hs (by rw[hje])
open Go.Proofs Go.Proofs.Tryz
def cE(l:List Zj):(br l).cells=[br l]:=rfl
def iz(l:List Zj):(br l).stays=true:=rfl
def iB(l:List Zj):cW false (br l)=some (.int .i64 l.length):=by simp[br,cW]
def jg{U:af}{l:List Zj}{i:Nat}(h:i<l.length):bo U 8 (br l) (.int .i64 i)=some (.rp (dh l[i])):=by simp[br,bo,h,dh]
structure nu(l:List Zj):Prop where
 len:l.length<=1000000000
 rng:∀a∈l,-1152921504606846976<=a.y/\a.y<=1152921504606846976/\0<=a.h/\a.h<=1152921504606846976
def AH(l:List Zj)(k:Int):aJ prog 281 [br l,vI k] (.bool (decide (0<=k/\k<l.length))):=λU=>by
 refine WO.r (by simp[JP]) ?_;have hl:=iB l;refine ab.mix 5 ?_;by_cases h0:k>=0
 .have q0:(k>=0)=True:=Yd h0;by_cases h1:k<l.length
  .have q1:(k<l.length)=True:=Yd h1;apply sR;simp only[go_sem,seval,JP,q0,q1,hl];exact ak.same (by simp)
  .have q1:(k<l.length)=False:=T' h1;apply sR;simp only[go_sem,seval,JP,q0,q1,hl];exact ak.same (by simp)
 .have q0:(k>=0)=False:=T' h0;apply sR;simp only[go_sem,seval,JP,q0];exact ak.same (by simp<;>omega)
def GK(a:Zj)(h:-1152921504606846976<=a.y/\a.y<=1152921504606846976/\0<=a.h/\a.h<=1152921504606846976):aJ prog 319 [dh a] (vI (a.y+a.h)):=λU=>by
 refine XE.r (by simp[P4]) ?_;have hs:=aa.refl U;have r1:Yl .i64 (a.y+a.h):=ai;refine ab.mix 3 ?_;apply sR;simp only[go_sem,seval,P4,dh];refine ad λi1 Z1 s1 a1 f1=>?_;replace hs:=hs.trans s1;simp only[go_sem,seval,a1,r1];exact ak.pure hs rfl
def atG(l:List Zj)(k:Int):Zj:=l.getD k.toNat ⟨0,0,0,0,0,0,0,0⟩
def iH(l:List Zj)(k:Int):Int:=if 0<=k/\k<l.length then(atG l k).y+(atG l k).h else 0
def pB(l:List Zj)(k:Int):Int:=if 0<=k/\k<l.length then(atG l k).y-iH l (k-1)else 0
def gG(l:List Zj)(i k:Int):Int:=if(0<=i/\i<l.length)/\(0<=k/\k<l.length)then(atG l k).y-(atG l i).y else 0
def aZ{l:List Zj}{k:Nat}(h:k<l.length):atG l k=l[k]:=by simp[atG,h]
def tV{l:List Zj}(hl:nu l)(k:Int):-1152921504606846976<=iH l k/\iH l k<=2305843009213693952:=by
 unfold iH;split
 .rename_i h;obtain⟨n,rfl⟩:∃n:Nat,k=n:=⟨k.toNat,by omega⟩
  have hn:n<l.length:=by omega
  rw[aZ hn];have:=hl.rng _ (Zr hn);omega
 .omega
def Ia(l:List Zj)(hl:nu l)(k:Int):aJ prog 282 [br l,vI k] (vI (iH l k)):=λU=>by
 refine Vm.r (by simp[SO]) ?_;refine ab.mix 5 ?_;apply sR;simp only[go_sem,seval,SO];refine ab.ay rfl rfl rfl (AH l k _) ?_;unfold iH;by_cases h:0<=k/\k<l.length
 .obtain⟨n,rfl⟩:∃n:Nat,k=n:=⟨k.toNat,by omega⟩
  have hn:n<l.length:=by omega
  have hd:decide (0<=(n:Int)/\(n:Int)<l.length)=true:=by simp;omega
  have X2:=λU=>jg (U:=U) hn;rw[hd,ar h,aZ hn];apply sR;simp only[go_sem,seval,X2,dh];refine ab.ay rfl rfl rfl (GK l[n] (hl.rng _ (Zr hn)) _) ?_;apply sR;simp only[go_sem,seval];exact ak.same rfl
 .have hd:decide (0<=k/\k<l.length)=false:=by simpa using h
  rw[hd,av h];apply sR;simp only[go_sem,seval];exact ak.same rfl
def OM(l:List Zj)(hl:nu l)(k:Int):aJ prog 234 [br l,vI k] (vI (pB l k)):=λU=>by
 refine Xq.r (by simp[SX]) ?_;refine ab.mix 5 ?_;apply sR;simp only[go_sem,seval,SX];refine ab.ay rfl rfl rfl (AH l k _) ?_;unfold pB;by_cases h:0<=k/\k<l.length
 .obtain⟨n,rfl⟩:∃n:Nat,k=n:=⟨k.toNat,by omega⟩
  have hn:n<l.length:=by omega
  have hd:decide (0<=(n:Int)/\(n:Int)<l.length)=true:=by simp;omega
  have X2:=λU=>jg (U:=U) hn;have hll:=hl.len;have hy:=hl.rng _ (Zr hn);have hbr:=tV hl ((n:Int)-1);have r1:Yl .i64 ((n:Int)-1):=ai;have r2:Yl .i64 (l[n].y-iH l ((n:Int)-1)):=ai;rw[hd,ar h,aZ hn];apply sR;simp only[go_sem,seval,X2,dh,r1];refine Go.cm rfl rfl rfl (Ia l hl ((n:Int)-1)) ?_;apply sG;simp only[go_sem,seval,r2];exact ak.same rfl
 .have hd:decide (0<=k/\k<l.length)=false:=by simpa using h
  rw[hd,av h];apply sR;simp only[go_sem,seval];exact ak.same rfl
def HC(l:List Zj)(hl:nu l)(i k:Int):aJ prog 288 [br l,vI i,vI k] (vI (gG l i k)):=λU=>by
 refine U1.r (by simp[PJ]) ?_;refine ab.mix 8 ?_;apply sR;simp only[go_sem,seval,PJ];refine ab.ay rfl rfl rfl (AH l i _) ?_;unfold gG;by_cases h:0<=i/\i<l.length
 .have hd:decide (0<=i/\i<l.length)=true:=by simp;omega
  rw[hd];apply sR;simp only[go_sem,seval];refine ab.ay rfl rfl rfl (AH l k _) ?_;by_cases h2:0<=k/\k<l.length
  .obtain⟨m,rfl⟩:∃m:Nat,i=m:=⟨i.toNat,by omega⟩
   obtain⟨n,rfl⟩:∃n:Nat,k=n:=⟨k.toNat,by omega⟩
   have hm:m<l.length:=by omega
   have hn:n<l.length:=by omega
   have hd2:decide (0<=(n:Int)/\(n:Int)<l.length)=true:=by simp;omega
   have X2:=λU=>jg (U:=U) hn;have hidx2:=λU=>jg (U:=U) hm;have hy:=hl.rng _ (Zr hn);have hy2:=hl.rng _ (Zr hm);have r1:Yl .i64 (l[n].y-l[m].y):=ai;rw[hd2,ar ⟨h,h2⟩,aZ hn,aZ hm];apply sR;simp only[go_sem,seval,X2,hidx2,dh,r1];exact ak.same rfl
  .have hd2:decide (0<=k/\k<l.length)=false:=by simpa using h2
   rw[hd2,av (λh=>h2 h.2)];apply sR;simp only[go_sem,seval];exact ak.same rfl
 .have hd:decide (0<=i/\i<l.length)=false:=by simpa using h
  rw[hd,av (λh'=>h h'.1)];apply sR;simp only[go_sem,seval];exact ak.same rfl
open Go.Proofs Go.Proofs.Tryz
def fv(b:List Brk)(i fit:Int):Prop:=xV b=true/\0<=i/\i<(b.length:Int)-1/\i<fit
instance (b:List Brk) (i fit:Int):Decidable (fv b i fit):=by unfold fv;infer_instance
def ye(b:List Brk)(i fit:Int):Int:=if mV b (i+1) fit<0 then K7 b (i+1) fit else mV b (i+1) fit
def Rb(b:List Brk)(hb:b.length<=1000000)(i fit:Int):aJ prog 178 [bE b,vI i,vI fit] (.P' [vI (if fv b i fit then ye b i fit else 0),.bool (decide (fv b i fit))]):=λU=>by
 refine VG.r (by simp[Qe]) ?_;have hlb:=Fa b;have r0:Yl .i64 ((b.length:Int)-1):=ai;refine ab.mix 8 ?_;apply sR;simp only[go_sem,seval,Qe];refine ab.ay rfl rfl rfl (Rh b hb _) ?_;have bad:¬fv b i fit->ak (.P' [vI 0,.bool false]) U λr Z'=>r=.P' [vI (if fv b i fit then ye b i fit else 0),.bool (decide (fv b i fit))]/\Z'=U:=λh=>ak.same (by rw[av h,Zu h]);generalize hX:(V.P' [vI (if fv b i fit then ye b i fit else 0),.bool (decide (fv b i fit))])=X at*;cases hm:xV b
 .have fin:=bad (λh=>by rw[h.1]at hm;cases hm);apply sR;simp only[go_sem,seval];exact fin
 by_cases h0:i<0
 .have q0:(i<0)=True:=Yd h0;have fin:=bad (λh=>by have:=h.2.1;omega);apply sR;simp only[go_sem,seval,q0];exact fin
 have q0:(i<0)=False:=T' h0;by_cases h1:i>=(b.length:Int)-1
 .have q1:(i>=(b.length:Int)-1)=True:=Yd h1;have fin:=bad (λh=>by have:=h.2.2.1;omega);apply sR;simp only[go_sem,seval,q0,hlb,r0,q1];exact fin
 have q1:(i>=(b.length:Int)-1)=False:=T' h1;by_cases h2:fit<=i
 .have q2:(fit<=i)=True:=Yd h2;have fin:=bad (λh=>by have:=h.2.2.2;omega);apply sR;simp only[go_sem,seval,q0,hlb,r0,q1,q2];exact fin
 have q2:(fit<=i)=False:=T' h2;clear bad;have M':fv b i fit:=⟨hm,by omega,by omega,by omega⟩
 have r1:Yl .i64 (i+1):=ai;rw[ar M',ZG M']at hX;subst hX;apply sR;simp only[go_sem,seval,q0,hlb,r0,q1,q2,r1];refine ab.ay rfl rfl rfl (LX b hb (i+1) fit _) ?_;unfold ye;by_cases h3:mV b (i+1) fit<0
 .have q3:(mV b (i+1) fit<0)=True:=Yd h3;rw[ar h3];apply sR;simp only[go_sem,seval,q3,r1];refine ab.ay rfl rfl rfl (SY b hb (i+1) fit _) ?_;apply sR;simp only[go_sem,seval];exact ak.same rfl
 .have q3:(mV b (i+1) fit<0)=False:=T' h3;rw[av h3];apply sR;simp only[go_sem,seval,q3];exact ak.same rfl
open Go.Proofs Go.Proofs.Tryz
structure Zf where
 (atom done:Int)
 free:Bool
def aV(s:Zf):V:=.agg [vI s.atom,vI s.done,.bool s.free]
def wq(s:Zf)(l:List Zj):V:=.agg [vI s.atom,vI s.done,.bool s.free,br l]
def dG(l:List Zj)(s:Zf):Prop:=(0<=s.atom/\s.atom<l.length)/\0<=s.done/\(s.done=0\/s.done<(atG l s.atom).h)
instance (l:List Zj) (s:Zf):Decidable (dG l s):=by unfold dG;infer_instance
def Ff(l:List Zj)(s:Zf):aJ prog 175 [wq s l] (.bool (decide (dG l s))):=λU=>by
 refine XM.r (by simp[RV]) ?_;have hs:=aa.refl U;have hl:=iB l;obtain⟨a,d,fr⟩:=s;refine ab.mix 3 ?_;apply sR;simp only[go_sem,seval,RV,wq];refine ad λi1 Z1 s1 a1 f1=>?_;replace hs:=hs.trans s1;by_cases h0:a>=0
 .have q0:(a>=0)=True:=Yd h0;by_cases h1:a<l.length
  .have q1:(a<l.length)=True:=Yd h1;obtain⟨n,rfl⟩:∃n:Nat,a=n:=⟨a.toNat,by omega⟩
   have hn:n<l.length:=by omega
   have X2:=λU=>jg (U:=U) hn;have hg:=aZ hn;by_cases h2:d>=0
   .have q2:(d>=0)=True:=Yd h2;by_cases h3:d=0
    .have q3:(d=0)=True:=Yd h3;simp only[go_sem,seval,a1,q0,q1,q2,q3,hl];have hh:dG l ⟨n,d,fr⟩:=⟨⟨h0,h1⟩,h2,.inl h3⟩
     exact ak.pure hs (by rw[ZG hh])
    .have q3:(d=0)=False:=T' h3;by_cases h4:d<l[n].h
     .have q4:(d<l[n].h)=True:=Yd h4;simp only[go_sem,seval,a1,q0,q1,q2,q3,q4,hl,X2,dh];have hh:dG l ⟨n,d,fr⟩:=⟨⟨h0,h1⟩,h2,.inr (by rw[hg];exact h4)⟩
      exact ak.pure hs (by rw[ZG hh])
     .have q4:(d<l[n].h)=False:=T' h4;simp only[go_sem,seval,a1,q0,q1,q2,q3,q4,hl,X2,dh];exact ak.pure hs (by rw[Zu (λh:dG l ⟨n,d,fr⟩=>by rcases h.2.2 with h|h;exact h3 h;rw[hg]at h;exact h4 h)])
   .have q2:(d>=0)=False:=T' h2;simp only[go_sem,seval,a1,q0,q1,q2,hl];exact ak.pure hs (by rw[Zu (λh:dG l ⟨n,d,fr⟩=>h2 h.2.1)])
  .have q1:(a<l.length)=False:=T' h1;simp only[go_sem,seval,a1,q0,q1,hl];exact ak.pure hs (by rw[Zu (λh:dG l ⟨a,d,fr⟩=>h1 h.1.2)])
 .have q0:(a>=0)=False:=T' h0;simp only[go_sem,seval,a1,q0];exact ak.pure hs (by rw[Zu (λh:dG l ⟨a,d,fr⟩=>h0 h.1.1)])
def sF(l:List Zj)(s:Zf):aJ prog 173 [br l,aV s] (.bool (decide (dG l s))):=λU=>by
 refine Wp.r (by simp[O3]) ?_;have hs:=aa.refl U;have hc:=Ff l s;obtain⟨a,d,fr⟩:=s;rw[wq]at hc;refine ab.mix 5 ?_;apply sR;simp only[go_sem,seval,O3,aV];refine ad λi3 Z3 s3 a3 f3=>?_;replace hs:=hs.trans s3;simp only[go_sem,seval,a3,cE,iz];refine ab.ay rfl rfl rfl (hc _) ?_;apply sR;simp only[go_sem,seval];exact ak.pure hs rfl
def Fy(l:List Zj)(hl:nu l)(s:Zf)(h:dG l s)(hd:s.done<=1152921504606846976):aJ prog 176 [wq s l] (vI ((atG l s.atom).h-s.done)):=λU=>by
 refine Xc.r (by simp[Qt]) ?_;have hs:=aa.refl U;obtain⟨a,d,fr⟩:=s;obtain⟨⟨h0,h1⟩,h2,h3⟩:=h;simp only at h0 h1 h2 h3 hd|-;obtain⟨n,rfl⟩:∃n:Nat,a=n:=⟨a.toNat,by omega⟩
 have hn:n<l.length:=by omega
 have X2:=λU=>jg (U:=U) hn;have hy:=hl.rng _ (Zr hn);rw[aZ hn];have r1:Yl .i64 (l[n].h-d):=ai;refine ab.mix 3 ?_;apply sR;simp only[go_sem,seval,Qt,wq];refine ad λi1 Z1 s1 a1 f1=>?_;replace hs:=hs.trans s1;simp only[go_sem,seval,a1,X2,r1,dh];exact ak.pure hs rfl
def rN(l:List Zj)(s:Zf)(YP:Int):Int:=if dG l s/\s.free=true/\s.done=0/\pB l s.atom+((atG l s.atom).h-s.done)<=YP then pB l s.atom else 0
def JM{l:List Zj}(hl:nu l)(k:Int):-3458764513820540928<=pB l k/\pB l k<=2305843009213693952:=by
 unfold pB;have hb:=tV hl (k-1);split
 .rename_i h;obtain⟨n,rfl⟩:∃n:Nat,k=n:=⟨k.toNat,by omega⟩
  have hn:n<l.length:=by omega
  rw[aZ hn];have:=hl.rng _ (Zr hn);omega
 .omega
def Ny(l:List Zj)(hl:nu l)(s:Zf)(YP:Int):aJ prog 177 [br l,aV s,vI YP] (vI (rN l s YP)):=λU=>by
 refine WY.r (by simp[Re]) ?_;have hs:=aa.refl U;have hc:=Ff l s;have hlf:=λh hd=>Fy l hl s h hd;have hgr:=JM hl s.atom;obtain⟨a,d,fr⟩:=s;rw[wq]at hc hlf;simp only at hgr hlf;refine ab.mix 9 ?_;apply sR;simp only[go_sem,seval,Re,aV];refine ad λi4 Z4 s4 a4 f4=>?_;replace hs:=hs.trans s4;simp only[go_sem,seval,a4,cE,iz];refine ad λi7 Z7 s7 a7 f7=>?_;replace a4:=s7 _ _ a4;have z7:=hs.none f7;replace hs:=hs.trans s7;simp only[go_sem,seval,a7];refine ab.ay rfl rfl rfl (hc _) ?_;have bad:¬(dG l ⟨a,d,fr⟩/\fr=true/\d=0/\pB l a+((atG l a).h-d)<=YP)->rN l ⟨a,d,fr⟩ YP=0:=λh=>av h;by_cases hm:dG l ⟨a,d,fr⟩
 .rw[ZG hm];cases fr
  .apply sR;simp only[go_sem,seval];exact ak.pure (hs.ax z7) (by rw[bad (λh=>by cases h.2.1)])
  have hd0:=hm.2.1;simp only at hd0;by_cases hd:d>0
  .have q:(d>0)=True:=Yd hd;apply sR;simp only[go_sem,seval,q];exact ak.pure (hs.ax z7) (by rw[bad (λh=>by have:=h.2.2.1;omega)])
  .have q:(d>0)=False:=T' hd;obtain rfl:d=0:=by omega
   apply sR;simp only[go_sem,seval,q];refine ab.ay rfl rfl rfl (OM l hl a _) ?_;have hlf':=hlf hm (by omega);have hy:0<=(atG l a).h/\(atG l a).h<=1152921504606846976:=by
    obtain⟨h0,h1⟩:=hm.1;simp only at h0 h1;obtain⟨n,rfl⟩:∃n:Nat,a=n:=⟨a.toNat,by omega⟩
    have hn:n<l.length:=by omega
    rw[aZ hn];exact(hl.rng _ (Zr hn)).2.2
   have r1:Yl .i64 (pB l a+((atG l a).h-0)):=ai;apply sR;simp only[go_sem,seval,ag];refine ab.ay rfl rfl rfl (hlf' _) ?_;by_cases h4:pB l a+((atG l a).h-0)<=YP
   .have q4:(pB l a+((atG l a).h-0)<=YP)=True:=Yd h4;have hk:rN l ⟨a,0,true⟩ YP=pB l a:=ar ⟨hm,rfl,rfl,h4⟩;rw[hk];apply sR;simp only[go_sem,seval,r1,q4];exact ak.pure (hs.ax z7) rfl
   .have q4:(pB l a+((atG l a).h-0)<=YP)=False:=T' h4;rw[bad (λh=>h4 h.2.2.2)];apply sR;simp only[go_sem,seval,r1,q4];exact ak.pure (hs.ax z7) rfl
 .rw[Zu hm];apply sR;simp only[go_sem,seval];exact ak.pure (hs.ax z7) (by rw[bad (λh=>hm h.1)])
open Go.Proofs Go.Proofs.Tryz
def jO(l:List Zj)(s:Zf):Int:=if dG l s then(atG l s.atom).h-s.done else 0
def NU(l:List Zj)(hl:nu l)(s:Zf)(hd:s.done<=1152921504606846976):aJ prog 119 [br l,aV s] (vI (jO l s)):=λU=>by
 refine Xi.r (by simp[Qq]) ?_;have hs:=aa.refl U;have hc:=Ff l s;have hlf:=λh=>Fy l hl s h hd;unfold jO;obtain⟨a,d,fr⟩:=s;rw[wq]at hc hlf;refine ab.mix 6 ?_;apply sR;simp only[go_sem,seval,Qq,aV];refine ad λi3 Z3 s3 a3 f3=>?_;replace hs:=hs.trans s3;simp only[go_sem,seval,a3,cE,iz];refine ad λi5 Z5 s5 a5 f5=>?_;replace a3:=s5 _ _ a3;have z5:=hs.none f5;replace hs:=hs.trans s5;simp only[go_sem,seval,a5];refine ab.ay rfl rfl rfl (hc _) ?_;by_cases hm:dG l ⟨a,d,fr⟩
 .rw[ZG hm,ar hm];apply sR;simp only[go_sem,seval];refine ab.ay rfl rfl rfl (hlf hm _) ?_;apply sR;simp only[go_sem,seval];exact ak.pure (hs.ax z5) rfl
 .rw[Zu hm,av hm];apply sR;simp only[go_sem,seval];exact ak.pure (hs.ax z5) rfl
def dC(l:List Zj)(s:Zf)(kept shift k:Int):Int:=if dG l s/\s.atom<=k/\k<l.length then gG l s.atom k-s.done+kept+shift else 0
def tt{l:List Zj}(hl:nu l)(i k:Int):-2305843009213693952<=gG l i k/\gG l i k<=2305843009213693952:=by
 unfold gG;split
 .rename_i h;obtain⟨n,rfl⟩:∃n:Nat,k=n:=⟨k.toNat,by omega⟩
  obtain⟨m,rfl⟩:∃m:Nat,i=m:=⟨i.toNat,by omega⟩
  have hn:n<l.length:=by omega
  have hm:m<l.length:=by omega
  rw[aZ hn,aZ hm];have h1:=hl.rng _ (Zr hn);have h2:=hl.rng _ (Zr hm);omega
 .omega
def C8(l:List Zj)(hl:nu l)(s:Zf)(hd:s.done<=1152921504606846976)(kept shift k:Int)(hk:-1152921504606846976<=kept/\kept<=2305843009213693952)(hsh:0<=shift/\shift<=1152921504606846976):
 aJ prog 240 [br l,aV s,vI kept,vI shift,vI k] (vI (dC l s kept shift k)):=λU=>by
 refine UW.r (by simp[Sn]) ?_;have hs:=aa.refl U;have hc:=sF l s;have hor:=tt hl s.atom k;have hlen:=iB l;have bad:¬(dG l s/\s.atom<=k/\k<l.length)->dC l s kept shift k=0:=λh=>av h;have good:(dG l s/\s.atom<=k/\k<l.length)->dC l s kept shift k=gG l s.atom k-s.done+kept+shift:=λh=>ar h;generalize dC l s kept shift k=P at*;obtain⟨a,d,fr⟩:=s;rw[aV]at hc;simp only at hor hd good bad;refine ab.mix 11 ?_;apply sR;simp only[go_sem,seval,Sn,aV];refine ad λi6 Z6 s6 a6 f6=>?_;replace hs:=hs.trans s6;simp only[go_sem,seval,a6];refine ab.ay rfl rfl rfl (hc _) ?_;by_cases hm:dG l ⟨a,d,fr⟩
 .rw[ZG hm];by_cases h1:k<a
  .have q1:(k<a)=True:=Yd h1;apply sR;simp only[go_sem,seval,a6,q1];exact ak.pure hs (by rw[bad (λh=>by omega)])
  have q1:(k<a)=False:=T' h1;by_cases h2:k>=l.length
  .have q2:(k>=l.length)=True:=Yd h2;apply sR;simp only[go_sem,seval,a6,q1,q2,hlen];exact ak.pure hs (by rw[bad (λh=>by omega)])
  have q2:(k>=l.length)=False:=T' h2;rw[good ⟨hm,by omega,by omega⟩];have hd0:=hm.2.1;simp only at hd0;have r1:Yl .i64 (gG l a k-d):=ai;have r2:Yl .i64 (gG l a k-d+kept):=ai;have r3:Yl .i64 (gG l a k-d+kept+shift):=ai;apply sR;simp only[go_sem,seval,a6,q1,q2,hlen];refine Go.cm rfl rfl rfl (HC l hl a k) ?_;apply sG;simp only[go_sem,seval,a6,r1,r2,r3];exact ak.pure hs rfl
 .rw[Zu hm];apply sR;simp only[go_sem,seval];exact ak.pure hs (by rw[bad (λh=>hm h.1)])
open Go.Proofs Go.Proofs.Tryz
def Mj{m:Int}(h1:0<=m)(h2:m<=18446744073709551615):Yl .u64 m:=by
 unfold Yl IntKind.wrap;simp only[IntKind.signed,IntKind.bits];simp;omega
def lL(p:Nat->Bool):Nat->Nat->Nat->Nat
 |0,i,_=>i
 |f+1,i,j=>if i<j then if p ((i+j)/2)then lL p f i ((i+j)/2)else lL p f ((i+j)/2+1) j else i
def E5(p:Nat->Bool)(n:Nat):Nat:=lL p n 0 n
def pd(p:Nat->Bool):∀(f g i j:Nat),j-i<=f->j-i<=g->lL p f i j=lL p g i j
 |0,0,_,_,_,_=>rfl
 |0,g+1,i,j,h,_=>by rw[lL,lL,av (by omega)]
 |f+1,0,i,j,_,h=>by rw[lL,lL,av (by omega)]
 |f+1,g+1,i,j,h1,h2=>by
  rw[lL,lL];split
  .rename_i H';split
   .exact pd p f g i ((i+j)/2) (by omega) (by omega)
   .exact pd p f g ((i+j)/2+1) j (by omega) (by omega)
  .rfl
def Io{f:FuncId}{caps:List V}(p:Nat->Bool)(n:Nat)(hn:n<=1000000000){U:af}(hf:∀i:Nat,i<n->au prog f (vI i::caps) U λr Z'=>r=.bool (p i)/\Z'=U):
 au prog 238 [vI n,.fn f caps] U λr Z'=>r=vI (E5 p n)/\Z'=U:=by
 refine VD.r (by simp[O2]) ?_;refine ab.mix 8 ?_;apply sR;simp only[go_sem,seval,O2];refine ab.loop (λm st=>∃i j:Nat,i<=j/\j<=n/\m=j-i/\E5 p n=lL p (j-i) i j/\st.U=U/\st.s 1=.fn f caps/\st.s 5=vI i/\st.s 6=vI j) n ?_ ?_
 .exact⟨0,n,by omega,by omega,rfl,rfl,rfl,rfl,rfl,rfl⟩
 .rintro m ⟨S,J⟩ ⟨i,j,hij,hjn,rfl,heq,YF,t1,t5,t6⟩;simp only at YF t1 t5 t6;subst YF;refine ab.mix 8 ?_;by_cases H':i<j
  .have q:((i:Int)<j)=True:=Yd;have r1:Yl .i64 ((i:Int)+j):=ai;apply sR;simp only[go_sem,seval,t1,t5,t6,q,r1];have hh:((i:Int)+j).fdiv (2^min 1 64)=(((i+j)/2:Nat):Int):=by
    rw[show(2^min 1 64:Int)=2 from rfl,Int.fdiv_eq_ediv_of_nonneg _ (by decide)];omega
   rw[hh];refine⟨Mj (by omega) (by omega),ai,?_⟩;obtain⟨k,hk⟩:∃k:Nat,k=(i+j)/2:=⟨_,rfl⟩
   rw[<-hk];obtain⟨w,hw⟩:∃w:Nat,j-i=w+1:=⟨j-i-1,by omega⟩
   rw[hw,lL,ar H',<-hk]at heq;refine ab.ay rfl rfl rfl (hf k (by omega)) ?_;have r2:Yl .i64 ((k:Int)+1):=ai;cases hp:p k
   .rw[hp]at heq;apply sR;simp only[go_sem,seval,t1,t6,r2];refine⟨_,?_,k+1,j,by omega,hjn,rfl,?_,by simp⟩
    .omega
    .rw[heq];exact pd p _ _ _ _ (by omega) (by omega)
   .rw[hp]at heq;apply sR;simp only[go_sem,seval,t1,t5];refine⟨_,?_,i,k,by omega,by omega,rfl,?_,by simp⟩
    .omega
    .rw[heq];exact pd p _ _ _ _ (by omega) (by omega)
  .have q:((i:Int)<j)=False:=T';have hie:i=j:=by omega
   subst hie;apply sR;simp only[go_sem,seval,t5,t6,q];refine ak.same ?_;rw[heq,Nat.sub_self];rfl
open Go.Proofs Go.Proofs.Tryz
def ft(l:List Zj)(s:Zf)(kept shift body:Int)(n:Nat):Bool:=decide (dC l s kept shift (s.atom+n)+(atG l (s.atom+n)).h>body)
def nM(l:List Zj)(s:Zf)(kept shift body:Int):Int:=if dG l s then s.atom+E5 (ft l s kept shift body) (l.length-s.atom.toNat)else 0
def Ac(p:Nat->Bool):∀(f i j:Nat),i<=j->lL p f i j<=j
 |0,i,j,h=>h
 |f+1,i,j,h=>by
  rw[lL];split
  .split
   .exact jI (Ac p f _ _ (by omega)) (by omega)
   .exact Ac p f _ _ (by omega)
  .exact h
def FA(p:Nat->Bool)(n:Nat):E5 p n<=n:=Ac p n 0 n (Nat.zero_le n)
def qs{l:List Zj}(hl:nu l){s:Zf}(hd:s.done<=1152921504606846976){kept shift:Int}(hk:-1152921504606846976<=kept/\kept<=2305843009213693952)(hsh:0<=shift/\shift<=1152921504606846976)(k:Int):
 -4611686018427387904<=dC l s kept shift k/\dC l s kept shift k<=5764607523034234880:=by
 unfold dC;have h1:=tt hl s.atom k;split
 .rename_i h;have:=h.1.2.1;omega
 .omega
def KU(l:List Zj)(hl:nu l)(s:Zf)(hm:dG l s)(hd:s.done<=1152921504606846976)(kept shift body:Int)(hk:-1152921504606846976<=kept/\kept<=2305843009213693952)(hsh:0<=shift/\shift<=1152921504606846976)
 {U:af}{i5 i6 i7 i8 i9:Nat}(a5:U i5=some ⟨77,1,[br l]⟩)(a6:U i6=some ⟨42,3,[aV s]⟩)(a7:U i7=some ⟨3,1,[vI kept]⟩)(a8:U i8=some ⟨3,1,[vI shift]⟩)(a9:U i9=some ⟨3,1,[vI body]⟩)
 (n:Nat)(hn:n<l.length-s.atom.toNat):
 au prog 239 [vI n,.ptr i6 0 0,.ptr i5 0 0,.ptr i7 0 0,.ptr i8 0 0,.ptr i9 0 0] U λr Z'=>r=.bool (ft l s kept shift body n)/\Z'=U:=by
 refine UX.r (by simp[MT]) ?_;have hpr:=qs hl hd hk hsh (s.atom+n);have Zw:=C8 l hl s hd kept shift (s.atom+n) hk hsh;unfold ft;have hll:=hl.len;obtain⟨a,d,fr⟩:=s;obtain⟨h0,h1⟩:=hm.1;rw[aV]at a6 Zw;simp only at h0 h1 hn hpr Zw|-;obtain⟨m,rfl⟩:∃m:Nat,a=m:=⟨a.toNat,by omega⟩
 have e1:(m:Int)+(n:Int)=((m+n:Nat):Int):=by omega
 rw[e1]at hpr Zw|-;have hmn:m+n<l.length:=by omega
 have X2:=λU=>jg (U:=U) hmn;have hy:=hl.rng _ (Zr hmn);rw[aZ hmn];have r1:Yl .i64 ((m+n:Nat):Int):=ai;generalize dC l ⟨m,d,fr⟩ kept shift ((m+n:Nat):Int)=P at*;have r2:Yl .i64 (P+l[m+n].h):=ai;generalize m+n=q at*;refine ab.mix 9 ?_;by_cases hb:P+l[q].h>body
 .have q1:(P+l[q].h>body)=True:=Yd hb;apply sR;simp only[go_sem,seval,MT,a5,a6,a7,a8,e1,r1,cE];refine Go.cm rfl rfl rfl Zw ?_;apply sG;simp only[go_sem,seval,a5,a9,r2,X2,dh,q1,cE];exact ak.same rfl
 .have q1:(P+l[q].h>body)=False:=T' hb;apply sR;simp only[go_sem,seval,MT,a5,a6,a7,a8,e1,r1,cE];refine Go.cm rfl rfl rfl Zw ?_;apply sG;simp only[go_sem,seval,a5,a9,r2,X2,dh,q1,cE];exact ak.same rfl
def JD(l:List Zj)(hl:nu l)(s:Zf)(hd:s.done<=1152921504606846976)(kept shift body:Int)(hk:-1152921504606846976<=kept/\kept<=2305843009213693952)(hsh:0<=shift/\shift<=1152921504606846976):
 aJ prog 179 [br l,aV s,vI kept,vI shift,vI body] (vI (nM l s kept shift body)):=λU=>by
 refine VL.r (by simp[RF]) ?_;have hs:=aa.refl U;have hc:=sF l s;have hlen:=iB l;have hll:=hl.len;refine ab.mix 12 ?_;have hsc:(aV s).cells=[vI s.atom,vI s.done,.bool s.free]:=rfl;have hss:(aV s).stays=true:=rfl;apply sR;simp only[go_sem,seval,RF,cE,iz];refine ad λi5 Z5 s5 a5 f5=>?_;replace hs:=hs.trans s5;simp only[go_sem,seval,hsc,hss];refine ad λi6 Z6 s6 a6 f6=>?_;replace a5:=s6 _ _ a5;replace hs:=hs.trans s6;simp only[go_sem,seval];refine ad λi7 Z7 s7 a7 f7=>?_;replace a5:=s7 _ _ a5;replace a6:=s7 _ _ a6;replace hs:=hs.trans s7;simp only[go_sem,seval];refine ad λi8 Z8 s8 a8 f8=>?_;replace a5:=s8 _ _ a5;replace a6:=s8 _ _ a6;replace a7:=s8 _ _ a7;replace hs:=hs.trans s8;simp only[go_sem,seval];refine ad λi9 Z9 s9 a9 f9=>?_;replace a5:=s9 _ _ a5;replace a6:=s9 _ _ a6;replace a7:=s9 _ _ a7;replace a8:=s9 _ _ a8;replace hs:=hs.trans s9;have b6:=a6;rw[aV]at b6;simp only[go_sem,seval,a5,b6,cE];refine ab.ay rfl rfl rfl (hc _) ?_;unfold nM;by_cases hm:dG l s
 .obtain⟨h0,h1⟩:=hm.1;obtain⟨m,hmm⟩:∃m:Nat,s.atom=m:=⟨s.atom.toNat,by omega⟩
  have hn:((l.length:Int)-s.atom)=((l.length-s.atom.toNat:Nat):Int):=by omega
  have r1:Yl .i64 ((l.length-s.atom.toNat:Nat):Int):=ai;rw[ZG hm,ar hm];apply sR;simp only[go_sem,seval,a5,b6,hlen,hn,r1,cE];refine ab.ay rfl rfl rfl (Io (ft l s kept shift body) (l.length-s.atom.toNat) (by omega) (λi hi=>KU l hl s hm hd kept shift body hk hsh a5 a6 a7 a8 a9 i hi)) ?_;have hse:=FA (ft l s kept shift body) (l.length-s.atom.toNat);have r2:Yl .i64 (s.atom+(E5 (ft l s kept shift body) (l.length-s.atom.toNat):Nat)):=ai;apply sR;simp only[go_sem,seval,b6,r2];exact ak.pure hs rfl
 .rw[Zu hm,av hm];apply sR;simp only[go_sem,seval];exact ak.pure hs rfl
open Go.Proofs Go.Proofs.Tryz
structure Zh where
 (node atom fr x y w h:Int)
deriving DecidableEq
def bb(f:Zh):V:=.agg [vI f.node,vI f.atom,vI f.fr,vI f.x,vI f.y,vI f.w,vI f.h]
def fM(l:List Zj)(k:Int):Zh:=⟨(atG l k).node,k,0,(atG l k).x,0,(atG l k).w,(atG l k).h⟩
def Zh.bK(f:Zh)(d:Int):Zh:={ f with fr:=d,h:=f.h-d }
def Zh.cut(f:Zh)(a:Int):Zh:={ f with h:=min f.h a }
def jn(l:List Zj)(f:Zh):Zf:=if f.fr+f.h<(atG l f.atom).h then⟨f.atom,f.fr+f.h,false⟩else⟨f.atom+1,0,false⟩
def Ii(l:List Zj)(k:Nat)(hk:k<l.length):aJ prog 289 [br l,vI k] (bb (fM l k)):=λU=>by
 refine Wy.r (by simp[RD]) ?_;have hs:=aa.refl U;have X2:=λU=>jg (U:=U) hk;rw[fM,aZ hk];refine ab.mix 6 ?_;apply sR;simp only[go_sem,seval,RD];refine ad λi4 Z4 s4 a4 f4=>?_;have z4:=hs.none f4;replace hs:=hs.trans s4;simp only[go_sem,seval,X2,dh];refine ad λi5 Z5 s5 a5 f5=>?_;have n45:=ao a4 f5;replace a4:=s5 _ _ a4;have z5:=hs.none f5;replace hs:=hs.trans s5;simp only[go_sem,seval,a5,a4,ae n45];exact ak.pure ((hs.ax z5).ax z4) rfl
def Bv(f:Zh)(d:Int)(hr:Yl .i64 (f.h-d)){U:af}{i:Nat}(h:U i=some ⟨367,7,[bb f]⟩):
 au prog 290 [.ptr i 0 0,vI d] U λ_ Z'=>Z'=C' U i ⟨367,7,[bb (f.bK d)]⟩:=by
 refine VY.r (by simp[Qg]) ?_;rw[bb]at h;refine ab.mix 4 ?_;generalize hX:(C' U i ⟨367,7,[bb (f.bK d)]⟩)=X;apply sR;simp only[go_sem,seval,Qg,h,hr];exact⟨_,_,aa.refl _,Wk.refl (aa.refl _) _,hX⟩
def NV(f:Zh)(a:Int){U:af}{i:Nat}(h:U i=some ⟨367,7,[bb f]⟩):
 au prog 291 [.ptr i 0 0,vI a] U λ_ Z'=>Z'=C' U i ⟨367,7,[bb (f.cut a)]⟩:=by
 refine WI.r (by simp[SZ]) ?_;rw[bb]at h;refine ab.mix 4 ?_;generalize hX:(C' U i ⟨367,7,[bb (f.cut a)]⟩)=X;apply sR;simp only[go_sem,seval,SZ,h,gF];exact⟨_,_,aa.refl _,Wk.refl (aa.refl _) _,hX⟩
def Eb(l:List Zj)(f:Zh)(k:Nat)(hf:f.atom=k)(hk:k<l.length)(hl:l.length<=1000000000)(hr:Yl .i64 (f.fr+f.h)){U:af}{i:Nat}(h:U i=some ⟨367,7,[bb f]⟩):
 au prog 292 [.ptr i 0 0,br l] U λr Z'=>r=aV (jn l f)/\Z'=U:=by
 refine U2.r (by simp[R5]) ?_;have hs:=aa.refl U;have X2:=λU=>jg (U:=U) hk;obtain⟨nd,YT,fr,x,y,w,hh⟩:=f;simp only at hf hr;subst hf;rw[bb]at h;unfold jn;simp only;rw[aZ hk];have r1:Yl .i64 ((k:Int)+1):=ai;refine ab.mix 6 ?_;apply sR;simp only[go_sem,seval,R5];refine ad λi4 Z4 s4 a4 f4=>?_;have z4:=hs.none f4;replace hs:=hs.trans s4;have b:=s4 _ _ h;by_cases hc:fr+hh<l[k].h
 .have q:(fr+hh<l[k].h)=True:=Yd hc;rw[ar hc];simp only[go_sem,seval,a4,b,hr,q,X2,dh];exact ak.pure (hs.ax z4) rfl
 .have q:(fr+hh<l[k].h)=False:=T' hc;rw[av hc];simp only[go_sem,seval,a4,b,hr,r1,q,X2,dh];exact ak.pure (hs.ax z4) rfl
open Go.Proofs Go.Proofs.Tryz
def lJ{s:Nat->V}{U:af}{a1 a2:Bool}{n1 n2 d e:Nat}{Post:V->af->Prop}:
 Ret [.cell a1 n1 (.t d),.cell a2 n2 (.t e)] ⟨s,U⟩ Post=di (bB U a1 n1 (s d)) λv=>di (bB U a2 n2 (s e)) λw=>ak (.P' [v,w]) U Post:=by
 unfold Ret ak nY;simp only[ej,gm,VX.ev];cases bB U a1 n1 (s d)<;>cases bB U a2 n2 (s e)<;>simp[di]
def fi(l:List Zj)(s:Zf)(YP:Int):Zh:=((fM l s.atom).bK s.done).cut YP
def rz(l:List Zj)(s:Zf)(YP:Int):Prop:=dG l s/\1<=YP
instance (l:List Zj) (s:Zf) (YP:Int):Decidable (rz l s YP):=by unfold rz;infer_instance
def kK(l:List Zj)(s:Zf)(YP:Int):Zh:=if rz l s YP then fi l s YP else⟨0,0,0,0,0,0,0⟩
def dT(l:List Zj)(s:Zf)(YP:Int):Zf:=if rz l s YP then jn l (fi l s YP)else⟨0,0,false⟩
def Pp(l:List Zj)(hl:nu l)(s:Zf)(hd:s.done<=1152921504606846976)(YP:Int):aJ prog 241 [br l,aV s,vI YP] (.P' [bb (kK l s YP),aV (dT l s YP)]):=λU=>by
 refine XR.r (by simp[Sy]) ?_;have hs:=aa.refl U;have hll:=hl.len;have hsc:(aV s).cells=[vI s.atom,vI s.done,.bool s.free]:=rfl;have hss:(aV s).stays=true:=rfl;refine ab.mix 9 ?_;apply sR;simp only[go_sem,seval,Sy,hsc,hss];refine ad λi4 Z4 s4 a4 f4=>?_;replace hs:=hs.trans s4;simp only[go_sem,seval];refine ad λi6 Z6 s6 a6 f6=>?_;replace a4:=s6 _ _ a4;have z6:=hs.none f6;replace hs:=hs.trans s6;simp only[go_sem,seval];refine ad λi7 Z7 s7 a7 f7=>?_;replace a4:=s7 _ _ a4;have n67:=ao a6 f7;replace a6:=s7 _ _ a6;have z7:=hs.none f7;replace hs:=hs.trans s7;have b4:=a4;rw[aV]at b4;simp only[go_sem,seval,b4];refine ab.ay rfl rfl rfl (sF l s _) ?_;have bad:¬rz l s YP->(bb (kK l s YP)=.agg [vI 0,vI 0,vI 0,vI 0,vI 0,vI 0,vI 0]/\aV (dT l s YP)=.agg [vI 0,vI 0,.bool false]):=λh=>by
  rw[kK,dT,av h,av h];exact⟨rfl,rfl⟩
 have good:rz l s YP->(kK l s YP=fi l s YP/\dT l s YP=jn l (fi l s YP)):=λh=>⟨ar h,ar h⟩
 generalize kK l s YP=X at*;generalize dT l s YP=Y at*;by_cases hm:dG l s
 .rw[ZG hm];by_cases h1:YP<1
  .have q1:(YP<1)=True:=Yd h1;obtain⟨e1,e2⟩:=bad (λh=>by have:=h.2;omega);rw[e1,e2];apply sR;simp only[go_sem,seval,a6,a7,ae n67,ae n67.symm,q1,lJ];exact ak.pure ((hs.ax z6).ax z7) rfl
  have q1:(YP<1)=False:=T' h1;obtain⟨rfl,rfl⟩:=good ⟨hm,by omega⟩;clear good bad;obtain⟨h0,h2⟩:=hm.1;obtain⟨k,hk⟩:∃k:Nat,s.atom=k:=⟨s.atom.toNat,by omega⟩
  have hkl:k<l.length:=by omega
  apply sR;simp only[go_sem,seval,b4,hk,q1];refine ab.ay rfl rfl rfl (Ii l k hkl _) ?_;have hfc:∀f,(bb f).cells=[vI f.node,vI f.atom,vI f.fr,vI f.x,vI f.y,vI f.w,vI f.h]:=λ_=>rfl;apply sR;simp only[go_sem,seval];refine ad λi8 Z8 s8 a8 f8=>?_;have n48:=ao a4 f8;replace a4:=s8 _ _ a4;have n68:=ao a6 f8;replace a6:=s8 _ _ a6;have n78:=ao a7 f8;replace a7:=s8 _ _ a7;have z8:=hs.none f8;replace hs:=hs.trans s8;have hd0:=hm.2.1;have hy:=hl.rng _ (Zr hkl);have hdh:s.done=0\/s.done<l[k].h:=by have:=hm.2.2;rw[hk,aZ hkl]at this;exact this
  have hph:(fM l k).h=l[k].h:=by rw[fM,aZ hkl]
  have hfs:∀f,(bb f).stays=true:=λ_=>rfl;rw[aV]at a4;simp only[go_sem,seval,a8,a4,ae n48,hfc,hfs];generalize hq8:C' _ i8 _=Y8;replace a8:=(congrFun hq8 i8).symm.trans ag;replace a4:=((congrFun hq8 i4).symm.trans (ae n48)).trans a4;replace a6:=((congrFun hq8 i6).symm.trans (ae n68)).trans a6;replace a7:=((congrFun hq8 i7).symm.trans (ae n78)).trans a7;replace hs:=Eq.subst (motive:=aa _) hq8 (hs.ax z8);clear hq8;have h8:Y8 i8=some ⟨367,7,[bb (fM l k)]⟩:=a8;refine ab.call rfl rfl rfl (Bv (fM l k) s.done (ai) h8) ?_;rintro-Z9 rfl;generalize hq8:C' _ i8 _=Y8;replace a8:=(congrFun hq8 i8).symm.trans ag;replace a4:=((congrFun hq8 i4).symm.trans (ae n48)).trans a4;replace a6:=((congrFun hq8 i6).symm.trans (ae n68)).trans a6;replace a7:=((congrFun hq8 i7).symm.trans (ae n78)).trans a7;replace hs:=Eq.subst (motive:=aa _) hq8 (hs.ax z8);clear hq8;apply sR;simp only[go_sem,seval];refine ab.call rfl rfl rfl (NV ((fM l k).bK s.done) YP a8) ?_;rintro-Z9 rfl;generalize hq8:C' _ i8 _=Y8;replace a8:=(congrFun hq8 i8).symm.trans ag;replace a4:=((congrFun hq8 i4).symm.trans (ae n48)).trans a4;replace a6:=((congrFun hq8 i6).symm.trans (ae n68)).trans a6;replace a7:=((congrFun hq8 i7).symm.trans (ae n78)).trans a7;replace hs:=Eq.subst (motive:=aa _) hq8 (hs.ax z8);clear hq8;have hsl:((fM l k).bK s.done).cut YP=fi l s YP:=by rw[fi,hk]
  rw[hsl]at a8;have ha:(fi l s YP).atom=k:=by rw[<-hsl];rfl
  have hfr:(fi l s YP).fr=s.done:=by rw[<-hsl];rfl
  have hhh:(fi l s YP).h=min (l[k].h-s.done) YP:=by rw[<-hsl,<-hph];rfl
  have hbe:=λ(Z1:af) (h1:aa Y8 Z1)=>Eb l (fi l s YP) k ha hkl hll (ai) (h1 _ _ a8);generalize jn l (fi l s YP)=Y at*;generalize fi l s YP=X at*;have b8:=a8;rw[bb]at b8;apply sR;simp only[go_sem,seval,b8];refine Go.zO rfl rfl rfl (λZ1 h1=>hbe Z1 h1) ?_;have hyc:(aV Y).cells=[vI Y.atom,vI Y.done,.bool Y.free]:=rfl;have hys:(aV Y).stays=true:=rfl;apply sG;simp only[go_sem,seval,a6,a7,ae n67,ae n67.symm,hyc,hys,lJ];exact ak.pure ((hs.ax z6).ax z7) rfl
 .rw[Zu hm];obtain⟨e1,e2⟩:=bad (λh=>hm h.1);rw[e1,e2];apply sR;simp only[go_sem,seval,a6,a7,ae n67,ae n67.symm,lJ];exact ak.pure ((hs.ax z6).ax z7) rfl
open Go.Proofs Go.Proofs.Tryz
def mZ(l:List Zj)(k:Int)(y:Int):Zh:={ fM l k with y:=y }
def dp(l:List Zj)(s:Zf)(kept shift k:Int):Zh:=
 if dG l s/\s.atom<=k/\k<l.length then
  (if k=s.atom then{ (mZ l k (dC l s kept shift k)).bK s.done with y:=dC l s kept shift k+s.done }else mZ l k (dC l s kept shift k))
 else⟨0,0,0,0,0,0,0⟩
def GJ(l:List Zj)(hl:nu l)(s:Zf)(hd:s.done<=1152921504606846976)(kept shift k:Int)(hk:-1152921504606846976<=kept/\kept<=2305843009213693952)(hsh:0<=shift/\shift<=1152921504606846976):
 aJ prog 243 [br l,aV s,vI kept,vI shift,vI k] (bb (dp l s kept shift k)):=λU=>by
 refine Vo.r (by simp[QM]) ?_;have hs:=aa.refl U;have hlen:=iB l;have hsc:(aV s).cells=[vI s.atom,vI s.done,.bool s.free]:=rfl;have hss:(aV s).stays=true:=rfl;have Zw:=C8 l hl s hd kept shift k hk hsh;have hpr:=qs hl hd hk hsh k;refine ab.mix 12 ?_;apply sR;simp only[go_sem,seval,QM,hsc,hss];refine ad λi6 Z6 s6 a6 f6=>?_;have z6:=hs.none f6;replace hs:=hs.trans s6;simp only[go_sem,seval];refine ad λYM Z10 s10 YX f10=>?_;have n610:=ao a6 f10;replace a6:=s10 _ _ a6;have z10:=hs.none f10;replace hs:=hs.trans s10;rw[aV]at a6 Zw;simp only[go_sem,seval,a6];refine ab.ay rfl rfl rfl (sF l s _) ?_;have bad:¬(dG l s/\s.atom<=k/\k<l.length)->bb (dp l s kept shift k)=.agg [vI 0,vI 0,vI 0,vI 0,vI 0,vI 0,vI 0]:=λh=>by
  rw[dp,av h];rfl
 have good:(dG l s/\s.atom<=k/\k<l.length)->dp l s kept shift k=(if k=s.atom then{ (mZ l k (dC l s kept shift k)).bK s.done with y:=dC l s kept shift k+s.done }else mZ l k (dC l s kept shift k)):=λh=>ar h;generalize dp l s kept shift k=X at*;by_cases hm:dG l s
 .rw[ZG hm];by_cases h1:k<s.atom
  .have q1:(k<s.atom)=True:=Yd h1;rw[bad (λh=>by omega)];apply sR;simp only[go_sem,seval,a6,YX,q1];exact ak.pure (hs.ax z10) rfl
  have q1:(k<s.atom)=False:=T' h1;by_cases h2:k>=l.length
  .have q2:(k>=l.length)=True:=Yd h2;rw[bad (λh=>by omega)];apply sR;simp only[go_sem,seval,a6,YX,q1,q2,hlen];exact ak.pure (hs.ax z10) rfl
  have q2:(k>=l.length)=False:=T' h2;obtain rfl:=good ⟨hm,by omega,by omega⟩;clear good bad;obtain⟨h0,h3⟩:=hm.1;obtain⟨n,rfl⟩:∃n:Nat,k=n:=⟨k.toNat,by omega⟩
  have hnl:n<l.length:=by omega
  apply sR;simp only[go_sem,seval,a6,q1,q2,hlen];refine ab.ay rfl rfl rfl (Ii l n hnl _) ?_;have hfc:∀f,(bb f).cells=[vI f.node,vI f.atom,vI f.fr,vI f.x,vI f.y,vI f.w,vI f.h]:=λ_=>rfl;have hfs:∀f,(bb f).stays=true:=λ_=>rfl;generalize dC l s kept shift (n:Int)=P at*;apply sR;simp only[go_sem,seval];refine ad λi11 Z11 s11 a11 f11=>?_;have n611:=ao a6 f11;replace a6:=s11 _ _ a6;have n1011:=ao YX f11;replace YX:=s11 _ _ YX;have z11:=hs.none f11;replace hs:=hs.trans s11;simp only[go_sem,seval,a11,a6,ae n611,hfc,hfs];generalize hq11:C' _ i11 _=Y11;replace a11:=(congrFun hq11 i11).symm.trans ag;replace a6:=((congrFun hq11 i6).symm.trans (ae n611)).trans a6;replace YX:=((congrFun hq11 YM).symm.trans (ae n1011)).trans YX;replace hs:=Eq.subst (motive:=aa _) hq11 (hs.ax z11);clear hq11;refine ab.ay rfl rfl rfl (Zw _) ?_;rw[bb]at a11;have hd0:=hm.2.1;have hy:=hl.rng _ (Zr hnl);have hph:(fM l n).h=l[n].h:=by rw[fM,aZ hnl]
  by_cases he:(n:Int)=s.atom
  .have q3:((n:Int)=s.atom)=True:=Yd he;rw[ar he];have r2:Yl .i64 (P+s.done):=ai;apply sR;simp only[go_sem,seval,a11,a6,q3,ae n611];generalize hq11:C' _ i11 _=Y11;replace a11:=(congrFun hq11 i11).symm.trans ag;replace a6:=((congrFun hq11 i6).symm.trans (ae n611)).trans a6;replace YX:=((congrFun hq11 YM).symm.trans (ae n1011)).trans YX;replace hs:=Eq.subst (motive:=aa _) hq11 (hs.ax z11);clear hq11;have h11:Y11 i11=some ⟨367,7,[bb (mZ l n P)]⟩:=a11;refine ab.call rfl rfl rfl (Bv (mZ l n P) s.done (ai (by show _<=(fM l n).h-s.done;omega) (by show(fM l n).h-s.done<=_;omega)) h11) ?_;rintro-Z9 rfl;generalize hq11:C' _ i11 _=Y11;replace a11:=(congrFun hq11 i11).symm.trans ag;replace a6:=((congrFun hq11 i6).symm.trans (ae n611)).trans a6;replace YX:=((congrFun hq11 YM).symm.trans (ae n1011)).trans YX;replace hs:=Eq.subst (motive:=aa _) hq11 (hs.ax z11);clear hq11;rw[bb]at a11;have r3:Yl .i64 (((mZ l n P).bK s.done).y+s.done):=r2;apply sR;simp only[go_sem,seval,a11,a6,YX,r3,ae n1011];exact ak.pure ((hs.ax z11).ax z10) rfl
  .have q3:((n:Int)=s.atom)=False:=T' he;rw[av he];apply sR;simp only[go_sem,seval,a11,a6,YX,q3,ae n611,ae n1011];exact ak.pure ((hs.ax z11).ax z10) rfl
 .rw[Zu hm];rw[bad (λh=>hm h.1)];apply sR;simp only[go_sem,seval,YX];exact ak.pure (hs.ax z10) rfl
open Go.Proofs Go.Proofs.Tryz
def mulR(a n:Int):Int:=
 if dt n≠0/\(dt a>(1099511627776:Int).tdiv (max (dt n) (-dt n))\/dt a<(-1099511627776:Int).tdiv (max (dt n) (-dt n)))then
  (if decide (dt a<0)=decide (dt n<0)then 1099511627776 else -1099511627776)
 else dt a*dt n
def NO{A B:Int}(h1:A<=(1099511627776:Int).tdiv (max B (-B)))(h2:(-1099511627776:Int).tdiv (max B (-B))<=A)(hB:B≠0):-1099511627776<=A*B/\A*B<=1099511627776:=by
 obtain⟨M,hM⟩:∃M,M=max B (-B):=⟨_,rfl⟩
 rw[<-hM]at h1 h2;have hM1:1<=M:=by omega
 rw[Int.neg_tdiv]at h2;rw[Int.tdiv_eq_ediv_of_nonneg (by omega)]at h1 h2;have h3:(1099511627776:Int)/M*M<=1099511627776:=Int.ediv_mul_le _ (by omega);have h4:=Int.mul_le_mul_of_nonneg_right h1 (by omega:0<=M);have h5:=Int.mul_le_mul_of_nonneg_right h2 (by omega:0<=M);rw[Int.neg_mul]at h5;rcases(by omega:M=B\/M=-B)with e|e
 .rw[e]at h4 h5 h3;omega
 .have hb:B=-M:=by omega
  rw[hb,Int.mul_neg];omega
def Uh(a n:Int):aJ prog 47 [vI a,vI n] (vI (mulR a n)):=λU=>by
 refine e47.r (by simp[c47]) ?_;refine ab.mix 5 ?_;apply sR;simp only[go_sem,seval,c47];refine ab.ay rfl rfl rfl (DK a _) ?_;apply sR;simp only[go_sem,seval];refine ab.ay rfl rfl rfl (DK n _) ?_;unfold mulR;have hA:-1099511627776<=dt a/\dt a<=1099511627776:=by unfold dt;omega
 have hB:-1099511627776<=dt n/\dt n<=1099511627776:=by unfold dt;omega
 generalize dt a=A at*;generalize dt n=B at*;have b1:(true==true)=true:=rfl;have b2:(true==false)=false:=rfl;have b3:(false==true)=false:=rfl;have b4:(false==false)=true:=rfl;by_cases h0:B=0
 .subst h0;have q0:((0:Int)≠0)=False:=T' (λh=>h rfl);have r1:Yl .i64 (A*0):=ai;apply sR;simp only[go_sem,seval,q0,r1];exact ak.same (by rw[av (by simp)])
 have q0:(B≠0)=True:=Yd h0;have hM1:1<=max B (-B)/\max B (-B)<=1099511627776:=by omega
 have qM:(max B (-B)=0)=False:=T';have rn:Yl .i64 (-B):=ai;have t1:0<=(1099511627776:Int).tdiv (max B (-B))/\(1099511627776:Int).tdiv (max B (-B))<=1099511627776:=by
  rw[Int.tdiv_eq_ediv_of_nonneg (by omega)];exact⟨Int.ediv_nonneg (by omega) (by omega),Int.ediv_le_self _ (by omega)⟩
 have t2:(-1099511627776:Int).tdiv (max B (-B))=-((1099511627776:Int).tdiv (max B (-B))):=Int.neg_tdiv ..;have hr:=NO (A:=A) (B:=B);have rq1:Yl .i64 ((1099511627776:Int).tdiv (max B (-B))):=ai;have rq2:Yl .i64 ((-1099511627776:Int).tdiv (max B (-B))):=ai;by_cases h1:A>(1099511627776:Int).tdiv (max B (-B))
 .have q1:(A>(1099511627776:Int).tdiv (max B (-B)))=True:=Yd h1;rw[ar ⟨h0,.inl h1⟩];by_cases sA:A<0
  .have qA:(A<0)=True:=Yd sA;by_cases sB:B<0
   .have qB:(B<0)=True:=Yd sB;apply sR;simp only[go_sem,seval,q0,Int.zero_sub,rn,df,qM,rq1,q1,qA,qB,b1];exact ak.same (by first|rfl|simp[sA,sB])
   .have qB:(B<0)=False:=T' sB;apply sR;simp only[go_sem,seval,q0,Int.zero_sub,rn,df,qM,rq1,q1,qA,qB,b2];exact ak.same (by first|rfl|simp[sA,sB])
  .have qA:(A<0)=False:=T' sA;by_cases sB:B<0
   .have qB:(B<0)=True:=Yd sB;apply sR;simp only[go_sem,seval,q0,Int.zero_sub,rn,df,qM,rq1,q1,qA,qB,b3];exact ak.same (by first|rfl|simp[sA,sB])
   .have qB:(B<0)=False:=T' sB;apply sR;simp only[go_sem,seval,q0,Int.zero_sub,rn,df,qM,rq1,q1,qA,qB,b4];exact ak.same (by first|rfl|simp[sA,sB])
 have q1:(A>(1099511627776:Int).tdiv (max B (-B)))=False:=T' h1;by_cases h2:A<(-1099511627776:Int).tdiv (max B (-B))
 .have q2:(A<(-1099511627776:Int).tdiv (max B (-B)))=True:=Yd h2;rw[ar ⟨h0,.inr h2⟩];by_cases sA:A<0
  .have qA:(A<0)=True:=Yd sA;by_cases sB:B<0
   .have qB:(B<0)=True:=Yd sB;apply sR;simp only[go_sem,seval,q0,Int.zero_sub,rn,df,qM,rq1,q1,rq2,q2,qA,qB,b1];exact ak.same (by first|rfl|simp[sA,sB])
   .have qB:(B<0)=False:=T' sB;apply sR;simp only[go_sem,seval,q0,Int.zero_sub,rn,df,qM,rq1,q1,rq2,q2,qA,qB,b2];exact ak.same (by first|rfl|simp[sA,sB])
  .have qA:(A<0)=False:=T' sA;by_cases sB:B<0
   .have qB:(B<0)=True:=Yd sB;apply sR;simp only[go_sem,seval,q0,Int.zero_sub,rn,df,qM,rq1,q1,rq2,q2,qA,qB,b3];exact ak.same (by first|rfl|simp[sA,sB])
   .have qB:(B<0)=False:=T' sB;apply sR;simp only[go_sem,seval,q0,Int.zero_sub,rn,df,qM,rq1,q1,rq2,q2,qA,qB,b4];exact ak.same (by first|rfl|simp[sA,sB])
 have q2:(A<(-1099511627776:Int).tdiv (max B (-B)))=False:=T' h2;have hr':=hr (by omega) (by omega) h0;have r3:Yl .i64 (A*B):=ai;rw[av (λh=>by rcases h.2 with h|h;exact h1 h;exact h2 h)]
 apply sR;simp only[go_sem,seval,q0,Int.zero_sub,rn,df,qM,rq1,q1,rq2,q2,r3];exact ak.same rfl
open Go.Proofs Go.Proofs.Tryz
def Ht(l:List U')(hl:l.length<=1000000):Iter prog 321 [.rp (aG l)] (l.map λf=>[aK f]):=by
 refine⟨T1.c,λYp τ Jx Z0 hy hJ=>?_⟩;refine(T1.r (by simp[SA]) ?_).2;have ldF:∀U:af,bB U false 1 (.rp (aG l))=some (aG l):=λU=>rfl;have hln:=fX l;refine ab.mix 5 ?_;apply sR;simp only[go_sem,seval,SA,ldF,hln];refine ab.loop (λm st=>∃(j:Nat) (ZJ:af),j<=l.length/\m=l.length-j/\τ ((l.take j).map λf=>[aK f]) ZJ/\aa ZJ st.U/\st.s 0=.yl Yp/\st.s 5=aG l/\st.s 6=vI l.length/\st.s 7=vI j) l.length ?_ ?_
 .exact⟨0,Z0,by omega,rfl,by simpa using hJ,aa.refl _,rfl,rfl,rfl,rfl⟩
 .rintro m ⟨S,J⟩ ⟨j,ZJ,hj,rfl,hJj,G',t0,t5,t6,t7⟩;simp only at G' t0 t5 t6 t7;refine ab.mix 5 ?_;by_cases H':j<l.length
  .have q:((j:Int)<l.length)=True:=Yd;have r1:Yl .i64 ((j:Int)+1):=ai;have X2:=λU=>j2 (U:=U) H';have e0':l=l.take j++l[j]::l.drop (j+1):=by rw[<-ia H',sZ]
   have e:(l.map λf=>[aK f])=((l.take j).map λf=>[aK f])++[aK l[j]]::((l.drop (j+1)).map λf=>[aK f]):=by
    have:=congrArg (List.map λf=>[aK f]) e0'
    rwa [gl,dS]at this
   have Zb:((l.take (j+1)).map λf=>[aK f])=((l.take j).map λf=>[aK f])++[[aK l[j]]]:=by rw[Zq0 H',gl];rfl
   have hfl:aK l[j]=.agg [vI l[j].node,vI l[j].side,vI l[j].anchor,vI l[j].x,vI l[j].y,vI l[j].w,vI l[j].h]:=rfl;generalize l[j]=x at*;apply sR;simp only[go_sem,seval,t5,t6,t7,q,X2,hfl];refine ad λi4 Z4 s4 a4 f4=>?_;simp only[go_sem,seval,a4,t0];generalize hq4:C' Z4 i4 _=Y4;have hs4:aa J Y4:=by rw[<-hq4];exact s4.ax f4
   clear hq4;refine ab.nb (Post:=λb' Z2=>∃Yr,aT ZJ Y4 Yr Z2/\((b'=true/\τ (((l.take j).map λf=>[aK f])++[[aK x]]) Yr)\/(b'=false/\Jx (((l.take j).map λf=>[aK f])++[[aK x]]) Yr))) rfl rfl rfl (hy _ [aK x] _ ZJ Y4 e hJj (G'.trans hs4)) ?_;rintro b' Z2 ⟨Yr,ZU,Zn⟩;rcases Zn with⟨rfl,Zn⟩|⟨rfl,Zn⟩
   .apply sR;simp only[go_sem,seval,t0,t5,t6,t7,r1];refine⟨_,?_,j+1,Yr,by omega,rfl,by rw[Zb];exact Zn,ZU.1,by simp⟩;omega
   .apply sR;simp only[go_sem,seval];exact⟨_,Yr,ZU.1,Wk.refl ZU.1 _,.inr ⟨_,⟨_,by rw[e,lz];rfl⟩,Zn⟩⟩
  .have q:((j:Int)<l.length)=False:=T';rw[jj (by omega)]at hJj;apply sR;simp only[go_sem,seval,t6,t7,q];exact⟨_,ZJ,G',Wk.refl G' _,.inl hJj⟩
def Sv(l:List U'):aJ prog 293 [aG l] (.fn 321 [.rp (aG l)]):=λU=>by
 refine U5.r (by simp[QN]) ?_;refine ab.mix 3 ?_;have q1:=dH l;have q2:=dF l;generalize aG l=x at*;apply sR;simp only[go_sem,seval,QN,q1,q2];refine ad λid1 Z1 s1 a1 f1=>?_;simp only[go_sem,seval];exact⟨_,U,s1,Wk.fn (vs':=[.rp x]) ⟨Wk.ptr s1 a1 f1,trivial⟩,rfl,rfl⟩
def rD(bK to:Int)(f:U'):Bool:=decide (f.anchor<bK\/f.anchor>=to)
def Rc(bK to:Int)(f:U'){U:af}{i4 i5:Nat}(a4:U i4=some ⟨3,1,[vI bK]⟩)(a5:U i5=some ⟨3,1,[vI to]⟩):
 au prog 334 [aK f,.ptr i4 0 0,.ptr i5 0 0] U λr Z'=>r=.bool (rD bK to f)/\Z'=U:=by
 refine XK.r (by simp[RY]) ?_;have hs:=aa.refl U;refine ab.mix 5 ?_;apply sR;simp only[go_sem,seval,RY,aK];refine ad λi3 Z3 s3 a3 f3=>?_;replace hs:=hs.trans s3;have b4:=s3 _ _ a4;have b5:=s3 _ _ a5;by_cases h0:f.anchor<bK
 .have q0:(f.anchor<bK)=True:=Yd h0;simp only[go_sem,seval,a3,b4,q0];exact ak.pure hs (by simp[rD,h0])
 .have q0:(f.anchor<bK)=False:=T' h0;by_cases h1:f.anchor>=to
  .have q1:(f.anchor>=to)=True:=Yd h1;simp only[go_sem,seval,a3,b4,b5,q0,q1];exact ak.pure hs (by simp[rD,h1])
  .have q1:(f.anchor>=to)=False:=T' h1;simp only[go_sem,seval,a3,b4,b5,q0,q1];exact ak.pure hs (by simp only[rD];rw[Zu (by omega)])
open Go.Proofs Go.Proofs.Tryz
def fS(p:U'->Bool):List U'->Nat->Int
 |[],_=>-1
 |f::r,i=>if p f then i else fS p r (i+1)
def C6{p:U'->Bool}{l:List U'}{i:Nat}(h:i<l.length):fS p (l.drop i) i=if p l[i]then(i:Int)else fS p (l.drop (i+1)) (i+1):=by
 rw[ia h,fS]
def JB{U:af}{v:V}(l:List U')(hl:l.length<=1000000)(hr:Reads U 7 true v (l.map aK)){f:FuncId}{caps:List V}(p:U'->Bool)
 (hf:∀x∈l,au prog f (aK x::caps) U λr Z'=>r=.bool (p x)/\Z'=U):
 au prog 244 [v,.fn f caps] U λr Z'=>r=vI (fS p l 0)/\Z'=U:=by
 refine VC.r (by simp[QC]) ?_;have hlv:cW false v=some (.int .i64 l.length):=by rw[hr.1,cL]
 refine ab.mix 6 ?_;apply sR;simp only[go_sem,seval,QC,hlv];refine ab.loop (λm st=>∃i:Nat,i<=l.length/\m=l.length-i/\fS p l 0=fS p (l.drop i) i/\st.U=U/\st.s 0=v/\st.s 1=.fn f caps/\st.s 7=vI l.length/\st.s 8=vI i) l.length ?_ ?_
 .exact⟨0,by omega,rfl,rfl,rfl,rfl,rfl,rfl,rfl⟩
 .rintro m ⟨s,Z'⟩ ⟨i,hi,rfl,heq,YF,h0,h1,h7,h8⟩;simp only at YF h0 h1 h7 h8;subst YF;refine ab.mix 6 ?_;by_cases H':i<l.length
  .have q:((i:Int)<l.length)=True:=Yd;have hd:=C6 (p:=p) H';obtain⟨a,ha,hla⟩:=hr.2 i (aK l[i]) (by simp[H']);have hfx:=hf l[i] (Zr H');have r1:Yl .i64 ((i:Int)+1):=ai;generalize l[i]=x at*;apply sR;simp only[go_sem,seval,h0,h1,h7,h8,q,ha,hla];refine ab.ay rfl rfl rfl hfx ?_;cases hp:p x
   .rw[hp]at hd;apply sR;simp only[go_sem,seval,h0,h1,h7,h8,r1];refine⟨_,?_,i+1,by omega,rfl,?_,by simp⟩
    .omega
    .rw[heq,hd];rfl
   .rw[hp]at hd;apply sR;simp only[go_sem,seval];refine ak.same ?_;rw[heq,hd];rfl
  .have q:((i:Int)<l.length)=False:=T';have hie:i=l.length:=by omega
   apply sR;simp only[go_sem,seval,h7,h8,q];refine ak.same ?_;rw[heq,hie,x5];rfl
open Go.Proofs Go.Proofs.Tryz
def J1(l:List Zj)(hl:l.length<=1000000000):aJ prog 61 [br l] (br l):=
 Cl func61 (e61.b.trans rfl) e61.c (l.map dh) (by simp;omega)
def Bx(l:List U')(hl:l.length<=1000000000):aJ prog 62 [aG l] (aG l):=
 Cl func62 (e62.b.trans rfl) e62.c (l.map aK) (by simp;omega)
open Go.Proofs Go.Proofs.Tryz
def nt(a:U'):List U'->Nat->Int
 |[],_=>-1
 |q::r,i=>if a=q then i else nt a r (i+1)
def H5{a:U'}{p:List U'}{i:Nat}(h:i<p.length):nt a (p.drop i) i=if a=p[i]then(i:Int)else nt a (p.drop (i+1)) (i+1):=by
 rw[ia h,nt]
def JL(p:List U')(hp:p.length<=1000000000)(a:U'):aJ prog 172 [aG p,aK a] (vI (nt a p 0)):=λU=>by
 refine W1.r (by simp[RR]) ?_;have hs:=aa.refl U;have hlp:=fX p;have hac:(aK a).cells=[vI a.node,vI a.side,vI a.anchor,vI a.x,vI a.y,vI a.w,vI a.h]:=rfl;have has:(aK a).stays=true:=rfl;have he:∀b:U',sK false [0,0,0,0,0,0,0] (.agg [vI a.node,vI a.side,vI a.anchor,vI a.x,vI a.y,vI a.w,vI a.h]) (.agg [vI b.node,vI b.side,vI b.anchor,vI b.x,vI b.y,vI b.w,vI b.h])=some (.bool (decide (a=b))):=λb=>by
  have:(a=b)↔(a.node=b.node/\a.side=b.side/\a.anchor=b.anchor/\a.x=b.x/\a.y=b.y/\a.w=b.w/\a.h=b.h):=by
   cases a;cases b;simp
  simp only[sK,jP,gE,lA,this];simp
 refine ab.mix 9 ?_;apply sR;simp only[go_sem,seval,RR,hac,has];refine ad λi3 Z3 s3 a3 f3=>?_;have z3:=hs.none f3;replace hs:=hs.trans s3;simp only[go_sem,seval,hlp];rw[aK]at a3;refine ab.loop (λm st=>∃(i:Nat),i<=p.length/\m=p.length-i/\nt a p 0=nt a (p.drop i) i/\st.U=Z3/\st.s 0=aG p/\st.s 3=.ptr i3 0 0/\st.s 7=vI p.length/\st.s 8=vI i) p.length ?_ ?_
 .exact⟨0,by omega,rfl,rfl,rfl,rfl,rfl,rfl,rfl⟩
 .rintro m ⟨s,Z'⟩ ⟨i,hi,rfl,heq,YF,h0,h3,h7,h8⟩;simp only at YF h0 h3 h7 h8;subst YF;refine ab.mix 9 ?_;by_cases H':i<p.length
  .have q:((i:Int)<p.length)=True:=Yd;have hd:=H5 (a:=a) H';have X2:=λU=>j2 (U:=U) H';have r1:Yl .i64 ((i:Int)+1):=ai;have hee:=he p[i];have hfl:aK p[i]=.agg [vI p[i].node,vI p[i].side,vI p[i].anchor,vI p[i].x,vI p[i].y,vI p[i].w,vI p[i].h]:=rfl;by_cases hc:a=p[i]
   .rw[ZG hc]at hee;apply sR;simp only[BB,seval,aX,ez,aE,dW,iS,V.cells,ZQ.nothing,h0,h3,h7,h8,q,a3,X2,hfl,hee];refine ak.pure hs ?_;rw[heq,hd,ar hc]
   .rw[Zu hc]at hee;apply sR;simp only[BB,seval,aX,ez,aE,dW,iS,V.cells,ZQ.nothing,h0,h3,h7,h8,q,a3,X2,hfl,hee,r1];refine⟨_,?_,i+1,by omega,rfl,?_,by simp⟩
    .omega
    .rw[heq,hd,av hc]
  .have q:((i:Int)<p.length)=False:=T';have hie:i=p.length:=by omega
   apply sR;simp only[go_sem,seval,h7,h8,q];refine ak.pure hs ?_;rw[heq,hie,x5];rfl
open Go
def FzL.same{U:af}{N:Nat->Prop}:∀(vs:List V),cd vs=true->FzL U N vs vs
 |[],_=>.nil
 |v::vs,h=>by
  simp only[cd,Ba]at h;exact .cons _ _ _ _ (.same v h.1) (FzL.same vs h.2)
def FzL.app{U:af}{N:Nat->Prop}:∀{a b c d:List V},FzL U N a b->FzL U N c d->FzL U N (a++c) (b++d)
 |_,_,_,_,.nil,h=>h
 |_,_,_,_,.cons v u vs us h h',h2=>.cons v u _ _ h (FzL.app h' h2)
def FzL.one{U:af}{N:Nat->Prop}{v u:V}(h:Fz U N v u):FzL U N [v] [u]:=.cons _ _ _ _ h .nil
def aL.fz{K U:af}{N:Nat->Prop}{e sz:Nat}{v:V}{rows:List V}(h:aL K U e sz v rows)(hN:∀id,K id=none->N id)(hr:cd rows=true):Fz U N v (.sl sz rows):=by
 rcases h with⟨rfl,rfl⟩|⟨id,rfl,ho,hk⟩
 .exact .nil sz
 .exact .own id 0 rows.length ⟨e,sz,rows⟩ rows ho (hN id hk) (by simp) (by rw[yq,hU];exact FzL.same rows hr)
def aL.ae{K U:af}{e sz:Nat}{v:V}{rows:List V}(h:aL K U e sz v rows){id:Nat}{o:Ob}(hK:K id≠none):aL K (C' U id o) e sz v rows:=by
 rcases h with h|⟨q,h1,h2,h3⟩
 .exact .inl h
 .have:q≠id:=λe=>hK (by rw[<-e];exact h3);exact .inr ⟨q,h1,by rw[Vc.ae this];exact h2,h3⟩
def GH(l:List Int):cd (l.map vI)=true:=by
 induction l with
 |nil=>rfl
 |cons x l ih=>rw[dS,cd,ih];rfl
abbrev To(x:Nd):List V:=[vI x.kind,vI x.size,vI x.st.top,vI x.st.Yv,vI x.st.Yj,vI x.st.Yc,vI x.st.Zp,vI x.st.YN,vI x.st.YY,vI x.st.head,vI x.st.before,vI x.st.after,vI x.st.inside,vI x.st.clear,vI x.line,vI x.space]
def ndW(x:Nd)(v:V):V:=.agg [vI x.kind,vI x.size,vI x.st.top,vI x.st.Yv,vI x.st.Yj,vI x.st.Yc,vI x.st.Zp,vI x.st.YN,vI x.st.YY,vI x.st.head,vI x.st.before,vI x.st.after,vI x.st.inside,vI x.st.clear,vI x.line,vI x.space,v,vI x.side,vI x.w,vI x.h]
def Uv{U:af}{N:Nat->Prop}{x:Nd}{v:V}(h:Fz U N v (bl x.words)):Fz U N (ndW x v) (jE x):=by
 refine .agg _ _ ?_;exact(FzL.same (To x) rfl).app ((FzL.one h).app (FzL.same [vI x.side,vI x.w,vI x.h] rfl))
def fN(K U:af):List Nd->List V->Prop
 |[],[]=>True
 |x::l,r::rows=>(∃w,r=ndW x w/\aL K U 3 1 w (x.words.map vI))/\fN K U l rows
 |_,_=>False
def aL.kept{K U Z':af}{id e:Nat}{w:V}{rows rows0:List V}(h:aL K U 3 1 w rows)(ho:U id=some ⟨e,20,rows0⟩)(hs:∀i,i≠id->∀o,U i=some o->Z' i=some o):aL K Z' 3 1 w rows:=by
 rcases h with h|⟨i,h1,h2,h3⟩
 .exact .inl h
 .have YA:i≠id:=λe=>by subst e;rw[ho]at h2;simp at h2
  exact .inr ⟨i,h1,hs i YA _ h2,h3⟩
def fN.kept{K U Z':af}{id e:Nat}{rows0:List V}(ho:U id=some ⟨e,20,rows0⟩)(hs:∀i,i≠id->∀o,U i=some o->Z' i=some o):∀{l:List Nd} {rows:List V},fN K U l rows->fN K Z' l rows
 |[],[],_=>trivial
 |_::_,_::_,⟨⟨w,h1,h2⟩,h⟩=>⟨⟨w,h1,h2.kept ho hs⟩,fN.kept ho hs h⟩
 |[],_::_,h=>h.elim
 |_::_,[],h=>h.elim
def fN.mono{K U Z':af}(hs:aa U Z'):∀{l:List Nd} {rows:List V},fN K U l rows->fN K Z' l rows
 |[],[],_=>trivial
 |_::_,_::_,⟨⟨w,h1,h2⟩,h⟩=>⟨⟨w,h1,h2.mono hs⟩,fN.mono hs h⟩
 |[],_::_,h=>h.elim
 |_::_,[],h=>h.elim
def aL.N7{K K' U:af}{e sz:Nat}{v:V}{rows:List V}(h:aL K U e sz v rows)(hk:aa K' K):aL K' U e sz v rows:=by
 rcases h with h|⟨i,h1,h2,h3⟩
 .exact .inl h
 .exact .inr ⟨i,h1,h2,hk.none h3⟩
def fN.app{K U:af}:∀{l l2:List Nd} {rows rows2:List V},fN K U l rows->fN K U l2 rows2->fN K U (l++l2) (rows++rows2)
 |[],_,[],_,_,h2=>h2
 |_::_,_,_::_,_,⟨h1,h⟩,h2=>⟨h1,fN.app h h2⟩
 |[],_,_::_,_,h,_=>h.elim
 |_::_,_,[],_,h,_=>h.elim
def fN.fz{K U:af}{N:Nat->Prop}(hN:∀id,K id=none->N id):∀{l:List Nd} {rows:List V},fN K U l rows->FzL U N rows (l.map jE)
 |[],[],_=>.nil
 |_::_,_::_,⟨⟨w,h1,h2⟩,h⟩=>by
  rw[h1];exact .cons _ _ _ _ (Uv (h2.fz hN (GH _))) (fN.fz hN h)
 |[],_::_,h=>h.elim
 |_::_,[],h=>h.elim
def DJ(K U:af)(v:V)(l:List Nd):Prop:=∃rows,aL K U 59 20 v rows/\fN K U l rows
def DJ.fz{K U:af}{N:Nat->Prop}{v:V}{l:List Nd}(h:DJ K U v l)(hN:∀id,K id=none->N id):Fz U N v (aH l):=by
 obtain⟨rows,ho,hr⟩:=h;have hf:=hr.fz hN;rcases ho with⟨rfl,rfl⟩|⟨id,rfl,ho,hk⟩
 .cases l with
  |nil=>exact .nil 20
  |cons x l=>exact hr.elim
 .exact .own id 0 rows.length ⟨_,20,rows⟩ _ ho (hN id hk) (by simp) (by rw[yq,hU];exact hf)
open Go.Proofs Go.Proofs.Tryz
def Na(l:List Nd)(hl:l.length<=10000)(U:af):au prog 49 [aH l] U λr Z'=>aa U Z'/\aL U Z' 59 20 r (l.map jE):=by
 refine e49.r (by simp[c49]) ?_;refine ab.mix 3 ?_
 (refine ab.bg ZQ.nothing 8 ?_;simp only[go_sem,seval,fw,c49])
 refine ab.HD rfl rfl rfl λb hb=>?_;cases b
 .apply sR;simp only[go_sem,seval];refine ad λid1 Z1 s1 a1 f1=>?_;obtain⟨Yn,hd,Zk⟩:=(aL.new (K:=U) (e:=59) (sz:=20) (n:=0) (rows:=[]) rfl a1 f1).dst (aa.refl _);have hsrc:∀U,bz U 20 (aH l)=some (l.map jE):=λU=>by simp[aH,bz]
  have Zl:l.length*177<=140737488355328:=by omega
  simp only[go_sem,seval,hd,hsrc,cL,Zl];refine cO λid2 Z2 s2 a2 f2=>?_;have hs2:=(Zk U (aa.refl _) Z1 s1).trans s2;simp only[go_sem,seval];refine⟨_,_,aa.refl _,Wk.refl (aa.refl _) _,hs2,aL.new (by simp) a2 (s1.none f2)⟩
 .apply sR;simp only[go_sem,seval];refine⟨_,_,aa.refl _,Wk.refl (aa.refl _) _,aa.refl _,?_⟩;have:l.map jE=[]:=hb rfl;rw[this];exact aL.start
def ID(l:List Int)(hl:l.length<=1000000000)(U:af):au prog 50 [bl l] U λr Z'=>aa U Z'/\aL U Z' 3 1 r (l.map vI):=by
 refine e50.r (by simp[c50]) ?_;refine ab.mix 3 ?_
 (refine ab.bg ZQ.nothing 8 ?_;simp only[go_sem,seval,fw,c50])
 refine ab.HD rfl rfl rfl λb hb=>?_;cases b
 .apply sR;simp only[go_sem,seval];refine ad λid1 Z1 s1 a1 f1=>?_;obtain⟨Yn,hd,Zk⟩:=(aL.new (K:=U) (e:=3) (sz:=1) (n:=0) (rows:=[]) rfl a1 f1).dst (aa.refl _);have Zl:l.length*9<=140737488355328:=by omega
  simp only[go_sem,seval,hd,Af,cL,Zl];refine cO λid2 Z2 s2 a2 f2=>?_;have hs2:=(Zk U (aa.refl _) Z1 s1).trans s2;simp only[go_sem,seval];exact⟨_,_,aa.refl _,Wk.refl (aa.refl _) _,hs2,aL.new (by simp) a2 (s1.none f2)⟩
 .apply sR;simp only[go_sem,seval];have:l.map vI=[]:=hb rfl;refine⟨_,_,aa.refl _,Wk.refl (aa.refl _) _,aa.refl _,?_⟩;rw[this];exact aL.start
open Go.Proofs Go.Proofs.Tryz
def LN(K U:af)(e sz:Nat)(v:V)(rows:List V):Prop:=(v=.aC/\rows=[])\/∃id all,v=.own id 0 rows.length/\U id=some ⟨e,sz,all⟩/\all.take rows.length=rows/\K id=none
def aL.V3{K U:af}{e sz:Nat}{v:V}{rows:List V}(h:aL K U e sz v rows):LN K U e sz v rows:=by
 rcases h with h|⟨id,h1,h2,h3⟩
 .exact .inl h
 .exact .inr ⟨id,rows,h1,h2,hU,h3⟩
def LN.wk{K U:af}{e sz:Nat}{v:V}{rows:List V}(h:LN K U e sz v rows){K':af}(hK:aa K' K)(hs:aa K' U):Wk U K' v (.sl sz rows):=by
 rcases h with⟨rfl,rfl⟩|⟨id,all,rfl,ho,ht,hk⟩
 .exact Wk.aC sz
 .have hl:rows.length<=all.length:=by
   have:=congrArg List.length ht;simp at this;omega
  have:=Wk.own hs ho (hK.none hk) (off:=0) (len:=rows.length) (by simpa using hl);rw[yq,ht]at this;exact this
open Go.Proofs Go.Proofs.Tryz
def tU{p:U'->Bool}:∀(l:List U') (i:Nat),fS p l i<0->l.filter (λf=>!p f)=l
 |[],_,_=>rfl
 |x::l,i,h=>by
  rw[fS]at h;split at h
  .omega
  .rename_i hp;have hp':p x=false:=by simpa using hp
   simp only[List.filter_cons,hp',Bool.not_false,if_true,tU l _ h]
def tS{p:U'->Bool}:∀(l:List U') (i:Nat),¬fS p l i<0->∃w:Nat,fS p l i=((i+w:Nat):Int)/\w<l.length/\(l.take w).filter (λf=>!p f)=l.take w/\∀x,l[w]?=some x->p x=true
 |[],i,h=>by simp[fS]at h
 |x::l,i,h=>by
  rw[fS]at h|-;split
  .rename_i hp;exact⟨0,by simp,by simp,by simp,λy hy=>by simp at hy;subst hy;exact hp⟩
  .rename_i hp;rw[av hp]at h;have hp':p x=false:=by simpa using hp
   obtain⟨w,h1,h2,h3,h4⟩:=tS l (i+1) h;refine⟨w+1,by rw[h1];congr 1;omega,by simp;omega,?_,by simpa using h4⟩;simp only[pA,List.filter_cons,hp',Bool.not_false,if_true,h3]
def we{p:U'->Bool}:∀(l:List U') (i:Nat),fS p l i<0->fS p l i=-1
 |[],_,_=>rfl
 |x::l,i,h=>by
  rw[fS]at h|-;split
  .rename_i hp;rw[ar hp]at h;omega
  .rename_i hp;rw[av hp]at h;exact we l _ h
abbrev pD(p:U'->Bool)(l:List U'):List U':=l.filter λf=>!p f
def He{K U:af}{v:V}(l:List U')(hl:l.length<=1000000)(hK:aa K U)(ho:aL K U 150 7 v (l.map aK)){f:FuncId}{caps:List V}(p:U'->Bool)
 (hf:∀x∈l,∀J,aa K J->au prog f (aK x::caps) J λr Z'=>r=.bool (p x)/\Z'=J):
 au prog 188 [v,.fn f caps] U λr Z'=>LN K Z' 150 7 r ((pD p l).map aK)/\aa K Z':=by
 have hr:Reads U 7 true v (l.map aK):=by
  rcases ho with⟨rfl,h0⟩|⟨id,rfl,h2,h3⟩
  .rw[h0];exact⟨rfl,λi v h=>by simp at h⟩
  .refine⟨by simp[cW],λi r hi=>⟨_,lg h2 (by have:=iT.1 hi;exact this.1),?_⟩⟩;have hx:∃x,r=aK x:=by
    have:=vM hi;simp only[gg]at this;obtain⟨n,_,rfl⟩:=this;exact⟨n,rfl⟩
   obtain⟨x,rfl⟩:=hx;simp only[bB,h2,hi,if_true];rw[ar ⟨trivial,rfl⟩];rfl
 refine Vx.r (by simp[SG]) ?_;refine ab.mix 8 ?_;apply sR;simp only[go_sem,seval,SG];refine ab.ay rfl rfl rfl (JB l hl hr p (λx hx=>hf x hx U hK)) ?_;generalize hw:fS p l 0=w;by_cases hn:w<0
 .have hw1:w=-1:=by rw[<-hw];exact we _ _ (by rw[hw];exact hn)
  have hk:pD p l=l:=tU l 0 (by rw[hw];exact hn);have q:(w=-1)=True:=Yd hw1;apply sR;simp only[go_sem,seval,q];rw[hk];exact⟨_,U,aa.refl _,Wk.refl (aa.refl _) _,ho.V3,hK⟩
 .obtain⟨u0,g0,g1,g2,g3⟩:=tS l 0 (by rw[hw];exact hn);rw[hw,gY]at g0;subst g0;have q:((u0:Int)=-1)=False:=T';have r1:Yl .i64 ((u0:Int)+1):=ai;obtain⟨i1,rfl,h2,h3⟩:∃id,v=.own id 0 (l.map aK).length/\U id=some ⟨150,7,l.map aK⟩/\K id=none:=by
   rcases ho with⟨_,h0⟩|h
   .have:l=[]:=by simpa using h0
    subst this;simp at g1
   .exact h
  rw[cL]at*;apply sR;simp only[go_sem,seval,q,r1];refine ab.loop (λm st=>∃(u j:Nat) (cur:List U'),u<j/\j<=l.length/\m=l.length-j/\cur.length=l.length/\cur.take u=pD p (l.take j)/\(∀q,j<=q->cur[q]?=l[q]?)/\aa K st.U/\st.U i1=some ⟨150,7,cur.map aK⟩/\
   st.s 0=.own i1 0 l.length/\st.s 1=.fn f caps/\st.s 5=vI u/\∃z:Int,st.s 6=vI z/\z=j) (l.length-(u0+1)) ?_ ?_
  .refine⟨u0,u0+1,l,by omega,by omega,rfl,rfl,?_,λ_ _=>rfl,hK,h2,rfl,rfl,rfl,_,rfl,by omega⟩;have hp:=g3 l[u0] (by simp[g1]);rw[Zq0 g1];have g2':pD p (l.take u0)=l.take u0:=g2;simp only[pD,List.filter_append]at g2'|-;rw[g2'];simp[hp]
  .rintro m ⟨s,J⟩ ⟨u,j,cur,huj,hjk,rfl,YZ,hct,hcr,hs,a1,h0,h1,h5,z,h6,rfl⟩;simp only at hs a1 h0 h1 h5 h6;refine ab.mix 8 ?_;have hlm:(cur.map aK).length=l.length:=by rw[cL,YZ]
   by_cases H':j<l.length
   .have q1:((j:Int)<l.length)=True:=Yd;have hjc:j<cur.length:=by omega
    have huc:u<cur.length:=by omega
    have hfj:l[j]?=some cur[j]:=by rw[<-hcr j (YQ _)];simp[hjc]
    have hmem:cur[j]∈l:=vM hfj;have htj:l.take (j+1)=l.take j++[cur[j]]:=by
     rw[Zq0 H'];congr 2;rw[Zq6 H']at hfj;simpa using hfj
    have iX:∀(J:af) (rows:List V) (k n:Nat),J i1=some ⟨150,7,rows⟩->rows.length=l.length->n=l.length->k<l.length->bo J 7 (.own i1 0 n) (.int .i64 k)=some (.ptr i1 k 0):=λJ rows k n h e hn hk=>by subst hn;rw[<-e];exact lg h (by omega)
    have e1:=iX _ _ j _ a1 hlm rfl H';have v1:(cur.map aK)[j]?=some (aK cur[j]):=by simp[hjc]
    have vu:(cur.map aK)[u]?=some (aK cur[u]):=by simp[huc]
    have hset:(cur.set u cur[j]).map aK=(cur.map aK).set u (aK cur[j]):=List.map_set;have hfc:=hf cur[j] hmem;have hfc7:∀f:U',(aK f).cells=[vI f.node,vI f.side,vI f.anchor,vI f.x,vI f.y,vI f.w,vI f.h]:=λ_=>rfl;have hsu:(cur.set u cur[j]).take (u+1)=cur.take u++[cur[j]]:=by
     rw[Zq0 (by simpa using huc),List.take_set,List.set_eq_of_length_le (by simp;omega)];simp
    have r2:Yl .i64 ((u:Int)+1):=ai;have r3:Yl .i64 ((j:Int)+1):=ai;generalize cur[j]=x at*;generalize cur[u]=y at*;apply sR;simp only[go_sem,seval,h0,h6,q1,a1,e1,v1,hfc7];refine ad λi7 Z7 s7 a7 f7=>?_;have n17:=ao a1 f7;replace a1:=s7 _ _ a1;have z7:=hs.none f7;replace hs:=hs.trans s7;simp only[go_sem,seval,a7,h1];generalize hq7:C' _ i7 _=Y7;replace a7:=(congrFun hq7 i7).symm.trans ag;replace a1:=((congrFun hq7 i1).symm.trans (ae n17)).trans a1;replace hs:=Eq.subst (motive:=aa _) hq7 (hs.ax z7);clear hq7;refine ab.ay rfl rfl rfl (hfc _ hs) ?_;have e2:=iX _ _ u _ a1 hlm rfl (by omega);cases hp:p x
    .apply sR;simp only[go_sem,seval,h0,h1,h5,h6,a7,a1,e2,vu,hfc7,r2,r3];refine⟨_,?_,u+1,j+1,cur.set u x,by omega,by omega,rfl,by simpa using YZ,?_,λq hq=>?_,hs.ax h3,?_,by simp,_,rfl,by omega⟩
     .omega
     .rw[hsu,htj,hct];simp[pD,List.filter_append,hp]
     .rw[List.getElem?_set_ne (by omega)];exact hcr q (by omega)
     .rw[hset];rfl
    .apply sR;simp only[go_sem,seval,h0,h1,h5,h6,r3];refine⟨_,?_,u,j+1,cur,by omega,by omega,rfl,YZ,?_,λq hq=>hcr q (by omega),hs,a1,by simp,_,rfl,by omega⟩
     .omega
     .rw[htj,hct];simp[pD,List.filter_append,hp]
   .have q1:((j:Int)<l.length)=False:=T';have hjk':j=l.length:=by omega
    subst hjk';rw[hU]at hct;have b3:(0:Int)<=u:=by omega
    have b4:(u:Int)<=l.length:=by omega
    apply sR;simp only[go_sem,seval,h0,h5,h6,q1,a1,b3,b4,Int.le_refl,eX];refine ab.clear (id:=i1) (off:=u) (len:=l.length-u) (ob:=⟨150,7,cur.map aK⟩) rfl rfl rfl a1 rfl (by simp;omega) ?_;apply sR;simp only[go_sem,seval,h0,h5,b3,b4,Int.le_refl,eX,Nat.sub_zero];have hlu:((pD p l).map aK).length=u:=by rw[cL,<-hct,fY];omega
    refine⟨_,_,aa.refl _,Wk.refl (aa.refl _) _,.inr ⟨i1,_,by rw[hlu],ag,?_,h3⟩,hs.ax h3⟩;rw[hlu,lz,MN (by simp;omega),List.take_take,Nat.min_self,<-List.map_take,hct]
open Go.Proofs Go.Proofs.Tryz
def wF(l:List U')(fr to:Int):List U':=pD (rD fr to) l
def oO(l:List U')(fr to:Int):(wF l fr to).length<=l.length:=List.length_filter_le _ _
def Lx(l:List U')(hl:l.length<=1000000)(fr to:Int):aJ prog 322 [aG l,vI fr,vI to] (aG (wF l fr to)):=λU=>by
 refine XB.r (by simp[QQ]) ?_;have hs:=aa.refl U;refine ab.mix 7 ?_;apply sR;simp only[go_sem,seval,QQ];refine ad λi4 Z4 s4 a4 f4=>?_;replace hs:=hs.trans s4;simp only[go_sem,seval];refine ad λi5 Z5 s5 a5 f5=>?_;replace a4:=s5 _ _ a4;replace hs:=hs.trans s5;simp only[go_sem,seval];refine ab.call rfl rfl rfl (vg func62 (e62.b.trans rfl) e62.c (l.map aK) (by simp;omega) _) ?_;rintro r Z9 ⟨h9,ho9⟩;apply sR;simp only[go_sem,seval];refine ab.call rfl rfl rfl (He l hl h9 ho9 (rD fr to) (λx _ J hτ=>Rc fr to x (hτ _ _ a4) (hτ _ _ a5))) ?_;rintro r2 Z10 ⟨hp,h10⟩;apply sR;simp only[go_sem,seval];exact⟨_,U,hs.trans h10,hp.wk hs (hs.trans h10),rfl,rfl⟩
def eC(l:List U')(s:Zf)(to:Int):List U':=wF l (if s.done>0 then s.atom+1 else s.atom) to
def IL(l:List U')(hl:l.length<=1000000)(s:Zf)(ha:Yl .i64 (s.atom+1))(to:Int):aJ prog 294 [aG l,aV s,vI to] (aG (eC l s to)):=λU=>by
 refine XQ.r (by simp[P6]) ?_;have hs:=aa.refl U;have hsc:(aV s).cells=[vI s.atom,vI s.done,.bool s.free]:=rfl;have hss:(aV s).stays=true:=rfl;refine ab.mix 7 ?_;apply sR;simp only[go_sem,seval,P6,hsc,hss];refine ad λi4 Z4 s4 a4 f4=>?_;have z4:=hs.none f4;replace hs:=hs.trans s4;rw[aV]at a4;by_cases hd:s.done>0
 .have q:(s.done>0)=True:=Yd hd;simp only[go_sem,seval,a4,q,ha];refine ab.ay rfl rfl rfl (Lx l hl _ _ _) ?_;apply sR;simp only[go_sem,seval];exact ak.pure hs (by rw[eC,ar hd])
 .have q:(s.done>0)=False:=T' hd;simp only[go_sem,seval,a4,q];refine ab.ay rfl rfl rfl (Lx l hl _ _ _) ?_;apply sR;simp only[go_sem,seval];exact ak.pure hs (by rw[eC,av hd])
open Go.Proofs Go.Proofs.Tryz
def dD(v u:V):Prop:=∀a n b m,v=.own a 0 n->u=.own b 0 m->a≠b
def dD.symm{v u:V}(h:dD v u):dD u v:=λa n b m h1 h2 e=>h b m a n h2 h1 e.symm
def dD.aC(u:V):dD .aC u:=λ_ _ _ _ h _=>by cases h
def aL.QV{K ZJ Z1:af}{e sz:Nat}{v:V}{rows:List V}(h:aL K ZJ e sz v rows)(hs:aa ZJ Z1):
 ∃Yn,bN Z1 e sz v=some (rows,Yn)/\∀i,Yn=some i->K i=none/\(∃o,ZJ i=some o)/\v=.own i 0 rows.length:=by
 rcases h with⟨rfl,rfl⟩|⟨id,rfl,ho,hk⟩
 .exact⟨none,rfl,λ_ h=>by cases h⟩
 .refine⟨some id,?_,λi h=>by cases h;exact⟨hk,⟨_,ho⟩,rfl⟩⟩;simp only[bN,hs _ _ ho];rw[ar ⟨trivial,trivial,trivial,YQ _⟩,hU]
def aL.XO{K U:af}{e sz:Nat}{v:V}{rows:List V}(h:aL K U e sz v rows){Yn:Option Nat}(h1:∀i,Yn=some i->∀n,v≠.own i 0 n){id:Nat}{o:Ob}(h2:U id=none):aL K (C' (Vc.bt U Yn) id o) e sz v rows:=by
 rcases h with h|⟨a,rfl,ho,hk⟩
 .exact .inl h
 .refine .inr ⟨a,rfl,?_,hk⟩;have hai:a≠id:=λe=>by subst e;rw[ho]at h2;cases h2
  rw[Vc.ae hai];cases Yn with
  |none=>exact ho
  |some i=>
   have:a≠i:=λe=>h1 i rfl _ (by rw[e]);simp only[Vc.bt];rw[bR this];exact ho
def dD.new{U K:af}{e sz id n:Nat}{u:V}{rows:List V}(hu:aL K U e sz u rows)(h:U id=none):dD (.own id 0 n) u:=by
 rintro a k b m h1 rfl e;cases h1;subst e;rcases hu with⟨h,_⟩|⟨i,h,h2,_⟩
 .cases h
 .cases h;rw[h]at h2;cases h2
structure SoJ(Z0:af)(ix:Nat)(p q:List U')(U:af):Prop where
 row:∃v u,U ix=some ⟨371,2,[.agg [v,u]]⟩/\aL (aU Z0 ix) U 150 7 v (p.map aK)/\aL (aU Z0 ix) U 150 7 u (q.map aK)/\dD v u
 sub:aa Z0 U
 no:Z0 ix=none
def JQ{Z0 ZJ ZB Z8:af}{ix e sz:Nat}{v u:V}{rows rowsU:List V}(hBs:aT ZJ ZB ZJ Z8)(Js:aa Z0 ZJ)(Jn:Z0 ix=none){ox:Ob}(Jx:ZJ ix=some ox)
 (Jv:aL (aU Z0 ix) ZJ e sz v rows)(Ju:aL (aU Z0 ix) ZJ e sz u rowsU)(hap:dD v u):
 ∃Yn,bN Z8 e sz v=some (rows,Yn)/\∀(id:Nat) (X6:List V) (o':Ob),Z8 id=none->
  ix≠id/\Vc.bt Z8 Yn ix=some ox/\aa Z0 (C' (C' (Vc.bt ZJ Yn) id ⟨e,sz,X6⟩) ix o')/\aT ZJ ZB (C' (C' (Vc.bt ZJ Yn) id ⟨e,sz,X6⟩) ix o') (C' (C' (Vc.bt Z8 Yn) id ⟨e,sz,X6⟩) ix o')/\
  aL (aU Z0 ix) (C' (C' (Vc.bt ZJ Yn) id ⟨e,sz,X6⟩) ix o') e sz (.own id 0 X6.length) X6/\aL (aU Z0 ix) (C' (C' (Vc.bt ZJ Yn) id ⟨e,sz,X6⟩) ix o') e sz u rowsU/\dD (.own id 0 X6.length) u:=by
 obtain⟨Yn,ZV,hdA⟩:=Jv.QV hBs.1;refine⟨Yn,ZV,λid X6 o' f=>?_⟩;have k2:aU Z0 ix ix≠none:=λh=>(aF.1 h).1 rfl;have dne:∀(i:Nat) (Zx:af),aU Z0 ix i≠none->Vc.bt Zx Yn i=Zx i:=λi Zx hk=>by
  cases Yn with
  |none=>rfl
  |some a=>exact bR (λe=>hk (by rw[e];exact(hdA a rfl).1))
 have c8:=hBs.1 _ _ Jx;have m:ix≠id:=ao c8 f;have fJ:ZJ id=none:=by
  cases h:ZJ id with
  |none=>rfl
  |some o=>rw[hBs.1 _ _ h]at f;cases f
 have f':Vc.bt Z8 Yn id=none:=by
  cases Yn with
  |none=>exact f
  |some a=>simp only[Vc.bt,del];split<;>first|rfl|exact f
 have hk:aU Z0 ix id=none:=by
  rw[aF];refine⟨m.symm,?_⟩;cases h:Z0 id with
  |none=>rfl
  |some o=>rw[Js _ _ h]at fJ;cases fJ
 refine⟨m,by rw[dne _ _ k2];exact c8,?_,((hBs.Hv (e:=Yn) λi h=>(hdA i h).2.1).new f').set (id:=ix) (o:=ox) (by rw[ae m,dne _ _ k2];exact Jx),?_,?_,dD.new Ju fJ⟩
 .refine aa.ax (λi o h=>?_) Jn;have h1:=Js _ _ h;rw[ae (λe=>by subst e;rw[h1]at fJ;cases fJ),dne _ _ (λhk=>by rw[(aF.1 hk).2]at h;cases h)];exact h1
 .exact aL.new rfl (by rw[ae m.symm,ag]) hk
 .exact(Ju.XO (λi h n e=>hap _ _ _ _ (hdA i h).2.2 e rfl) fJ).ae k2
def pI(q:List U')(m:U')(body:Int):Bool:=decide (q≠[]\/m.y+m.h>body)
def Nq(p q:List U')(hp:p.length<=1000000)(hq:q.length<=1000000)(f m:U')(body:Int)(hr:Yl .i64 (m.y+m.h)){Z0 ZJ ZB:af}{ix:Nat}(hJ:SoJ Z0 ix p q ZJ)(G':aa ZJ ZB):
 au prog 295 [.ptr ix 0 0,aK f,aK m,vI body] ZB λ_ Z'=>∃Yr,aT ZJ ZB Yr Z'/\SoJ Z0 ix (if pI q m body then p else p++[m]) (if pI q m body then q++[f]else q) Yr:=by
 refine Xk.r (by simp[O4]) ?_;obtain⟨⟨v,u,Jx,Jv,Ju,hap⟩,Js,Jn⟩:=hJ;obtain⟨vc,vs⟩:=Jv.vc;obtain⟨uc,us⟩:=Ju.vc;have hfc:∀f:U',(aK f).cells=[vI f.node,vI f.side,vI f.anchor,vI f.x,vI f.y,vI f.w,vI f.h]:=λ_=>rfl;have hfs:∀f:U',(aK f).stays=true:=λ_=>rfl;refine ab.mix 5 ?_;apply sR;simp only[go_sem,seval,O4,hfc,hfs];rw[bG];intro i5 f5;have hB5:=(aT.refl G').rU (o:=⟨150,7,[aK f]⟩) f5;have a5:C' ZB i5 ⟨150,7,[aK f]⟩ i5=some ⟨150,7,[aK f]⟩:=ag;generalize ZN:C' ZB i5 ⟨150,7,[aK f]⟩=Z5 at*;simp only[go_sem,seval,hfc,hfs];rw[bG];intro i6 f6;have hB6:=hB5.rU (o:=⟨150,7,[aK m]⟩) f6;have a6:C' Z5 i6 ⟨150,7,[aK m]⟩ i6=some ⟨150,7,[aK m]⟩:=ag;replace a5:=(ae (o:=⟨150,7,[aK m]⟩) (ao a5 f6)).trans a5;generalize hq6:C' Z5 i6 ⟨150,7,[aK m]⟩=Z6 at*;have cx:=hB6.1 _ _ Jx;have hlq:cW false u=some (.int .i64 q.length):=by have:=Ju.len;rwa [cL]at this
 have hrq:((q++[f]).map aK)=q.map aK++[aK f]:=by simp
 have hrp:((p++[m]).map aK)=p.map aK++[aK m]:=by simp
 have hql:(q.map aK).length<=1000000:=by simpa using hq
 have hpl:(p.map aK).length<=1000000:=by simpa using hp
 have hql0:(q.map aK).length=q.length:=cL _;rw[aK]at a5 a6;by_cases hl:pI q m body=true
 .rw[ar hl,ar hl];by_cases hq0:q=[]
  .have q13:((q.length:Int)>0)=False:=by subst hq0;simp
   have qy:(m.y+m.h>body)=True:=by
    simp only[pI,hq0,Zq9]at hl;exact Yd (hl.resolve_left (by simp))
   simp only[go_sem,seval,cx,hlq,q13,qy,hr,a5,a6];rw[fc];intro i29 f29;have hB7:=hB6.rU (o:=⟨150,7,[(V.agg [vI f.node,vI f.side,vI f.anchor,vI f.x,vI f.y,vI f.w,vI f.h])]⟩) f29;have a29:C' Z6 i29 ⟨150,7,[(V.agg [vI f.node,vI f.side,vI f.anchor,vI f.x,vI f.y,vI f.w,vI f.h])]⟩ i29=some ⟨150,7,[(V.agg [vI f.node,vI f.side,vI f.anchor,vI f.x,vI f.y,vI f.w,vI f.h])]⟩:=ag;generalize hq7:C' Z6 i29 ⟨150,7,[(V.agg [vI f.node,vI f.side,vI f.anchor,vI f.x,vI f.y,vI f.w,vI f.h])]⟩=Z7 at*;obtain⟨Yn,ZV,hgr⟩:=JQ hB7 Js Jn Jx Ju Jv hap.symm;generalize q.map aK=rows at*;have Zl:(rows.length+1)*57<=140737488355328:=by omega
   simp only[go_sem,seval,ZV,cT a29,Zl];rw[fc];intro i30 f30;obtain⟨m30,hx,g1,g2,g3,g4,g5⟩:=hgr i30 (rows++[(V.agg [vI f.node,vI f.side,vI f.anchor,vI f.x,vI f.y,vI f.w,vI f.h])]) ⟨371,2,[.agg [v,.own i30 0 (rows++[(V.agg [vI f.node,vI f.side,vI f.anchor,vI f.x,vI f.y,vI f.w,vI f.h])]).length]]⟩ f30;have y2:C' (Vc.bt Z7 Yn) i30 ⟨150,7,rows++[(V.agg [vI f.node,vI f.side,vI f.anchor,vI f.x,vI f.y,vI f.w,vI f.h])]⟩ ix=_:=(ae m30).trans hx;have hll:(rows++[(V.agg [vI f.node,vI f.side,vI f.anchor,vI f.x,vI f.y,vI f.w,vI f.h])]).length=rows.length+1:=by simp
   rw[hll]at g1 g2 g3 g4 g5;simp only[go_sem,seval,y2];refine⟨_,_,aa.refl _,Wk.refl (aa.refl _) _,_,g2,⟨v,_,ag,g4,?_,g5.symm⟩,g1,Jn⟩;rw[hrq];exact g3
  .have q13:((q.length:Int)>0)=True:=Yd (by have:=wH.2 hq0;omega);simp only[go_sem,seval,cx,hlq,q13,a5];rw[fc];intro i29 f29;have hB7:=hB6.rU (o:=⟨150,7,[(V.agg [vI f.node,vI f.side,vI f.anchor,vI f.x,vI f.y,vI f.w,vI f.h])]⟩) f29;have a29:C' Z6 i29 ⟨150,7,[(V.agg [vI f.node,vI f.side,vI f.anchor,vI f.x,vI f.y,vI f.w,vI f.h])]⟩ i29=some ⟨150,7,[(V.agg [vI f.node,vI f.side,vI f.anchor,vI f.x,vI f.y,vI f.w,vI f.h])]⟩:=ag;generalize hq7:C' Z6 i29 ⟨150,7,[(V.agg [vI f.node,vI f.side,vI f.anchor,vI f.x,vI f.y,vI f.w,vI f.h])]⟩=Z7 at*;obtain⟨Yn,ZV,hgr⟩:=JQ hB7 Js Jn Jx Ju Jv hap.symm;generalize q.map aK=rows at*;have Zl:(rows.length+1)*57<=140737488355328:=by omega
   simp only[go_sem,seval,ZV,cT a29,Zl];rw[fc];intro i30 f30;obtain⟨m30,hx,g1,g2,g3,g4,g5⟩:=hgr i30 (rows++[(V.agg [vI f.node,vI f.side,vI f.anchor,vI f.x,vI f.y,vI f.w,vI f.h])]) ⟨371,2,[.agg [v,.own i30 0 (rows++[(V.agg [vI f.node,vI f.side,vI f.anchor,vI f.x,vI f.y,vI f.w,vI f.h])]).length]]⟩ f30;have y2:C' (Vc.bt Z7 Yn) i30 ⟨150,7,rows++[(V.agg [vI f.node,vI f.side,vI f.anchor,vI f.x,vI f.y,vI f.w,vI f.h])]⟩ ix=_:=(ae m30).trans hx;have hll:(rows++[(V.agg [vI f.node,vI f.side,vI f.anchor,vI f.x,vI f.y,vI f.w,vI f.h])]).length=rows.length+1:=by simp
   rw[hll]at g1 g2 g3 g4 g5;simp only[go_sem,seval,y2];refine⟨_,_,aa.refl _,Wk.refl (aa.refl _) _,_,g2,⟨v,_,ag,g4,?_,g5.symm⟩,g1,Jn⟩;rw[hrq];exact g3
 .rw[av hl,av hl];simp only[pI,Zq9,not_or,Decidable.not_not]at hl;have q13:((q.length:Int)>0)=False:=by rw[hl.1];simp
  have qy:(m.y+m.h>body)=False:=T' hl.2;simp only[go_sem,seval,cx,hlq,q13,qy,hr,a6];rw[fc];intro i29 f29;have hB7:=hB6.rU (o:=⟨150,7,[(V.agg [vI m.node,vI m.side,vI m.anchor,vI m.x,vI m.y,vI m.w,vI m.h])]⟩) f29;have a29:C' Z6 i29 ⟨150,7,[(V.agg [vI m.node,vI m.side,vI m.anchor,vI m.x,vI m.y,vI m.w,vI m.h])]⟩ i29=some ⟨150,7,[(V.agg [vI m.node,vI m.side,vI m.anchor,vI m.x,vI m.y,vI m.w,vI m.h])]⟩:=ag;generalize hq7:C' Z6 i29 ⟨150,7,[(V.agg [vI m.node,vI m.side,vI m.anchor,vI m.x,vI m.y,vI m.w,vI m.h])]⟩=Z7 at*;obtain⟨Yn,ZV,hgr⟩:=JQ hB7 Js Jn Jx Jv Ju hap;generalize p.map aK=rows at*;have Zl:(rows.length+1)*57<=140737488355328:=by omega
  simp only[go_sem,seval,ZV,cT a29,Zl];rw[fc];intro i30 f30;obtain⟨m30,hx,g1,g2,g3,g4,g5⟩:=hgr i30 (rows++[(V.agg [vI m.node,vI m.side,vI m.anchor,vI m.x,vI m.y,vI m.w,vI m.h])]) ⟨371,2,[.agg [.own i30 0 (rows++[(V.agg [vI m.node,vI m.side,vI m.anchor,vI m.x,vI m.y,vI m.w,vI m.h])]).length,u]]⟩ f30;have y2:C' (Vc.bt Z7 Yn) i30 ⟨150,7,rows++[(V.agg [vI m.node,vI m.side,vI m.anchor,vI m.x,vI m.y,vI m.w,vI m.h])]⟩ ix=_:=(ae m30).trans hx;have hll:(rows++[(V.agg [vI m.node,vI m.side,vI m.anchor,vI m.x,vI m.y,vI m.w,vI m.h])]).length=rows.length+1:=by simp
  rw[hll]at g1 g2 g3 g4 g5;simp only[go_sem,seval,y2];refine⟨_,_,aa.refl _,Wk.refl (aa.refl _) _,_,g2,⟨_,u,ag,?_,g4,g5⟩,g1,Jn⟩;rw[hrp];exact g3
open Go.Proofs Go.Proofs.Tryz
def aT.from{ZJ U J Yr Z':af}(h:aT ZJ J Yr Z')(hs:aa U J):aT ZJ U Yr Z':=⟨h.1,λi o h1 h2=>h.2 i o h1 (hs _ _ h2)⟩
def ng(body:Int)(x:List U'×List U')(f m:U'):List U'×List U':=(if pI x.2 m body then x.1 else x.1++[m],if pI x.2 m body then x.2++[f]else x.2)
def dZ(top shift:Int)(f:U'):U':={ f with y:=max 0 (f.y-top)+shift }
def jN(top shift body:Int)(L:List U'):List U'×List U':=L.foldl (λx f=>ng body x f (dZ top shift f)) ([],[])
def EE(top shift body:Int)(L:List U')(f:U'):jN top shift body (L++[f])=ng body (jN top shift body L) f (dZ top shift f):=by
 unfold jN;rw[wG];rfl
def pn(top shift body:Int)(L:List U'):(jN top shift body L).1.length+(jN top shift body L).2.length=L.length:=by
 have key:∀(L:List U') (x:List U'×List U'),(L.foldl (λx f=>ng body x f (dZ top shift f)) x).1.length+(L.foldl (λx f=>ng body x f (dZ top shift f)) x).2.length=x.1.length+x.2.length+L.length:=by
  intro L
  induction L with
  |nil=>intro x;rfl
  |cons f L ih=>
   intro x;rw[j5,ih];unfold ng;split<;>simp<;>omega
 have:=key L ([],[]);simpa[jN]using this
def uB(l:List Zj)(s:Zf)(kept:Int):Int:=(atG l s.atom).y+s.done-kept
def dO(l:List Zj)(fl:List U')(s:Zf)(to kept shift body:Int):List U'×List U':=if dG l s then jN (uB l s kept) shift body (eC fl s to)else([],[])
def JF(x:Int):(if x>0 then x else 0)=max 0 x:=by split<;>omega
def Lt(l:List Zj)(hl:nu l)(fl:List U')(hfl:fl.length<=1000000)(hfo:∀f∈fl,f.ok)(s:Zf)(hd:s.done<=1152921504606846976)(to kept shift body:Int)(hk:-1152921504606846976<=kept/\kept<=2305843009213693952)(hsh:0<=shift/\shift<=1152921504606846976):
 aJ prog 242 [br l,aG fl,aV s,vI to,vI kept,vI shift,vI body] (.P' [aG (dO l fl s to kept shift body).1,aG (dO l fl s to kept shift body).2]):=λU=>by
 refine Ve.r (by simp[PV]) ?_;have hs:=aa.refl U;have hll:=hl.len;have hsc:(aV s).cells=[vI s.atom,vI s.done,.bool s.free]:=rfl;have hss:(aV s).stays=true:=rfl;refine ab.mix 20 ?_;apply sR;simp only[go_sem,seval,PV,hsc,hss];refine ad λi9 Z9 s9 a9 f9=>?_;replace hs:=hs.trans s9;simp only[go_sem,seval];refine ad λi12 Z12 s12 a12 f12=>?_;replace a9:=s12 _ _ a9;replace hs:=hs.trans s12;simp only[go_sem,seval];refine ad λi13 Y13 s13 a13 f13=>?_;replace a9:=s13 _ _ a9;have n1213:=ao a12 f13;replace a12:=s13 _ _ a12;have z13:=hs.none f13;replace hs:=hs.trans s13;rw[aV]at a9;simp only[go_sem,seval,a9];refine ab.ay rfl rfl rfl (sF l s _) ?_;unfold dO;by_cases hm:dG l s
 .rw[ZG hm,ar hm];obtain⟨h0,h2⟩:=hm.1;obtain⟨k,hkk⟩:∃k:Nat,s.atom=k:=⟨s.atom.toNat,by omega⟩
  have hkl:k<l.length:=by omega
  have X2:=λU=>jg (U:=U) hkl;have hy:=hl.rng _ (Zr hkl);have hd0:=hm.2.1;have htop:uB l s kept=l[k].y+s.done-kept:=by rw[uB,hkk,aZ hkl]
  have r1:Yl .i64 (l[k].y+s.done):=ai;have r2:Yl .i64 (l[k].y+s.done-kept):=ai;have htr:-4611686018427387904<=uB l s kept/\uB l s kept<=4611686018427387904:=by rw[htop];omega
  have YZ:=oO fl (if s.done>0 then s.atom+1 else s.atom) to;have hcm:∀f∈eC fl s to,f.ok:=λf hf=>hfo f ((rR.1 hf).1);have hca:=IL fl hfl s (ai) to;have hcl':(eC fl s to).length<=1000000:=jI YZ hfl;generalize eC fl s to=L at*;rw[hkk]at a9;apply sR;simp only[go_sem,seval,hkk];refine ad λi16 Z16 s16 a16 f16=>?_;have n916:=ao a9 f16;replace a9:=s16 _ _ a9;have n1216:=ao a12 f16;replace a12:=s16 _ _ a12;have n1316:=ao a13 f16;replace a13:=s16 _ _ a13;have z16:=hs.none f16;replace hs:=hs.trans s16;simp only[go_sem,seval,a9,X2,dh,r1,r2];refine aW λi17 Y17 s17 a17 f17=>?_;have n917:=ao a9 f17;replace a9:=s17 _ _ a9;have n1217:=ao a12 f17;replace a12:=s17 _ _ a12;have n1317:=ao a13 f17;replace a13:=s17 _ _ a13;have n1617:=ao a16 f17;replace a16:=s17 _ _ a16;have z17:=hs.none f17;replace hs:=hs.trans s17;simp only[go_sem,seval,a17,a9,ae n917];generalize hq17:C' _ i17 _=Z17;replace a17:=(congrFun hq17 i17).symm.trans ag;replace a9:=((congrFun hq17 i9).symm.trans (ae n917)).trans a9;replace a12:=((congrFun hq17 i12).symm.trans (ae n1217)).trans a12;replace a13:=((congrFun hq17 i13).symm.trans (ae n1317)).trans a13;replace a16:=((congrFun hq17 i16).symm.trans (ae n1617)).trans a16;replace hs:=Eq.subst (motive:=aa _) hq17 (hs.ax z17);clear hq17;rw[aV,hkk]at hca;refine ab.ay rfl rfl rfl (hca _) ?_;apply sR;simp only[go_sem,seval];refine ab.ay rfl rfl rfl (Sv L _) ?_;apply sR;simp only[go_sem,seval];rw[<-htop]at a17;generalize uB l s kept=top at*;generalize hS:mix 20 _ _=S;have S12:S 12=.ptr i12 0 0:=by rw[<-hS];rfl
  have S13:S 13=.ptr i13 0 0:=by rw[<-hS];rfl
  have S16:S 16=.ptr i16 0 0:=by rw[<-hS];rfl
  have S17:S 17=.ptr i17 0 0:=by rw[<-hS];rfl
  have S39:S 39=.fn 321 [.rp (aG L)]:=by rw[<-hS];rfl
  clear hS;obtain⟨Z0,hY0⟩:∃Z0,Z0=del Z17 i16:=⟨_,rfl⟩
  have d0:∀i,i≠i16->Z0 i=Z17 i:=λi hi=>by rw[hY0];exact bR hi
  have b12:Z0 i12=_:=(d0 _ n1216).trans a12;have b13:Z0 i13=_:=(d0 _ n1316).trans a13;have b17:Z0 i17=_:=(d0 _ n1617.symm).trans a17;have b16:Z0 i16=none:=by rw[hY0];simp[del]
  have YL:aa U Z0:=λi o h=>by
   rw[d0 i (λe=>by rw[e,z16]at h;cases h)];exact hs _ _ h
  have h16:SoJ Z0 i16 [] [] Z17:=⟨⟨.aC,.aC,a16,aL.start,aL.start,dD.aC _⟩,hY0▸aa.qk _ _,b16⟩
  refine ab.cA (g:=.t 39) (caps:=[.rp (aG L)]) S39 (Ht L hcl') (λy hy=>?_) [] (λpre ZJ=>SoJ Z0 i16 (jN top shift body (L.take pre.length)).1 (jN top shift body (L.take pre.length)).2 ZJ)
   (λ_ _ _=>False) ?_ ?_ ?_ ?_ ?_
  .obtain⟨t,_,rfl⟩:=gg.1 hy;rfl
  .exact h16
  .rintro pre y post ZJ ZB hxs hJ G';obtain⟨f,hf,rfl⟩:=qX hxs;obtain⟨H',hfe⟩:=iT.1 hf;have hlen:(pre++[[aK f]]).length=pre.length+1:=by simp
   have Zb:L.take (pre.length+1)=L.take pre.length++[f]:=by rw[Zq0 H',hfe]
   have hkl:=pn top shift body (L.take pre.length);have hpl:(L.take pre.length).length<=1000000:=by rw[fY];omega
   rw[hlen,Zb,EE];generalize jN top shift body (L.take pre.length)=x at*;have hfo':=hcm f (vM hf);have a12:=G' _ _ (hJ.sub _ _ b12);have a13:=G' _ _ (hJ.sub _ _ b13);have a17:=G' _ _ (hJ.sub _ _ b17);obtain⟨o1,o2,o3,o4⟩:=hfo';unfold Bq at o1 o2 o3 o4;have q1:Yl .i64 (f.y-top):=ai;have q2:Yl .i64 (max 0 (f.y-top)+shift):=ai;generalize hSS:kW S [40] [aK f]=S0;have T12:S0 12=.ptr i12 0 0:=by rw[<-hSS];exact S12
   have T13:S0 13=.ptr i13 0 0:=by rw[<-hSS];exact S13
   have T16:S0 16=.ptr i16 0 0:=by rw[<-hSS];exact S16
   have T17:S0 17=.ptr i17 0 0:=by rw[<-hSS];exact S17
   have T40:S0 40=.agg [vI f.node,vI f.side,vI f.anchor,vI f.x,vI f.y,vI f.w,vI f.h]:=by rw[<-hSS];rfl
   clear hSS;have hs:=aa.refl ZB;refine ab.mix 20 ?_;apply sR;simp only[go_sem,seval];refine ad λi18 Z18 s18 a18 f18=>?_;have n1218:=ao a12 f18;replace a12:=s18 _ _ a12;have n1318:=ao a13 f18;replace a13:=s18 _ _ a13;have n1718:=ao a17 f18;replace a17:=s18 _ _ a17;have z18:=hs.none f18;replace hs:=hs.trans s18;simp only[go_sem,seval,a18,T40];generalize hq18:C' _ i18 _=Y18;replace a18:=(congrFun hq18 i18).symm.trans ag;replace a12:=((congrFun hq18 i12).symm.trans (ae n1218)).trans a12;replace a13:=((congrFun hq18 i13).symm.trans (ae n1318)).trans a13;replace a17:=((congrFun hq18 i17).symm.trans (ae n1718)).trans a17;replace hs:=Eq.subst (motive:=aa _) hq18 (hs.ax z18);clear hq18;apply sR;simp only[go_sem,seval,a18];refine ad λi19 Z19 s19 a19 f19=>?_;have n1819:=ao a18 f19;replace a18:=s19 _ _ a18;have n1219:=ao a12 f19;replace a12:=s19 _ _ a12;have n1319:=ao a13 f19;replace a13:=s19 _ _ a13;have n1719:=ao a17 f19;replace a17:=s19 _ _ a17;have z19:=hs.none f19;replace hs:=hs.trans s19;simp only[go_sem,seval,a19,a18,a17,a12,a13,T12,T13,T17,ae n1819,ae n1719,ae n1219,ae n1319,q1,q2,JF];generalize hq19:C' _ i19 _=Y19;replace a19:=(congrFun hq19 i19).symm.trans ag;replace a18:=((congrFun hq19 i18).symm.trans (ae n1819)).trans a18;replace a12:=((congrFun hq19 i12).symm.trans (ae n1219)).trans a12;replace a13:=((congrFun hq19 i13).symm.trans (ae n1319)).trans a13;replace a17:=((congrFun hq19 i17).symm.trans (ae n1719)).trans a17;replace hs:=Eq.subst (motive:=aa _) hq19 (hs.ax z19);clear hq19;have hc:=Nq x.1 x.2 (by omega) (by omega) f (dZ top shift f) body (ai (by simp only[dZ];omega) (by simp only[dZ];omega)) hJ (G'.trans hs);rw[<-T16]at hc;refine ab.call rfl rfl rfl hc ?_;rintro-Z2 ⟨Yr,hB,hJ'⟩;apply sR;simp only[go_sem,seval];exact⟨_,hB.from hs,hJ'⟩
  .rintro Z' hJ;have ZE:(L.map λf=>[aK f]).length=L.length:=by simp
   rw[ZE,hU]at hJ;obtain⟨⟨v,u,Jx,Jv,Ju,_⟩,Js,Jn⟩:=hJ;obtain⟨vc,vs⟩:=Jv.vc;obtain⟨uc,us⟩:=Ju.vc;refine ab.mix 20 ?_;apply sR;simp only[go_sem,seval,S16,Jx];have Ys:=YL.trans Js;have hK:aa U (aU Z0 i16):=λi o hh=>by
    rw[aU,av (λe=>by rw[e,z16]at hh;cases hh)];exact YL _ _ hh
   exact⟨_,U,Ys,Wk.P' (vs':=[aG (jN top shift body L).1,aG (jN top shift body L).2]) ⟨Jv.wk hK Ys,Ju.wk hK Ys,trivial⟩,rfl,rfl⟩
  .intro id h;cases h
  .rintro pre Z' _ ⟨⟩
 .rw[Zu hm,av hm];apply sR;simp only[go_sem,seval];exact⟨_,U,hs,Wk.P' (vs':=[aG [],aG []]) ⟨Wk.aC 7,Wk.aC 7,trivial⟩,rfl,rfl⟩
variable {P:Program} {n:Nat} {st:St} {Q:St->Prop} {k:List It} {I:Mu} {w:World}
def M1{o:Op}{sz:Nat}{xs:List VX}(h:Yh P n o=.more (.cpy sz) xs):∃x y t e args argTypes,o=.call { callee:=.builtin .copy,args:=args,argTypes:=argTypes }/\
 args=#[x,y]/\argTypes[0]?=some t/\P.underlying t=some (.slice e)/\bL P e=true/\P.cellsOf e=sz/\xs=[cx n x,cx n y]:=by
 cases o
 case call c=>
  obtain⟨callee,args,argTypes⟩:=c;cases callee
  case builtin b=>
   cases b
   case copy=>
    simp only[Yh]at h;split at h
    .rename_i x y t h1 h2;split at h
     .rename_i e he;split at h
      .rename_i hz;simp only[Yq.more.injEq,MOp.cpy.injEq]at h;exact⟨x,y,t,e,args,argTypes,rfl,by apply Array.ext';simpa using h1,h2,he,hz,h.1,h.2.symm⟩
      .cases h
     .cases h
    .cases h
   all_goals (simp only[Yh]at h;(repeat' split at h)<;>cases h)
  all_goals (simp only[Yh]at h;(repeat' split at h)<;>cases h)
 case unOp op t x=>cases op<;>simp only[Yh]at h<;>cases h
 case makeFunc f a b=>cases f<;>simp only[Yh]at h<;>(repeat' split at h)<;>cases h
 all_goals (simp only[Yh,jk]at h;(repeat' split at h)<;>cases h)
def Hf{F:Fr}{a:Act}(hs:cI F I st a w){o:Oper}{x y:Operand}{t e:TypeId}{args:Array Operand}{argTypes:Array TypeId}
 (hoo:o.op=.call { callee:=.builtin .copy,args:=args,argTypes:=argTypes })(harg:args=#[x,y])(hty:argTypes[0]?=some t)
 (ht:P.underlying t=some (.slice e))(hk:bL P e=true){id off len:Nat}(h1:(cx F.n x).ev st.s=.own id off len){ob:Ob}(h2:st.U id=some ob)
 (h3:ob.sz=P.cellsOf e)(h4:off+len<=ob.rows.length){rows:List V}(h5:bz st.U (P.cellsOf e) ((cx F.n y).ev st.s)=some rows)(h6:rows.length=len):
 ∃y w',(execOp a.eval o).run P w=.ok (.value y) w'/\
  cI F I ⟨aO st.s (o.dst.filter (·<F.n)) (.int .i64 len),C' st.U id { ob with rows:=ob.rows.take off++rows++ob.rows.drop (off+len) }⟩ (a.put o.dst y) w':=by
 have ZP:=(du hk).2.2;have R:=bH hs;have hx:=R x;rw[h1]at hx;simp only[E']at hx;obtain⟨news,hY,n1,n2,n3,n4,n5⟩:=pJ (P:=P) hs.sat ZP h5 (R y);have Yw:∀v w',(Builtin.copy_ argTypes o.type #[a.eval x,a.eval y]).run P w=.ok v w'->(execOp a.eval o).run P w=.ok (.value v) w':=by
  intro v w' hw';unfold execOp;rw[hoo];simp[resolve,invoke,Go.builtin,harg,hw']
 have hrep:E' I (aA I st.U) w (.int .i64 len) (goInt len):=by simp only[E'];rfl
 have hcopy:∀b c,a.eval x=.slice b len c->(Builtin.copy_ argTypes o.type #[a.eval x,a.eval y]).run P w=((match b with|some q=>storeCells q news 0|none=>pure ()).run P w).andThen λ_ w'=>.ok (goInt len) w':=by
  intro b c hX;have hlen:=hY w;have hfc:=n5 w (λ_ _ _ h=>h);rw[h6]at hlen hfc;rw[hX];have hm:Nat.min len len=len:=Nat.min_self len;cases b
  .simp[Builtin.copy_,hty,run_underlying ht,hlen,hm,bW hk,hfc]
  .simp[Builtin.copy_,hty,run_underlying ht,hlen,hm,bW hk,hfc]
 have hzero:len=0->∃y w',(execOp a.eval o).run P w=.ok (.value y) w'/\
  cI F I ⟨aO st.s (o.dst.filter (·<F.n)) (.int .i64 len),C' st.U id { ob with rows:=ob.rows.take off++rows++ob.rows.drop (off+len) }⟩ (a.put o.dst y) w':=by
  intro h0;subst h0;have hX:∃b c,a.eval x=.slice b 0 c:=by
   split at hx
   .exact hx.elim
   .exact⟨_,_,hx.1⟩
   .obtain⟨o',c,h,_⟩:=hx;exact⟨_,_,h⟩
  obtain⟨b,c,hX⟩:=hX;obtain rfl:rows=[]:=xz h6;obtain rfl:news=[]:=xz (by simpa using n4);have Ys:C' st.U id { ob with rows:=ob.rows.take off++[]++ob.rows.drop (off+0) }=st.U:=by
   funext j;simp only[C',lH,Nat.add_zero,sZ];split
   .rename_i e';rw[e',h2]
   .rfl
  rw[Ys];refine⟨goInt 0,w,Yw _ w ?_,hs.pure hrep⟩;rw[hcopy b c hX];cases b<;>simp[storeCells]
 split at hx
 .exact hx.elim
 .exact hzero hx.2.2
 .rename_i b szb cap O';obtain⟨o',c,hX,c1,c2,c3,hz0⟩:=hx;by_cases h0:len=0
  .exact hzero h0
  have YV:=hs.sat.obj id ob h2;rw[O']at YV;obtain⟨cur,e1,e2,e3,e4,e5,e6,e7⟩:=YV.plain hz0;obtain⟨g1,xs,g2,g3,g4,g5⟩:=e7.cur e1;have hoff:o'=off*szb:=by
   rcases c3 with c3|c3
   .exact c3
   .omega
  subst hoff;have Ye:szb=P.cellsOf e:=by omega
  subst Ye;have hbound:off*P.cellsOf e+len*P.cellsOf e<=ob.rows.length*P.cellsOf e:=by rw[<-Nat.add_mul];exact Nat.mul_le_mul_right _ h4
  have hbound2:ob.rows.length*P.cellsOf e<=cap*P.cellsOf e:=Nat.mul_le_mul_right _ e5;rw[h6]at n4;have Ys:=run_storeCells_at P b (off*P.cellsOf e) ob.elem news 0 cur w e1 (by rw[n4];omega) n3;simp only[Nat.add_zero]at Ys;refine⟨goInt len,w.setRow b (cur.toList.take (off*P.cellsOf e)++news++cur.toList.drop (off*P.cellsOf e+news.length)).toArray,Yw _ _ ?_,?_⟩
  .rw[hcopy _ c hX];simp only[Ys,Result.andThen_ok]
  .have hgrow:w.grownBy (w.setRow b (cur.toList.take (off*P.cellsOf e)++news++cur.toList.drop (off*P.cellsOf e+news.length)).toArray) (some b):=
    ⟨rfl,rfl,rfl,by simp,λkk _ hkk=>setRow_other w b kk _ (λe=>hkk (by rw[e]))⟩
   have hrows':∀q∈ob.rows.take off++rows++ob.rows.drop (off+len),q.cells.length=P.cellsOf e:=by
    intro q hq;simp only[dc]at hq;rcases hq with(hq|hq)|hq
    .exact g1 q (pz hq)
    .exact n1 q hq
    .exact g1 q (List.mem_of_mem_drop hq)
   have hflat:flat (ob.rows.take off++rows++ob.rows.drop (off+len))=
    (flat ob.rows).take (off*P.cellsOf e)++flat rows++(flat ob.rows).drop (off*P.cellsOf e+len*P.cellsOf e):=by
    rw[gS,gS,tc g1];congr 1;rw[zq g1,Nat.add_mul]
   have hch:=hs.sat.change h2 O' (by omega) hgrow _ (ob.rows.take off++rows++ob.rows.drop (off+len)) (xs.take (off*P.cellsOf e)++news++xs.drop (off*P.cellsOf e+news.length))
    (setRow_heap w b cur _ ob.elem _ e1) (by simp only[List.size_toArray,gZ,fY,qF,n4];rw[Array.length_toList];omega) (by simp;omega) hrows'
    (by rw[hflat,n4];exact((g2.take _).append n2).append (g2.drop _))
    (by intro u hu
        simp only[dc]at hu;rcases hu with(hu|hu)|hu
        .exact g3 u (pz hu)
        .exact n3 u hu
        .exact g3 u (List.mem_of_mem_drop hu))
    (by intro j u hu
        have:=lE cur.toList xs _ g5 (off*P.cellsOf e) (by rw[n4,g4];omega) j u hu;simpa using this)
   exact hs.step hch.1 (cC.refl _) hch.2 (by simp) (by simp only[E'];rfl)
def ab.cpy{i:az}{l:List az}{sz:Nat}{xa xb:VX}(hw:aQ st.s i.g=some true)(ho:i.op=.more (.cpy sz) [xa,xb])
 {id off len:Nat}(h1:xa.ev st.s=.own id off len){ob:Ob}(h2:st.U id=some ob)(h3:ob.sz=sz)(h4:off+len<=ob.rows.length){rows:List V}(h5:bz st.U sz (xb.ev st.s)=some rows)(h6:rows.length=len)
 (h:ab P n (.ops l::k) ⟨aO st.s i.dst (.int .i64 len),C' st.U id { ob with rows:=ob.rows.take off++rows++ob.rows.drop (off+len) }⟩ Q):ab P n (.ops (i::l)::k) st Q:=by
 refine ab.ins (by rw[ho];simp) hw λF hn I a w o all hi hs next Q' X7=>?_
 subst hn;obtain⟨X9,hd⟩:=bZ hi;rw[ho]at X9;obtain⟨x,y,t,e,args,argTypes,g1,g2,g3,g4,g5,rfl,hxs⟩:=M1 X9;simp only[List.cons.injEq,and_true]at hxs;obtain⟨rfl,rfl⟩:=hxs;obtain⟨y,w',hx,Ye⟩:=Hf hs g1 g2 g3 g4 g5 h1 h2 h3 h4 h5 h6;unfold Oper.wp;rw[hx];refine X7 _ _ _ ⟨I,?_⟩ h;rw[<-hd];exact Ye
open Go.Proofs Go.Proofs.Tryz
def dk(body:Int):List U'->Int->List U'×List U'×Int
 |[],sh=>([],[],sh)
 |f::r,sh=>if sh+min f.h body>body then([],f::r,sh)else({ f with y:=sh,h:=min f.h body }::(dk body r (sh+min f.h body)).1,(dk body r (sh+min f.h body)).2)
def sO{P:List U'}{j:Nat}(h:j<=P.length):∀U,ek U 7 (aG P) (some (.int .i64 j)) none none=some (aG (P.drop j)):=λU=>by
 have h1:(j:Int)<=P.length:=by omega
 simp only[aG,ek,bS,cL];rw[ar ⟨by omega,h1,Int.le_refl _,Int.le_refl _,trivial⟩,eX,eX,<-List.map_drop,jj (by simp)]
def Su(P:List U')(hP:P.length<=1000000)(body:Int)(hb0:1<=body)(hb1:body<=1099511627776)(hh:∀f∈P,0<=f.h):
 aJ prog 117 [aG P,vI body] (.P' [aG (dk body P 0).1,aG (dk body P 0).2.1,vI (dk body P 0).2.2]):=λU=>by
 refine US.r (by simp[QJ]) ?_;have hs:=aa.refl U;have hlp:=fX P;refine ab.mix 13 ?_;apply sR;simp only[go_sem,seval,QJ,hlp];refine ab.fj (λst=>∃p q sh,dk body P 0=(p,q,sh)/\aa U st.U/\aL U st.U 150 7 (st.s 4) (p.map aK)/\aL U st.U 150 7 (st.s 5) (q.map aK)/\st.s 6=vI sh)
  (λm st=>∃(j:Nat) (acc:List U') (sh:Int),j<=P.length/\m=P.length-j/\acc.length=j/\dk body P 0=(acc++(dk body (P.drop j) sh).1,(dk body (P.drop j) sh).2)/\0<=sh/\sh<=body/\aa U st.U/\aL U st.U 150 7 (st.s 4) (acc.map aK)/\st.s 5=.aC/\st.s 6=vI sh/\st.s 0=aG P/\st.s 1=vI body/\st.s 10=aG P/\st.s 11=vI P.length/\st.s 12=vI j) P.length ?_ ?_ ?_
 .exact⟨0,[],0,by omega,rfl,rfl,rfl,by omega,by omega,hs,aL.start,rfl,rfl,rfl,rfl,rfl,rfl,rfl⟩
 .clear hs;rintro m ⟨S,J⟩ ⟨j,acc,sh,hj,rfl,hal,heq,h0,h1,hs,ho,t5,t6,t0,t1,t10,t11,t12⟩;simp only at hs ho t5 t6 t0 t1 t10 t11 t12;generalize hv4:S 4=v4 at ho;refine ab.mix 13 ?_;by_cases H':j<P.length
  .have q:((j:Int)<P.length)=True:=Yd;have X2:=λU=>j2 (U:=U) H';have hf0:=hh _ (Zr H');have hd:P.drop j=P[j]::P.drop (j+1):=ia H';have hfl:aK P[j]=.agg [vI P[j].node,vI P[j].side,vI P[j].anchor,vI P[j].x,vI P[j].y,vI P[j].w,vI P[j].h]:=rfl;rw[hd,dk]at heq;generalize P[j]=f at*;have hsY:=hs;replace hs:=aa.refl J;have r1:Yl .i64 ((j:Int)+1):=ai;have r2:Yl .i64 (sh+min f.h body):=ai;apply sR;simp only[go_sem,seval,t10,t11,t12,q,X2,hfl];refine ad λi8 Z8 s8 a8 f8=>?_;have z8:=hs.none f8;replace hs:=hs.trans s8;simp only[go_sem,seval,a8];generalize hq8:C' _ i8 _=Y8;replace a8:=(congrFun hq8 i8).symm.trans ag;replace hs:=Eq.subst (motive:=aa _) hq8 (hs.ax z8);clear hq8;refine ad λi9 Z9 s9 a9 f9=>?_;have n89:=ao a8 f9;replace a8:=s9 _ _ a8;have z9:=hs.none f9;replace hs:=hs.trans s9;simp only[go_sem,seval,a9,cP];generalize Zs:C' _ i9 _=Y9;replace a9:=(congrFun Zs i9).symm.trans ag;replace a8:=((congrFun Zs i8).symm.trans (ae n89)).trans a8;replace hs:=Eq.subst (motive:=aa _) Zs (hs.ax z9);clear Zs;refine ab.uA (by kernel_rfl) [0,1,2,3,4,5,6,7,8] [[],[],[1],[],[1,2,3],[0],[0,5],[0,1,2,3,4,5,6],[0,1,2,3,4,5,6,7]] [0,2,4,6,8,10,12,5,14,16] (by kernel_rfl) (by kernel_rfl) ?_;refine RE.Zy (n:=0) [5,14,16] [0,2,4,6,8,10,12] [⟨(.some 18),(.YH (.t 6)),.none⟩,⟨(.some 19),(.YB .false 6 1 (.t 8)),.none⟩,⟨(.some 20),(.load .false 1 (.t 19)),.none⟩,⟨(.some 21),(.YH (.t 1)),.none⟩,⟨(.some 22),(.minmax .false (.t 20) (.t 21)),.none⟩,⟨(.some 23),(.YB .false 4 1 (.t 9)),.none⟩,⟨.none,(.store 1 (.t 23) (.t 18)),.none⟩] rfl rfl ?_;apply sG;simp only[go_sem,seval,a9,a8,t6,t1,gF];refine RE.chk rfl rfl rfl rfl rfl trivial (by simp only[go_sem,seval,a8,ae n89]) ?_;refine RE.Zy (n:=0) [] [14,16] [⟨(.some 24),(.YB .false 6 1 (.t 9)),.none⟩,⟨.none,(.store 1 (.t 24) (.t 22)),.none⟩] rfl rfl ?_;apply sG;simp only[go_sem,seval];generalize Zs:C' _ i9 _=Y9;replace a9:=(congrFun Zs i9).symm.trans ag;replace a8:=((congrFun Zs i8).symm.trans (ae n89)).trans a8;replace hs:=Eq.subst (motive:=aa _) Zs (hs.ax z9);clear Zs;by_cases hgt:sh+min f.h body>body
   .have q1:(sh+min f.h body>body)=True:=Yd hgt;rw[ar hgt]at heq;have r3:Yl .i64 ((P.length:Int)-j):=ai;apply sR;simp only[go_sem,seval,a9,t0,t1,hlp,r2,q1,r3];obtain⟨n,hn⟩:∃n:Nat,n=P.length-j:=⟨_,rfl⟩
    have hnj:(P.length:Int)-j=(n:Int):=by omega
    rw[hnj];have hbm:(0:Int)<=n/\(n:Int).toNat*57<=140737488355328:=by omega
    simp only[go_sem,seval,hbm];refine ad λi36 Z36 s36 a36 f36=>?_;have hsl:=sO hj;simp only[BB,seval,aX,ez,aE,t0,hsl,eX];have hnl:(P.drop j).length=n:=by rw[qF,hn]
    refine ab.cpy (id:=i36) (off:=0) (len:=n) (rows:=(P.drop j).map aK) rfl rfl rfl a36 rfl (by simp) rfl (by rw[cL,hnl]) ?_;have hrw:(List.replicate (n:Int).toNat (V.agg [vI 0,vI 0,vI 0,vI 0,vI 0,vI 0,vI 0])).take 0++(P.drop j).map aK++(List.replicate (n:Int).toNat (V.agg [vI 0,vI 0,vI 0,vI 0,vI 0,vI 0,vI 0])).drop (0+n)=(P.drop j).map aK:=by
     generalize (P.drop j).map aK=X;simp
    rw[hrw];apply sR;simp only[go_sem,seval,t6,hv4];have Ys:=(hsY.trans (hs.trans s36)).ax (o:=⟨150,7,(P.drop j).map aK⟩) ((hsY.trans hs).none f36);refine⟨acc,P.drop j,sh,?_,Ys,?_,?_,rfl⟩
    .rw[heq,lH,hd]
    .exact ho.mono ((hs.trans s36).ax (hs.none f36))
    .exact aL.new (by rw[cL,hnl]) ag ((hsY.trans hs).none f36)
   .have q1:(sh+min f.h body>body)=False:=T' hgt;rw[av hgt]at heq;apply sR;simp only[go_sem,seval,a9,t1,hv4,r2,q1];refine ad λi44 Z44 s44 a44 f44=>?_;obtain⟨Yn,ZV,Zk,hd1,hd2⟩:=ho.Es (hs.trans s44);have hlm:(acc.map aK).length=j:=by rw[cL,hal]
    have Zl:(j+1)*57<=140737488355328:=by omega
    simp only[go_sem,seval,ZV,cT a44,hlm,Zl];refine cO λi45 Z45 s45 a45 f45=>?_;have b9:=s45 _ _ ((hd2 i9 z9 Z44).trans (s44 _ _ a9));have k45:=(Zk U (aa.refl _) Z44 (hsY.trans (hs.trans s44))).trans s45;have n45:U i45=none:=(hsY.trans (hs.trans s44)).none f45;simp only[go_sem,seval,t0,t1,t5,t6,t10,t11,t12,b9,r1,r2];refine⟨_,?_,j+1,acc++[{ f with y:=sh,h:=min f.h body }],sh+min f.h body,by omega,rfl,by simp[hal],?_,by omega,by omega,k45,?_,by simp⟩
    .omega
    .rw[heq,lz];rfl
    .rw[gl];exact aL.new (by simp[hal]) a45 n45
  .have q:((j:Int)<P.length)=False:=T';have hje:j=P.length:=by omega
   rw[hje,x5,dk,lH]at heq;apply sR;simp only[go_sem,seval,t5,t6,t11,t12,hv4,q];exact⟨acc,[],sh,heq,hs,hv4▸ho,aL.start,rfl⟩
 .rintro⟨S,J⟩ ⟨p,q,sh,heq,hs,ho,hu,t6⟩;simp only at hs ho hu t6;generalize hv4:S 4=v4 at ho;generalize hv5:S 5=v5 at hu;refine ab.mix 13 ?_;apply sR;simp only[go_sem,seval,hv4,hv5,t6];rw[heq];exact⟨_,U,hs,Wk.P' (vs':=[aG p,aG q,vI sh]) ⟨ho.wk (aa.refl _) hs,hu.wk (aa.refl _) hs,Wk.refl hs _,trivial⟩,rfl,rfl⟩
open Go.Proofs Go.Proofs.Tryz
structure Bk where
 nodes:List Nd
 (w h:Int)
 atoms:List Zj
 X8:List U'
 Yg:Int
 Ym:List Brk
def bC(b:Bk):V:=.agg [aH b.nodes,vI b.w,vI b.h,br b.atoms,aG b.X8,vI b.Yg,bE b.Ym]
structure Wx where
 Yz:V
 (high body:Int)
 s:Zf
 kind:Int
 (hs fs ls:List Zh)
 shift:Int
def cZ(b:Bk)(x:Wx)(vh vf vl:V):Ob:=⟨219,13,[.agg [x.Yz,vI x.high,vI x.body,.rp (bC b),vI x.s.atom,vI x.s.done,.bool x.s.free,vI 0,vI x.kind,vh,vf,vl,vI x.shift]]⟩
structure WxJ(b:Bk)(K:af)(ix:Nat)(x:Wx)(U:af)(vh vf vl:V):Prop where
 row:U ix=some (cZ b x vh vf vl)
 oh:aL (aU K ix) U 63 7 vh (x.hs.map bb)
 of:aL (aU K ix) U 63 7 vf (x.fs.map bb)
 ol:aL (aU K ix) U 63 7 vl (x.ls.map bb)
 hf:dD vh vf
 hl:dD vh vl
 fl:dD vf vl
 sub:aa K U
 no:K ix=none
def WxJ.mono{b:Bk}{K:af}{ix:Nat}{x:Wx}{U J:af}{vh vf vl:V}(h:WxJ b K ix x U vh vf vl)(hs:aa U J):WxJ b K ix x J vh vf vl:=
 ⟨hs _ _ h.row,h.oh.mono hs,h.of.mono hs,h.ol.mono hs,h.hf,h.hl,h.fl,h.sub.trans hs,h.no⟩
def zu{K Z8:af}{ix e sz:Nat}{v:V}{rows:List V}(Js:aa K Z8)(Jn:K ix=none){ox:Ob}(Jx:Z8 ix=some ox)(Jv:aL (aU K ix) Z8 e sz v rows):
 ∃Yn,bN Z8 e sz v=some (rows,Yn)/\∀(Z9:af) (id:Nat) (X6:List V),aa (Vc.bt Z8 Yn) Z9->Z9 id=some ⟨e,sz,X6⟩->Z8 id=none->
  Z9 ix=some ox/\∀o',aa K (C' Z9 ix o')/\aL (aU K ix) (C' Z9 ix o') e sz (.own id 0 X6.length) X6/\
  ∀u rowsU,aL (aU K ix) Z8 e sz u rowsU->dD v u->aL (aU K ix) (C' Z9 ix o') e sz u rowsU/\dD (.own id 0 X6.length) u:=by
 obtain⟨Yn,ZV,hdA⟩:=Jv.QV (aa.refl Z8);have k2:aU K ix ix≠none:=λh=>(aF.1 h).1 rfl;have dne:∀(i:Nat),aU K ix i≠none->Vc.bt Z8 Yn i=Z8 i:=λi hk=>by
  cases Yn with
  |none=>rfl
  |some a=>exact bR (λe=>hk (by rw[e];exact(hdA a rfl).1))
 refine⟨Yn,ZV,λZ9 id X6 hs9 h9 f=>⟨hs9 _ _ ((dne _ k2).trans Jx),λo'=>⟨?_,?_,λu rowsU hu hap=>⟨?_,dD.new hu f⟩⟩⟩⟩
 .refine aa.ax (λi o h=>hs9 _ _ ((dne _ (λhk=>?_)).trans (Js _ _ h))) Jn;rw[(aF.1 hk).2]at h;cases h
 .have m:id≠ix:=λe=>by rw[e,Jx]at f;cases f
  refine aL.new rfl ((ae m).trans h9) (aF.2 ⟨m,?_⟩);exact Js.none f
 .rcases hu with h|⟨a,rfl,h1,h2⟩
  .exact .inl h
  .refine .inr ⟨a,rfl,(ae (aF.1 h2).1).trans (hs9 _ _ ?_),h2⟩;cases hA:Yn with
   |none=>exact h1
   |some i=>
    have:a≠i:=λe=>hap _ _ _ _ (hdA i hA).2.2 rfl e.symm;simp only[Vc.bt];rw[bR this];exact h1
def l7(high:Int)(f:U'):Zh:=⟨f.node,-1,0,f.x,f.y+high,f.w,f.h⟩
def Wx.put(x:Wx)(l:List U'):Wx:={ x with ls:=x.ls++l.map (l7 x.high) }
def px(b:Bk)(l:List U')(hl:l.length<=1000000)(x:Wx)(hx:x.ls.length<=1000000)(hr:∀f∈l,Yl .i64 (f.y+x.high)){K U:af}{i1:Nat}{vh vf vl:V}(hJ:WxJ b K i1 x U vh vf vl):
 au prog 118 [.ptr i1 0 0,aG l] U λ_ Z'=>∃vl',WxJ b K i1 (x.put l) Z' vh vf vl':=by
 refine W6.r (by simp[O5]) ?_;have hln:=fX l;obtain⟨ch,sh⟩:=hJ.oh.vc;obtain⟨cf,sf⟩:=hJ.of.vc;refine ab.mix 9 ?_;apply sR;simp only[go_sem,seval,O5,hln];refine ab.loop (λm st=>∃(j:Nat) (vl':V),j<=l.length/\m=l.length-j/\WxJ b K i1 (x.put (l.take j)) st.U vh vf vl'/\st.s 0=.ptr i1 0 0/\st.s 6=aG l/\st.s 7=vI l.length/\st.s 8=vI j) l.length ?_ ?_
 .exact⟨0,vl,by omega,rfl,by simpa[Wx.put]using hJ,rfl,rfl,rfl,rfl⟩
 .rintro m ⟨S,J⟩ ⟨j,vl',hj,rfl,hJ,t0,t6,t7,t8⟩;simp only at hJ t0 t6 t7 t8;refine ab.mix 9 ?_;by_cases H':j<l.length
  .have q:((j:Int)<l.length)=True:=Yd;have X2:=λU=>j2 (U:=U) H';have hfl:aK l[j]=.agg [vI l[j].node,vI l[j].side,vI l[j].anchor,vI l[j].x,vI l[j].y,vI l[j].w,vI l[j].h]:=rfl;have Zb:l.take (j+1)=l.take j++[l[j]]:=Zq0 H';have hput:x.put (l.take (j+1))={ x.put (l.take j)with ls:=(x.put (l.take j)).ls++[l7 x.high l[j]] }:=by
    rw[Zb];simp only[Wx.put,gl,dS,List.map_nil,lz]
   have r0:=hr _ (Zr H');have r1:Yl .i64 ((j:Int)+1):=ai;have hyl:((x.put (l.take j)).ls.map bb).length<=2000000:=by simp[Wx.put];omega
   have hyh:(x.put (l.take j)).high=x.high:=rfl;rw[<-hyh]at hput r0;generalize l[j]=f at*;generalize x.put (l.take j)=y at*;have hs:=aa.refl J;have a1:=hJ.row;rw[cZ]at a1;obtain⟨cl,sl⟩:=hJ.ol.vc;apply sR;simp only[go_sem,seval,t6,t7,t8,q,X2,hfl];refine ad λi5 Z5 s5 a5 f5=>?_;have n15:=ao a1 f5;replace a1:=s5 _ _ a1;have z5:=hs.none f5;replace hs:=hs.trans s5;simp only[go_sem,seval,a5,a1,t0,ae n15,r0];generalize ZN:C' _ i5 _=Y5;replace a5:=(congrFun ZN i5).symm.trans ag;replace a1:=((congrFun ZN i1).symm.trans (ae n15)).trans a1;replace hs:=Eq.subst (motive:=aa _) ZN (hs.ax z5);clear ZN;refine aW λi35 Z35 s35 a35 f35=>?_;have hJ5:=hJ.mono (hs.trans s35);obtain⟨Yn,ZV,hgr⟩:=zu hJ5.sub hJ5.no hJ5.row hJ5.ol;generalize hrw:y.ls.map bb=rows at*;have Zl:(rows.length+1)*57<=140737488355328:=by omega
   simp only[go_sem,seval,ZV,cT a35,Zl];refine kQ λi36 Z36 s36 a36 f36=>?_;obtain⟨b1,hg⟩:=hgr Z36 i36 _ s36 a36 f36;rw[cZ]at b1;obtain⟨g1,g2,g3⟩:=hg (cZ b { y with ls:=y.ls++[l7 y.high f] } vh vf (.own i36 0 (rows.length+1)));simp only[go_sem,seval,b1,t0,t6,t7,t8,r1];refine⟨_,?_,j+1,.own i36 0 (rows.length+1),by omega,rfl,?_,by simp⟩
   .omega
   .rw[hput];obtain⟨k1,k2⟩:=g3 _ _ hJ5.oh hJ5.hl.symm;obtain⟨k3,k4⟩:=g3 _ _ hJ5.of hJ5.fl.symm;rw[gZ]at g2 k2 k4;refine⟨ag,k1,k3,?_,hJ.hf,k2.symm,k4.symm,g1,hJ.no⟩;show aL _ _ _ _ _ ((y.ls++[l7 y.high f]).map bb);rw[gl,hrw];exact g2
  .have q:((j:Int)<l.length)=False:=T';have hje:j=l.length:=by omega
   rw[hje,hU]at hJ;apply sR;simp only[go_sem,seval,t7,t8,q];exact⟨_,_,aa.refl _,Wk.refl (aa.refl _) _,vl',hJ⟩
open Go.Proofs Go.Proofs.Tryz
structure BkOk(b:Bk):Prop where
 YT:nu b.atoms
 tight:∀a∈b.atoms,-18014398509481984<=a.y/\a.y<=18014398509481984/\0<=a.h/\a.h<=18014398509481984
 len:b.atoms.length<=900000
 flen:b.X8.length<=1000000
 flo:∀f∈b.X8,f.ok
 brk:b.Ym.length=b.atoms.length+1
structure ZY where
 s:Zf
 bJ:List U'
def bF(x:ZY):V:=.agg [vI x.s.atom,vI x.s.done,.bool x.s.free,aG x.bJ]
def H4{top shift body:Int}:∀{L:List U'} {m:U'},m∈(jN top shift body L).1->∃f∈L,m=dZ top shift f:=by
 have key:∀(L L0:List U') (x:List U'×List U'),(∀m∈x.1,∃f∈L0,m=dZ top shift f)->∀m∈(L.foldl (λx f=>ng body x f (dZ top shift f)) x).1,∃f∈L0++L,m=dZ top shift f:=by
  intro L
  induction L with
  |nil=>intro L0 x h m hm;simpa using h m hm
  |cons f L ih=>
   intro L0 x h m hm;rw[j5]at hm;have:=ih (L0++[f]) _ (λm hm=>?_) m hm
   .simpa using this
   .unfold ng at hm;simp only at hm;split at hm
    .obtain⟨g,hg,e⟩:=h m hm;exact⟨g,by simp[hg],e⟩
    .rcases dc.1 hm with hm|hm
     .obtain⟨g,hg,e⟩:=h m hm;exact⟨g,by simp[hg],e⟩
     .simp at hm;exact⟨f,by simp,hm⟩
 intro L m hm;have:=key L [] ([],[]) (by simp) m hm;simpa using this
def zn{b:Bk}(hb:BkOk b){s:Zf}(hd:s.done<=1152921504606846976){to kept shift body:Int}(hk:-1152921504606846976<=kept/\kept<=2305843009213693952)(hsh:0<=shift/\shift<=1152921504606846976):
 (dO b.atoms b.X8 s to kept shift body).1.length<=1000000/\∀m∈(dO b.atoms b.X8 s to kept shift body).1,0<=m.y/\m.y<=6917529027641081856:=by
 unfold dO;split
 .rename_i hm;have h1:=pn (uB b.atoms s kept) shift body (eC b.X8 s to);have h2:(eC b.X8 s to).length<=b.X8.length:=oO _ _ _;have h3:=hb.flen;refine⟨by omega,λm hmm=>?_⟩;obtain⟨f,hf,rfl⟩:=H4 hmm;have hfo:=hb.flo f (rR.1 hf).1;obtain⟨_,⟨o1,o2⟩,_⟩:=hfo;obtain⟨h0,h4⟩:=hm.1;have htop:-4611686018427387904<=uB b.atoms s kept:=by
   unfold uB;have:=hm.2.1;obtain⟨k,hkk⟩:∃k:Nat,s.atom=k:=⟨s.atom.toNat,by omega⟩
   have hkl:k<b.atoms.length:=by omega
   have hy:=hb.YT.rng _ (Zr hkl);rw[hkk,aZ hkl];omega
  simp only[dZ];omega
 .simp
def cq(high:Int)(f:Zh):Zh:={ f with y:=f.y+high }
def bX(b:Bk)(x:Wx)(kept:Int)(n:Nat):List Zh:=(List.range n).map λi:Nat=>cq x.high (dp b.atoms x.s kept x.shift (x.s.atom+(i:Nat)))
def Wx.add(x:Wx)(l:List Zh):Wx:={ x with fs:=x.fs++l }
def E8{l:List Zj}(hl:nu l){s:Zf}(hd0:0<=s.done)(hd:s.done<=1152921504606846976){kept shift:Int}(hk:-1152921504606846976<=kept/\kept<=2305843009213693952)(hsh:0<=shift/\shift<=1152921504606846976)(k:Int):
 -4611686018427387904<=(dp l s kept shift k).y/\(dp l s kept shift k).y<=6917529027641081856:=by
 have h:=qs hl hd hk hsh k;unfold dp;split
 .split
  .simp only;omega
  .simp only[mZ];omega
 .simp
def kg(l:List Zj)(U:af):bB U false 1 (.rp (br l))=some (br l):=rfl
def Gd(l:List U')(U:af):bB U false 1 (.rp (aG l))=some (aG l):=rfl
def IX(l:List Brk)(U:af):bB U false 1 (.rp (bE l))=some (bE l):=rfl
def Ua(l:List Nd)(U:af):bB U false 1 (.rp (aH l))=some (aH l):=rfl
def WxJ.pO{b:Bk}{K:af}{ix:Nat}{x:Wx}{U J:af}{vh vf vl:V}(h:WxJ b K ix x U vh vf vl)(hs:aa U J){i:Nat}{o:Ob}(h1:U i=none)(h2:J i=some o):WxJ b (C' K i o) ix x J vh vf vl:=by
 have key:∀{v rows},aL (aU K ix) U 63 7 v rows->aL (aU (C' K i o) ix) J 63 7 v rows:=λhv=>by
  rcases hv with h|⟨a,e,h3,h4⟩
  .exact .inl h
  .refine .inr ⟨a,e,hs _ _ h3,aF.2 ⟨(aF.1 h4).1,?_⟩⟩;rw[ae (λe=>by subst e;rw[h1]at h3;cases h3)];exact(aF.1 h4).2
 refine⟨hs _ _ h.row,key h.oh,key h.of,key h.ol,h.hf,h.hl,h.fl,λa q ha=>?_,?_⟩
 .by_cases e:a=i
  .subst e;rw[Vc.ag]at ha;cases ha;exact h2
  .rw[Vc.ae e]at ha;exact hs _ _ (h.sub _ _ ha)
 .rw[Vc.ae (λe=>by subst e;rw[h.row]at h1;cases h1)];exact h.no
def WxJ.narrow{b:Bk}{K:af}{ix i:Nat}{o:Ob}{x:Wx}{U:af}{vh vf vl:V}(h:WxJ b (C' K i o) ix x U vh vf vl)(hK:K i=none):WxJ b K ix x U vh vf vl:=by
 have hk:∀a,C' K i o a=none->K a=none:=λa ha=>by
  by_cases e:a=i
  .subst e;exact hK
  .rwa [Vc.ae e]at ha
 have key:∀{v rows},aL (aU (C' K i o) ix) U 63 7 v rows->aL (aU K ix) U 63 7 v rows:=λhv=>by
  rcases hv with h|⟨a,e,h3,h4⟩
  .exact .inl h
  .exact .inr ⟨a,e,h3,aF.2 ⟨(aF.1 h4).1,hk _ (aF.1 h4).2⟩⟩
 refine⟨h.row,key h.oh,key h.of,key h.ol,h.hf,h.hl,h.fl,λa q ha=>h.sub _ _ ?_,hk _ h.no⟩;rw[Vc.ae (λe=>by subst e;rw[hK]at ha;cases ha)];exact ha
def WxJ.drop{b:Bk}{K:af}{ix i:Nat}{o:Ob}{x:Wx}{U:af}{vh vf vl:V}(h:WxJ b (C' K i o) ix x U vh vf vl)(hK:K i=none)(o':Ob):WxJ b K ix x (C' U i o') vh vf vl:=by
 have hn:ix≠i:=λe=>by have:=h.no;subst e;rw[Vc.ag]at this;cases this
 have key:∀{v rows},aL (aU K ix) U 63 7 v rows->aL (aU (C' K i o) ix) U 63 7 v rows->aL (aU K ix) (C' U i o') 63 7 v rows:=λhv hw=>by
  rcases hv with h|⟨a,rfl,h3,h4⟩
  .exact .inl h
  .refine .inr ⟨a,rfl,?_,h4⟩;rcases hw with⟨h,_⟩|⟨c,h,h5,h6⟩
   .cases h
   .cases h;have:a≠i:=λe=>by subst e;have:=(aF.1 h6).2;rw[Vc.ag]at this;cases this
    rw[Vc.ae this];exact h3
 have g:=h.narrow hK;refine⟨(Vc.ae hn).trans h.row,key g.oh h.oh,key g.of h.of,key g.ol h.ol,h.hf,h.hl,h.fl,g.sub.ax hK,g.no⟩
def I7(b:Bk)(hb:BkOk b)(x:Wx)(hm:dG b.atoms x.s)(hd:x.s.done<=1152921504606846976)(hx:x.fs.length<=1000000)(hxl:x.ls.length<=1000000)(hh:0<=x.high/\x.high<=1152921504606846976)(kept:Int)(hk:-1152921504606846976<=kept/\kept<=2305843009213693952)
 (hsh:0<=x.shift/\x.shift<=1152921504606846976)(cut:Nat)(hc:x.s.atom<=cut)(YZ:cut<=b.atoms.length){K U:af}{i1:Nat}{vh vf vl:V}(hJ:WxJ b K i1 x U vh vf vl):
 au prog 181 [.ptr i1 0 0,vI kept,vI cut] U λr Z'=>∃vf' vl',r=bF ⟨⟨cut,0,decide ((b.Ym.getD cut ⟨0,0,0⟩).forced≠0)⟩,(dO b.atoms b.X8 x.s cut kept x.shift x.body).2⟩/\
  WxJ b K i1 ((x.add (bX b x kept (cut-x.s.atom.toNat))).put (dO b.atoms b.X8 x.s cut kept x.shift x.body).1) Z' vh vf' vl':=by
 refine XN.r (by simp[Ry]) ?_;have hs:=aa.refl U;have hbk:bC b=.agg [aH b.nodes,vI b.w,vI b.h,br b.atoms,aG b.X8,vI b.Yg,bE b.Ym]:=rfl;have a1:=hJ.row;rw[cZ]at a1;obtain⟨ch,sh⟩:=hJ.oh.vc;obtain⟨a,haa⟩:∃a:Nat,x.s.atom=a:=⟨x.s.atom.toNat,by have:=hm.1;omega⟩
 obtain⟨n,hn⟩:∃n,n=cut-x.s.atom.toNat:=⟨_,rfl⟩
 have hnc:a+n=cut:=by omega
 rw[<-hn];have hlen:=hb.len;refine ab.mix 13 ?_;apply sR;simp only[go_sem,seval,Ry];refine ad λi6 Z6 s6 a6 f6=>?_;replace a1:=s6 _ _ a1;replace hs:=hs.trans s6;have hJ6:=hJ.pO s6 f6 a6;have k6:K i6=none:=hJ.sub.none f6;simp only[go_sem,seval,a1,hbk,haa,kg];refine ab.fj (λst=>∃vf',WxJ b (C' K i6 ⟨45,4,[.agg [vI 0,vI 0,.bool false,.aC]]⟩) i1 (x.add (bX b x kept n)) st.U vh vf' vl/\st.s 0=.ptr i1 0 0/\st.s 1=vI kept/\st.s 2=vI cut/\st.s 6=.ptr i6 0 0/\st.s 7=br b.atoms)
  (λm st=>∃(j:Nat) (vf':V),j<=n/\m=n-j/\WxJ b (C' K i6 ⟨45,4,[.agg [vI 0,vI 0,.bool false,.aC]]⟩) i1 (x.add (bX b x kept j)) st.U vh vf' vl/\st.s 0=.ptr i1 0 0/\st.s 1=vI kept/\st.s 2=vI cut/\st.s 6=.ptr i6 0 0/\st.s 7=br b.atoms/\∃z:Int,st.s 8=vI z/\z=(a:Int)+j) n ?_ ?_ ?_
 .exact⟨0,vf,by omega,rfl,by simpa[Wx.add,bX]using hJ6,rfl,rfl,rfl,rfl,rfl,_,rfl,by omega⟩
 .clear hs hJ6 a1 hJ a6;rintro m ⟨S,J⟩ ⟨j,vf',hj,rfl,hJ,t0,t1,t2,t6,t7,z,t8,hz⟩;simp only at hJ t0 t1 t2 t6 t7 t8;refine ab.mix 13 ?_;by_cases H':j<n
  .have q:(z<(cut:Int))=True:=Yd;have hsw:x.add (bX b x kept (j+1))={ x.add (bX b x kept j)with fs:=(x.add (bX b x kept j)).fs++[cq x.high (dp b.atoms x.s kept x.shift z)] }:=by
    simp only[Wx.add,bX,List.range_succ,gl,dS,List.map_nil,lz];rw[hz,haa]
   have Zi:aJ prog 243 [br b.atoms,aV (x.add (bX b x kept j)).s,vI kept,vI (x.add (bX b x kept j)).shift,vI z] (bb (dp b.atoms x.s kept x.shift z)):=GJ b.atoms hb.YT x.s hd kept x.shift z hk hsh;have hrg:=E8 hb.YT hm.2.1 hd hk hsh z;have hyl:((x.add (bX b x kept j)).fs.map bb).length<=2000000:=by simp[Wx.add,bX];omega
   have hyh:(x.add (bX b x kept j)).high=x.high:=rfl;rw[<-hyh]at hsw;generalize dp b.atoms x.s kept x.shift z=w at*;generalize x.add (bX b x kept j)=y at*;have hs:=aa.refl J;have a1:=hJ.row;rw[cZ]at a1;rw[aV]at Zi;have r1:Yl .i64 (z+1):=ai;have r2:Yl .i64 (w.y+y.high):=ai;obtain⟨cf,sf⟩:=hJ.of.vc;obtain⟨cl,sl⟩:=hJ.ol.vc;apply sR;simp only[go_sem,seval,t2,t8,q,cP];refine ab.Et (by kernel_rfl) 8 (.fork [[],[],[1],[2,1],[3,2,1],[],[],[6],[7,6],[8,7,6],[],[0,4,5,9,10,3,2,1,8,7,6],[],[12,11,0,1,2,3,4,5,6,7,8,9,10]] [0,1,2,3,4,5,6,7,8,9,10] [11,12] [(.leaf [[],[],[1],[2,1],[3,2,1],[],[],[6],[7,6],[8,7,6],[],[0,4,5,9,10,3,2,1,8,7,6],[11,0,4,5,9,10,3,2,1,8,7,6],[11,0,4,5,9,10,3,2,1,8,7,6,12]] [11,12,13]),(.leaf [[],[],[1],[2,1],[3,2,1],[],[],[6],[7,6],[8,7,6],[],[12,0,4,5,9,10,3,2,1,8,7,6],[],[12,11,0,1,2,3,4,5,6,7,8,9,10]] [12,11,13])]) (by kernel_rfl) ?_;refine GT.nW (its:=[0,2,4,6,8,10,12,14,16,18,20]) (by kernel_rfl) ?_;refine RE.Zy (n:=0) [] [0,2,4,6,8,10,12,14,16,18,20] [⟨(.some 31),(.YH (.t 7)),.none⟩,⟨(.some 32),(.YH (.t 0)),.none⟩,⟨(.some 33),(.nilCheck (.t 32)),.none⟩,⟨(.some 34),(.YB .true 4 3 (.t 33)),.none⟩,⟨(.some 35),(.load .true 3 (.t 34)),.none⟩,⟨(.some 36),(.YH (.t 1)),.none⟩,⟨(.some 37),(.YH (.t 0)),.none⟩,⟨(.some 38),(.nilCheck (.t 37)),.none⟩,⟨(.some 39),(.YB .false 12 1 (.t 38)),.none⟩,⟨(.some 40),(.load .false 1 (.t 39)),.none⟩,⟨(.some 41),(.YH (.t 8)),.none⟩] rfl rfl ?_;apply sG;simp only[go_sem,seval,a1,t0,t1,t7,t8];refine⟨?_,?_⟩
   .refine GT.gr (its:=[22,24,26]) (by kernel_rfl) ?_;refine RE.ay rfl rfl rfl rfl rfl (Zi _) ?_;refine RE.Zy (n:=0) [] [24,26] [⟨(.some 9),(.alloc 63 7 (.agg [(.int .i64 0),(.int .i64 0),(.int .i64 0),(.int .i64 0),(.int .i64 0),(.int .i64 0),(.int .i64 0)])),.none⟩,⟨.none,(.store 7 (.t 9) (.t 42)),.none⟩] rfl rfl ?_;apply sG;simp only[go_sem,seval,bb];refine aW λi9 Z9 s9 a9 f9=>?_;have n19:=ao a1 f9;replace a1:=s9 _ _ a1;have z9:=hs.none f9;replace hs:=hs.trans s9;simp only[go_sem,seval,a9];generalize Zs:C' _ i9 _=Y9;replace a9:=(congrFun Zs i9).symm.trans ag;replace a1:=((congrFun Zs i1).symm.trans (ae n19)).trans a1;replace hs:=Eq.subst (motive:=aa _) Zs (hs.ax z9);clear Zs;apply sR;simp only[go_sem,seval,a9,a1,t0,r2,ae n19];generalize Zs:C' _ i9 _=Y9;replace a9:=(congrFun Zs i9).symm.trans ag;replace a1:=((congrFun Zs i1).symm.trans (ae n19)).trans a1;replace hs:=Eq.subst (motive:=aa _) Zs (hs.ax z9);clear Zs;refine aW λi59 Z59 s59 a59 f59=>?_;have hJ9:=(hJ.mono hs).mono s59;obtain⟨Yn,ZV,hgr⟩:=zu hJ9.sub hJ9.no hJ9.row hJ9.of;generalize hrw:y.fs.map bb=rows at*;have Zl:(rows.length+1)*57<=140737488355328:=by omega
    simp only[go_sem,seval,ZV,cT a59,Zl];refine kQ λi60 Z60 s60 a60 f60=>?_;obtain⟨b1,hg⟩:=hgr Z60 i60 _ s60 a60 f60;rw[cZ]at b1;obtain⟨g1,g2,g3⟩:=hg (cZ b { y with fs:=y.fs++[cq y.high w] } vh (.own i60 0 (rows.length+1)) vl);simp only[go_sem,seval,b1,t0,t1,t2,t6,t7,t8,r1];refine⟨_,?_,j+1,.own i60 0 (rows.length+1),by omega,rfl,?_,_,rfl,by omega⟩
    .omega
    .rw[hsw];obtain⟨k1,k2⟩:=g3 _ _ hJ9.oh hJ9.hf.symm;obtain⟨k3,k4⟩:=g3 _ _ hJ9.ol hJ9.fl;rw[gZ]at g2 k2 k4;refine⟨?_,k1,?_,k3,k2.symm,hJ.hl,k4,g1,hJ.no⟩
     .exact ag
     .show aL _ _ _ _ _ ((y.fs++[cq y.high w]).map bb);rw[gl,hrw];exact g2
   .refine GT.gr (its:=[24,9,19,22,26]) (by kernel_rfl) ?_;refine RE.Zy (n:=0) [9,19,22,26] [24] [⟨(.some 9),(.alloc 63 7 (.agg [(.int .i64 0),(.int .i64 0),(.int .i64 0),(.int .i64 0),(.int .i64 0),(.int .i64 0),(.int .i64 0)])),.none⟩] rfl rfl ?_;apply sG;simp only[go_sem,seval];refine aW λi9 Z9 s9 a9 f9=>?_;have n19:=ao a1 f9;replace a1:=s9 _ _ a1;have z9:=hs.none f9;replace hs:=hs.trans s9;simp only[go_sem,seval];refine RE.chk rfl rfl rfl rfl rfl trivial (by simp only[go_sem,seval,a1]) ?_;refine RE.chk rfl rfl rfl rfl rfl trivial (by simp only[go_sem,seval,a1]) ?_;refine RE.ay rfl rfl rfl rfl rfl (Zi _) ?_;refine RE.Zy (n:=0) [] [26] [⟨.none,(.store 7 (.t 9) (.t 42)),.none⟩] rfl rfl ?_;apply sG;simp only[go_sem,seval,bb,a9];generalize Zs:C' _ i9 _=Y9;replace a9:=(congrFun Zs i9).symm.trans ag;replace a1:=((congrFun Zs i1).symm.trans (ae n19)).trans a1;replace hs:=Eq.subst (motive:=aa _) Zs (hs.ax z9);clear Zs;apply sR;simp only[go_sem,seval,a9,a1,t0,r2,ae n19];generalize Zs:C' _ i9 _=Y9;replace a9:=(congrFun Zs i9).symm.trans ag;replace a1:=((congrFun Zs i1).symm.trans (ae n19)).trans a1;replace hs:=Eq.subst (motive:=aa _) Zs (hs.ax z9);clear Zs;refine aW λi59 Z59 s59 a59 f59=>?_;have hJ9:=(hJ.mono hs).mono s59;obtain⟨Yn,ZV,hgr⟩:=zu hJ9.sub hJ9.no hJ9.row hJ9.of;generalize hrw:y.fs.map bb=rows at*;have Zl:(rows.length+1)*57<=140737488355328:=by omega
    simp only[go_sem,seval,ZV,cT a59,Zl];refine kQ λi60 Z60 s60 a60 f60=>?_;obtain⟨b1,hg⟩:=hgr Z60 i60 _ s60 a60 f60;rw[cZ]at b1;obtain⟨g1,g2,g3⟩:=hg (cZ b { y with fs:=y.fs++[cq y.high w] } vh (.own i60 0 (rows.length+1)) vl);simp only[go_sem,seval,b1,t0,t1,t2,t6,t7,t8,r1];refine⟨_,?_,j+1,.own i60 0 (rows.length+1),by omega,rfl,?_,_,rfl,by omega⟩
    .omega
    .rw[hsw];obtain⟨k1,k2⟩:=g3 _ _ hJ9.oh hJ9.hf.symm;obtain⟨k3,k4⟩:=g3 _ _ hJ9.ol hJ9.fl;rw[gZ]at g2 k2 k4;refine⟨?_,k1,?_,k3,k2.symm,hJ.hl,k4,g1,hJ.no⟩
     .exact ag
     .show aL _ _ _ _ _ ((y.fs++[cq y.high w]).map bb);rw[gl,hrw];exact g2
  .have q:(z<(cut:Int))=False:=T';have hje:j=n:=by omega
   subst hje;apply sR;simp only[go_sem,seval,t0,t1,t2,t6,t7,t8,q];exact⟨vf',hJ⟩
 .clear hs hJ6 a1 hJ a6;rintro⟨S,J⟩ ⟨vf',hJ,t0,t1,t2,t6,t7⟩;simp only at hJ t0 t1 t2 t6 t7;have Zi:aJ prog 242 [br b.atoms,aG b.X8,aV (x.add (bX b x kept n)).s,vI cut,vI kept,vI (x.add (bX b x kept n)).shift,vI (x.add (bX b x kept n)).body] (.P' [aG (dO b.atoms b.X8 x.s cut kept x.shift x.body).1,aG (dO b.atoms b.X8 x.s cut kept x.shift x.body).2]):=
   Lt b.atoms hb.YT b.X8 hb.flen hb.flo x.s hd cut kept x.shift x.body hk hsh
  have hrg:=zn hb hd (to:=cut) (body:=x.body) hk hsh;have hyl:(x.add (bX b x kept n)).ls.length<=1000000:=hxl;have hyh:(x.add (bX b x kept n)).high=x.high:=rfl;rw[aV]at Zi;generalize dO b.atoms b.X8 x.s cut kept x.shift x.body=R at*;generalize x.add (bX b x kept n)=y at*;have a1:=hJ.row;rw[cZ]at a1;have hflo:=px b R.1 hrg.1 y hyl (λf hf=>by
   have:=hrg.2 f hf;rw[hyh];exact ai) hJ
  have hcb:cut<b.Ym.length:=by have:=hb.brk;omega
  have X2:=λU=>rV (U:=U) hcb;have hgd:b.Ym.getD cut ⟨0,0,0⟩=b.Ym[cut]:=by simp[hcb]
  rw[hgd];generalize b.Ym[cut]=bk at*;refine ab.mix 13 ?_;apply sR;simp only[go_sem,seval,t0,t1,t2,t7,a1,hbk,Gd];refine Go.cm rfl rfl rfl Zi ?_;apply sG;simp only[go_sem,seval,t0];refine ab.call rfl rfl rfl hflo ?_;rintro r Z' ⟨vl',hJ'⟩;clear a1;have a1:=hJ'.row;rw[cZ]at a1;have a6:=hJ'.sub _ _ ag;have hs:=aa.refl Z';apply sR;simp only[go_sem,seval,t0,t2,a1,hbk,IX,X2,e8];refine ad λi12 Z12 s12 a12 f12=>?_;have n112:=ao a1 f12;replace a1:=s12 _ _ a1;have n612:=ao a6 f12;replace a6:=s12 _ _ a6;replace hs:=hs.trans s12;simp only[go_sem,seval,a12,a6,t6,dH,dF,ae n612];exact⟨_,_,aa.refl _,Wk.refl (aa.refl _) _,vf',vl',rfl,(hJ'.mono (hs.ax f12)).drop k6 _⟩
open Go.Proofs Go.Proofs.Tryz
def bf.rt:bf->bf
 |.seq _ b=>b
 |c=>c
def cy{i j:Nat}(h:i≠j):(∀(U:af) (o:Ob),C' U i o j=U j)/\∀(U:af) (o:Ob),C' U j o i=U i:=⟨λ_ _=>ae h.symm,λ_ _=>ae h⟩
def M5(l:List Zj)(s:Zf)(YP:Int):(kK l s YP).y=0:=by
 unfold kK;split<;>rfl
def vJ(b:Bk)(x:Wx):Wx:=(x.add [cq x.high (kK b.atoms x.s x.body)]).put (dO b.atoms b.X8 x.s (x.s.atom+1) 0 0 x.body).1
def wP(b:Bk)(x:Wx):ZY:=⟨dT b.atoms x.s x.body,(dO b.atoms b.X8 x.s (x.s.atom+1) 0 0 x.body).2⟩
def L3(b:Bk)(hb:BkOk b)(x:Wx)(hm:dG b.atoms x.s)(hd:x.s.done<=1152921504606846976)(hx:x.fs.length<=1000000)(hxl:x.ls.length<=1000000)(hh:0<=x.high/\x.high<=1152921504606846976)(u v:Int)
 {K U:af}{i1:Nat}{vh vf vl:V}(hJ:WxJ b K i1 x U vh vf vl):
 au prog 180 [.ptr i1 0 0,vI u,vI v] U λr Z'=>∃vf' vl',r=bF (wP b x)/\WxJ b K i1 (vJ b x) Z' vh vf' vl':=by
 refine W8.r (by simp[J0]) ?_;have hbk:bC b=.agg [aH b.nodes,vI b.w,vI b.h,br b.atoms,aG b.X8,vI b.Yg,bE b.Ym]:=rfl;have a1:=hJ.row;rw[cZ]at a1;obtain⟨ch,sh⟩:=hJ.oh.vc;have hlen:=hb.len;refine ab.mix 12 ?_;have hs:=aa.refl U;apply sR;simp only[go_sem,seval,J0];refine ad λi6 Z6 s6 a6 f6=>?_;replace a1:=s6 _ _ a1;replace hs:=hs.trans s6;have k6:K i6=none:=hJ.sub.none f6;have hJ6:=hJ.pO s6 f6 a6;clear hJ;simp only[go_sem,seval,a1,hbk,kg,cP];have ZR:=Pp b.atoms hb.YT x.s hd x.body;have hw0:=M5 b.atoms x.s x.body;unfold vJ wP;have Zi:=Lt b.atoms hb.YT b.X8 hb.flen hb.flo x.s hd (x.s.atom+1) 0 0 x.body (by omega) (by omega);have hrg:=zn hb hd (to:=x.s.atom+1) (kept:=0) (shift:=0) (body:=x.body) (by omega) (by omega);generalize kK b.atoms x.s x.body=w at*;generalize dT b.atoms x.s x.body=nx at*;generalize dO b.atoms b.X8 x.s (x.s.atom+1) 0 0 x.body=R at*;rw[aV]at ZR Zi;obtain⟨cf,sf⟩:=hJ6.of.vc;obtain⟨cl,sl⟩:=hJ6.ol.vc;have nc:(aV nx).cells=[vI nx.atom,vI nx.done,.bool nx.free]:=rfl;have ns:(aV nx).stays=true:=rfl;have fin:∀(S:Nat->V) (J:af) (i8 i9:Nat),aa Z6 J->((∀(U:af) (o:Ob),C' U i8 o i9=U i9)/\∀(U:af) (o:Ob),C' U i9 o i8=U i8)->Z6 i8=none->Z6 i9=none->J i8=some ⟨63,7,[.agg [vI w.node,vI w.atom,vI w.fr,vI w.x,vI w.y,vI w.w,vI w.h]]⟩->J i9=some ⟨42,3,[.agg [vI nx.atom,vI nx.done,.bool nx.free]]⟩->
  S 0=.ptr i1 0 0->S 6=.ptr i6 0 0->S 7=br b.atoms->S 8=.ptr i8 0 0->S 9=.ptr i9 0 0->
  ab prog 89 [It.code J0.code.rt.rt.rt] ⟨S,J⟩ λst=>Ret [.cell true 4 (.t 6)] st λr Z'=>∃vf' vl',r=bF ⟨nx,R.2⟩/\WxJ b K i1 ((x.add [cq x.high w]).put R.1) Z' vh vf' vl':=by
  intro S J i8 i9 hsZ hn z8 z9 a8 a9 t0 t6 t7 t8 t9;have n69:=ao a6 z9;have k9:=hJ6.sub.none z9;have hJ:=hJ6.pO hsZ z9 a9;have n18:i1≠i8:=ao a1 z8;have a1:=hJ.row;rw[cZ]at a1;have r2:Yl .i64 (w.y+x.high):=ai;have r3:Yl .i64 (x.s.atom+1):=ai (by have:=hm.1;omega) (by have:=hm.1;omega);have z8:=z8;refine ab.mix 12 ?_;apply sR;simp only[go_sem,seval,J0,bf.rt,t0,t8,a8,a1,r2,ae n18];generalize hq8:C' J i8 _=Y8;replace a8:=(congrFun hq8 i8).symm.trans ag;replace a9:=((congrFun hq8 i9).symm.trans (hn.1 _ _)).trans a9;replace hJ:=hJ6.pO (hq8▸hsZ.ax z8) z9 a9;clear hq8;refine aW λi50 Z50 s50 a50 f50=>?_;have hJ9:=hJ.mono s50;obtain⟨Yn,ZV,hgr⟩:=zu hJ9.sub hJ9.no hJ9.row hJ9.of;have hfl:(x.fs.map bb).length<=1000000:=by simpa using hx
  generalize hrw:x.fs.map bb=rows at*;have Zl:(rows.length+1)*57<=140737488355328:=by omega
  simp only[go_sem,seval,ZV,cT a50,Zl];refine kQ λi51 Z51 s51 a51 f51=>?_;obtain⟨b1,hg⟩:=hgr Z51 i51 _ s51 a51 f51;rw[cZ]at b1;obtain⟨g1,g2,g3⟩:=hg (cZ b (x.add [cq x.high w]) vh (.own i51 0 (rows.length+1)) vl);have hJa:WxJ b (C' (C' K i6 ⟨45,4,[.agg [vI 0,vI 0,.bool false,.aC]]⟩) i9 ⟨42,3,[.agg [vI nx.atom,vI nx.done,.bool nx.free]]⟩) i1 (x.add [cq x.high w]) (C' Z51 i1 (cZ b (x.add [cq x.high w]) vh (.own i51 0 (rows.length+1)) vl)) vh (.own i51 0 (rows.length+1)) vl:=by
   obtain⟨k1,k2⟩:=g3 _ _ hJ9.oh hJ9.hf.symm;obtain⟨k3,k4⟩:=g3 _ _ hJ9.ol hJ9.fl;rw[gZ]at g2 k2 k4;refine⟨ag,k1,?_,k3,k2.symm,hJ9.hl,k4,g1,hJ9.no⟩;show aL _ _ _ _ _ ((x.fs++[cq x.high w]).map bb);rw[gl,hrw];exact g2
  have hya:(x.add [cq x.high w]).high=x.high:=rfl;have hys:(x.add [cq x.high w]).ls=x.ls:=rfl;have hxl':(x.add [cq x.high w]).ls.length<=1000000:=hxl;generalize hY:x.add [cq x.high w]=y at*;simp only[go_sem,seval,b1,t0,t7,hbk,Gd,r3];generalize hq1:C' Z51 i1 _=Y1;have hJb:=hJa;rw[show C' Z51 i1 (cZ b y vh (.own i51 0 (rows.length+1)) vl)=Y1 by rw[<-hq1,cZ,<-hY];rfl]at hJb;clear hJa hq1;refine Go.cm rfl rfl rfl Zi ?_;apply sG;simp only[go_sem,seval,t0];refine ab.call rfl rfl rfl (px b R.1 hrg.1 y hxl' (λf hf=>by
   have:=hrg.2 f hf;rw[hya];exact ai) hJb) ?_
  rintro r Z' ⟨vl',hJ'⟩;have c9:=hJ'.sub _ _ ag;have c6:=hJ'.sub i6 _ ((ae n69).trans ag);apply sR;simp only[go_sem,seval,t6,t9,c9,c6,dH,dF];exact⟨_,_,aa.refl _,Wk.refl (aa.refl _) _,_,vl',rfl,(hJ'.narrow k9).drop k6 _⟩
 have a8:True:=trivial;have a9:True:=trivial;have hn:True:=trivial;have YL:=aa.refl Z6;refine ab.Et (by kernel_rfl) 8 (.fork [[],[],[1],[2,1],[3,2,1],[],[5],[6,5],[7,6,5],[8,7,6,5],[0,4,9,3,2,1,8,7,6,5],[10,0,4,9,3,2,1,8,7,6,5],[11,10,0,4,9,3,2,1,8,7,6,5],[11,10,0,4,9,3,2,1,8,7,6,5],[],[],[14,12,10,0,1,2,3,4,5,6,7,8,9,11,15],[15,13,16,0,1,2,3,4,5,6,7,8,9,10,11,12,14]] [0,1,2,3,4,5,6,7,8,9] [10,14,15] [(.fork [[],[],[1],[2,1],[3,2,1],[],[5],[6,5],[7,6,5],[8,7,6,5],[0,4,9,3,2,1,8,7,6,5],[10,0,4,9,3,2,1,8,7,6,5],[11,10,0,4,9,3,2,1,8,7,6,5],[11,10,0,4,9,3,2,1,8,7,6,5],[10,0,4,9,3,2,1,8,7,6,5],[10,0,4,9,3,2,1,8,7,6,5],[10,0,4,9,3,2,1,8,7,6,5,14,12,11,15],[10,0,4,9,3,2,1,8,7,6,5,15,13,16,11,12,14]] [10,11,12,13] [14,15] [(.leaf [[],[],[1],[2,1],[3,2,1],[],[5],[6,5],[7,6,5],[8,7,6,5],[0,4,9,3,2,1,8,7,6,5],[10,0,4,9,3,2,1,8,7,6,5],[11,10,0,4,9,3,2,1,8,7,6,5],[11,10,0,4,9,3,2,1,8,7,6,5],[10,0,4,9,3,2,1,8,7,6,5],[14,10,0,4,9,3,2,1,8,7,6,5],[14,10,0,4,9,3,2,1,8,7,6,5,12,11,15],[14,10,0,4,9,3,2,1,8,7,6,5,15,13,16,11,12]] [14,15,16,17]),(.leaf [[],[],[1],[2,1],[3,2,1],[],[5],[6,5],[7,6,5],[8,7,6,5],[0,4,9,3,2,1,8,7,6,5],[10,0,4,9,3,2,1,8,7,6,5],[11,10,0,4,9,3,2,1,8,7,6,5],[11,10,0,4,9,3,2,1,8,7,6,5],[15,10,0,4,9,3,2,1,8,7,6,5],[10,0,4,9,3,2,1,8,7,6,5],[15,10,0,4,9,3,2,1,8,7,6,5,14,12,11],[15,10,0,4,9,3,2,1,8,7,6,5,13,16,11,12,14]] [15,14,16,17])]),(.fork [[],[],[1],[2,1],[3,2,1],[],[5],[6,5],[7,6,5],[8,7,6,5],[14,0,4,9,3,2,1,8,7,6,5],[14,10,0,4,9,3,2,1,8,7,6,5],[14,11,10,0,4,9,3,2,1,8,7,6,5],[14,11,10,0,4,9,3,2,1,8,7,6,5],[],[14],[14,12,10,0,1,2,3,4,5,6,7,8,9,11,15],[14,15,13,16,0,1,2,3,4,5,6,7,8,9,10,11,12]] [14] [10,15] [(.leaf [[],[],[1],[2,1],[3,2,1],[],[5],[6,5],[7,6,5],[8,7,6,5],[14,0,4,9,3,2,1,8,7,6,5],[14,10,0,4,9,3,2,1,8,7,6,5],[14,11,10,0,4,9,3,2,1,8,7,6,5],[14,11,10,0,4,9,3,2,1,8,7,6,5],[],[10,14,0,4,9,3,2,1,8,7,6,5],[10,14,0,4,9,3,2,1,8,7,6,5,12,11,15],[10,14,0,4,9,3,2,1,8,7,6,5,15,13,16,11,12]] [10,11,12,13,15,16,17]),(.leaf [[],[],[1],[2,1],[3,2,1],[],[5],[6,5],[7,6,5],[8,7,6,5],[15,14,0,4,9,3,2,1,8,7,6,5],[15,14,10,0,4,9,3,2,1,8,7,6,5],[15,14,11,10,0,4,9,3,2,1,8,7,6,5],[15,14,11,10,0,4,9,3,2,1,8,7,6,5],[],[14],[15,14,12,10,0,1,2,3,4,5,6,7,8,9,11],[15,14,13,16,0,1,2,3,4,5,6,7,8,9,10,11,12]] [15,10,11,12,13,16,17])]),(.fork [[],[],[1],[2,1],[3,2,1],[],[5],[6,5],[7,6,5],[8,7,6,5],[15,0,4,9,3,2,1,8,7,6,5],[15,10,0,4,9,3,2,1,8,7,6,5],[15,11,10,0,4,9,3,2,1,8,7,6,5],[15,11,10,0,4,9,3,2,1,8,7,6,5],[15],[],[15,14,12,10,0,1,2,3,4,5,6,7,8,9,11],[15,13,16,0,1,2,3,4,5,6,7,8,9,10,11,12,14]] [15] [10,14] [(.leaf [[],[],[1],[2,1],[3,2,1],[],[5],[6,5],[7,6,5],[8,7,6,5],[15,0,4,9,3,2,1,8,7,6,5],[15,10,0,4,9,3,2,1,8,7,6,5],[15,11,10,0,4,9,3,2,1,8,7,6,5],[15,11,10,0,4,9,3,2,1,8,7,6,5],[10,15,0,4,9,3,2,1,8,7,6,5],[],[10,15,0,4,9,3,2,1,8,7,6,5,14,12,11],[10,15,0,4,9,3,2,1,8,7,6,5,13,16,11,12,14]] [10,11,12,13,14,16,17]),(.leaf [[],[],[1],[2,1],[3,2,1],[],[5],[6,5],[7,6,5],[8,7,6,5],[14,15,0,4,9,3,2,1,8,7,6,5],[14,15,10,0,4,9,3,2,1,8,7,6,5],[14,15,11,10,0,4,9,3,2,1,8,7,6,5],[14,15,11,10,0,4,9,3,2,1,8,7,6,5],[15],[],[14,15,12,10,0,1,2,3,4,5,6,7,8,9,11],[14,15,13,16,0,1,2,3,4,5,6,7,8,9,10,11,12]] [14,10,11,12,13,16,17])])]) (by kernel_rfl) ?_;refine GT.OE (its:=[0,2,4,6,8,10,12,14,16,18]) (by kernel_rfl) ?_;refine RE.Zy (n:=0) [] [0,2,4,6,8,10,12,14,16,18] [⟨(.some 21),(.YH (.t 7)),.none⟩,⟨(.some 22),(.YH (.t 0)),.none⟩,⟨(.some 23),(.nilCheck (.t 22)),.none⟩,⟨(.some 24),(.YB .true 4 3 (.t 23)),.none⟩,⟨(.some 25),(.load .true 3 (.t 24)),.none⟩,⟨(.some 26),(.YH (.t 0)),.none⟩,⟨(.some 27),(.nilCheck (.t 26)),.none⟩,⟨(.some 28),(.YB .true 0 3 (.t 27)),.none⟩,⟨(.some 29),(.YB .false 2 1 (.t 28)),.none⟩,⟨(.some 30),(.load .false 1 (.t 29)),.none⟩] rfl rfl ?_;apply sG;simp only[go_sem,seval,a1];refine⟨?_,?_,?_⟩
 .refine GT.nW (its:=[20,22,24,26]) (by kernel_rfl) ?_;refine RE.ay rfl rfl rfl rfl rfl (ZR _) ?_;refine RE.Zy (n:=0) [] [22,24,26] [⟨(.some 20),(.YH (.t 31)),.none⟩,⟨(.some 32),(.ext 0 (.t 20)),.none⟩,⟨(.some 33),(.ext 1 (.t 20)),.none⟩] rfl rfl ?_;apply sG;simp only[go_sem,seval,bb];refine⟨?_,?_⟩
  .refine GT.gr (its:=[28,30,32,34]) (by kernel_rfl) ?_;refine RE.Zy (n:=0) [] [28,30,32,34] [⟨(.some 8),(.alloc 63 7 (.agg [(.int .i64 0),(.int .i64 0),(.int .i64 0),(.int .i64 0),(.int .i64 0),(.int .i64 0),(.int .i64 0)])),.none⟩,⟨(.some 9),(.alloc 42 3 (.agg [(.int .i64 0),(.int .i64 0),(.bool .false)])),.none⟩,⟨.none,(.store 7 (.t 8) (.t 32)),.none⟩,⟨.none,(.store 3 (.t 9) (.t 33)),.none⟩] rfl rfl ?_;apply sG;simp only[go_sem,seval];refine aW λi8 Z8 s8 a8 f8=>?_;replace a1:=s8 _ _ a1
   try replace hn:=cy (ao a9 f8).symm
   try replace a9:=s8 _ _ a9
   have z8:=YL.none f8;replace YL:=YL.trans s8;simp only[go_sem,seval];refine aW λi9 Z9 s9 a9 f9=>?_;replace a1:=s9 _ _ a1
   try replace hn:=cy (ao a8 f9)
   try replace a8:=s9 _ _ a8
   have z9:=YL.none f9;replace YL:=YL.trans s9;simp only[go_sem,seval,nc,ns,a8,a9,hn];exact fin _ _ i8 i9 ((YL.ax z8).ax z9) hn z8 z9 ((hn.2 _ _).trans ag) ag rfl rfl rfl rfl rfl
  .refine GT.gr (its:=[30,28,32,34]) (by kernel_rfl) ?_;refine RE.Zy (n:=0) [] [30,28,32,34] [⟨(.some 9),(.alloc 42 3 (.agg [(.int .i64 0),(.int .i64 0),(.bool .false)])),.none⟩,⟨(.some 8),(.alloc 63 7 (.agg [(.int .i64 0),(.int .i64 0),(.int .i64 0),(.int .i64 0),(.int .i64 0),(.int .i64 0),(.int .i64 0)])),.none⟩,⟨.none,(.store 7 (.t 8) (.t 32)),.none⟩,⟨.none,(.store 3 (.t 9) (.t 33)),.none⟩] rfl rfl ?_;apply sG;simp only[go_sem,seval];refine aW λi9 Z9 s9 a9 f9=>?_;replace a1:=s9 _ _ a1
   try replace hn:=cy (ao a8 f9)
   try replace a8:=s9 _ _ a8
   have z9:=YL.none f9;replace YL:=YL.trans s9;simp only[go_sem,seval];refine aW λi8 Z8 s8 a8 f8=>?_;replace a1:=s8 _ _ a1
   try replace hn:=cy (ao a9 f8).symm
   try replace a9:=s8 _ _ a9
   have z8:=YL.none f8;replace YL:=YL.trans s8;simp only[go_sem,seval,nc,ns,a8,a9,hn];exact fin _ _ i8 i9 ((YL.ax z8).ax z9) hn z8 z9 ((hn.2 _ _).trans ag) ag rfl rfl rfl rfl rfl
 .refine GT.nW (its:=[28,9,19]) (by kernel_rfl) ?_;refine RE.Zy (n:=0) [9,19] [28] [⟨(.some 8),(.alloc 63 7 (.agg [(.int .i64 0),(.int .i64 0),(.int .i64 0),(.int .i64 0),(.int .i64 0),(.int .i64 0),(.int .i64 0)])),.none⟩] rfl rfl ?_;apply sG;simp only[go_sem,seval];refine aW λi8 Z8 s8 a8 f8=>?_;replace a1:=s8 _ _ a1
  try replace hn:=cy (ao a9 f8).symm
  try replace a9:=s8 _ _ a9
  have z8:=YL.none f8;replace YL:=YL.trans s8;simp only[go_sem,seval];refine RE.chk rfl rfl rfl rfl rfl trivial (by simp only[go_sem,seval,a1]) ?_;refine RE.chk rfl rfl rfl rfl rfl trivial (by simp only[go_sem,seval,a1]) ?_;refine⟨?_,?_⟩
  .refine GT.gr (its:=[20,22,24,26,30,32,34]) (by kernel_rfl) ?_;refine RE.ay rfl rfl rfl rfl rfl (ZR _) ?_;refine RE.Zy (n:=0) [] [22,24,26,30,32,34] [⟨(.some 20),(.YH (.t 31)),.none⟩,⟨(.some 32),(.ext 0 (.t 20)),.none⟩,⟨(.some 33),(.ext 1 (.t 20)),.none⟩,⟨(.some 9),(.alloc 42 3 (.agg [(.int .i64 0),(.int .i64 0),(.bool .false)])),.none⟩,⟨.none,(.store 7 (.t 8) (.t 32)),.none⟩,⟨.none,(.store 3 (.t 9) (.t 33)),.none⟩] rfl rfl ?_;apply sG;simp only[go_sem,seval,bb];refine aW λi9 Z9 s9 a9 f9=>?_;replace a1:=s9 _ _ a1
   try replace hn:=cy (ao a8 f9)
   try replace a8:=s9 _ _ a8
   have z9:=YL.none f9;replace YL:=YL.trans s9;simp only[go_sem,seval,nc,ns,a8,a9,hn];exact fin _ _ i8 i9 ((YL.ax z8).ax z9) hn z8 z9 ((hn.2 _ _).trans ag) ag rfl rfl rfl rfl rfl
  .refine GT.gr (its:=[30,9,19,20,22,24,26,32,34]) (by kernel_rfl) ?_;refine RE.Zy (n:=0) [9,19,20,22,24,26,32,34] [30] [⟨(.some 9),(.alloc 42 3 (.agg [(.int .i64 0),(.int .i64 0),(.bool .false)])),.none⟩] rfl rfl ?_;apply sG;simp only[go_sem,seval];refine aW λi9 Z9 s9 a9 f9=>?_;replace a1:=s9 _ _ a1
   try replace hn:=cy (ao a8 f9)
   try replace a8:=s9 _ _ a8
   have z9:=YL.none f9;replace YL:=YL.trans s9;simp only[go_sem,seval];refine RE.chk rfl rfl rfl rfl rfl trivial (by simp only[go_sem,seval,a1]) ?_;refine RE.chk rfl rfl rfl rfl rfl trivial (by simp only[go_sem,seval,a1]) ?_;refine RE.ay rfl rfl rfl rfl rfl (ZR _) ?_;refine RE.Zy (n:=0) [] [22,24,26,32,34] [⟨(.some 20),(.YH (.t 31)),.none⟩,⟨(.some 32),(.ext 0 (.t 20)),.none⟩,⟨(.some 33),(.ext 1 (.t 20)),.none⟩,⟨.none,(.store 7 (.t 8) (.t 32)),.none⟩,⟨.none,(.store 3 (.t 9) (.t 33)),.none⟩] rfl rfl ?_;apply sG;simp only[go_sem,seval,bb,nc,ns,a8,a9,hn];exact fin _ _ i8 i9 ((YL.ax z8).ax z9) hn z8 z9 ((hn.2 _ _).trans ag) ag rfl rfl rfl rfl rfl
 .refine GT.nW (its:=[30,9,19]) (by kernel_rfl) ?_;refine RE.Zy (n:=0) [9,19] [30] [⟨(.some 9),(.alloc 42 3 (.agg [(.int .i64 0),(.int .i64 0),(.bool .false)])),.none⟩] rfl rfl ?_;apply sG;simp only[go_sem,seval];refine aW λi9 Z9 s9 a9 f9=>?_;replace a1:=s9 _ _ a1
  try replace hn:=cy (ao a8 f9)
  try replace a8:=s9 _ _ a8
  have z9:=YL.none f9;replace YL:=YL.trans s9;simp only[go_sem,seval];refine RE.chk rfl rfl rfl rfl rfl trivial (by simp only[go_sem,seval,a1]) ?_;refine RE.chk rfl rfl rfl rfl rfl trivial (by simp only[go_sem,seval,a1]) ?_;refine⟨?_,?_⟩
  .refine GT.gr (its:=[20,22,24,26,28,32,34]) (by kernel_rfl) ?_;refine RE.ay rfl rfl rfl rfl rfl (ZR _) ?_;refine RE.Zy (n:=0) [] [22,24,26,28,32,34] [⟨(.some 20),(.YH (.t 31)),.none⟩,⟨(.some 32),(.ext 0 (.t 20)),.none⟩,⟨(.some 33),(.ext 1 (.t 20)),.none⟩,⟨(.some 8),(.alloc 63 7 (.agg [(.int .i64 0),(.int .i64 0),(.int .i64 0),(.int .i64 0),(.int .i64 0),(.int .i64 0),(.int .i64 0)])),.none⟩,⟨.none,(.store 7 (.t 8) (.t 32)),.none⟩,⟨.none,(.store 3 (.t 9) (.t 33)),.none⟩] rfl rfl ?_;apply sG;simp only[go_sem,seval,bb];refine aW λi8 Z8 s8 a8 f8=>?_;replace a1:=s8 _ _ a1
   try replace hn:=cy (ao a9 f8).symm
   try replace a9:=s8 _ _ a9
   have z8:=YL.none f8;replace YL:=YL.trans s8;simp only[go_sem,seval,nc,ns,a8,a9,hn];exact fin _ _ i8 i9 ((YL.ax z8).ax z9) hn z8 z9 ((hn.2 _ _).trans ag) ag rfl rfl rfl rfl rfl
  .refine GT.gr (its:=[28,9,19,20,22,24,26,32,34]) (by kernel_rfl) ?_;refine RE.Zy (n:=0) [9,19,20,22,24,26,32,34] [28] [⟨(.some 8),(.alloc 63 7 (.agg [(.int .i64 0),(.int .i64 0),(.int .i64 0),(.int .i64 0),(.int .i64 0),(.int .i64 0),(.int .i64 0)])),.none⟩] rfl rfl ?_;apply sG;simp only[go_sem,seval];refine aW λi8 Z8 s8 a8 f8=>?_;replace a1:=s8 _ _ a1
   try replace hn:=cy (ao a9 f8).symm
   try replace a9:=s8 _ _ a9
   have z8:=YL.none f8;replace YL:=YL.trans s8;simp only[go_sem,seval];refine RE.chk rfl rfl rfl rfl rfl trivial (by simp only[go_sem,seval,a1]) ?_;refine RE.chk rfl rfl rfl rfl rfl trivial (by simp only[go_sem,seval,a1]) ?_;refine RE.ay rfl rfl rfl rfl rfl (ZR _) ?_;refine RE.Zy (n:=0) [] [22,24,26,32,34] [⟨(.some 20),(.YH (.t 31)),.none⟩,⟨(.some 32),(.ext 0 (.t 20)),.none⟩,⟨(.some 33),(.ext 1 (.t 20)),.none⟩,⟨.none,(.store 7 (.t 8) (.t 32)),.none⟩,⟨.none,(.store 3 (.t 9) (.t 33)),.none⟩] rfl rfl ?_;apply sG;simp only[go_sem,seval,bb,nc,ns,a8,a9,hn];exact fin _ _ i8 i9 ((YL.ax z8).ax z9) hn z8 z9 ((hn.2 _ _).trans ag) ag rfl rfl rfl rfl rfl
open Go.Proofs Go.Proofs.Tryz
def zA{b:Bk}(hb:BkOk b){s:Zf}(h:dG b.atoms s):0<=s.done/\s.done<=18014398509481984:=by
 obtain⟨⟨h0,h1⟩,h2,h3⟩:=h;obtain⟨k,hk⟩:∃k:Nat,s.atom=k:=⟨s.atom.toNat,by omega⟩
 have hkl:k<b.atoms.length:=by omega
 have:=hb.tight _ (Zr hkl);rw[hk,aZ hkl]at h3;omega
def yn{b:Bk}(hb:BkOk b)(k:Int):-18014398509481984<=iH b.atoms k/\iH b.atoms k<=36028797018963968:=by
 unfold iH;split
 .rename_i h;obtain⟨n,rfl⟩:∃n:Nat,k=n:=⟨k.toNat,by omega⟩
  have hn:n<b.atoms.length:=by omega
  have:=hb.tight _ (Zr hn);rw[aZ hn];omega
 .omega
def Hu{b:Bk}(hb:BkOk b)(s:Zf)(YP:Int):-1152921504606846976<=rN b.atoms s YP/\rN b.atoms s YP<=2305843009213693952:=by
 unfold rN pB;split
 .split
  .rename_i h;have h1:=yn hb (s.atom-1);obtain⟨n,hn⟩:∃n:Nat,s.atom=n:=⟨s.atom.toNat,by omega⟩
   have hnl:n<b.atoms.length:=by omega
   have:=hb.tight _ (Zr hnl);rw[hn]at h1|-;rw[aZ hnl];omega
  .omega
 .omega
def oT{l:List Zj}{s:Zf}{kept shift body:Int}:nM l s kept shift body<=l.length:=by
 unfold nM;split
 .rename_i h;have:=FA (ft l s kept shift body) (l.length-s.atom.toNat);have:=h.1;omega
 .omega
def G2(ah:Fd->Fd->Bool->Bool):∀(xs:List Fd) (d:Fd),(fq ah xs d).1=d\/(fq ah xs d).1∈xs:=by
 have key:∀(xs:List Fd) (p:Fd×Bool),(xs.foldl (gb ah) p).1=p.1\/(xs.foldl (gb ah) p).1∈xs:=by
  intro xs
  induction xs with
  |nil=>intro p;exact .inl rfl
  |cons x xs ih=>
   intro p;rw[j5];rcases ih (gb ah p x)with h|h
   .rw[h];unfold gb;split
    .exact .inr (by simp)
    .exact .inl rfl
   .exact .inr (by simp[h])
 exact λxs d=>key xs (d,false)
def Hm{xs:List Fd}(h:xs≠[])(d:Fd):(fq jM xs d).1∈xs:=by
 obtain⟨x,xs,rfl⟩:∃x l,xs=x::l:=by cases xs with
  |nil=>exact absurd rfl h
  |cons x l=>exact⟨x,l,rfl⟩
 unfold fq;rw[j5];have:gb jM (d,false) x=(x,true):=by simp[gb,jM]
 rw[this];have key:∀(xs:List Fd) (p:Fd×Bool),(xs.foldl (gb jM) p).1=p.1\/(xs.foldl (gb jM) p).1∈xs:=by
  intro xs
  induction xs with
  |nil=>intro p;exact .inl rfl
  |cons x xs ih=>
   intro p;rw[j5];rcases ih (gb jM p x)with h|h
   .rw[h];unfold gb;split
    .exact .inr (by simp)
    .exact .inl rfl
   .exact .inr (by simp[h])
 rcases key xs (x,true)with h|h
 .rw[h];simp
 .simp[h]
def qZ{b:List Brk}{i fit:Int}(h:fv b i fit)(hf:fit<=(b.length:Int)-1):∃c:Nat,ye b i fit=c/\i<c/\(c:Int)<=fit:=by
 obtain⟨_,h1,h2,h3⟩:=h;have mem:∀x∈(btw b (i+1) fit).map (oe b),∃c:Nat,x.i=c/\i<c/\(c:Int)<=fit:=λx hx=>by
  obtain⟨k,hk,rfl⟩:=gg.1 hx;unfold btw xS at hk;rw[List.mem_range'_1]at hk;exact⟨k,rfl,by omega,by omega⟩
 unfold ye;split
 .refine mem _ (Hm ?_ _);intro e;have:=congrArg List.length e;simp[btw,xS]at this;omega
 .rename_i hn;rcases G2 iC ((btw b (i+1) fit).map (oe b)) CZ with h|h
  .exact absurd (show mV b (i+1) fit<0 by unfold mV;rw[h];decide) hn
  .exact mem _ h
def WxJ.set{b:Bk}{K:af}{ix:Nat}{x:Wx}{U:af}{vh vf vl:V}(h:WxJ b K ix x U vh vf vl)(x':Wx)(h1:x'.hs=x.hs)(h2:x'.fs=x.fs)(h3:x'.ls=x.ls):WxJ b K ix x' (C' U ix (cZ b x' vh vf vl)) vh vf vl:=by
 have k2:aU K ix ix≠none:=λh=>(aF.1 h).1 rfl;exact⟨Vc.ag,h1▸h.oh.ae k2,h2▸h.of.ae k2,h3▸h.ol.ae k2,h.hf,h.hl,h.fl,h.sub.ax h.no,h.no⟩
def dN(b:Bk)(x:Wx):Int:=rN b.atoms x.s (x.body-x.shift)
def dQ(b:Bk)(x:Wx):Int:=nM b.atoms x.s (dN b x) x.shift x.body
def yc(b:Bk)(x:Wx):Int:=ye b.Ym x.s.atom (dQ b x)
def wz(b:Bk)(x:Wx)(kept:Int)(cut:Nat):Wx:=(x.add (bX b x kept (cut-x.s.atom.toNat))).put (dO b.atoms b.X8 x.s cut kept x.shift x.body).1
def zW(b:Bk)(x:Wx)(kept:Int)(cut:Nat):ZY:=⟨⟨cut,0,decide ((b.Ym.getD cut ⟨0,0,0⟩).forced≠0)⟩,(dO b.atoms b.X8 x.s cut kept x.shift x.body).2⟩
def dM(b:Bk)(x:Wx):Wx:=if fv b.Ym x.s.atom (dQ b x)then wz b { x with kind:=1 } (dN b x) (yc b x).toNat else vJ b { x with kind:=1 }
def eG(b:Bk)(x:Wx):ZY:=if fv b.Ym x.s.atom (dQ b x)then zW b { x with kind:=1 } (dN b x) (yc b x).toNat else wP b { x with kind:=1 }
def L9(b:Bk)(hb:BkOk b)(x:Wx)(hm:dG b.atoms x.s)(hx:x.fs.length<=1000000)(hxl:x.ls.length<=1000000)(hh:0<=x.high/\x.high<=1125899906842624)(hbd:0<=x.body/\x.body<=1125899906842624)
 (hsh:0<=x.shift/\x.shift<=1125899906842624){K U:af}{i1:Nat}{vh vf vl:V}(hJ:WxJ b K i1 x U vh vf vl):
 au prog 120 [.ptr i1 0 0] U λr Z'=>∃vf' vl',r=bF (eG b x)/\WxJ b K i1 (dM b x) Z' vh vf' vl':=by
 refine VN.r (by simp[OK]) ?_;have hs:=aa.refl U;have hbk:bC b=.agg [aH b.nodes,vI b.w,vI b.h,br b.atoms,aG b.X8,vI b.Yg,bE b.Ym]:=rfl;have a1:=hJ.row;rw[cZ]at a1;obtain⟨ch,sh⟩:=hJ.oh.vc;obtain⟨cf,sf⟩:=hJ.of.vc;obtain⟨cl,sl⟩:=hJ.ol.vc;have hd:=zA hb hm;have hk:=Hu hb x.s (x.body-x.shift);have hlen:=hb.len;have ZE:=hb.brk;have hKc:=Ny b.atoms hb.YT x.s (x.body-x.shift);have hRc:=JD b.atoms hb.YT x.s (by omega) (dN b x) x.shift x.body hk ⟨by omega,by omega⟩;have hCc:=Rb b.Ym (by omega) x.s.atom (dQ b x);have hrl:dQ b x<=b.atoms.length:=oT;have hcr:fv b.Ym x.s.atom (dQ b x)->∃c:Nat,yc b x=c/\x.s.atom<c/\(c:Int)<=dQ b x:=λh=>qZ h (by omega);have hXk:dN b x=rN b.atoms x.s (x.body-x.shift):=rfl;rw[<-hXk]at hKc hk;have hXr:dQ b x=nM b.atoms x.s (dN b x) x.shift x.body:=rfl;rw[<-hXr]at hRc;have hXc:yc b x=ye b.Ym x.s.atom (dQ b x):=rfl;rw[<-hXc]at hCc;have r1:Yl .i64 (x.body-x.shift):=ai;rw[aV]at hKc hRc;unfold dM eG;generalize dN b x=kept at*;generalize dQ b x=reach at*;generalize yc b x=cut at*;refine ab.mix 8 ?_;apply sR;simp only[go_sem,seval,OK];refine ad λi2 Z2 s2 a2 f2=>?_;replace a1:=s2 _ _ a1;replace hs:=hs.trans s2;have k2:K i2=none:=hJ.sub.none f2;have hJ2:=hJ.pO s2 f2 a2;simp only[go_sem,seval,a1,hbk,kg,r1];refine Go.cm rfl rfl rfl hKc ?_;apply sG;simp only[go_sem,seval,a1,hbk,IX];refine Go.cm rfl rfl rfl hRc ?_;apply sG;simp only[go_sem,seval];refine Go.cm rfl rfl rfl hCc ?_;have hJs:=hJ2.set { x with kind:=1 } rfl rfl rfl;rw[cZ]at hJs;by_cases M':fv b.Ym x.s.atom reach
 .obtain⟨c,rfl,h1,h2⟩:=hcr M';rw[ZG M',ar M',ar M',ar M',eX];apply sG;simp only[go_sem,seval,a1];generalize hq1:C' Z2 i1 _=Y1 at*;have hw:au prog 181 [.ptr i1 0 0,vI kept,vI c] Y1 λr Z'=>∃vf' vl',r=bF (zW b { x with kind:=1 } kept c)/\WxJ b (C' K i2 ⟨45,4,[.agg [vI 0,vI 0,.bool false,.aC]]⟩) i1 (wz b { x with kind:=1 } kept c) Z' vh vf' vl':=I7 b hb { x with kind:=1 } hm (by show x.s.done<=_;omega) hx hxl (by show 0<=x.high/\x.high<=_;omega) kept hk (by show 0<=x.shift/\x.shift<=_;omega) c (by show x.s.atom<=_;omega) (by omega) hJs;generalize zW b { x with kind:=1 } kept c=Z at*;generalize wz b { x with kind:=1 } kept c=Y at*;refine ab.ld rfl rfl rfl hw ?_;rintro r Z' ⟨vf',vl',rfl,hJ'⟩;have c2:=hJ'.sub _ _ ag;apply sR;simp only[go_sem,seval,c2,bF];exact⟨_,_,aa.refl _,Wk.refl (aa.refl _) _,vf',vl',rfl,hJ'.drop k2 _⟩
 .rw[Zu M',av M',av M',av M'];apply sG;simp only[go_sem,seval,a1];generalize hq1:C' Z2 i1 _=Y1 at*;have hw:au prog 180 [.ptr i1 0 0,vI kept,vI 0] Y1 λr Z'=>∃vf' vl',r=bF (wP b { x with kind:=1 })/\WxJ b (C' K i2 ⟨45,4,[.agg [vI 0,vI 0,.bool false,.aC]]⟩) i1 (vJ b { x with kind:=1 }) Z' vh vf' vl':=L3 b hb { x with kind:=1 } hm (by show x.s.done<=_;omega) hx hxl (by show 0<=x.high/\x.high<=_;omega) kept 0 hJs;generalize wP b { x with kind:=1 }=Z at*;generalize vJ b { x with kind:=1 }=Y at*;refine ab.ld rfl rfl rfl hw ?_;rintro r Z' ⟨vf',vl',rfl,hJ'⟩;have c2:=hJ'.sub _ _ ag;apply sR;simp only[go_sem,seval,c2,bF];exact⟨_,_,aa.refl _,Wk.refl (aa.refl _) _,vf',vl',rfl,hJ'.drop k2 _⟩
open Go.Proofs Go.Proofs.Tryz
def kU(body:Int)(f:U'):Bool:=decide (f.y+f.h<=body)
def y7(b:Bk)(x:Wx):Wx:={ (x.put (b.X8.takeWhile (kU x.body)))with kind:=2 }
def me(b:Bk)(x:Wx):ZY:=⟨⟨0,0,false⟩,b.X8.dropWhile (kU x.body)⟩
def DD{P:List U'}{j:Nat}(h:j<=P.length):∀U,ek U 7 (aG P) none (some (.int .i64 j)) none=some (aG (P.take j)):=λU=>by
 have h1:(j:Int)<=P.length:=by omega
 simp only[aG,ek,bS,cL];rw[ar ⟨Int.le_refl _,by omega,h1,Int.le_refl _,trivial⟩];simp[List.map_take]
def zP{α:Type}{p:α->Bool}:∀{l:List α} {j:Nat},(∀x∈l.take j,p x=true)->(∀x,l[j]?=some x->p x=false)->j<=l.length->l.takeWhile p=l.take j/\l.dropWhile p=l.drop j
 |[],j,_,_,h=>by simp
 |x::l,0,_,h2,_=>by
  have:=h2 x rfl;simp[this]
 |x::l,j+1,h1,h2,h=>by
  have hx:=h1 x (by simp);have ih:=zP (p:=p) (l:=l) (j:=j) (λy hy=>h1 y (by simp[hy])) (λy hy=>h2 y (by simpa using hy)) (by simpa using h);simp[hx,ih.1,ih.2]
def J9(b:Bk)(hb:BkOk b)(x:Wx)(hxl:x.ls.length<=1000000)(hh:0<=x.high/\x.high<=1125899906842624){K U:af}{i1:Nat}{vh vf vl:V}(hJ:WxJ b K i1 x U vh vf vl):
 au prog 116 [.ptr i1 0 0] U λr Z'=>∃vl',r=bF (me b x)/\WxJ b K i1 (y7 b x) Z' vh vf vl':=by
 refine Wc.r (by simp[R4]) ?_;have hs:=aa.refl U;have hbk:bC b=.agg [aH b.nodes,vI b.w,vI b.h,br b.atoms,aG b.X8,vI b.Yg,bE b.Ym]:=rfl;have a1:=hJ.row;rw[cZ]at a1;obtain⟨ch,sh⟩:=hJ.oh.vc;obtain⟨cf,sf⟩:=hJ.of.vc;obtain⟨cl,sl⟩:=hJ.ol.vc;have hfn:=hb.flen;have hlp:=fX b.X8;unfold y7 me;refine ab.mix 5 ?_;apply sR;simp only[go_sem,seval,R4];refine ad λi2 Z2 s2 a2 f2=>?_;have n12:=ao a1 f2;replace a1:=s2 _ _ a1;replace hs:=hs.trans s2;have k2:K i2=none:=hJ.sub.none f2;have hJ2:=hJ.pO s2 f2 a2;simp only[go_sem,seval,a1,hbk,Gd];refine ab.fj (λst=>∃j:Nat,j<=b.X8.length/\b.X8.takeWhile (kU x.body)=b.X8.take j/\b.X8.dropWhile (kU x.body)=b.X8.drop j/\st.U=Z2/\st.s 0=.ptr i1 0 0/\st.s 2=.ptr i2 0 0/\st.s 3=vI j/\st.s 4=aG b.X8)
  (λm st=>∃j:Nat,j<=b.X8.length/\m=b.X8.length-j/\(∀f∈b.X8.take j,kU x.body f=true)/\st.U=Z2/\st.s 0=.ptr i1 0 0/\st.s 2=.ptr i2 0 0/\st.s 3=vI j/\st.s 4=aG b.X8) b.X8.length ?_ ?_ ?_
 .exact⟨0,by omega,rfl,by simp,rfl,rfl,rfl,rfl,rfl⟩
 .rintro m ⟨S,J⟩ ⟨j,hj,rfl,YU,YF,t0,t2,t3,t4⟩;simp only at YF t0 t2 t3 t4;subst YF;refine ab.mix 5 ?_;by_cases H':j<b.X8.length
  .have q:((j:Int)<b.X8.length)=True:=Yd;have X2:=λU=>j2 (U:=U) H';have hfl:aK b.X8[j]=.agg [vI b.X8[j].node,vI b.X8[j].side,vI b.X8[j].anchor,vI b.X8[j].x,vI b.X8[j].y,vI b.X8[j].w,vI b.X8[j].h]:=rfl;obtain⟨_,⟨o1,o2⟩,_,o3,o4⟩:=hb.flo _ (Zr H');have Zb:b.X8.take (j+1)=b.X8.take j++[b.X8[j]]:=Zq0 H';have hget:b.X8[j]?=some b.X8[j]:=Zq6 H';generalize b.X8[j]=f at*;have r1:Yl .i64 (f.y+f.h):=ai;have r2:Yl .i64 ((j:Int)+1):=ai;by_cases hle:f.y+f.h<=x.body
   .have q1:(f.y+f.h<=x.body)=True:=Yd hle;apply sR;simp only[go_sem,seval,t0,t2,t3,t4,hlp,q,X2,hfl,a1,r1,q1,r2];refine⟨_,?_,j+1,by omega,rfl,?_,by simp⟩
    .omega
    .rw[Zb];intro g hg;rcases dc.1 hg with hg|hg
     .exact YU g hg
     .simp at hg;subst hg;exact ZG hle
   .have q1:(f.y+f.h<=x.body)=False:=T' hle;apply sR;simp only[go_sem,seval,t0,t2,t3,t4,hlp,q,X2,hfl,a1,r1,q1];obtain⟨e1,e2⟩:=zP YU (λg hg=>by rw[hget]at hg;cases hg;exact Zu hle) hj;exact⟨j,hj,e1,e2,by simp⟩
  .have q:((j:Int)<b.X8.length)=False:=T';apply sR;simp only[go_sem,seval,t0,t2,t3,t4,hlp,q];obtain⟨e1,e2⟩:=zP YU (λg hg=>by rw[rO (by omega)]at hg;cases hg) hj;exact⟨j,hj,e1,e2,by simp⟩
 .rintro⟨S,J⟩ ⟨j,hj,e1,e2,YF,t0,t2,t3,t4⟩;simp only at YF t0 t2 t3 t4;subst YF;rw[e1,e2];have hsl:=DD hj;have hsl2:=sO hj;refine ab.mix 5 ?_;apply sR;simp only[BB,seval,aX,ez,aE,ZQ.nothing,t0,t3,t4,hsl];refine ab.call rfl rfl rfl (px b (b.X8.take j) (by rw[fY];omega) x hxl (λf hf=>by
   obtain⟨_,⟨o1,o2⟩,_,o3,o4⟩:=hb.flo f (pz hf);exact ai) hJ2) ?_
  rintro r Z' ⟨vl',hJ'⟩;have b1:=hJ'.row;have n12':i1≠i2:=n12;rw[cZ]at b1;generalize x.put (b.X8.take j)=y at*;have hJs:=hJ'.set { y with kind:=2 } rfl rfl rfl;rw[cZ]at hJs;apply sR;simp only[BB,seval,aX,ez,aE,l4,la,gj,fk,gX,V.cells,V.stays,ZQ.nothing,t0,t3,t4,b1,hsl2];generalize hq1:C' Z' i1 _=Y1 at*;replace c2:=hJs.sub _ _ ag;refine ab.ay rfl rfl rfl (Bx (b.X8.drop j) (by rw[qF];omega) _) ?_;apply sR;simp only[go_sem,seval,c2,t2,dH,dF];exact⟨_,_,aa.refl _,Wk.refl (aa.refl _) _,vl',rfl,hJs.drop k2 _⟩
end Go.Vc
