/- Part 9 of the library of this proof. -/
import Derived.Test.YtjladbkbleghlaaGreatW8
set_option linter.all false
set_option maxHeartbeats 8000000
set_option maxRecDepth 100000
namespace Go.Vc
open Go.Proofs Go.Proofs.Tryz
def U8:List Int->Int
 |[]=>0
 |x::r=>if x≠0 then x else U8 r
def BX{l:List Int}{i:Nat}(h:i<l.length):U8 (l.drop i)=if l[i]≠0 then l[i]else U8 (l.drop (i+1)):=by
 rw[iY h,U8]
def Ll{U:ag}{v:V}(l:List Int)(hl:l.length<=1000000)(hr:Reads U 1 false v (l.map vI)):
 aA prog 32 [v] U λr Z'=>r=vI (U8 l)/\Z'=U:=by
 refine e32.r (by simp[c32]) ?_;have Us:eK false v=some (.int .i64 l.length):=by rw[hr.1,eU]
 refine ab.mix 6 ?_;apply sR;simp only[go_sem,seval,c32,Us];refine ab.loop (λm st=>∃i:Nat,i<=l.length/\m=l.length-i/\U8 l=U8 (l.drop i)/\st.U=U/\st.s 3=vI 0/\st.s 6=v/\st.s 7=vI l.length/\st.s 8=vI i) l.length ?_ ?_
 .exact⟨0,by omega,rfl,rfl,rfl,rfl,rfl,rfl,rfl⟩
 .rintro m ⟨s,Z'⟩ ⟨i,hi,rfl,heq,L6,h3,h6,h7,h8⟩;simp only at L6 h3 h6 h7 h8;subst L6;refine ab.mix 6 ?_;by_cases Lr:i<l.length
  .have q:((i:Int)<l.length)=True:=LH;have hd:=BX Lr;obtain⟨a,ha,OO⟩:=hr.2 i (vI l[i]) (by simp[Lr]);have r1:LP .i64 ((i:Int)+1):=au;by_cases hx:l[i]=0
   .have q2:(l[i]≠0)=False:=Ly λh=>h hx;rw[aJ λh=>h hx]at hd;apply sR;simp only[go_sem,seval,h3,h6,h7,h8,q,q2,ha,OO,r1];exact⟨_,by omega,i+1,by omega,rfl,by rw[heq,hd],by simp[h3,h6,h7]⟩
   .have q2:(l[i]≠0)=True:=LH hx;rw[aI hx]at hd;apply sR;simp only[go_sem,seval,h3,h6,h7,h8,q,q2,ha,OO,r1];exact aE.same (by rw[heq,hd])
  .have q:((i:Int)<l.length)=False:=Ly;have Ni:i=l.length:=by omega
   apply sR;simp only[go_sem,seval,h3,h6,h7,h8,q];exact aE.same (by rw[heq,Ni,uN];rfl)
def qW{U:ag}{id e:Nat}{l:List Int}(h:U id=some ⟨e,1,l.map vI⟩):Reads U 1 false (.own id 0 l.length) (l.map vI):=
 ⟨by simp[eK],λi r hi=>by
  obtain⟨h1,h2⟩:=qn.1 hi;refine⟨.ptr id i 0,by have:=lk h (i:=i) h1;rwa [eU]at this,?_⟩;rw[List.getElem_map]at h2;subst h2;simp only[cJ,h,hi];rfl⟩
instance (a b:Ms):Decidable (a.lt b):=by unfold Ms.lt;infer_instance
def IQ(a b:Ms):(U8 [nA a.LD b.LD,nA a.LY b.LY]<0)=a.lt b:=by
 refine propext ?_;unfold Ms.lt;simp only[U8,nA]
 (repeat' split)<;>omega
def zk(a b:Ms):bc prog 10 [eJ a,eJ b] (.bool (decide (a.lt b))):=λU=>by
 refine e10.r (by simp[c10]) ?_;have hs:=aa.refl U;refine ab.mix 5 ?_;apply sR;simp only[go_sem,seval,c10,aS,aT];refine ae λi2 Z2 s2 a2 f2=>?_;have z2:=hs.none f2;replace hs:=hs.trans s2;simp only[go_sem,seval,a2,aS,aT];refine ae λi3 Z3 s3 a3 f3=>?_;have UP:=ao a2 f3;replace a2:=s3 _ _ a2;have z3:=hs.none f3;replace hs:=hs.trans s3;simp only[go_sem,seval,a2,a3,aS,aT];refine Go.cN rfl rfl rfl (DL _ _) ?_;apply sG;simp only[go_sem,seval,a2,a3,aS,aT];refine Go.cN rfl rfl rfl (DL _ _) ?_;apply sG;simp only[go_sem,seval];refine bG λQd XQ PD NK f15=>?_;have n215:=ao a2 f15;replace a2:=PD _ _ a2;have n315:=ao a3 f15;replace a3:=PD _ _ a3;have VC:=hs.none f15;replace hs:=hs.trans PD;simp only[go_sem,seval];refine Go.lf rfl rfl rfl (λZ1 h1=>Ll [nA a.LD b.LD,nA a.LY b.LY] (by simp) ?_) ?_
 .have h15:=h1 _ _ NK;exact qW (l:=[nA a.LD b.LD,nA a.LY b.LY]) h15
 .have q:=IQ a b;by_cases Lr:a.lt b
  .rw[LH Lr]at q;rw[NA Lr];apply sG;simp only[go_sem,seval,q];exact aE.pure hs rfl
  .rw[Ly Lr]at q;rw[Nz Lr];apply sG;simp only[go_sem,seval,q];exact aE.pure hs rfl
def Gw(a b:Lu):kF false [0,0,1] (aH a) (aH b)=some (.bool (decide (a=b))):=by
 obtain⟨a1,a2,a3⟩:=a;obtain⟨b1,b2,b3⟩:=b;simp only[kF,aH,cK,bL,cu,vI,MM,List.length_nil,true_and,↓reduceIte,Lu.mk.injEq];by_cases h1:a1=b1<;>by_cases h2:a2=b2<;>cases a3<;>cases b3<;>simp[h1,h2]
def vi(a b:Lu):kF true [0,0,1] (aH a) (aH b)=some (.bool (decide (a≠b))):=by
 obtain⟨a1,a2,a3⟩:=a;obtain⟨b1,b2,b3⟩:=b;simp only[kF,aH,cK,bL,cu,vI,MM,List.length_nil,true_and,↓reduceIte,ne_eq,Lu.mk.injEq];by_cases h1:a1=b1<;>by_cases h2:a2=b2<;>cases a3<;>cases b3<;>simp[h1,h2]
def mC(a:Lu):List Lu->Nat->Int
 |[],_=>-1
 |q::r,i=>if a=q then i else mC a r (i+1)
def yP{a:Lu}{p:List Lu}{i:Nat}(h:i<p.length):mC a (p.drop i) i=if a=p[i]then(i:Int)else mC a (p.drop (i+1)) (i+1):=by
 rw[iY h,mC]
def ux(a:Lu):∀(p:List Lu) (i:Nat),(mC a p i>=0)=(a∈p)
 |[],i=>by simp[mC]
 |q::r,i=>by
  rw[mC,dI];split
  .rename_i h;simp[h]
  .rename_i h;rw[ux a r (i+1)];simp[h]
def aB(s:Lu):V.agg [vI s.atom,vI s.done,.bool s.free]=aH s:=rfl
def Bi(p:List Lu)(hp:p.length<=1000000000)(a:Lu):bc prog 50 [cm p,aH a] (vI (mC a p 0)):=λU=>by
 refine e50.r (by simp[c50]) ?_;have hs:=aa.refl U;have hlp:=i0 p;refine ab.mix 9 ?_;apply sR;simp only[go_sem,seval,c50,ay,az];refine ae λi3 Z3 s3 a3 f3=>?_;have z3:=hs.none f3;replace hs:=hs.trans s3;simp only[go_sem,seval,hlp,ay,az];refine ab.loop (λm st=>∃(i:Nat),i<=p.length/\m=p.length-i/\mC a p 0=mC a (p.drop i) i/\st.U=Z3/\st.s 0=cm p/\st.s 3=.ptr i3 0 0/\st.s 7=vI p.length/\st.s 8=vI i) p.length ?_ ?_
 .exact⟨0,by omega,rfl,rfl,rfl,rfl,rfl,rfl,rfl⟩
 .rintro m ⟨s,Z'⟩ ⟨i,hi,rfl,heq,L6,h0,h3,h7,h8⟩;simp only at L6 h0 h3 h7 h8;subst L6;refine ab.mix 9 ?_;by_cases Lr:i<p.length
  .have q:((i:Int)<p.length)=True:=LH;have hd:=yP (a:=a) Lr;have Lv:=λU=>iz (U:=U) Lr;have r1:LP .i64 ((i:Int)+1):=au;have Q5:=Gw a p[i];have Pj:=mL p[i];by_cases hc:a=p[i]
   .rw[NA hc]at Q5;apply sR;simp only[BB,seval,<-decide_not,bk,eV,aL,cX,cV,db,da,dv,bF,gY,fg,bl,eO,cZ,eN,cq,bZ,bK,fV,bS,bY,bQ,Mw,gW,cz,bH,cK,bL,cu,cb,ie,binBV,bC,cD,MJ.nothing,h0,h3,h7,h8,q,a3,Lv,Pj,Q5,ay,az,aB,V.dj,V.dh,V.cH,V.dp,V.eo,V.di,V.cF,V.ek,V.dk,V.ez,V.dn,V.dt,V.cE,V.dg,V.eh,V.dq,V.cI,V.ew,V.dr,V.ef];refine aE.pure hs ?_;rw[heq,hd,aI hc]
   .rw[Nz hc]at Q5;apply sR;simp only[BB,seval,<-decide_not,bk,eV,aL,cX,cV,db,da,dv,bF,gY,fg,bl,eO,cZ,eN,cq,bZ,bK,fV,bS,bY,bQ,Mw,gW,cz,bH,cK,bL,cu,cb,ie,binBV,bC,cD,MJ.nothing,h0,h3,h7,h8,q,a3,Lv,Pj,Q5,r1,ay,az,aB,V.dj,V.dh,V.cH,V.dp,V.eo,V.di,V.cF,V.ek,V.dk,V.ez,V.dn,V.dt,V.cE,V.dg,V.eh,V.dq,V.cI,V.ew,V.dr,V.ef];exact⟨_,by omega,i+1,by omega,rfl,by rw[heq,hd,aJ hc],by simp[h0,h3,h7]⟩
  .have q:((i:Int)<p.length)=False:=Ly;have Ni:i=p.length:=by omega
   apply sR;simp only[go_sem,seval,h0,h3,h7,h8,q];refine aE.pure hs ?_;rw[heq,Ni,uN];rfl
def Dk(p:List Lu)(hp:p.length<=1000000000)(a:Lu):bc prog 30 [cm p,aH a] (.bool (decide (a∈p))):=λU=>by
 refine e30.r (by simp[c30]) ?_;have hs:=aa.refl U;refine ab.mix 5 ?_;apply sR;simp only[go_sem,seval,c30,ay,az];refine ae λi3 Z3 s3 a3 f3=>?_;have z3:=hs.none f3;replace hs:=hs.trans s3;simp only[go_sem,seval,a3,ay,az,aB];refine ab.aC rfl rfl rfl (Bi p hp a _) ?_;have q:=ux a p 0;by_cases hm:a∈p
 .rw[LH hm]at q;rw[NA hm];apply sR;simp only[go_sem,seval,q];exact aE.pure hs rfl
 .rw[Ly hm]at q;rw[Nz hm];apply sR;simp only[go_sem,seval,q];exact aE.pure hs rfl
def lq(p:Lu->Bool):List Lu->Nat->Int
 |[],_=>-1
 |f::r,i=>if p f then i else lq p r (i+1)
def zr{p:Lu->Bool}{l:List Lu}{i:Nat}(h:i<l.length):lq p (l.drop i) i=if p l[i]then(i:Int)else lq p (l.drop (i+1)) (i+1):=by
 rw[iY h,lq]
def oU(p:Lu->Bool):∀(l:List Lu) (i:Nat),(lq p l i>=0)=(l.any p=true)
 |[],i=>by simp[lq]
 |q::r,i=>by
  rw[lq,List.any_cons];cases h:p q
  .simp only[Bool.false_or,iG,if_false];exact oU p r (i+1)
  .simp
def DW{U:ag}(l:List Lu)(hl:l.length<=1000000){g:V}{f:FuncId}{caps:List V}(p:Lu->Bool)
 (hg:g=.bm f caps)(hf:∀x∈l,aA prog f (caps++[aH x]) U λr Z'=>r=.bool (p x)/\Z'=U):
 aA prog 51 [cm l,g] U λr Z'=>r=vI (lq p l 0)/\Z'=U:=by
 subst hg;refine e51.r (by simp[c51]) ?_;have Us:=i0 l;refine ab.mix 6 ?_;apply sR;simp only[go_sem,seval,c51,Us];refine ab.loop (λm st=>∃i:Nat,i<=l.length/\m=l.length-i/\lq p l 0=lq p (l.drop i) i/\st.U=U/\st.s 0=cm l/\st.s 1=.bm f caps/\st.s 7=vI l.length/\st.s 8=vI i) l.length ?_ ?_
 .exact⟨0,by omega,rfl,rfl,rfl,rfl,rfl,rfl,rfl⟩
 .rintro m ⟨s,Z'⟩ ⟨i,hi,rfl,heq,L6,h0,h1,h7,h8⟩;simp only at L6 h0 h1 h7 h8;subst L6;refine ab.mix 6 ?_;by_cases Lr:i<l.length
  .have q:((i:Int)<l.length)=True:=LH;have hd:=zr (p:=p) Lr;have Lv:=λU=>iz (U:=U) Lr;have Pj:=mL l[i];have hfx:=hf l[i] (ML Lr);have r1:LP .i64 ((i:Int)+1):=au;apply sR;simp only[go_sem,seval,h0,h1,h7,h8,q,Lv,Pj];refine ab.lu rfl rfl rfl hfx ?_;rintro r Z2 ⟨rfl,rfl⟩;cases hp:p l[i]
   .rw[hp]at hd;apply sR;simp only[go_sem,seval,h0,h1,h7,h8,r1];exact⟨_,by omega,i+1,by omega,rfl,by rw[heq,hd];simp,by simp[h0,h1,h7]⟩
   .rw[hp]at hd;apply sR;simp only[go_sem,seval];exact aE.same (by rw[heq,hd];simp)
  .have q:((i:Int)<l.length)=False:=Ly;have Ni:i=l.length:=by omega
   apply sR;simp only[go_sem,seval,h0,h7,h8,q];exact aE.same (by rw[heq,Ni,uN];rfl)
def D9{U:ag}(l:List Lu)(hl:l.length<=1000000){f:FuncId}{caps:List V}(p:Lu->Bool)
 (hf:∀x∈l,aA prog f (caps++[aH x]) U λr Z'=>r=.bool (p x)/\Z'=U):
 aA prog 31 [cm l,.bm f caps] U λr Z'=>r=.bool (l.any p)/\Z'=U:=by
 refine e31.r (by simp[c31]) ?_;refine ab.mix 5 ?_;apply sR;simp only[go_sem,seval,c31];refine ab.aC rfl rfl rfl (DW l hl p rfl hf) ?_;cases hm:l.any p
 .have q:(lq p l 0>=0)=False:=by rw[oU,hm];simp
  apply sR;simp only[go_sem,seval,q];exact aE.same rfl
 .have q:(lq p l 0>=0)=True:=by rw[oU,hm];simp
  apply sR;simp only[go_sem,seval,q];exact aE.same rfl
open Go.Proofs Go.Proofs.Tryz
def E4{b:Bk}{s:Lu}(hm:et b.atoms s):fi b s=uH b.nodes (N4 b.atoms s.atom).node b.h:=by
 have h1:=hm.1.2;have h2:=hm.1.1;have LR:b.atoms≠[]:=λh=>by rw[h]at h1;simp at h1;omega
 unfold fi;rw[aJ LR,show min s.atom ((b.atoms.length:Int)-1)=s.atom by omega]
def xY{b:Bk}(hb:bP b){s:Lu}(hm:et b.atoms s):s.atom<=dU b s/\dU b s<=b.atoms.length:=by
 obtain⟨u,u1,u2,u3,-⟩:=mY hb.Nw hb.pos hm (kA b.atoms s (fi b s).body) 0 (fi b s).body;unfold dU;rw[u1];omega
def zM{b:Bk}(hb:bP b){s:Lu}(hm:et b.atoms s):s.done<=18014398509481984:=by
 obtain⟨k,hk⟩:∃k:Nat,s.atom=k:=⟨s.atom.toNat,by have:=hm.1.1;omega⟩
 have NO:k<b.atoms.length:=by have:=hm.1.2;omega
 have h2:=hm.2.2;rw[hk,cc NO]at h2;have:=(hb.tight _ (ML NO)).2.2.2;omega
def pQ(b:Bk)(R j:Nat):List Lu:=(List.range j).map λi=>mB b (R-i)
def zg(b:Bk)(R j:Nat):pQ b R (j+1)=pQ b R j++[mB b (R-j)]:=by
 unfold pQ;rw[List.range_succ,gM];rfl
def Ay(b:Bk)(hb:bP b)(s:Lu)(hm:et b.atoms s){U:ag}{i im:Nat}(h0:U i=some (lx b im)):
 aA prog 25 [.ptr i 0 0,aH s] U λr Z'=>aa U Z'/\aQ U Z' 37 3 r ((aV b s).map aH):=by
 refine e25.r (by simp[c25]) ?_;have hs:=aa.refl U;have ME:=hb.len;have VM:=hb.Uq;obtain⟨k,hk⟩:∃k:Nat,s.atom=k:=⟨s.atom.toNat,by have:=hm.1.1;omega⟩
 have NO:k<b.atoms.length:=by have:=hm.1.2;omega
 have Lv:∀U,bN U 8 (bX b.atoms) (.int .i64 s.atom)=some (.rp (dH b.atoms[k])):=λU=>by rw[hk];exact jC NO
 have hac:∀a:My,(dH a).cells=[vI a.kind,vI a.node,vI a.fr,vI a.to,vI a.x,vI a.y,vI a.w,vI a.h]:=λ_=>rfl;have Yb:=E4 hm;have Ow:N4 b.atoms s.atom=b.atoms[k]:=by rw[hk];exact cc NO
 rw[Ow]at Yb;have ho:=Jl b.nodes hb.tc b.atoms[k].node b.h;rw[<-Yb]at ho;have hd:=zM hb hm;have hkp:=Ff b.atoms hb.Mf s (fi b s).body;have hkr:=A4 hb.toBkOk s (fi b s).body;have hrc:=DS b.atoms hb.Mf s (by omega) (kA b.atoms s (fi b s).body) 0 (fi b s).body hkr ⟨by omega,by omega⟩;have Qw:=Gi b.atoms hb.Mf s (by omega) (fi b s).body;have hRn:=xY hb hm;rw[show o7 b.atoms s (kA b.atoms s (fi b s).body) 0 (fi b s).body=dU b s from rfl]at hrc;have hfi:=EZ b.Mi (by omega) (s.atom+1) (dU b s);have Pw:=oY (b:=b.Mi) (i:=s.atom) (fit:=dU b s) hm.1.1 (by omega);have Sa:aV b s=if dU b s<=s.atom then[fO b.atoms s (fi b s).body]else if j1 b.Mi (s.atom+1) (dU b s)>=0 then[mB b (j1 b.Mi (s.atom+1) (dU b s)).toNat]else pQ b (dU b s).toNat (dU b s-s.atom).toNat:=rfl
 have Uh:=h0;rw[lx,nT]at h0;generalize dU b s=R at*;generalize kA b.atoms s (fi b s).body=KP at*;generalize fi b s=rv at*;generalize fO b.atoms s rv.body=NX at*;generalize ue b.atoms s rv.body=FX at*;generalize j1 b.Mi (s.atom+1) R=FR at*;have r1:LP .i64 (s.atom+1):=au;refine ab.mix 13 ?_;apply sR;simp only[go_sem,seval,c25,bM.rt,ay,az];refine ae λi3 Z3 s3 a3 f3=>?_;have z3:=hs.none f3;replace hs:=hs.trans s3;replace Uh:=s3 _ _ Uh;replace h0:=s3 _ _ h0;have z3':=z3;simp only[go_sem,seval,h0,a3,Lv,hac,ay,az,af,aF,ar,aq,bV,bU];refine Go.cN rfl rfl rfl ho ?_;apply sG;simp only[go_sem,seval,h0,a3,sU,ay,az,aB,ar,aq,bV,bU];refine Go.cN rfl rfl rfl hkp ?_;apply sG;simp only[go_sem,seval,h0,a3,ay,az,aB,ar,aq,bV,bU];refine Go.cN rfl rfl rfl hrc ?_;by_cases g1:R<=s.atom
 .have q1:(R<=s.atom)=True:=LH g1;rw[aI g1]at Sa;apply sG;simp only[go_sem,seval,bM.rt,h0,a3,q1,ay,az];have a8:True:=trivial;have a9:True:=trivial;have hn:True:=trivial;have nc:NX=NX:=rfl;refine ab.wT (by kernel_rfl) 8 (.fork [[],[0],[1,0],[2,1,0],[],[],[3,4,5,2,1,0],[6,3,4,5,2,1,0],[7,6,3,4,5,2,1,0],[7,6,3,4,5,2,1,0],[],[],[10,8,6,0,1,2,3,4,5,7,11],[11,9,12,0,1,2,3,4,5,6,7,8,10]] [0,1,2,3,4,5] [6,10,11] [(.fork [[],[0],[1,0],[2,1,0],[],[],[3,4,5,2,1,0],[6,3,4,5,2,1,0],[7,6,3,4,5,2,1,0],[7,6,3,4,5,2,1,0],[6,3,4,5,2,1,0],[6,3,4,5,2,1,0],[6,3,4,5,2,1,0,10,8,7,11],[6,3,4,5,2,1,0,11,9,12,7,8,10]] [6,7,8,9] [10,11] [(.leaf [[],[0],[1,0],[2,1,0],[],[],[3,4,5,2,1,0],[6,3,4,5,2,1,0],[7,6,3,4,5,2,1,0],[7,6,3,4,5,2,1,0],[6,3,4,5,2,1,0],[10,6,3,4,5,2,1,0],[10,6,3,4,5,2,1,0,8,7,11],[10,6,3,4,5,2,1,0,11,9,12,7,8]] [10,11,12,13]),(.leaf [[],[0],[1,0],[2,1,0],[],[],[3,4,5,2,1,0],[6,3,4,5,2,1,0],[7,6,3,4,5,2,1,0],[7,6,3,4,5,2,1,0],[11,6,3,4,5,2,1,0],[6,3,4,5,2,1,0],[11,6,3,4,5,2,1,0,10,8,7],[11,6,3,4,5,2,1,0,9,12,7,8,10]] [11,10,12,13])]),(.fork [[],[0],[1,0],[2,1,0],[],[],[10,3,4,5,2,1,0],[10,6,3,4,5,2,1,0],[10,7,6,3,4,5,2,1,0],[10,7,6,3,4,5,2,1,0],[],[10],[10,8,6,0,1,2,3,4,5,7,11],[10,11,9,12,0,1,2,3,4,5,6,7,8]] [10] [6,11] [(.leaf [[],[0],[1,0],[2,1,0],[],[],[10,3,4,5,2,1,0],[10,6,3,4,5,2,1,0],[10,7,6,3,4,5,2,1,0],[10,7,6,3,4,5,2,1,0],[],[6,10,3,4,5,2,1,0],[6,10,3,4,5,2,1,0,8,7,11],[6,10,3,4,5,2,1,0,11,9,12,7,8]] [6,7,8,9,11,12,13]),(.leaf [[],[0],[1,0],[2,1,0],[],[],[11,10,3,4,5,2,1,0],[11,10,6,3,4,5,2,1,0],[11,10,7,6,3,4,5,2,1,0],[11,10,7,6,3,4,5,2,1,0],[],[10],[11,10,8,6,0,1,2,3,4,5,7],[11,10,9,12,0,1,2,3,4,5,6,7,8]] [11,6,7,8,9,12,13])]),(.fork [[],[0],[1,0],[2,1,0],[],[],[11,3,4,5,2,1,0],[11,6,3,4,5,2,1,0],[11,7,6,3,4,5,2,1,0],[11,7,6,3,4,5,2,1,0],[11],[],[11,10,8,6,0,1,2,3,4,5,7],[11,9,12,0,1,2,3,4,5,6,7,8,10]] [11] [6,10] [(.leaf [[],[0],[1,0],[2,1,0],[],[],[11,3,4,5,2,1,0],[11,6,3,4,5,2,1,0],[11,7,6,3,4,5,2,1,0],[11,7,6,3,4,5,2,1,0],[6,11,3,4,5,2,1,0],[],[6,11,3,4,5,2,1,0,10,8,7],[6,11,3,4,5,2,1,0,9,12,7,8,10]] [6,7,8,9,10,12,13]),(.leaf [[],[0],[1,0],[2,1,0],[],[],[10,11,3,4,5,2,1,0],[10,11,6,3,4,5,2,1,0],[10,11,7,6,3,4,5,2,1,0],[10,11,7,6,3,4,5,2,1,0],[11],[],[10,11,8,6,0,1,2,3,4,5,7],[10,11,9,12,0,1,2,3,4,5,6,7,8]] [10,6,7,8,9,12,13])])]) (by kernel_rfl) ?_;refine GT.Jm (its:=[0,2,4,6,8,10]) (by kernel_rfl) ?_;refine RE.MB (n:=0) [] [0,2,4,6,8,10] [⟨(.some 52),(.Mb (.t 0)),.none⟩,⟨(.some 53),(.nilCheck (.t 52)),.none⟩,⟨(.some 54),(.Mc .false 1 1 (.t 53)),.none⟩,⟨(.some 55),(.load .false 1 (.t 54)),.none⟩,⟨(.some 56),(.load .true 3 (.t 3)),.none⟩,⟨(.some 57),(.Mb (.t 5)),.none⟩] rfl rfl ?_;apply sG;simp only[go_sem,seval,h0,a3,a8,a9,hn,ay,az,aB,ar,aq,cd,bV,bU];refine⟨?_,?_,?_⟩
  .refine GT.mK (its:=[12,14,16,18]) (by kernel_rfl) ?_;refine RE.aC rfl rfl rfl rfl rfl (Qw _) ?_;refine RE.MB (n:=0) [] [14,16,18] [⟨(.some 51),(.Mb (.t 58)),.none⟩,⟨(.some 59),(.ext 0 (.t 51)),.none⟩,⟨(.some 60),(.ext 1 (.t 51)),.none⟩] rfl rfl ?_;apply sG;simp only[go_sem,seval,h0,a3,a8,a9,hn,ay,az,aB,ar,aq,cd,bV,bU];refine⟨?_,?_⟩
   .refine GT.gu (its:=[20,22,24,26]) (by kernel_rfl) ?_;refine RE.MB (n:=0) [] [20,22,24,26] [⟨(.some 8),(.alloc 46 7 (.agg [(.int .i64 0),(.int .i64 0),(.int .i64 0),(.int .i64 0),(.int .i64 0),(.int .i64 0),(.int .i64 0)])),.none⟩,⟨(.some 9),(.alloc 37 3 (.agg [(.int .i64 0),(.int .i64 0),(.bool .false)])),.none⟩,⟨.none,(.store 7 (.t 8) (.t 59)),.none⟩,⟨.none,(.store 3 (.t 9) (.t 60)),.none⟩] rfl rfl ?_;apply sG;simp only[go_sem,seval,h0,a3,a8,a9,hn,ay,az,aB,ar,aq,cd,bV,bU];refine bG λi8 Z8 s8 a8 f8=>?_;replace h0:=s8 _ _ h0;replace a3:=s8 _ _ a3
    try replace hn:=fW (ao a9 f8).symm
    try replace a9:=s8 _ _ a9
    have z8:=hs.none f8;replace hs:=hs.trans s8;simp only[go_sem,seval,h0,a3,a8,a9,hn,ay,az,aB,ar,aq,cd,bV,bU];refine bG λi9 Z9 s9 a9 f9=>?_;replace h0:=s9 _ _ h0;replace a3:=s9 _ _ a3
    try replace hn:=fW (ao a8 f9)
    try replace a8:=s9 _ _ a8
    have z9:=hs.none f9;replace hs:=hs.trans s9;simp only[go_sem,seval,h0,a3,a8,a9,hn,ay,az,aB,ar,aq,cd,bV,bU];apply sR;simp only[go_sem,seval,ay,az,aB];refine ae λi62 Z62 TK TL f62=>?_;simp only[go_sem,seval];rw[Sa];have Sb:=aa.trans ((hs.aG z8).aG z9) TK;have TM:=aa.none ((hs.aG z8).aG z9) f62;exact⟨_,_,aa.refl _,Wk.refl (aa.refl _) _,Sb,aQ.new rfl TL TM⟩
   .refine GT.gu (its:=[22,20,24,26]) (by kernel_rfl) ?_;refine RE.MB (n:=0) [] [22,20,24,26] [⟨(.some 9),(.alloc 37 3 (.agg [(.int .i64 0),(.int .i64 0),(.bool .false)])),.none⟩,⟨(.some 8),(.alloc 46 7 (.agg [(.int .i64 0),(.int .i64 0),(.int .i64 0),(.int .i64 0),(.int .i64 0),(.int .i64 0),(.int .i64 0)])),.none⟩,⟨.none,(.store 7 (.t 8) (.t 59)),.none⟩,⟨.none,(.store 3 (.t 9) (.t 60)),.none⟩] rfl rfl ?_;apply sG;simp only[go_sem,seval,h0,a3,a8,a9,hn,ay,az,aB,ar,aq,cd,bV,bU];refine bG λi9 Z9 s9 a9 f9=>?_;replace h0:=s9 _ _ h0;replace a3:=s9 _ _ a3
    try replace hn:=fW (ao a8 f9)
    try replace a8:=s9 _ _ a8
    have z9:=hs.none f9;replace hs:=hs.trans s9;simp only[go_sem,seval,h0,a3,a8,a9,hn,ay,az,aB,ar,aq,cd,bV,bU];refine bG λi8 Z8 s8 a8 f8=>?_;replace h0:=s8 _ _ h0;replace a3:=s8 _ _ a3
    try replace hn:=fW (ao a9 f8).symm
    try replace a9:=s8 _ _ a9
    have z8:=hs.none f8;replace hs:=hs.trans s8;simp only[go_sem,seval,h0,a3,a8,a9,hn,ay,az,aB,ar,aq,cd,bV,bU];apply sR;simp only[go_sem,seval,ay,az,aB];refine ae λi62 Z62 TK TL f62=>?_;simp only[go_sem,seval];rw[Sa];have Sb:=aa.trans ((hs.aG z8).aG z9) TK;have TM:=aa.none ((hs.aG z8).aG z9) f62;exact⟨_,_,aa.refl _,Wk.refl (aa.refl _) _,Sb,aQ.new rfl TL TM⟩
  .refine GT.mK (its:=[20,7,9]) (by kernel_rfl) ?_;refine RE.MB (n:=0) [7,9] [20] [⟨(.some 8),(.alloc 46 7 (.agg [(.int .i64 0),(.int .i64 0),(.int .i64 0),(.int .i64 0),(.int .i64 0),(.int .i64 0),(.int .i64 0)])),.none⟩] rfl rfl ?_;apply sG;simp only[go_sem,seval,h0,a3,a8,a9,hn,ay,az,aB,ar,aq,cd,bV,bU];refine bG λi8 Z8 s8 a8 f8=>?_;replace h0:=s8 _ _ h0;replace a3:=s8 _ _ a3
   try replace hn:=fW (ao a9 f8).symm
   try replace a9:=s8 _ _ a9
   have z8:=hs.none f8;replace hs:=hs.trans s8;simp only[go_sem,seval,h0,a3,a8,a9,hn,ay,az,aB,ar,aq,cd,bV,bU];refine RE.MU rfl rfl rfl rfl rfl trivial (by simp only[go_sem,seval,h0,a3,a8,a9,hn,ay,az,aB,ar,aq,cd,bV,bU]) ?_;refine RE.MU rfl rfl rfl rfl rfl trivial (by simp only[go_sem,seval,h0,a3,a8,a9,hn,ay,az,aB,ar,aq,cd,bV,bU]) ?_;refine⟨?_,?_⟩
   .refine GT.gu (its:=[12,14,16,18,22,24,26]) (by kernel_rfl) ?_;refine RE.aC rfl rfl rfl rfl rfl (Qw _) ?_;refine RE.MB (n:=0) [] [14,16,18,22,24,26] [⟨(.some 51),(.Mb (.t 58)),.none⟩,⟨(.some 59),(.ext 0 (.t 51)),.none⟩,⟨(.some 60),(.ext 1 (.t 51)),.none⟩,⟨(.some 9),(.alloc 37 3 (.agg [(.int .i64 0),(.int .i64 0),(.bool .false)])),.none⟩,⟨.none,(.store 7 (.t 8) (.t 59)),.none⟩,⟨.none,(.store 3 (.t 9) (.t 60)),.none⟩] rfl rfl ?_;apply sG;simp only[go_sem,seval,h0,a3,a8,a9,hn,ay,az,aB,ar,aq,cd,bV,bU];refine bG λi9 Z9 s9 a9 f9=>?_;replace h0:=s9 _ _ h0;replace a3:=s9 _ _ a3
    try replace hn:=fW (ao a8 f9)
    try replace a8:=s9 _ _ a8
    have z9:=hs.none f9;replace hs:=hs.trans s9;simp only[go_sem,seval,h0,a3,a8,a9,hn,ay,az,aB,ar,aq,cd,bV,bU];apply sR;simp only[go_sem,seval,ay,az,aB];refine ae λi62 Z62 TK TL f62=>?_;simp only[go_sem,seval];rw[Sa];have Sb:=aa.trans ((hs.aG z8).aG z9) TK;have TM:=aa.none ((hs.aG z8).aG z9) f62;exact⟨_,_,aa.refl _,Wk.refl (aa.refl _) _,Sb,aQ.new rfl TL TM⟩
   .refine GT.gu (its:=[22,7,9,12,14,16,18,24,26]) (by kernel_rfl) ?_;refine RE.MB (n:=0) [7,9,12,14,16,18,24,26] [22] [⟨(.some 9),(.alloc 37 3 (.agg [(.int .i64 0),(.int .i64 0),(.bool .false)])),.none⟩] rfl rfl ?_;apply sG;simp only[go_sem,seval,h0,a3,a8,a9,hn,ay,az,aB,ar,aq,cd,bV,bU];refine bG λi9 Z9 s9 a9 f9=>?_;replace h0:=s9 _ _ h0;replace a3:=s9 _ _ a3
    try replace hn:=fW (ao a8 f9)
    try replace a8:=s9 _ _ a8
    have z9:=hs.none f9;replace hs:=hs.trans s9;simp only[go_sem,seval,h0,a3,a8,a9,hn,ay,az,aB,ar,aq,cd,bV,bU];refine RE.MU rfl rfl rfl rfl rfl trivial (by simp only[go_sem,seval,h0,a3,a8,a9,hn,ay,az,aB,ar,aq,cd,bV,bU]) ?_;refine RE.MU rfl rfl rfl rfl rfl trivial (by simp only[go_sem,seval,h0,a3,a8,a9,hn,ay,az,aB,ar,aq,cd,bV,bU]) ?_;refine RE.aC rfl rfl rfl rfl rfl (Qw _) ?_;refine RE.MB (n:=0) [] [14,16,18,24,26] [⟨(.some 51),(.Mb (.t 58)),.none⟩,⟨(.some 59),(.ext 0 (.t 51)),.none⟩,⟨(.some 60),(.ext 1 (.t 51)),.none⟩,⟨.none,(.store 7 (.t 8) (.t 59)),.none⟩,⟨.none,(.store 3 (.t 9) (.t 60)),.none⟩] rfl rfl ?_;apply sG;simp only[go_sem,seval,h0,a3,a8,a9,hn,ay,az,aB,ar,aq,cd,bV,bU];apply sR;simp only[go_sem,seval,ay,az,aB];refine ae λi62 Z62 TK TL f62=>?_;simp only[go_sem,seval];rw[Sa];have Sb:=aa.trans ((hs.aG z8).aG z9) TK;have TM:=aa.none ((hs.aG z8).aG z9) f62;exact⟨_,_,aa.refl _,Wk.refl (aa.refl _) _,Sb,aQ.new rfl TL TM⟩
  .refine GT.mK (its:=[22,7,9]) (by kernel_rfl) ?_;refine RE.MB (n:=0) [7,9] [22] [⟨(.some 9),(.alloc 37 3 (.agg [(.int .i64 0),(.int .i64 0),(.bool .false)])),.none⟩] rfl rfl ?_;apply sG;simp only[go_sem,seval,h0,a3,a8,a9,hn,ay,az,aB,ar,aq,cd,bV,bU];refine bG λi9 Z9 s9 a9 f9=>?_;replace h0:=s9 _ _ h0;replace a3:=s9 _ _ a3
   try replace hn:=fW (ao a8 f9)
   try replace a8:=s9 _ _ a8
   have z9:=hs.none f9;replace hs:=hs.trans s9;simp only[go_sem,seval,h0,a3,a8,a9,hn,ay,az,aB,ar,aq,cd,bV,bU];refine RE.MU rfl rfl rfl rfl rfl trivial (by simp only[go_sem,seval,h0,a3,a8,a9,hn,ay,az,aB,ar,aq,cd,bV,bU]) ?_;refine RE.MU rfl rfl rfl rfl rfl trivial (by simp only[go_sem,seval,h0,a3,a8,a9,hn,ay,az,aB,ar,aq,cd,bV,bU]) ?_;refine⟨?_,?_⟩
   .refine GT.gu (its:=[12,14,16,18,20,24,26]) (by kernel_rfl) ?_;refine RE.aC rfl rfl rfl rfl rfl (Qw _) ?_;refine RE.MB (n:=0) [] [14,16,18,20,24,26] [⟨(.some 51),(.Mb (.t 58)),.none⟩,⟨(.some 59),(.ext 0 (.t 51)),.none⟩,⟨(.some 60),(.ext 1 (.t 51)),.none⟩,⟨(.some 8),(.alloc 46 7 (.agg [(.int .i64 0),(.int .i64 0),(.int .i64 0),(.int .i64 0),(.int .i64 0),(.int .i64 0),(.int .i64 0)])),.none⟩,⟨.none,(.store 7 (.t 8) (.t 59)),.none⟩,⟨.none,(.store 3 (.t 9) (.t 60)),.none⟩] rfl rfl ?_;apply sG;simp only[go_sem,seval,h0,a3,a8,a9,hn,ay,az,aB,ar,aq,cd,bV,bU];refine bG λi8 Z8 s8 a8 f8=>?_;replace h0:=s8 _ _ h0;replace a3:=s8 _ _ a3
    try replace hn:=fW (ao a9 f8).symm
    try replace a9:=s8 _ _ a9
    have z8:=hs.none f8;replace hs:=hs.trans s8;simp only[go_sem,seval,h0,a3,a8,a9,hn,ay,az,aB,ar,aq,cd,bV,bU];apply sR;simp only[go_sem,seval,ay,az,aB];refine ae λi62 Z62 TK TL f62=>?_;simp only[go_sem,seval];rw[Sa];have Sb:=aa.trans ((hs.aG z8).aG z9) TK;have TM:=aa.none ((hs.aG z8).aG z9) f62;exact⟨_,_,aa.refl _,Wk.refl (aa.refl _) _,Sb,aQ.new rfl TL TM⟩
   .refine GT.gu (its:=[20,7,9,12,14,16,18,24,26]) (by kernel_rfl) ?_;refine RE.MB (n:=0) [7,9,12,14,16,18,24,26] [20] [⟨(.some 8),(.alloc 46 7 (.agg [(.int .i64 0),(.int .i64 0),(.int .i64 0),(.int .i64 0),(.int .i64 0),(.int .i64 0),(.int .i64 0)])),.none⟩] rfl rfl ?_;apply sG;simp only[go_sem,seval,h0,a3,a8,a9,hn,ay,az,aB,ar,aq,cd,bV,bU];refine bG λi8 Z8 s8 a8 f8=>?_;replace h0:=s8 _ _ h0;replace a3:=s8 _ _ a3
    try replace hn:=fW (ao a9 f8).symm
    try replace a9:=s8 _ _ a9
    have z8:=hs.none f8;replace hs:=hs.trans s8;simp only[go_sem,seval,h0,a3,a8,a9,hn,ay,az,aB,ar,aq,cd,bV,bU];refine RE.MU rfl rfl rfl rfl rfl trivial (by simp only[go_sem,seval,h0,a3,a8,a9,hn,ay,az,aB,ar,aq,cd,bV,bU]) ?_;refine RE.MU rfl rfl rfl rfl rfl trivial (by simp only[go_sem,seval,h0,a3,a8,a9,hn,ay,az,aB,ar,aq,cd,bV,bU]) ?_;refine RE.aC rfl rfl rfl rfl rfl (Qw _) ?_;refine RE.MB (n:=0) [] [14,16,18,24,26] [⟨(.some 51),(.Mb (.t 58)),.none⟩,⟨(.some 59),(.ext 0 (.t 51)),.none⟩,⟨(.some 60),(.ext 1 (.t 51)),.none⟩,⟨.none,(.store 7 (.t 8) (.t 59)),.none⟩,⟨.none,(.store 3 (.t 9) (.t 60)),.none⟩] rfl rfl ?_;apply sG;simp only[go_sem,seval,h0,a3,a8,a9,hn,ay,az,aB,ar,aq,cd,bV,bU];apply sR;simp only[go_sem,seval,ay,az,aB];refine ae λi62 Z62 TK TL f62=>?_;simp only[go_sem,seval];rw[Sa];have Sb:=aa.trans ((hs.aG z8).aG z9) TK;have TM:=aa.none ((hs.aG z8).aG z9) f62;exact⟨_,_,aa.refl _,Wk.refl (aa.refl _) _,Sb,aQ.new rfl TL TM⟩
 .have q1:(R<=s.atom)=False:=Ly g1;rw[aJ g1]at Sa;apply sG;simp only[go_sem,seval,h0,a3,q1,r1,ay,az,bx,bw,bV,bU];refine Go.cN rfl rfl rfl hfi ?_;by_cases g2:FR>=0
  .have q2:(FR>=0)=True:=LH g2;rw[aI g2]at Sa;have hfr2:=Pw g2;obtain⟨fn,rfl⟩:∃fn:Nat,FR=fn:=⟨FR.toNat,by omega⟩
   rw[gX]at Sa;apply sG;simp only[go_sem,seval,q2];refine ab.aC rfl rfl rfl (Dd b fn (by omega) Uh) ?_;apply sR;simp only[go_sem,seval,ay,az];refine ae λi77 Z77 s77 a77 f77=>?_;simp only[go_sem,seval];rw[Sa];exact⟨_,_,aa.refl _,Wk.refl (aa.refl _) _,hs.trans s77,aQ.new rfl a77 (hs.none f77)⟩
  .have q2:(FR>=0)=False:=Ly g2;rw[aJ g2]at Sa;apply sG;simp only[go_sem,seval,q2];obtain⟨Rn,rfl⟩:∃Rn:Nat,R=Rn:=⟨R.toNat,by omega⟩
   have e1:((Rn:Int)).toNat=Rn:=gX _;have e2:((Rn:Int)-s.atom).toNat=Rn-k:=by omega
   rw[e1,e2]at Sa;refine ab.loop (λm st=>∃(j:Nat) (v:V),j<=Rn-k/\m=Rn-k-j/\aa Z3 st.U/\aQ Z3 st.U 37 3 v ((pQ b Rn j).map aH)/\st.s 0=.ptr i 0 0/\st.s 3=.ptr i3 0 0/\st.s 11=v/\st.s 12=vI ((Rn-j:Nat):Int)) (Rn-k) ⟨0,.bz,by omega,rfl,aa.refl _,aQ.start,rfl,rfl,rfl,rfl⟩ ?_;rintro m ⟨S,ω⟩ ⟨j,v,hj,rfl,hK,hv,t0,t3,t11,t12⟩;simp only at hK hv t0 t3 t11 t12;refine ab.mix 13 ?_;have b3:=hK _ _ a3;have b0:=hK _ _ Uh;by_cases Lr:j<Rn-k
   .have q3:(((Rn-j:Nat):Int)>s.atom)=True:=LH;have r2:LP .i64 (((Rn-j:Nat):Int)-1):=au;apply sR;simp only[go_sem,seval,t0,t3,t11,t12,b3,q3,ay,az];refine ab.aC rfl rfl rfl (Dd b (Rn-j) (by omega) b0) ?_;apply sR;simp only[go_sem,seval,ay,az];refine ae λi89 Z89 s89 a89 f89=>?_;obtain⟨LQ,NF,Mn⟩:=hv.dst s89;have Oc:(((pQ b Rn j).map aH).length+1)*25<=140737488355328:=by simp only[eU,pQ,List.length_range];omega
    simp only[go_sem,seval,NF,fm a89,Oc];refine er λi90 Z90 s90 a90 f90=>?_;simp only[go_sem,seval,t12,r2];exact⟨_,by omega,j+1,.own i90 0 (((pQ b Rn j).map aH).length+1),by omega,rfl,(Mn Z3 (aa.refl _) Z89 (hK.trans s89)).trans s90,by rw[zg,gM];exact aQ.new (by simp) a90 ((hK.trans s89).none f90),by simp[t0,t3];omega⟩
   .have q3:(((Rn-j:Nat):Int)>s.atom)=False:=Ly;apply sR;simp only[go_sem,seval,t3,t11,t12,b3,q3,ay,az];have Nj:j=Rn-k:=by omega
    rw[Sa,<-Nj];exact⟨_,_,aa.refl _,Wk.refl (aa.refl _) _,hs.trans hK,hv.CG hs⟩
open Go.Proofs Go.Proofs.Tryz
def yG(x:Ms×Lu):V.agg [vI x.1.LD,vI x.1.LY,vI x.2.atom,vI x.2.done,.bool x.2.free]=j3 x:=rfl
def ij(x:Ms):V.agg [vI x.LD,vI x.LY]=eJ x:=rfl
def sx:wb prog 37 RN (λs:Ks=>aH s.1):=⟨Fs,E1,EW,Fv⟩
def eP.E'{b:Bk}{K U:ag}{i im j:Nat}{o:Ob}(h:eP b K U i im)(hi:j≠i)(hm:j≠im)(hK:K j=none):eP b K (Vc.E' U j o) i im:=by
 obtain⟨g,⟨es,ck,ks,env,g1,g2⟩,g3⟩:=h.mp;exact⟨(ad hi.symm).trans h.row,⟨g,⟨es,ck,ks,env,(ad hm.symm).trans g1,g2⟩,g3⟩,h.ni,h.nm,h.sub.aG hK⟩
def eP.new{b:Bk}{K U:ag}{i im j:Nat}(h:eP b K U i im)(hj:U j=none):j≠i/\j≠im:=
 ⟨λe=>(by rw[e,h.row]at hj;cases hj),λe=>(by obtain⟨g,⟨es,ck,ks,env,g1,-⟩,-⟩:=h.mp;rw[e,g1]at hj;cases hj)⟩
def oh(b:Bk)(hb:bP b)(s:Lu)(hm:et b.atoms s){U:ag}{i im:Nat}(h0:U i=some (lx b im)):
 aA prog 25 [.ptr i 0 0,aH s] U λr Z'=>r=cm (aV b s)/\Z'=U:=(Ay b hb s hm h0).AU λ_ _ h=>h.2.vR h.1 rfl
def zW:Ms×Lu:=(⟨0,0⟩,⟨0,0,false⟩)
def kB{b:Bk}(hb:bP b){s:Lu}(hm:et b.atoms s):(aV b s).length<=1000000:=by
 have h1:=xY hb hm;have h2:=hb.len;have h3:=hm.1.1;unfold aV;split
 .simp
 .split
  .simp
  .rw[eU,List.length_range];omega
def uF(b:Bk)(hb:bP b){L:Int}(hL:gG b L):∀(f:Nat) (s:Lu),dS b s->PM b s<f->∀(K U:ag) (i im:Nat),eP b K U i im->
 aA prog 20 [.ptr i 0 0,aH s] U λr Z'=>r=j3 (bI b s)/\eP b K Z' i im
 |0,s,_,h,_,_,_,_,_=>by omega
 |f+1,s,hv,hf,K,U,i,im,hJ=>by
  refine e20.r (by simp[Xz]) ?_;have hs:=aa.refl U;refine ab.mix 11 ?_;apply sR;simp only[go_sem,seval,Xz,bM.rt,ay,az];refine ae λi3 Z3 s3 a3 f3=>?_;have z3:=hs.none f3;replace hs:=hs.trans s3;simp only[go_sem,seval,a3,ay,az];refine ae λi4 Z4 s4 a4 f4=>?_;have Tf:=ao a3 f4;replace a3:=s4 _ _ a3;have z4:=hs.none f4;replace hs:=hs.trans s4;have NU:=hJ.mono hs;simp only[go_sem,seval,a3,ay,az,aB];refine ab.aC rfl rfl rfl (nQ b s NU.row) ?_;by_cases L3:bE b s
  .rw[NA L3];apply sR;simp only[go_sem,seval,a4];obtain⟨n1,n2⟩:=hJ.new z4;exact⟨_,_,aa.refl _,Wk.refl (aa.refl _) _,by rw[De L3];rfl,NU.E' n1 n2 (hJ.sub.none z4)⟩
  rw[Nz L3];have hm:et b.atoms s:=hv.resolve_right λg=>L3 (by unfold bE;omega);have M7:=(bt hb).on s hv L3;have hbp:=BC hb hv L3;have OC:=kB hb hm;have Yd:=i0 (aV b s);obtain⟨g,OA,hg⟩:=hJ.mp;have h0:=NU.row;rw[lx,nT]at h0;apply sR;simp only[go_sem,seval,bM.rt,bM.lt];have LS:okK s:=Gb hm.1.1 (by have:=hm.1.2;have:=hb.len;omega) hm.2.1 (by have:=zM hb hm;omega);have a5:True:=trivial;cases N5:g ⟨s,LS⟩with
  |some v=>
   obtain rfl:=hg ⟨s,LS⟩ v N5;refine ab.wT (by kernel_rfl) 8 (.fork [[],[0],[1,0],[2,1,0],[],[3,4,2,1,0],[5,3,4,2,1,0],[6,5,3,4,2,1,0],[6,5,3,4,2,1,0],[],[9,7,0,1,2,3,4,5,6],[8,10,0,1,2,3,4,5,6,7,9]] [0,1,2,3,4] [5,9] [(.leaf [[],[0],[1,0],[2,1,0],[],[3,4,2,1,0],[5,3,4,2,1,0],[6,5,3,4,2,1,0],[6,5,3,4,2,1,0],[5,3,4,2,1,0],[5,3,4,2,1,0,9,7,6],[5,3,4,2,1,0,8,10,6,7,9]] [5,6,7,8,9,10,11]),(.leaf [[],[0],[1,0],[2,1,0],[],[9,3,4,2,1,0],[9,5,3,4,2,1,0],[9,6,5,3,4,2,1,0],[9,6,5,3,4,2,1,0],[],[9,7,0,1,2,3,4,5,6],[9,8,10,0,1,2,3,4,5,6,7]] [9,5,6,7,8,10,11])]) (by kernel_rfl) ?_;refine GT.mK (its:=[0,2,4,6,8]) (by kernel_rfl) ?_;refine RE.MB (n:=0) [] [0,2,4,6,8] [⟨(.some 16),(.Mb (.t 0)),.none⟩,⟨(.some 17),(.nilCheck (.t 16)),.none⟩,⟨(.some 18),(.Mc .false 4 1 (.t 17)),.none⟩,⟨(.some 19),(.load .false 1 (.t 18)),.none⟩,⟨(.some 20),(.load .true 3 (.t 3)),.none⟩] rfl rfl ?_;apply sG;simp only[go_sem,seval,h0,a3,a5,N5,ay,az,aB,dN,dQ,Option.getD_some,Option.isSome_some,bV,bU];refine⟨?_,?_⟩
   .refine GT.gu (its:=[10,12,14,16,18,20,22]) (by kernel_rfl) ?_;refine RE.look rfl rfl rfl rfl ⟨Ks,inferInstance,RN,λs=>aH s.1,im,g,⟨s,LS⟩,sx,rfl,OA.sub hs,rfl,rfl⟩ ?_;refine RE.MB (n:=0) [] [12,14,16,18,20,22] [⟨(.some 15),(.Mb (.t 21)),.none⟩,⟨(.some 22),(.ext 0 (.t 15)),.none⟩,⟨(.some 23),(.ext 1 (.t 15)),.none⟩,⟨(.some 5),(.alloc 66 5 (.agg [(.int .i64 0),(.int .i64 0),(.int .i64 0),(.int .i64 0),(.bool .false)])),.none⟩,⟨.none,(.store 5 (.t 5) (.t 22)),.none⟩,⟨(.some 6),(.Mb (.t 23)),.none⟩] rfl rfl ?_;apply sG;simp only[go_sem,seval,h0,a3,a5,N5,ay,az,aB,dN,dQ,Option.getD_some,Option.isSome_some,bV,bU];refine bG λi5 Z5 s5 a5 f5=>?_;have ON:=ao a4 f5;have Q2:=ao a3 f5;replace h0:=s5 _ _ h0;replace a3:=s5 _ _ a3;replace a4:=s5 _ _ a4;have z5:=hs.none f5;replace hs:=hs.trans s5;simp only[go_sem,seval,h0,a3,a5,N5,ay,az,aB,dN,dQ,Option.getD_some,Option.isSome_some,bV,bU];generalize Np:E' _ i5 _=Y5;replace a5:=(congrFun Np i5).symm.trans ak;replace a3:=((congrFun Np i3).symm.trans (ad Q2)).trans a3;replace a4:=((congrFun Np i4).symm.trans (ad ON)).trans a4;replace hs:=Eq.subst (motive:=aa _) Np (hs.aG z5);clear Np;have Qf:=hJ.mono hs;apply sR;simp only[go_sem,seval,a4,a5,dN,dQ];obtain⟨n1,n2⟩:=hJ.new z4;exact⟨_,_,aa.refl _,Wk.refl (aa.refl _) _,rfl,Qf.E' n1 n2 (hJ.sub.none z4)⟩
   .refine GT.gu (its:=[18,7,9,10,12,14,16,20,22]) (by kernel_rfl) ?_;refine RE.MB (n:=0) [7,9,10,12,14,16,20,22] [18] [⟨(.some 5),(.alloc 66 5 (.agg [(.int .i64 0),(.int .i64 0),(.int .i64 0),(.int .i64 0),(.bool .false)])),.none⟩] rfl rfl ?_;apply sG;simp only[go_sem,seval,h0,a3,a5,N5,ay,az,aB,dN,dQ,Option.getD_some,Option.isSome_some,bV,bU];refine bG λi5 Z5 s5 a5 f5=>?_;have ON:=ao a4 f5;have Q2:=ao a3 f5;replace h0:=s5 _ _ h0;replace a3:=s5 _ _ a3;replace a4:=s5 _ _ a4;have z5:=hs.none f5;replace hs:=hs.trans s5;simp only[go_sem,seval,h0,a3,a5,N5,ay,az,aB,dN,dQ,Option.getD_some,Option.isSome_some,bV,bU];refine RE.MU rfl rfl rfl rfl rfl trivial (by simp only[go_sem,seval,h0,a3,a5,N5,ay,az,aB,dN,dQ,Option.getD_some,Option.isSome_some,bV,bU]) ?_;refine RE.MU rfl rfl rfl rfl rfl trivial (by simp only[go_sem,seval,h0,a3,a5,N5,ay,az,aB,dN,dQ,Option.getD_some,Option.isSome_some,bV,bU]) ?_;refine RE.look rfl rfl rfl rfl ⟨Ks,inferInstance,RN,λs=>aH s.1,im,g,⟨s,LS⟩,sx,rfl,OA.sub hs,rfl,rfl⟩ ?_;refine RE.MB (n:=0) [] [12,14,16,20,22] [⟨(.some 15),(.Mb (.t 21)),.none⟩,⟨(.some 22),(.ext 0 (.t 15)),.none⟩,⟨(.some 23),(.ext 1 (.t 15)),.none⟩,⟨.none,(.store 5 (.t 5) (.t 22)),.none⟩,⟨(.some 6),(.Mb (.t 23)),.none⟩] rfl rfl ?_;apply sG;simp only[go_sem,seval,h0,a3,a5,N5,ay,az,aB,dN,dQ,Option.getD_some,Option.isSome_some,bV,bU];generalize Np:E' _ i5 _=Y5;replace a5:=(congrFun Np i5).symm.trans ak;replace a3:=((congrFun Np i3).symm.trans (ad Q2)).trans a3;replace a4:=((congrFun Np i4).symm.trans (ad ON)).trans a4;replace hs:=Eq.subst (motive:=aa _) Np (hs.aG z5);clear Np;have Qf:=hJ.mono hs;apply sR;simp only[go_sem,seval,a4,a5,dN,dQ];obtain⟨n1,n2⟩:=hJ.new z4;exact⟨_,_,aa.refl _,Wk.refl (aa.refl _) _,rfl,Qf.E' n1 n2 (hJ.sub.none z4)⟩
  |none=>
   have fin:∀(S:Nat->V) (J:ag),aa U J->J i3=some ⟨37,3,[.agg [vI s.atom,vI s.done,.bool s.free]]⟩->J i4=some ⟨66,5,[.agg [vI 0,vI 0,vI 0,vI 0,.bool false]]⟩->
    S 0=.ptr i 0 0->S 3=.ptr i3 0 0->S 4=.ptr i4 0 0->S 6=.bool false->
    ab prog 69 [It.code Xz.code.rt.rt.lt.rt,It.code Xz.code.rt.rt.rt] ⟨S,J⟩ λst=>O8 [.cell true 5 (.t 4)] st λr Z'=>r=j3 (bI b s)/\eP b K Z' i im:=by
    clear hs a3 a4 h0 OA NU;intro S J hsZ a3 a4 t0 t3 t4 t6;have hs:=aa.refl J;refine ab.mix 11 ?_;apply sR;simp only[go_sem,seval,Xz,bM.rt,bM.lt,t0,t3,t4,t6];refine ae λi7 Z7 s7 a7 f7=>?_;have Ts:=ao a3 f7;replace a3:=s7 _ _ a3;have n47:=ao a4 f7;replace a4:=s7 _ _ a4;have z7:=hs.none f7;replace hs:=hs.trans s7;have TB:=hJ.mono (hsZ.trans hs);simp only[go_sem,seval,t0,t3,t4,a3,aB];refine ab.aC rfl rfl rfl (oh b hb s hm TB.row) ?_;apply sR;simp only[go_sem,seval,Yd];have z7':=hsZ.none z7;obtain⟨m3,k3⟩:=hJ.new z3;obtain⟨m4,k4⟩:=hJ.new z4;obtain⟨m7,k7⟩:=hJ.new z7';have K7:=hJ.sub.none z7';have K4:=hJ.sub.none z4;have K3:=hJ.sub.none z3;have Mt:(nM b s).length=(aV b s).length:=by unfold nM;rw[eU]
    refine ab.loop (λm st=>∃(j:Nat) (o:Option (Ms×Lu)),j<=(aV b s).length/\m=(aV b s).length-j/\(j=0/\o=none\/0<j/\∃y,o=some y)/\kg (nM b s) none=kg ((nM b s).drop j) o/\eP b K st.U i im/\
     st.U i3=some ⟨37,3,[.agg [vI s.atom,vI s.done,.bool s.free]]⟩/\st.U i4=some ⟨66,5,[.agg [vI 0,vI 0,vI 0,vI 0,.bool false]]⟩/\st.U i7=some ⟨66,5,[j3 (o.getD zW)]⟩/\
     st.s 0=.ptr i 0 0/\st.s 3=.ptr i3 0 0/\st.s 4=.ptr i4 0 0/\st.s 7=.ptr i7 0 0/\st.s 28=cm (aV b s)/\st.s 29=vI (aV b s).length/\st.s 30=vI j) (aV b s).length ⟨0,none,by omega,rfl,.inl ⟨rfl,rfl⟩,rfl,TB,a3,a4,a7,t0,t3,t4,rfl,rfl,rfl,rfl⟩ ?_
    clear a3 a4 a7 t0 t3 t4 t6 hs TB;rintro m ⟨S',ω⟩ ⟨j,o,hj,rfl,hjo,RV,Qr,a3,a4,a7,t0,t3,t4,t7,t28,t29,t30⟩;simp only at Qr a3 a4 a7 t0 t3 t4 t7 t28 t29 t30;refine ab.mix 11 ?_;by_cases Lr:j<(aV b s).length
    .have q:((j:Int)<(aV b s).length)=True:=LH;have Lv:=λU=>iz (U:=U) Lr;have Pj:=mL (aV b s)[j];have N3:(aV b s)[j]∈aV b s:=ML Lr;have hcd:(nM b s).drop j=((bI b (aV b s)[j]).1.on (br b (aV b s)[j]),(aV b s)[j])::(nM b s).drop (j+1):=by
      rw[iY (by omega)];congr 1;simp[nM]
     rw[hcd]at RV;clear hcd;generalize (aV b s)[j]=t at*;obtain⟨vt,mt⟩:=M7 t N3;obtain⟨g1,g2,g3,g4⟩:=BN hb hL vt;obtain⟨g5,g6⟩:=nR hb t;have hatt:0<=t.atom/\t.atom<b.Mi.length:=by
      have:=hb.Uq;rcases vt with h|h
      .exact⟨h.1.1,by have:=h.1.2;omega⟩
      .omega
     have r1:LP .i64 ((bI b t).1.LD+1):=au;have r2:LP .i64 ((bI b t).1.LY+br b t):=au;have r3:LP .i64 ((j:Int)+1):=au;have hC:eJ ((bI b t).1.on (br b t))=.agg [vI ((bI b t).1.LD+1),vI ((bI b t).1.LY+br b t)]:=rfl;have hs:=aa.refl ω;apply sR;simp only[go_sem,seval,t0,t28,t29,t30,q,Lv,Pj,ay,az];refine ae λi9 Z9 s9 a9 f9=>?_;have Ye:=ao a3 f9;replace a3:=s9 _ _ a3;have n49:=ao a4 f9;replace a4:=s9 _ _ a4;have Qm:=ao a7 f9;replace a7:=s9 _ _ a7;have z9:=hs.none f9;replace hs:=hs.trans s9;simp only[go_sem,seval,a9,t0,t28,t29,t30,ay,az];generalize MC:E' _ i9 _=Y9;replace a9:=(congrFun MC i9).symm.trans ak;replace a3:=((congrFun MC i3).symm.trans (ad Ye)).trans a3;replace a4:=((congrFun MC i4).symm.trans (ad n49)).trans a4;replace a7:=((congrFun MC i7).symm.trans (ad Qm)).trans a7;replace hs:=Eq.subst (motive:=aa _) MC (hs.aG z9);clear MC;simp only[go_sem,seval,t0,a9,aB];have So:=Qr.mono hs;obtain⟨m9,k9⟩:=Qr.new z9;refine ab.call rfl rfl rfl (uF b hb hL f t vt (by omega) _ _ _ _ So.off) ?_;rintro r X2 ⟨rfl,Q8⟩;have get:∀q o,q≠i->q≠im->Y9 q=some o->X2 q=some o:=λq o h1 h2 h3=>Q8.sub _ _ (by rw[dO h1 h2];exact h3);replace a3:=get _ _ m3 k3 a3;replace a4:=get _ _ m4 k4 a4;replace a7:=get _ _ m7 k7 a7;replace a9:=get _ _ m9 k9 a9;have RI:=Q8.less So.jW;clear get Q8 So Qr;replace hs:=aa.refl X2;generalize bI b t=B at*;have hW:V.agg [vI (B.1.LD+1),vI (B.1.LY+br b t),vI t.atom,vI t.done,.bool t.free]=j3 (B.1.on (br b t),t):=rfl;apply sR;simp only[go_sem,seval,t0,dN,dQ];refine ae λMa Q4 M0 LG f10=>?_;have n310:=ao a3 f10;replace a3:=M0 _ _ a3;have TD:=ao a4 f10;replace a4:=M0 _ _ a4;have PA:=ao a7 f10;replace a7:=M0 _ _ a7;have Qa:=ao a9 f10;replace a9:=M0 _ _ a9;have Ol:=hs.none f10;replace hs:=hs.trans M0;simp only[go_sem,seval,LG];generalize LN:E' _ Ma _=Uf;replace LG:=(congrFun LN Ma).symm.trans ak;replace a3:=((congrFun LN i3).symm.trans (ad n310)).trans a3;replace a4:=((congrFun LN i4).symm.trans (ad TD)).trans a4;replace a7:=((congrFun LN i7).symm.trans (ad PA)).trans a7;replace a9:=((congrFun LN i9).symm.trans (ad Qa)).trans a9;replace hs:=Eq.subst (motive:=aa _) LN (hs.aG Ol);clear LN;have hJ10:=RI.mono hs;refine⟨r1,?_⟩;simp only[go_sem,seval,t0,a9,LG,ay,az,aB];refine Go.lf rfl rfl rfl (λZ1 h1=>oF b t hatt (h1 _ _ hJ10.row)) ?_;rcases hjo with⟨rfl,rfl⟩|⟨hj0,y,rfl⟩
     .have q50:(((0:Nat):Int)=0)=True:=LH rfl;apply sG;simp only[go_sem,seval,LG,r2,q50];generalize LN:E' _ Ma _=Uf;replace LG:=(congrFun LN Ma).symm.trans ak;replace a3:=((congrFun LN i3).symm.trans (ad n310)).trans a3;replace a4:=((congrFun LN i4).symm.trans (ad TD)).trans a4;replace a7:=((congrFun LN i7).symm.trans (ad PA)).trans a7;replace a9:=((congrFun LN i9).symm.trans (ad Qa)).trans a9;replace hs:=Eq.subst (motive:=aa _) LN (hs.aG Ol);clear LN;have U9:=RI.mono hs;rw[Option.getD_none]at a7;simp only[go_sem,seval,t0,t7,t30,a9,LG,a7,q50,r3,ay,az,dN,dQ];exact⟨au (by decide) (by decide),_,by omega,1,some (B.1.on (br b t),t),by omega,rfl,.inr ⟨by omega,_,rfl⟩,RV,U9.E' m7 k7 K7,(ad Ts).trans a3,(ad n47).trans a4,rfl,by simp[t0,t3,t4,t7,t28,t29]⟩
     .have q50:((j:Int)=0)=False:=Ly;apply sG;simp only[go_sem,seval,LG,r2,q50];generalize LN:E' _ Ma _=Uf;replace LG:=(congrFun LN Ma).symm.trans ak;replace a3:=((congrFun LN i3).symm.trans (ad n310)).trans a3;replace a4:=((congrFun LN i4).symm.trans (ad TD)).trans a4;replace a7:=((congrFun LN i7).symm.trans (ad PA)).trans a7;replace a9:=((congrFun LN i9).symm.trans (ad Qa)).trans a9;replace hs:=Eq.subst (motive:=aa _) LN (hs.aG Ol);clear LN;have U9:=RI.mono hs;rw[Option.getD_some]at a7;simp only[go_sem,seval,t0,t7,a9,LG,a7,q50,ay,az,dN,dQ];refine ab.aC rfl rfl rfl (zk (B.1.on (br b t)) y.1 _) ?_;by_cases hl:(B.1.on (br b t)).lt y.1
      .rw[NA hl];apply sR;simp only[go_sem,seval,t0,t7,t30,a9,LG,a7,r3,ay,az,dN,dQ];exact⟨_,by omega,j+1,some (B.1.on (br b t),t),by omega,rfl,.inr ⟨by omega,_,rfl⟩,by rw[RV,kg,aI hl],U9.E' m7 k7 K7,(ad Ts).trans a3,(ad n47).trans a4,rfl,by simp[t0,t3,t4,t7,t28,t29]⟩
      .rw[Nz hl];apply sR;simp only[go_sem,seval,t30,r3];exact⟨_,by omega,j+1,some y,by omega,rfl,.inr ⟨by omega,_,rfl⟩,by rw[RV,kg,aJ hl],U9,a3,a4,by rw[Option.getD_some];exact a7,by simp[t0,t3,t4,t7,t28,t29]⟩
    .have q:((j:Int)<(aV b s).length)=False:=Ly
     (refine ab.bD MJ.nothing 8 ?_;simp only[go_sem,seval,nu,t0,t3,t4,t7,t29,t30,q])
     have Nj:j=(aV b s).length:=by omega
     have hoe:o.getD zW=bI b s:=by rw[hbp,RV,Nj,<-Mt,uN];rfl
     rw[hoe]at a7;have h0:=Qr.row;obtain⟨gω,hmZ,hgZ⟩:=Qr.mp;rw[lx,nT]at h0;refine ab.Kg [6] rfl (XC.go 6 ?_);apply sG;simp only[go_sem,seval,t0,t3,t7,h0,a3,a7,ay,az,aB,dN,dQ,yG,bV,bU,xF,List.take_zero];refine XC.ql (a:=⟨s,LS⟩) (by decide) rfl rfl sx rfl hmZ rfl rfl ?_;intro ob MG Uy;refine XC.nil ?_;have b4:=(ad (o:=ob) k4).trans a4;have b7:=(ad (o:=ob) k7).trans a7;have hJe:eP b K (Vc.E' ω im ob) i im:=⟨(ad Qr.ne).trans Qr.row,⟨_,Uy,λs' v' hh=>by
      by_cases TH:(⟨s,LS⟩:Ks)=s'
      .rw[aI TH]at hh;rw[<-TH];exact(Option.some.inj hh).symm
      .rw[aJ TH]at hh;exact hgZ s' v' hh⟩,Qr.ni,Qr.nm,Qr.sub.aG Qr.nm⟩
     apply sR;simp only[go_sem,seval,t4,t7,b4,b7,dN,dQ];exact⟨_,_,aa.refl _,Wk.refl (aa.refl _) _,rfl,hJe.E' m4 k4 K4⟩
   refine ab.wT (by kernel_rfl) 8 (.fork [[],[0],[1,0],[2,1,0],[],[3,4,2,1,0],[5,3,4,2,1,0],[6,5,3,4,2,1,0],[6,5,3,4,2,1,0],[],[9,7,0,1,2,3,4,5,6],[8,10,0,1,2,3,4,5,6,7,9]] [0,1,2,3,4] [5,9] [(.leaf [[],[0],[1,0],[2,1,0],[],[3,4,2,1,0],[5,3,4,2,1,0],[6,5,3,4,2,1,0],[6,5,3,4,2,1,0],[5,3,4,2,1,0],[5,3,4,2,1,0,9,7,6],[5,3,4,2,1,0,8,10,6,7,9]] [5,6,7,8,9,10,11]),(.leaf [[],[0],[1,0],[2,1,0],[],[9,3,4,2,1,0],[9,5,3,4,2,1,0],[9,6,5,3,4,2,1,0],[9,6,5,3,4,2,1,0],[],[9,7,0,1,2,3,4,5,6],[9,8,10,0,1,2,3,4,5,6,7]] [9,5,6,7,8,10,11])]) (by kernel_rfl) ?_;refine GT.mK (its:=[0,2,4,6,8]) (by kernel_rfl) ?_;refine RE.MB (n:=0) [] [0,2,4,6,8] [⟨(.some 16),(.Mb (.t 0)),.none⟩,⟨(.some 17),(.nilCheck (.t 16)),.none⟩,⟨(.some 18),(.Mc .false 4 1 (.t 17)),.none⟩,⟨(.some 19),(.load .false 1 (.t 18)),.none⟩,⟨(.some 20),(.load .true 3 (.t 3)),.none⟩] rfl rfl ?_;apply sG;simp only[go_sem,seval,h0,a3,a5,N5,ay,az,aB,Option.getD_none,Option.isSome_none,bV,bU];refine⟨?_,?_⟩
   .refine GT.gu (its:=[10,12,14,16,18,20,22]) (by kernel_rfl) ?_;refine RE.look rfl rfl rfl rfl ⟨Ks,inferInstance,RN,λs=>aH s.1,im,g,⟨s,LS⟩,sx,rfl,OA.sub hs,rfl,rfl⟩ ?_;refine RE.MB (n:=0) [] [12,14,16,18,20,22] [⟨(.some 15),(.Mb (.t 21)),.none⟩,⟨(.some 22),(.ext 0 (.t 15)),.none⟩,⟨(.some 23),(.ext 1 (.t 15)),.none⟩,⟨(.some 5),(.alloc 66 5 (.agg [(.int .i64 0),(.int .i64 0),(.int .i64 0),(.int .i64 0),(.bool .false)])),.none⟩,⟨.none,(.store 5 (.t 5) (.t 22)),.none⟩,⟨(.some 6),(.Mb (.t 23)),.none⟩] rfl rfl ?_;apply sG;simp only[go_sem,seval,h0,a3,a5,N5,ay,az,aB,Option.getD_none,Option.isSome_none,bV,bU];refine bG λi5 Z5 s5 a5 f5=>?_;have ON:=ao a4 f5;have Q2:=ao a3 f5;replace h0:=s5 _ _ h0;replace a3:=s5 _ _ a3;replace a4:=s5 _ _ a4;have z5:=hs.none f5;replace hs:=hs.trans s5;simp only[go_sem,seval,h0,a3,a5,N5,ay,az,aB,Option.getD_none,Option.isSome_none,bV,bU];exact fin _ _ (hs.aG z5) ((ad Q2).trans a3) ((ad ON).trans a4) rfl rfl rfl rfl
   .refine GT.gu (its:=[18,7,9,10,12,14,16,20,22]) (by kernel_rfl) ?_;refine RE.MB (n:=0) [7,9,10,12,14,16,20,22] [18] [⟨(.some 5),(.alloc 66 5 (.agg [(.int .i64 0),(.int .i64 0),(.int .i64 0),(.int .i64 0),(.bool .false)])),.none⟩] rfl rfl ?_;apply sG;simp only[go_sem,seval,h0,a3,a5,N5,ay,az,aB,Option.getD_none,Option.isSome_none,bV,bU];refine bG λi5 Z5 s5 a5 f5=>?_;have ON:=ao a4 f5;have Q2:=ao a3 f5;replace h0:=s5 _ _ h0;replace a3:=s5 _ _ a3;replace a4:=s5 _ _ a4;have z5:=hs.none f5;replace hs:=hs.trans s5;simp only[go_sem,seval,h0,a3,a5,N5,ay,az,aB,Option.getD_none,Option.isSome_none,bV,bU];refine RE.MU rfl rfl rfl rfl rfl trivial (by simp only[go_sem,seval,h0,a3,a5,N5,ay,az,aB,Option.getD_none,Option.isSome_none,bV,bU]) ?_;refine RE.MU rfl rfl rfl rfl rfl trivial (by simp only[go_sem,seval,h0,a3,a5,N5,ay,az,aB,Option.getD_none,Option.isSome_none,bV,bU]) ?_;refine RE.look rfl rfl rfl rfl ⟨Ks,inferInstance,RN,λs=>aH s.1,im,g,⟨s,LS⟩,sx,rfl,OA.sub hs,rfl,rfl⟩ ?_;refine RE.MB (n:=0) [] [12,14,16,20,22] [⟨(.some 15),(.Mb (.t 21)),.none⟩,⟨(.some 22),(.ext 0 (.t 15)),.none⟩,⟨(.some 23),(.ext 1 (.t 15)),.none⟩,⟨.none,(.store 5 (.t 5) (.t 22)),.none⟩,⟨(.some 6),(.Mb (.t 23)),.none⟩] rfl rfl ?_;apply sG;simp only[go_sem,seval,h0,a3,a5,N5,ay,az,aB,Option.getD_none,Option.isSome_none,bV,bU];exact fin _ _ (hs.aG z5) ((ad Q2).trans a3) ((ad ON).trans a4) rfl rfl rfl rfl
open Go.Proofs Go.Proofs.Tryz
def OP(l:List Nd)(w h:Int):Int:=if iO l w h≠0 then iO l w h else if((bb l w h).Pg.length:Int)>0 then 4 else 0
def iL{l:List Nd}{w h:Int}(h0:OP l w h=0):iO l w h=0/\(bb l w h).Pg=[]:=by
 unfold OP at h0;split at h0
 .rename_i g;exact absurd h0 g
 .rename_i g;split at h0
  .cases h0
  .rename_i g2;exact⟨Decidable.byContradiction g,rE (by omega)⟩
def wI(l:List Nd)(hl:dV l)(w h:Int)(h0:OP l w h≠0):bc prog 19 [aM l,vI w,vI h] (.LI [.O2,vI (OP l w h)]):=λU=>by
 refine e19.r (by simp[YT]) ?_;have hs:=aa.refl U;have hn:=FJ l hl w h;unfold zw at hn;refine ab.mix 11 ?_;apply sR;simp only[go_sem,seval,YT];refine ab.aC rfl rfl rfl (hn _) ?_;unfold OP at h0|-;by_cases he:iO l w h=0
 .have hb:=fN hl he;rw[aJ (show¬(iO l w h≠0)from λk=>k he)]at h0|-;rw[aI he,he];generalize bb l w h=b at*;have Un:=qL b.Pg;by_cases hf:(b.Pg.length:Int)>0
  .rw[aI hf];have q1:((0:Int)≠0)=False:=Ly λh=>h rfl;have q2:((b.Pg.length:Int)>0)=True:=LH hf;have RO:(rj b).cells=[bX b.atoms,bo b.Pg,vI b.LB]:=rfl;have N5:(rj b).stays=true:=rfl;apply sR;simp only[go_sem,seval,q1];refine ab.aC rfl rfl rfl (tH b hb.toBkFull _) ?_;apply sR;simp only[go_sem,seval,RO,N5];refine ae λMa Q4 M0 LG f10=>?_;have Ol:=hs.none f10;replace hs:=hs.trans M0;simp only[go_sem,seval,LG,RO,N5,Un,q2,ar,aq,bh,bg];exact aE.pure (hs.aG Ol) rfl
  .rw[aJ hf]at h0;exact absurd rfl h0
 .rw[aI (show iO l w h≠0 from he)]at h0|-;have q1:(iO l w h≠0)=True:=LH he;rw[aJ he];generalize iO l w h=E at*;apply sR;simp only[go_sem,seval,q1];exact aE.same rfl
def nN(l:List Nd)(hl:dV l)(w h:Int)(h0:OP l w h=0)(U:ag):
 aA prog 19 [aM l,vI w,vI h] U λr Z'=>∃i im,r=.LI [.ptr i 0 0,vI 0]/\eP (bb l w h) U Z' i im:=by
 refine e19.r (by simp[YT]) ?_;have hs:=aa.refl U;obtain⟨he,hf⟩:=iL h0;have hn:=FJ l hl w h;unfold zw at hn;rw[aI he,he]at hn;have hb:=fN hl he;have VM:(bb l w h).nodes=l:=rfl;have hbh:(bb l w h).h=h:=rfl;clear h0;generalize bb l w h=b at*;subst VM;subst hbh;have Un:=qL b.Pg;have q1:((0:Int)≠0)=False:=Ly λh=>h rfl;have q2:((b.Pg.length:Int)>0)=False:=Ly (by rw[hf];decide);have RO:(rj b).cells=[bX b.atoms,bo b.Pg,vI b.LB]:=rfl;have N5:(rj b).stays=true:=rfl;refine ab.mix 11 ?_;apply sR;simp only[go_sem,seval,YT];refine ab.aC rfl rfl rfl (hn _) ?_;apply sR;simp only[go_sem,seval,q1];refine ab.aC rfl rfl rfl (tH b hb.toBkFull _) ?_;apply sR;simp only[go_sem,seval,RO,N5];refine ae λMa Q4 M0 LG f10=>?_;have Ol:=hs.none f10;replace hs:=hs.trans M0;simp only[go_sem,seval,LG,RO,N5,ar,aq,bh,bg];generalize LN:E' _ Ma _=Uf;replace LG:=(congrFun LN Ma).symm.trans ak;replace hs:=Eq.subst (motive:=aa _) LN (hs.aG Ol);clear LN;simp only[go_sem,seval,LG,RO,N5,Un,q2,ar,aq,bh,bg];refine ab.wT (by kernel_rfl) 8 (.fork [[],[],[1],[],[3],[],[],[0,2,4,5,6,1,3],[7,0,2,4,5,6,1,3],[8,4,0,1,2,3,5,6,7],[9,0,1,2,3,4,5,6,7,8]] [0,1,2,3,5] [4,6] [(.leaf [[],[],[1],[],[3],[],[4,3],[4,3,0,2,5,6,1],[4,3,7,0,2,5,6,1],[4,3,8,0,1,2,5,6,7],[4,3,9,0,1,2,5,6,7,8]] [4,6,7,8,9,10]),(.leaf [[],[],[1],[],[6,3],[],[],[6,0,2,4,5,1,3],[6,7,0,2,4,5,1,3],[6,8,4,0,1,2,3,5,7],[6,9,0,1,2,3,4,5,7,8]] [6,4,7,8,9,10])]) (by kernel_rfl) ?_;refine GT.mK (its:=[0,2,4,6,10]) (by kernel_rfl) ?_;refine RE.MB (n:=0) [] [0,2,4,6,10] [⟨(.some 27),(.Mb (.t 0)),.none⟩,⟨(.some 28),(.Mc .false 0 1 (.t 10)),.none⟩,⟨(.some 29),(.load .false 1 (.t 28)),.none⟩,⟨(.some 30),(.Mb (.t 8)),.none⟩,⟨(.some 32),(.Mb (.t 2)),.none⟩] rfl rfl ?_;apply sG;simp only[go_sem,seval,LG,RO,N5,af,aF,ar,aq,bh,bg,bx,bw,bV,bU];refine⟨?_,?_⟩
 .refine GT.gu (its:=[8,5,12,5,14,16,18,20]) (by kernel_rfl) ?_;refine RE.aC rfl rfl rfl rfl rfl (ur b hb.toBkFull _) ?_;refine RE.MU rfl rfl rfl rfl rfl trivial (by simp only[go_sem,seval,LG,RO,N5,af,aF,ar,aq,bh,bg,bx,bw,bV,bU]) ?_;refine RE.mkMap rfl rfl rfl rfl λim Vl=>?_;replace LG:=(ad (o:=gh (.map #[] 0) []) (ao LG Vl)).trans LG;have zm:=hs.none Vl;replace hs:=hs.aG (o:=gh (.map #[] 0) []) zm;refine RE.MU rfl rfl rfl rfl rfl trivial (by simp only[go_sem,seval,LG,RO,N5,af,aF,ar,aq,bh,bg,bx,bw,bV,bU]) ?_;refine RE.MB (n:=0) [] [14,16,18,20] [⟨(.some 34),(.build [.bz,.bz,.bz,(.int .i64 0),(.raw (.map .none))] [(0,(1,(.t 27))),(1,(1,(.t 29))),(2,(1,(.t 31))),(3,(1,(.t 32))),(4,(1,(.t 33)))]),.none⟩,⟨(.some 35),(.box 81 5 (.t 34)),.none⟩,⟨(.some 6),(.Mb (.t 35)),.none⟩,⟨(.some 7),(.Mb (.c (.int .i64 0))),.none⟩] rfl rfl ?_;apply sG;simp only[go_sem,seval,LG,RO,N5,af,aF,ar,aq,bh,bg,bx,bw,bV,bU];refine bG λi35 Z35 s35 a35 f35=>?_;have z35:=hs.none f35;replace hs:=hs.trans s35;simp only[go_sem,seval,LG,RO,N5,af,aF,ar,aq,bh,bg,bx,bw,bV,bU];apply sR;simp only[go_sem,seval];exact⟨_,_,aa.refl _,Wk.refl (aa.refl _) _,i35,im,rfl,a35,⟨λ_=>none,mz.nil RN (s35 _ _ ak),λs v h=>by cases h⟩,z35,zm,hs⟩
 .refine GT.gu (its:=[12,5,8,5,14,16,18,20]) (by kernel_rfl) ?_;refine RE.mkMap rfl rfl rfl rfl λim Vl=>?_;replace LG:=(ad (o:=gh (.map #[] 0) []) (ao LG Vl)).trans LG;have zm:=hs.none Vl;replace hs:=hs.aG (o:=gh (.map #[] 0) []) zm;refine RE.MU rfl rfl rfl rfl rfl trivial (by simp only[go_sem,seval,LG,RO,N5,af,aF,ar,aq,bh,bg,bx,bw,bV,bU]) ?_;refine RE.aC rfl rfl rfl rfl rfl (ur b hb.toBkFull _) ?_;refine RE.MU rfl rfl rfl rfl rfl trivial (by simp only[go_sem,seval,LG,RO,N5,af,aF,ar,aq,bh,bg,bx,bw,bV,bU]) ?_;refine RE.MB (n:=0) [] [14,16,18,20] [⟨(.some 34),(.build [.bz,.bz,.bz,(.int .i64 0),(.raw (.map .none))] [(0,(1,(.t 27))),(1,(1,(.t 29))),(2,(1,(.t 31))),(3,(1,(.t 32))),(4,(1,(.t 33)))]),.none⟩,⟨(.some 35),(.box 81 5 (.t 34)),.none⟩,⟨(.some 6),(.Mb (.t 35)),.none⟩,⟨(.some 7),(.Mb (.c (.int .i64 0))),.none⟩] rfl rfl ?_;apply sG;simp only[go_sem,seval,LG,RO,N5,af,aF,ar,aq,bh,bg,bx,bw,bV,bU];refine bG λi35 Z35 s35 a35 f35=>?_;have z35:=hs.none f35;replace hs:=hs.trans s35;simp only[go_sem,seval,LG,RO,N5,af,aF,ar,aq,bh,bg,bx,bw,bV,bU];apply sR;simp only[go_sem,seval];exact⟨_,_,aa.refl _,Wk.refl (aa.refl _) _,i35,im,rfl,a35,⟨λ_=>none,mz.nil RN (s35 _ _ ak),λs v h=>by cases h⟩,z35,zm,hs⟩
open Go.Proofs Go.Proofs.Tryz
def eP.neR{b:Bk}{K U:ag}{i im a e:Nat}{rows:List V}(h:eP b K U i im)(ha:U a=some ⟨e,3,rows⟩):a≠i/\a≠im:=
 ⟨λg=>(by rw[g,h.row]at ha;simp[lx]at ha),λg=>(by obtain⟨_,⟨es,ck,ks,env,g1,-⟩,-⟩:=h.mp;rw[g,g1]at ha;simp[gh]at ha)⟩
def aQ.neD{b:Bk}{K K' U:ag}{i im e a n:Nat}{v:V}{rows:List V}(ho:aQ K U e 3 v rows)(h:eP b K' U i im)(hv:v=.own a 0 n):a≠i/\a≠im:=by
 rcases ho with⟨h1,-⟩|⟨id,h1,h2,-⟩
 .rw[h1]at hv;cases hv
 .rw[h1]at hv;cases hv;exact h.neR h2
def eP.del{b:Bk}{K U:ag}{i im:Nat}{LQ:Option Nat}(h:eP b K U i im)(h1:∀a,LQ=some a->(a≠i/\a≠im)/\K a=none):eP b K (Vc.bT U LQ) i im:=by
 cases LQ with
 |none=>exact h
 |some a=>
  obtain⟨⟨n1,n2⟩,n3⟩:=h1 a rfl;obtain⟨g,⟨es,ck,ks,env,g1,g2⟩,g3⟩:=h.mp;exact⟨(eT n1.symm).trans h.row,⟨g,⟨es,ck,ks,env,(eT n2.symm).trans g1,g2⟩,g3⟩,h.ni,h.nm,h.sub.Ci n3⟩
def wz{b:Bk}(hb:bP b){L:Int}(hL:gG b L){n:Nat}{s:Lu}(hv:dS b s)(h:(n:Int)*L+iM b L s<=iM b L ⟨0,0,true⟩):n<=100000:=by
 have h0:=rH hb hL hv;have hL1:=hL.pos;have NP:=hL.rest;have hna:=hL.na;have hm:((b.atoms.length:Int)-0)*L<=10000*L:=Int.mul_le_mul_of_nonneg_right (by omega) (by omega);have hp:iM b L ⟨0,0,true⟩<=42768*L:=by
  unfold iM;simp only[Int.toNat_zero];omega
 refine Decidable.byContradiction λhc=>?_;have:=Int.mul_le_mul_of_nonneg_right (show(100001:Int)<=n by omega) (show 0<=L by omega);omega
def Al(b:Bk)(hb:bP b){L:Int}(hL:gG b L){K0 U:ag}{i im:Nat}(hJ:eP b K0 U i im)(fn:FuncId)(caps:List V)(on:Lu->Lu)(Mx:∀s,dS b s->¬bE b s->on s∈aV b s)
 (hf:∀(J:ag) (s:Lu),dS b s->¬bE b s->eP b (pB U i im) J i im->aA prog fn (aH s::caps) J λr X'=>r=aH (on s)/\eP b (pB J i im) X' i im):
 aA prog 21 [.ptr i 0 0,.fn fn caps] U λr Z'=>eP b (pB U i im) Z' i im/\aQ (pB U i im) Z' 37 3 r ((iT b on dR ⟨0,0,true⟩).map aH):=by
 refine e21.r (by simp[c21]) ?_;have hs:=aa.refl U;refine ab.mix 7 ?_;apply sR;simp only[go_sem,seval,c21];refine ae λi6 Z6 s6 a6 f6=>?_;have z6:=hs.none f6;replace hs:=hs.trans s6;simp only[go_sem,seval,a6];generalize WZ:E' _ i6 _=Y6;replace a6:=(congrFun WZ i6).symm.trans ak;replace hs:=Eq.subst (motive:=aa _) WZ (hs.aG z6);clear WZ;have R7:=hJ.off.mono hs;refine ab.loop (λm st=>∃(s:Lu) (pre:List Lu) (v:V) (i6 f:Nat),m=PM b s/\dS b s/\PM b s<f/\iT b on dR ⟨0,0,true⟩=pre++iT b on f s/\(pre.length:Int)*L+iM b L s<=iM b L ⟨0,0,true⟩/\
  eP b (pB U i im) st.U i im/\aQ (pB U i im) st.U 37 3 v (pre.map aH)/\(∀n,v≠.own i6 0 n)/\st.U i6=some ⟨37,3,[aH s]⟩/\st.s 0=.ptr i 0 0/\st.s 1=.fn fn caps/\st.s 5=v/\st.s 6=.ptr i6 0 0)
  (PM b ⟨0,0,true⟩) ⟨⟨0,0,true⟩,[],.bz,i6,dR,rfl,cT b hb,fZ hb,rfl,by simp,R7,aQ.start,λn h=>(by cases h),a6,rfl,rfl,rfl,rfl⟩ ?_
 clear a6 z6 R7 hs;rintro m ⟨S,ω⟩ ⟨s,pre,v,i6,f,rfl,hv,hmf,Mv,ZS,Qr,ho,Yz,a6,t0,t1,t5,t6⟩;simp only at Qr ho a6 t0 t1 t5 t6;obtain⟨f,rfl⟩:∃f',f=f'+1:=⟨f-1,by omega⟩
 rw[iT]at Mv;refine ab.mix 7 ?_;apply sR;simp only[go_sem,seval,t0,t6,a6,ay,az,aB];refine ab.aC rfl rfl rfl (nQ b s Qr.row) ?_;by_cases L3:bE b s
 .rw[NA L3];rw[aI L3,kC]at Mv;apply sR;simp only[go_sem,seval,t5,Bool.not_true];rw[Mv];exact⟨_,_,aa.refl _,Wk.refl (aa.refl _) _,Qr,ho⟩
 .rw[Nz L3];rw[aJ L3]at Mv;have N3:=Mx s hv L3;obtain⟨vt,mt⟩:=(bt hb).on s hv L3 _ N3;have L8:=sC hb hL hv L3 N3;have Qi:=wz hb hL hv ZS;apply sR;simp only[go_sem,seval,t5,t6,a6,Bool.not_false,ay,az,aB];refine ae λi17 Z17 UX YX f17=>?_;obtain⟨LQ,NF,Qk⟩:=ho.Ja UX;have Oc:((pre.map aH).length+1)*25<=140737488355328:=by rw[eU];omega
  simp only[go_sem,seval,NF,fm YX,Oc];refine er λVS Z18 Sc Pz f18=>?_;have Xh:=Qr.mono UX;have Xi:=(Xh.del λa ha=>⟨ho.neD Qr (Qk a ha).2.2,(Qk a ha).1⟩).mono Sc;have k18:=Xh.sub.none f18;obtain⟨m18,m18'⟩:=Xh.new f18;replace a6:Z18 i6=some ⟨37,3,[aH s]⟩:=Sc _ _ (by
   cases LQ with
   |none=>exact UX _ _ a6
   |some a=>exact(eT λg=>Yz _ (by rw[g];exact(Qk a rfl).2.2)).trans (UX _ _ a6))
  have hs:=aa.refl Z18;simp only[go_sem,seval,t6,a6,ay,az,aB];refine ae λi20 Z20 s20 a20 f20=>?_;have TN:=ao Pz f20;replace Pz:=s20 _ _ Pz;have z20:=hs.none f20;replace hs:=hs.trans s20;simp only[go_sem,seval,a20,ay,az,aB];generalize U':E' _ i20 _=Y20;replace a20:=(congrFun U' i20).symm.trans ak;replace Pz:=((congrFun U' VS).symm.trans (ad TN)).trans Pz;replace hs:=Eq.subst (motive:=aa _) U' (hs.aG z20);clear U';simp only[go_sem,seval,t1,a20,ay,az,aB];have hJ20:=Xi.mono hs;obtain⟨m20,m20'⟩:=Xi.new z20;have k20:=Xi.sub.none z20;refine ab.call rfl rfl rfl (hf Y20 s hv L3 hJ20) ?_;rintro r X' ⟨rfl,OH⟩;replace a20:=OH.sub _ _ ((dO m20 m20').trans a20);replace Pz:=OH.sub _ _ ((dO m18 m18').trans Pz);have Q8:=OH.less hJ20.jW;apply sR;simp only[go_sem,seval,a20,ay,az];exact⟨_,mt,on s,pre++[s],.own VS 0 ((pre.map aH).length+1),i20,f,rfl,vt,by omega,by rw[Mv,lU];rfl,by rw[kf,List.length_singleton,Int.natCast_add,Int.add_mul];simp only[Int.natCast_one,Int.one_mul];omega,Q8.E' m20 m20' k20,
   by rw[gM];exact aQ.new (by simp) ((ad TN).trans Pz) k18,λn h=>(by cases h;exact TN rfl),ak,by simp[t0,t1]⟩
open Go.Proofs Go.Proofs.Tryz
def nX{s:Nat->V}{U:ag}{a1:Bool}{n1 d e t:Nat}{Post:V->ag->Prop}:
 O8 [.tmp (.t t),.cell a1 n1 (.t d),.tmp (.t e)] ⟨s,U⟩ Post=dL (cJ U a1 n1 (s d)) λv=>aE (.LI [s t,v,s e]) U Post:=by
 unfold O8 aE qm;simp only[gk,iq,VX.ev];cases cJ U a1 n1 (s d)<;>simp[dL]
def Dg(x:Ms×Lu):gY true 2 3 (j3 x)=some (aH x.2):=rfl
def A1(x:Ms×Lu):gY true 0 2 (j3 x)=some (eJ x.1):=rfl
def Hr(b:Bk)(hb:bP b){L:Int}(hL:gG b L)(s:Lu)(hv:dS b s){K J:ag}{i im i9:Nat}(hJ:eP b K J i im)(a9:J i9=some ⟨62,1,[.ptr i 0 0]⟩):
 aA prog 22 [aH s,.ptr i9 0 0] J λr X'=>r=aH (bI b s).2/\eP b K X' i im:=by
 refine e22.r (by simp[c22]) ?_;have hs:=aa.refl J;refine ab.mix 4 ?_;apply sR;simp only[go_sem,seval,c22,ay,az];refine ae λi2 Z2 s2 a2 f2=>?_;have n92:=ao a9 f2;replace a9:=s2 _ _ a9;have z2:=hs.none f2;replace hs:=hs.trans s2;simp only[go_sem,seval,a2];refine ae λi3 Z3 s3 a3 f3=>?_;have UP:=ao a2 f3;replace a2:=s3 _ _ a2;have n93:=ao a9 f3;replace a9:=s3 _ _ a9;have z3:=hs.none f3;replace hs:=hs.trans s3;have RI:=hJ.mono hs;obtain⟨n3,n3'⟩:=hJ.new z3;have k3:=hJ.sub.none z3;simp only[go_sem,seval,a9,a2,ay,az,aB];refine ab.call rfl rfl rfl (uF b hb hL (PM b s+1) s hv (by omega) _ _ _ _ RI.off) ?_;rintro r Y2 ⟨rfl,Q8⟩;replace a3:=Q8.sub _ _ ((dO n3 n3').trans a3);have NU:=Q8.less RI.jW;apply sR;simp only[BB,seval,<-decide_not,bk,eV,aL,cX,cV,db,da,dv,bF,fg,bl,eO,cZ,eN,cq,bZ,bK,fV,bS,bY,bQ,Mw,gW,cz,bH,kF,cK,bL,cu,cb,ie,binBV,bC,cD,MJ.nothing,a3,Dg,ay,az,V.dj,V.dh,V.cH,V.dp,V.eo,V.di,V.cF,V.ek,V.dk,V.ez,V.dn,V.dt,V.cE,V.dg,V.eh,V.dq,V.cI,V.ew,V.dr,V.ef];exact⟨_,_,aa.refl _,Wk.refl (aa.refl _) _,rfl,NU.E' n3 n3' k3⟩
def zD{b:Bk}(hb:bP b)(s:Lu)(hv:dS b s)(hf:¬bE b s):(bI b s).2∈aV b s:=by
 obtain⟨A,t,B,e1,e2,-⟩:=jc (rank:=br b) (dflt:=(⟨0,0,false⟩:Lu)) (bt hb) hv (ou hb hv) hf;unfold bI;rw[e2,e1];simp
def I0(l:List Nd)(hl:dV l)(w h:Int)(h0:OP l w h≠0):bc prog 7 [aM l,vI w,vI h] (.LI [.bz,eJ ⟨0,0⟩,vI (OP l w h)]):=λU=>by
 refine e7.r (by simp[c7]) ?_;have hs:=aa.refl U;have hc:=wI l hl w h h0;have q1:(OP l w h≠0)=True:=LH h0;generalize OP l w h=E at*;refine ab.mix 10 ?_;apply sR;simp only[go_sem,seval,c7];refine ae λi7 Z7 s7 a7 f7=>?_;have z7:=hs.none f7;replace hs:=hs.trans s7;simp only[go_sem,seval,a7];refine ab.aC rfl rfl rfl (hc _) ?_;apply sR;simp only[go_sem,seval];refine ae λi9 Z9 s9 a9 f9=>?_;have Qm:=ao a7 f9;replace a7:=s9 _ _ a7;have z9:=hs.none f9;replace hs:=hs.trans s9;simp only[go_sem,seval,a9,q1];generalize MC:E' _ i9 _=Y9;replace a9:=(congrFun MC i9).symm.trans ak;replace a7:=((congrFun MC i7).symm.trans (ad Qm)).trans a7;replace hs:=Eq.subst (motive:=aa _) MC (hs.aG z9);clear MC;simp only[go_sem,seval,a7,q1,nX];exact aE.pure (hs.aG z7) rfl
def IM(l:List Nd)(hl:dV l)(w h:Int)(h0:OP l w h=0)(U:ag):
 aA prog 7 [aM l,vI w,vI h] U λr Z'=>∃v,r=.LI [v,eJ (bI (bb l w h) ⟨0,0,true⟩).1,vI 0]/\aa U Z'/\aQ U Z' 37 3 v ((gI (bb l w h)).map aH):=by
 refine e7.r (by simp[c7]) ?_;have hs:=aa.refl U;have hc:=λU=>nN l hl w h h0 U;obtain⟨he,-⟩:=iL h0;have hb:=fN hl he;have hL:=jE he;generalize bb l w h=b at*;have q0:((0:Int)≠0)=False:=Ly λh=>h rfl;refine ab.mix 10 ?_;apply sR;simp only[go_sem,seval,c7,bM.rt];refine ae λi7 Z7 s7 a7 f7=>?_;have z7:=hs.none f7;replace hs:=hs.trans s7;simp only[go_sem,seval,a7];refine ab.call rfl rfl rfl (hc _) ?_;rintro r Z1 ⟨i,im,rfl,hJ⟩;obtain⟨m7,VT⟩:=hJ.neK a7;replace a7:=hJ.sub _ _ a7;replace hJ:=hJ.less hs;replace hs:=aa.refl Z1;apply sR;simp only[go_sem,seval];refine ae λi9 Z9 s9 a9 f9=>?_;have Qm:=ao a7 f9;replace a7:=s9 _ _ a7;have z9:=hs.none f9;replace hs:=hs.trans s9;obtain⟨m9,Xj⟩:=hJ.new z9;have k9:=hJ.sub.none z9;simp only[go_sem,seval,a9,q0];generalize MC:E' _ i9 _=Y9;replace a9:=(congrFun MC i9).symm.trans ak;replace a7:=((congrFun MC i7).symm.trans (ad Qm)).trans a7;replace hs:=Eq.subst (motive:=aa _) MC (hs.aG z9);clear MC;have So:=hJ.mono hs;refine ab.call rfl rfl rfl (uF b hb hL dR ⟨0,0,true⟩ (cT b hb) (fZ hb) _ _ _ _ So.off) ?_;rintro r Z2 ⟨rfl,Q8⟩;replace a7:=Q8.sub _ _ ((dO m7 VT).trans a7);replace a9:=Q8.sub _ _ ((dO m9 Xj).trans a9);have RI:=Q8.less So.jW;clear Q8 So hJ hs;have Mx:=zD hb;apply sR;simp only[BB,seval,<-decide_not,bk,eV,aL,cX,cV,db,da,dv,bF,fg,bl,eO,cZ,eN,cq,bZ,bK,fV,bS,bY,bQ,Mw,gW,cz,bH,kF,cK,bL,cu,cb,ie,binBV,bC,cD,MJ.nothing,a7,A1,aS,aT,V.dj,V.dh,V.cH,V.dp,V.eo,V.di,V.cF,V.ek,V.dk,V.ez,V.dn,V.dt,V.cE,V.dg,V.eh,V.dq,V.cI,V.ew,V.dr,V.ef];have NU:=RI.E' (o:=⟨28,2,[eJ (bI b ⟨0,0,true⟩).1]⟩) m7 VT z7;generalize hq:E' Z2 i7 ⟨28,2,[eJ (bI b ⟨0,0,true⟩).1]⟩=Y7 at*;replace a7:=(congrFun hq i7).symm.trans ak;replace a9:=((congrFun hq i9).symm.trans (ad Qm.symm)).trans a9;clear hq RI;refine ab.wT (by kernel_rfl) 8 (.leaf [[],[],[0,1],[],[2,0,1],[3,4,0,1,2],[5,0,1,2,3,4]] [0,1,3,2,4,5,6]) (by kernel_rfl) ?_;refine GT.gu (its:=[0,2,6,4,7,8,10,12]) (by kernel_rfl) ?_;refine RE.MB (n:=0) [4,7,8,10,12] [0,2,6] [⟨(.some 25),(.load .false 1 (.t 9)),.none⟩,⟨(.some 26),(.Ra 22 [(.t 9)]),.none⟩,⟨(.some 28),(.load .true 2 (.t 7)),.none⟩] rfl rfl ?_;apply sG;simp only[go_sem,seval,a7,a9,aS,aT];refine RE.call rfl rfl rfl rfl rfl (Al b hb hL NU _ _ (λs=>(bI b s).2) Mx (λJ s hv hf Yf=>Hr b hb hL s hv Yf.off (Yf.sub _ _ ((dO m9 Xj).trans a9)))) ?_;rintro v Z3 ⟨Qf,ho⟩;have k7:pB Y7 i im i7≠none:=by rw[dO m7 VT,a7];simp
 replace a7:=Qf.sub _ _ ((dO m7 VT).trans a7);replace a9:=Qf.sub _ _ ((dO m9 Xj).trans a9);refine RE.MU rfl rfl rfl rfl rfl trivial (by simp only[go_sem,seval,a7,a9,aS,aT]) ?_;refine RE.MB (n:=0) [] [8,10,12] [⟨(.some 6),(.Mb (.t 27)),.none⟩,⟨.none,(.store 2 (.t 7) (.t 28)),.none⟩,⟨(.some 8),(.Mb (.c (.int .i64 0))),.none⟩] rfl rfl ?_;apply sG;simp only[go_sem,seval,a7,a9,aS,aT];apply sR;simp only[go_sem,seval,nX,aS,aT];exact⟨_,_,aa.refl _,Wk.refl (aa.refl _) _,v,rfl,(NU.jW.trans Qf.sub).aG z7,(ho.ad k7).CG NU.jW⟩
def pF(l:List Lu):jj (l.map aH)=true:=lR (f:=aH) (λ_=>rfl) l
def Cf(l:List Nd)(hl:dV l)(w h:Int)(h0:OP l w h=0):
 bc prog 7 [aM l,vI w,vI h] (.LI [cm (gI (bb l w h)),eJ (bI (bb l w h) ⟨0,0,true⟩).1,vI 0]):=λU=>by
 refine(IM l hl w h h0 U).AU λr Z' h=>?_;obtain⟨v,rfl,hs,ho⟩:=h;exact⟨_,U,hs,Fz.wk (N:=λid=>U id=none) (.LI _ _ (.cons _ _ _ _ (ho.HO (λid h=>h) (NC.same _ (pF _))) (.cons _ _ _ _ (.same _ rfl) (.cons _ _ _ _ (.same _ rfl) .nil)))) hs (λ_ h=>h),rfl,rfl⟩
open Go.Proofs Go.Proofs.Tryz
def Bo(rank:Lu->Int){l:List Lu}{j:Nat}(h:j<l.length)(m:Lu):qp rank (l.drop j) m=qp rank (l.drop (j+1)) (if rank l[j]<rank m then l[j]else m):=by
 rw[iY h,qp]
def H4{U:ag}(rank:Lu->Int)(x:Lu)(r:List Lu)(hl:r.length<=1000000)(fn:FuncId)(caps:List V)
 (hf:∀Z1,aa U Z1->∀a∈x::r,∀m∈x::r,aA prog fn (aH a::aH m::caps) Z1 λv Z'=>v=vI (nA (rank a) (rank m))/\Z'=Z1):
 aA prog 24 [cm (x::r),.fn fn caps] U λv Z'=>v=aH (qp rank r x)/\Z'=U:=by
 refine e24.r (by simp[c24]) ?_;have hs:=aa.refl U;obtain⟨l,hle⟩:∃l,l=x::r:=⟨_,rfl⟩
 have XZ:l.length=r.length+1:=by rw[hle];rfl
 have Us:=i0 l;have Wo:l[0]'(by omega)=x:=by simp[hle]
 have Q3:∀U,bN U 3 (cm l) (.int .i64 0)=some (.rp (aH x)):=λU=>by
  have:=iz (U:=U) (l:=l) (i:=0) (by omega);rw[Wo]at this;exact this
 have Pj:=mL x;have q1:((l.length:Int)<1)=False:=Ly;have RW:l.drop 1=r:=by rw[hle];rfl
 rw[<-hle]at hf|-;refine ab.mix 7 ?_;apply sR;simp only[go_sem,seval,c24];refine ae λi4 Z4 s4 a4 f4=>?_;have z4:=hs.none f4;replace hs:=hs.trans s4;simp only[go_sem,seval,Us,q1,Q3,Pj];refine ae λi5 Z5 s5 a5 f5=>?_;have ON:=ao a4 f5;replace a4:=s5 _ _ a4;have z5:=hs.none f5;replace hs:=hs.trans s5;simp only[go_sem,seval,a5,ay,az];generalize Np:E' _ i5 _=Y5;replace a5:=(congrFun Np i5).symm.trans ak;replace a4:=((congrFun Np i4).symm.trans (ad ON)).trans a4;replace hs:=Eq.subst (motive:=aa _) Np (hs.aG z5);clear Np;refine ab.loop (λm st=>∃(j:Nat) (y:Lu),1<=j/\j<=l.length/\m=l.length-j/\y∈l/\qp rank r x=qp rank (l.drop j) y/\aa U st.U/\st.U i4=some ⟨37,3,[.agg [vI 0,vI 0,.bool false]]⟩/\st.U i5=some ⟨37,3,[aH y]⟩/\
  st.s 0=cm l/\st.s 1=.fn fn caps/\st.s 4=.ptr i4 0 0/\st.s 5=.ptr i5 0 0/\st.s 6=vI j) (l.length-1) ⟨1,x,by omega,by omega,rfl,by rw[hle];simp,by rw[RW],hs,a4,a5,rfl,rfl,rfl,rfl,rfl⟩ ?_
 .clear a4 a5 hs;rintro m ⟨S,ω⟩ ⟨j,y,h1,hj,rfl,hy,Qj,hK,a4,a5,t0,t1,t4,t5,t6⟩;simp only at hK a4 a5 t0 t1 t4 t5 t6;refine ab.mix 7 ?_;by_cases Lr:j<l.length
  .have q:((j:Int)<l.length)=True:=LH;have Lv:=λU=>iz (U:=U) Lr;have Pj:=mL l[j];have N3:l[j]∈l:=ML Lr;rw[Bo rank Lr]at Qj;generalize l[j]=a at*;have r1:LP .i64 ((j:Int)+1):=au;apply sR;simp only[go_sem,seval,t0,t1,t4,t5,t6,Us,q,Lv,Pj,a5,ay,az,aB];refine Go.lf rfl rfl rfl (λZ1 h=>hf Z1 (hK.trans h) a N3 y hy) ?_;have ON:i4≠i5:=ON;by_cases hc:rank a<rank y
   .have q2:(nA (rank a) (rank y)<0)=True:=LH (by unfold nA;rw[aI hc];decide);rw[aI hc]at Qj;apply sG;simp only[go_sem,seval,t0,t1,t5,t6,q2,a5,Lv,Pj,r1,ay,az,aB];exact⟨_,by omega,j+1,a,by omega,by omega,rfl,N3,Qj,hK.aG z5,(ad ON).trans a4,rfl,by simp[t0,t1,t4,t5]⟩
   .have q2:(nA (rank a) (rank y)<0)=False:=Ly (by unfold nA;rw[aJ hc];split<;>omega);rw[aJ hc]at Qj;apply sG;simp only[go_sem,seval,t0,t1,t5,t6,q2,r1];exact⟨_,by omega,j+1,y,by omega,by omega,rfl,hy,Qj,hK,a4,a5,by simp[t0,t1,t4,t5]⟩
  .have q:((j:Int)<l.length)=False:=Ly;have Nj:j=l.length:=by omega
   rw[Nj,uN]at Qj;apply sR;simp only[go_sem,seval,t0,t4,t5,t6,Us,q,a4,a5,ay,az,aB];exact aE.pure (hK.aG z4) (by rw[Qj];rfl)
def GI(b:Bk)(s t:Lu)(h1:0<=s.atom/\s.atom<b.Mi.length)(h2:0<=t.atom/\t.atom<b.Mi.length){J:ag}{i im i9:Nat}(h0:J i=some (lx b im))(a9:J i9=some ⟨62,1,[.ptr i 0 0]⟩):
 aA prog 26 [aH s,aH t,.ptr i9 0 0] J λr X'=>r=vI (nA (br b s) (br b t))/\X'=J:=by
 refine e26.r (by simp[c26]) ?_;have hs:=aa.refl J;refine ab.mix 6 ?_;apply sR;simp only[go_sem,seval,c26,ay,az];refine ae λi3 Z3 s3 a3 f3=>?_;have n93:=ao a9 f3;replace a9:=s3 _ _ a9;have z3:=hs.none f3;replace hs:=hs.trans s3;simp only[go_sem,seval,a3,ay,az];refine ae λi4 Z4 s4 a4 f4=>?_;have Tf:=ao a3 f4;replace a3:=s4 _ _ a3;have n94:=ao a9 f4;replace a9:=s4 _ _ a9;have z4:=hs.none f4;replace hs:=hs.trans s4;have hi:=hs _ _ h0;simp only[go_sem,seval,a9,a3,a4,ay,az,aB];refine Go.lf rfl rfl rfl (λZ1 h=>oF b s h1 (h _ _ hi)) ?_;apply sG;simp only[go_sem,seval,a9,a3,a4,ay,az,aB];refine Go.lf rfl rfl rfl (λZ1 h=>oF b t h2 (h _ _ hi)) ?_;apply sG;simp only[go_sem,seval];refine Go.cN rfl rfl rfl (DL _ _) ?_;apply sG;simp only[go_sem,seval];exact aE.pure hs rfl
def xQ{b:Bk}(hb:bP b){s:Lu}(hv:dS b s)(hf:¬bE b s):∀t∈aV b s,0<=t.atom/\t.atom<b.Mi.length:=λt ht=>by
 have:=hb.Uq;rcases((bt hb).on s hv hf t ht).1 with h|h
 .exact⟨h.1.1,by have:=h.1.2;omega⟩
 .omega
def HR(b:Bk)(hb:bP b)(s:Lu)(hv:dS b s)(hf:¬bE b s){J:ag}{i im i9:Nat}(h0:J i=some (lx b im))(a9:J i9=some ⟨62,1,[.ptr i 0 0]⟩):
 aA prog 23 [aH s,.ptr i9 0 0] J λr X'=>r=aH (iD b s)/\X'=J:=by
 refine e23.r (by simp[c23]) ?_;have hs:=aa.refl J;have hm:et b.atoms s:=hv.resolve_right λg=>hf (by unfold bE;omega);have LR:=(bt hb).ne s hv hf;have VO:=xQ hb hv hf;have OC:=kB hb hm;refine ab.mix 4 ?_;apply sR;simp only[go_sem,seval,c23,ay,az];refine ae λi2 Z2 s2 a2 f2=>?_;have n92:=ao a9 f2;replace a9:=s2 _ _ a9;have z2:=hs.none f2;replace hs:=hs.trans s2;simp only[go_sem,seval,a2];refine ae λi3 Z3 s3 a3 f3=>?_;have UP:=ao a2 f3;replace a2:=s3 _ _ a2;have n93:=ao a9 f3;replace a9:=s3 _ _ a9;have z3:=hs.none f3;replace hs:=hs.trans s3;have hi:=hs _ _ h0;simp only[go_sem,seval,a9,a2,ay,az,aB];refine ab.aC rfl rfl rfl (oh b hb s hm hi) ?_;cases hN:aV b s with
 |nil=>exact absurd hN LR
 |cons x r=>
  have hg:iD b s=qp (br b) r x:=by unfold iD;rw[hN]
  rw[hN]at VO OC;apply sR;simp only[go_sem,seval];refine ab.aC rfl rfl rfl (H4 (br b) x r (by rw[MM]at OC;omega) _ _ (λZ1 h a ha m Uy=>GI b a m (VO a ha) (VO m Uy) (h _ _ hi) (h _ _ a9))) ?_;apply sR;simp only[go_sem,seval,a3,ay,az,aB];exact aE.pure (hs.aG z3) (by rw[hg])
open Go.Proofs Go.Proofs.Tryz
def ig(b:Bk)(l:List Lu):Int:=(l.map (br b)).sum
def wH(b:Bk)(l:List Lu)(s:Lu):ig b (l++[s])=ig b l+br b s:=by
 unfold ig;rw[gM,List.sum_append];simp
def xL{b:Bk}(hb:bP b){on:Lu->Lu}(Mx:∀s,dS b s->¬bE b s->on s∈aV b s):∀(f:Nat) (s:Lu),dS b s->∀t∈iT b on f s,dS b t/\¬bE b t
 |0,_,_,t,h=>by simp[iT]at h
 |f+1,s,hv,t,h=>by
  rw[iT]at h;by_cases hf:bE b s
  .rw[aI hf]at h;cases h
  .rw[aJ hf]at h;rcases dI.1 h with rfl|h
   .exact⟨hv,hf⟩
   .exact xL hb Mx f (on s) ((bt hb).on s hv hf _ (Mx s hv hf)).1 t h
def lN{b:Bk}(hb:bP b){L:Int}(hL:gG b L){on:Lu->Lu}(Mx:∀s,dS b s->¬bE b s->on s∈aV b s):(iT b on dR ⟨0,0,true⟩).length<=100000:=by
 obtain⟨h1,h2⟩:=oL hb Mx dR ⟨0,0,true⟩ (cT b hb) (fZ hb);have h3:=sO hb hL _ _ (cT b hb) h1;have h4:=wz hb hL (n:=(Sv b on dR ⟨0,0,true⟩).length) (s:=⟨b.atoms.length,0,false⟩) (.inr ⟨rfl,rfl⟩) (by
  have hr:jT b b.atoms.length=0:=by unfold jT;simp
  have e:iM b L ⟨(b.atoms.length:Nat),0,false⟩=0:=by
   unfold iM;simp only[Int.sub_self,Int.zero_mul,gX,hr];rfl
  rw[e];omega)
 rw[h2,List.length_dropLast,MM];omega
def jM(b:Bk):Ms:=⟨(eZ b).length,ig b ((eZ b).drop 1)⟩
def aQ.self{K U:ag}{e sz:Nat}{v:V}{rows:List V}(h:aQ K U e sz v rows):∃LQ,aQ (Vc.bT U LQ) U e sz v rows/\aa (Vc.bT U LQ) U/\∀a,LQ=some a->K a=none/\v=.own a 0 rows.length:=by
 rcases h with⟨h1,h2⟩|⟨id,h1,h2,h3⟩
 .exact⟨none,.inl ⟨h1,h2⟩,aa.refl _,λ_ h=>by cases h⟩
 .exact⟨some id,.inr ⟨id,h1,h2,by simp[Vc.bT,del]⟩,aa.vw U id,λa h=>by cases h;exact⟨h3,h1⟩⟩
def Bc(l:List Nd)(hl:dV l)(w h:Int)(h0:OP l w h≠0):bc prog 8 [aM l,vI w,vI h] (.LI [.bz,eJ ⟨0,0⟩,vI (OP l w h)]):=λU=>by
 refine e8.r (by simp[c8]) ?_;have hs:=aa.refl U;have hc:=wI l hl w h h0;have q1:(OP l w h≠0)=True:=LH h0;generalize OP l w h=E at*;refine ab.mix 11 ?_;apply sR;simp only[go_sem,seval,c8];refine ae λi7 Z7 s7 a7 f7=>?_;have z7:=hs.none f7;replace hs:=hs.trans s7;simp only[go_sem,seval,a7];refine ab.aC rfl rfl rfl (hc _) ?_;apply sR;simp only[go_sem,seval];refine ae λi9 Z9 s9 a9 f9=>?_;have Qm:=ao a7 f9;replace a7:=s9 _ _ a7;have z9:=hs.none f9;replace hs:=hs.trans s9;simp only[go_sem,seval,a9,q1];generalize MC:E' _ i9 _=Y9;replace a9:=(congrFun MC i9).symm.trans ak;replace a7:=((congrFun MC i7).symm.trans (ad Qm)).trans a7;replace hs:=Eq.subst (motive:=aa _) MC (hs.aG z9);clear MC;simp only[go_sem,seval,a7,q1,nX];exact aE.pure (hs.aG z7) rfl
def tQ(l:List Nd)(hl:dV l)(w h:Int)(h0:OP l w h=0):
 bc prog 8 [aM l,vI w,vI h] (.LI [cm (eZ (bb l w h)),eJ (jM (bb l w h)),vI 0]):=λU=>by
 refine e8.r (by simp[c8]) ?_;have hs:=aa.refl U;have hc:=λU=>nN l hl w h h0 U;obtain⟨he,-⟩:=iL h0;have hb:=fN hl he;have hL:=jE he;generalize bb l w h=b at*;have q0:((0:Int)≠0)=False:=Ly λh=>h rfl;have Mx:∀s,dS b s->¬bE b s->iD b s∈aV b s:=nh hb;have hmy:=xL hb Mx dR ⟨0,0,true⟩ (cT b hb);have QK:=lN hb hL Mx;have VM:=hb.Uq;refine ab.mix 11 ?_;apply sR;simp only[go_sem,seval,c8,bM.rt];refine ae λi7 Z7 s7 a7 f7=>?_;have z7:=hs.none f7;replace hs:=hs.trans s7;simp only[go_sem,seval,a7];refine ab.call rfl rfl rfl (hc _) ?_;rintro r Z1 ⟨i,im,rfl,hJ⟩;obtain⟨m7,VT⟩:=hJ.neK a7;replace a7:=hJ.sub _ _ a7;replace hJ:=hJ.less hs;replace hs:=aa.refl Z1;apply sR;simp only[go_sem,seval];refine ae λi9 Z9 s9 a9 f9=>?_;have Qm:=ao a7 f9;replace a7:=s9 _ _ a7;have z9:=hs.none f9;replace hs:=hs.trans s9;obtain⟨m9,Xj⟩:=hJ.new z9;have k9:=hJ.sub.none z9;simp only[go_sem,seval,a9,q0];generalize MC:E' _ i9 _=Y9;replace a9:=(congrFun MC i9).symm.trans ak;replace a7:=((congrFun MC i7).symm.trans (ad Qm)).trans a7;replace hs:=Eq.subst (motive:=aa _) MC (hs.aG z9);clear MC;have So:=hJ.mono hs;refine ab.call rfl rfl rfl (Al b hb hL So _ _ (iD b) Mx (λJ s hv hf Yf=>(HR b hb s hv hf Yf.row (Yf.sub _ _ ((dO m9 Xj).trans a9))).mono λr X' h=>⟨h.1,by rw[h.2];exact Yf.off⟩)) ?_;rintro v Z3 ⟨NU,ho⟩;have k7:pB Y9 i im i7≠none:=by rw[dO m7 VT,a7];simp
 have k9':pB Y9 i im i9≠none:=by rw[dO m9 Xj,a9];simp
 replace a7:=NU.sub _ _ ((dO m7 VT).trans a7);replace a9:=NU.sub _ _ ((dO m9 Xj).trans a9);change aQ _ _ _ _ _ ((eZ b).map aH)at ho;change ∀t∈eZ b,dS b t/\¬bE b t at hmy;change (eZ b).length<=100000 at QK;unfold jM;generalize eZ b=G at*;obtain⟨LQ,ho2,G',Ls⟩:=ho.self;have Qf:eP b U (Vc.bT Z3 LQ) i im:=(NU.less So.jW).del λa ha=>⟨ho.neD NU (Ls a ha).2,So.jW.none (Ls a ha).1⟩
 have b7:Vc.bT Z3 LQ i7=some ⟨28,2,[.agg [vI 0,vI 0]]⟩:=by
  cases LQ with
  |none=>exact a7
  |some a=>exact(eT λg=>k7 (by rw[g];exact(Ls a rfl).1)).trans a7
 have b9:Vc.bT Z3 LQ i9=some ⟨62,1,[.ptr i 0 0]⟩:=by
  cases LQ with
  |none=>exact a9
  |some a=>exact(eT λg=>k9' (by rw[g];exact(Ls a rfl).1)).trans a9
 refine ab.zR [7,9] [24] G' ho2 (λd hd=>by rw[jI.1 hd];rfl) ?_;clear a7 a9 ho ho2 G' Ls NU k7 k9';generalize Vc.bT Z3 LQ=J at*;have hlG:=i0 G;rw[<-cm];apply sR;simp only[go_sem,seval,hlG];refine ab.loop (λm st=>∃(j:Nat) (c:Int),j<=G.length/\m=G.length-j/\c=ig b ((G.take j).drop 1)/\0<=c/\c<=7*j/\eP b U st.U i im/\st.U i7=some ⟨28,2,[.agg [vI 0,vI c]]⟩/\st.U i9=some ⟨62,1,[.ptr i 0 0]⟩/\
  st.s 6=cm G/\st.s 7=.ptr i7 0 0/\st.s 9=.ptr i9 0 0/\st.s 26=vI G.length/\st.s 27=vI j) G.length ⟨0,0,by omega,rfl,by simp[ig],by decide,by decide,Qf,b7,b9,rfl,rfl,rfl,rfl,rfl⟩ ?_
 clear Qf b7 b9;rintro m ⟨S,ω⟩ ⟨j,c,hj,rfl,hc,Oj,RU,hJ,a7,a9,t6,t7,t9,t26,t27⟩;simp only at hJ a7 a9 t6 t7 t9 t26 t27;refine ab.mix 11 ?_;by_cases Lr:j<G.length
 .have p1:((j:Int)<G.length)=True:=LH;have Mv:=Ph Lr;have Lv:=λU=>iz (U:=U) Lr;have Pj:=mL G[j];obtain⟨vt,-⟩:=hmy G[j] (ML Lr);have Si:=nR hb G[j];have Ow:0<=G[j].atom/\G[j].atom<b.Mi.length:=by
   rcases vt with h|h
   .exact⟨h.1.1,by have:=h.1.2;omega⟩
   .omega
  generalize G[j]=t at*;have r1:LP .i64 ((j:Int)+1):=au;have r2:LP .i64 (c+br b t):=au;by_cases hj0:j=0
  .subst hj0;have p2:(((0:Nat):Int)>0)=False:=Ly (by decide);have p3:((0:Int)<(G.length:Int))=True:=LH;apply sR;simp only[go_sem,seval,t6,t7,t9,t26,t27,p1,p2,p3,r1];exact⟨au (by decide) (by decide),_,by omega,1,c,by omega,rfl,by rw[hc,Mv];simp,Oj,by omega,hJ,a7,a9,by simp[t6,t7,t9,t26]⟩
  .have p2:((j:Int)>0)=True:=LH;apply sR;simp only[go_sem,seval,t6,t7,t9,t26,t27,p1,p2,a7,a9,Lv,Pj,ay,az];refine Go.lf rfl rfl rfl (λZ1 h=>oF b t Ow (h _ _ hJ.row)) ?_;apply sG;simp only[go_sem,seval,t6,t7,t9,t26,t27,a7,r1,r2];have htd:(G.take (j+1)).drop 1=(G.take j).drop 1++[t]:=by
    rw[Mv,Dp (by rw[nB];omega)]
   exact⟨_,by omega,j+1,c+br b t,by omega,rfl,by rw[htd,wH,hc],by omega,by omega,hJ.E' m7 VT z7,rfl,(ad Qm.symm).trans a9,by simp[t6,t7,t9,t26]⟩
 .have p1:((j:Int)<G.length)=False:=Ly;rw[pj (by omega)]at hc;apply sR;simp only[go_sem,seval,t6,t7,t9,t26,t27,p1,a7,hlG,nX];exact aE.pure (hJ.sub.aG z7) (by rw[hc];rfl)
open Go.Proofs Go.Proofs.Tryz
def iK{s:Nat->V}{U:ag}{a1:Bool}{n1 d e t:Nat}{Post:V->ag->Prop}:
 O8 [.cell a1 n1 (.t d),.tmp (.t t),.tmp (.t e)] ⟨s,U⟩ Post=dL (cJ U a1 n1 (s d)) λv=>aE (.LI [v,s t,s e]) U Post:=by
 unfold O8 aE qm;simp only[gk,iq,VX.ev];cases cJ U a1 n1 (s d)<;>simp[dL]
def xB(b:Bk)(l:List Lu):V:=match iJ b l with
 |some c=>.LI [eJ c,.bool true,vI 0]
 |none=>.LI [eJ ⟨0,0⟩,.bool false,vI 0]
def gV{b:Bk}{l:List Lu}{c:Ms}(h:iJ b l=some c):xB b l=.LI [eJ c,.bool true,vI 0]:=by unfold xB;rw[h]
def gi{b:Bk}{l:List Lu}(h:iJ b l=none):xB b l=.LI [.agg [vI 0,vI 0],.bool false,vI 0]:=by unfold xB;rw[h];rfl
def nS(l:List Nd)(hl:dV l)(w h:Int)(h0:OP l w h=0)(P:List Lu)(hP:P.length<=1000000):
 bc prog 9 [aM l,vI w,vI h,cm P] (xB (bb l w h) P):=λU=>by
 refine e9.r (by simp[c9]) ?_;have hs:=aa.refl U;have hc:=λU=>nN l hl w h h0 U;obtain⟨he,-⟩:=iL h0;have hb:=fN hl he;generalize bb l w h=b at*;have q0:((0:Int)≠0)=False:=Ly λh=>h rfl;have VM:=hb.Uq;have hlP:=i0 P;refine ab.mix 16 ?_;apply sR;simp only[go_sem,seval,c9,bM.rt];refine ae λi8 Z8 s8 a8 f8=>?_;have z8:=hs.none f8;replace hs:=hs.trans s8;simp only[go_sem,seval,a8];refine ab.call rfl rfl rfl (hc _) ?_;rintro r Z1 ⟨i,im,rfl,hJ⟩;obtain⟨m8,m8'⟩:=hJ.neK a8;replace a8:=hJ.sub _ _ a8;replace hJ:=hJ.less hs;replace hs:=aa.refl Z1;apply sR;simp only[go_sem,seval,q0];refine ae λNy Z12 Qc a12 f12=>?_;have RP:=ao a8 f12;replace a8:=Qc _ _ a8;have z12:=hs.none f12;replace hs:=hs.trans Qc;obtain⟨m12,m12'⟩:=hJ.new z12;have Nb:=hJ.sub.none z12;simp only[go_sem,seval,a12];generalize NT:E' _ Ny _=Y12;replace a12:=(congrFun NT Ny).symm.trans ak;replace a8:=((congrFun NT i8).symm.trans (ad RP)).trans a8;replace hs:=Eq.subst (motive:=aa _) NT (hs.aG z12);clear NT;have Va:=hJ.mono hs;simp only[go_sem,seval,hlP];have RP:=RP;refine ab.loop (λm st=>∃(j:Nat) (Mf:Lu) (c:Ms),j<=P.length/\m=P.length-j/\iJ b P=gy b Mf c (P.drop j)/\(c=⟨0,0⟩/\Mf=⟨0,0,true⟩\/1<=c.LD/\dS b Mf/\¬bE b Mf)/\0<=c.LD/\c.LD<=j/\0<=c.LY/\c.LY<=7*j/\
  eP b U st.U i im/\st.U i8=some ⟨28,2,[eJ c]⟩/\st.U Ny=some ⟨37,3,[aH Mf]⟩/\st.s 8=.ptr i8 0 0/\st.s 10=vI 0/\st.s 11=.ptr i 0 0/\st.s 12=.ptr Ny 0 0/\st.s 27=cm P/\st.s 28=vI P.length/\st.s 29=vI j) P.length
  ⟨0,⟨0,0,true⟩,⟨0,0⟩,by omega,rfl,rfl,.inl ⟨rfl,rfl⟩,by decide,by decide,by decide,by decide,Va,a8,a12,rfl,rfl,rfl,rfl,rfl,rfl,rfl⟩ ?_
 clear Va a8 a12 hs hJ;rintro m ⟨S,ω⟩ ⟨j,Mf,c,hj,rfl,Mo,Sx,hp0,hp1,hr0,Xx,hJ,a8,a12,t8,t10,t11,t12,t27,t28,t29⟩;simp only at hJ a8 a12 t8 t10 t11 t12 t27 t28 t29;refine ab.mix 16 ?_;by_cases Lr:j<P.length
 .have p1:((j:Int)<P.length)=True:=LH;have Lv:=λU=>iz (U:=U) Lr;have Pj:=mL P[j];rw[iY Lr]at Mo;generalize P[j]=s at*;have hs:=aa.refl ω;apply sR;simp only[go_sem,seval,t27,t28,t29,p1,Lv,Pj,ay,az];refine ae λi14 Z14 XP OV f14=>?_;have Xk:=ao a8 f14;replace a8:=XP _ _ a8;have TP:=ao a12 f14;replace a12:=XP _ _ a12;have z14:=hs.none f14;replace hs:=hs.trans XP;simp only[go_sem,seval,OV,t11,t12,ay,az];generalize TQ:E' _ i14 _=Y14;replace OV:=(congrFun TQ i14).symm.trans ak;replace a8:=((congrFun TQ i8).symm.trans (ad Xk)).trans a8;replace a12:=((congrFun TQ Ny).symm.trans (ad TP)).trans a12;replace hs:=Eq.subst (motive:=aa _) TQ (hs.aG z14);clear TQ;have Va:=hJ.mono hs;simp only[go_sem,seval,t11,t12,a12,ay,az,aB];refine ab.aC rfl rfl rfl (nQ b Mf Va.row) ?_;have hfS:aa U Y14:=hJ.sub.trans hs;by_cases g1:bE b Mf
  .rw[NA g1];have q3:True:=trivial;have p0:True:=trivial;have hn:iJ b P=none:=by rw[Mo,gy,aI (.inl g1)]
   rw[gi hn];apply sR;simp only[BB,seval,<-decide_not,bk,eV,aL,cX,cV,db,da,dv,bF,gY,fg,bl,eO,cZ,eN,cq,bZ,bK,fV,bS,bY,bQ,Mw,gW,cz,bH,cK,bL,cu,cb,ie,binBV,bC,cD,MJ.nothing,t8,t10,t11,t12,a8,a12,OV,q3,p0,aS,aT,ay,az,aB,iK,V.dj,V.dh,V.cH,V.dp,V.eo,V.di,V.cF,V.ek,V.dk,V.ez,V.dn,V.dt,V.cE,V.dg,V.eh,V.dq,V.cI,V.ew,V.dr,V.ef];exact aE.pure (hfS.aG z8) rfl
  rw[Nz g1];apply sR;simp only[go_sem,seval,t11,OV,ay,az,aB];refine ab.aC rfl rfl rfl (nQ b s Va.row) ?_;by_cases g2:bE b s
  .rw[NA g2];have q3:True:=trivial;have p0:True:=trivial;have hn:iJ b P=none:=by rw[Mo,gy,aI (.inr (.inl g2))]
   rw[gi hn];apply sR;simp only[BB,seval,<-decide_not,bk,eV,aL,cX,cV,db,da,dv,bF,gY,fg,bl,eO,cZ,eN,cq,bZ,bK,fV,bS,bY,bQ,Mw,gW,cz,bH,cK,bL,cu,cb,ie,binBV,bC,cD,MJ.nothing,t8,t10,t11,t12,a8,a12,OV,q3,p0,aS,aT,ay,az,aB,iK,V.dj,V.dh,V.cH,V.dp,V.eo,V.di,V.cF,V.ek,V.dk,V.ez,V.dn,V.dt,V.cE,V.dg,V.eh,V.dq,V.cI,V.ew,V.dr,V.ef];exact aE.pure (hfS.aG z8) rfl
  rw[Nz g2];have q3:=vi s Mf;by_cases g3:s≠Mf/\c.LD=0
  .rw[NA g3.1]at q3;have p0:(c.LD=0)=True:=LH g3.2;have hn:iJ b P=none:=by rw[Mo,gy,aI (.inr (.inr g3))]
   rw[gi hn];apply sR;simp only[BB,seval,<-decide_not,bk,eV,aL,cX,cV,db,da,dv,bF,gY,fg,bl,eO,cZ,eN,cq,bZ,bK,fV,bS,bY,bQ,Mw,gW,cz,bH,cK,bL,cu,cb,ie,binBV,bC,cD,MJ.nothing,t8,t10,t11,t12,a8,a12,OV,q3,p0,aS,aT,ay,az,aB,iK,V.dj,V.dh,V.cH,V.dp,V.eo,V.di,V.cF,V.ek,V.dk,V.ez,V.dn,V.dt,V.cE,V.dg,V.eh,V.dq,V.cI,V.ew,V.dr,V.ef];exact aE.pure (hfS.aG z8) rfl
  rw[gy,aJ (λh=>h.elim g1 λh=>h.elim g2 g3)]at Mo;have r3:LP .i64 ((j:Int)+1):=au;have r1:LP .i64 (c.LD+1):=au;by_cases g4:c.LD>0
  .have p4:(c.LD>0)=True:=LH g4;have p0:(c.LD=0)=False:=Ly;have vt:dS b Mf:=by
    rcases Sx with⟨h,-⟩|⟨-,h,-⟩
    .rw[h]at g4;exact absurd g4 (by decide)
    .exact h
   have hm:et b.atoms Mf:=vt.resolve_right λg=>g1 (by unfold bE;omega);have OC:=kB hb hm;have Si:=nR hb s;have r2:LP .i64 (c.LY+br b s):=au;rw[aI g4]at Mo;cases hX:decide (s≠Mf)<;>rw[hX]at q3
   all_goals
    apply sR;simp only[BB,seval,<-decide_not,bk,eV,aL,cX,cV,db,da,dv,bF,gY,fg,bl,eO,cZ,eN,cq,bZ,bK,fV,bS,bY,bQ,Mw,gW,cz,bH,cK,bL,cu,cb,ie,binBV,bC,cD,MJ.nothing,t8,t11,t12,a8,a12,OV,q3,p0,p4,aS,aT,ay,az,aB,V.dj,V.dh,V.cH,V.dp,V.eo,V.di,V.cF,V.ek,V.dk,V.ez,V.dn,V.dt,V.cE,V.dg,V.eh,V.dq,V.cI,V.ew,V.dr,V.ef];refine Go.lf rfl rfl rfl (λZ1 h=>oh b hb Mf hm (h _ _ Va.row)) ?_;apply sG;simp only[go_sem,seval,OV,ay,az,aB];refine Go.cN rfl rfl rfl (Dk (aV b Mf) (by omega) s) ?_;by_cases g5:s∈aV b Mf
    .rw[NA g5];rw[aI g5]at Mo;have vs:=((bt hb).on Mf vt g1 s g5).1;have Ow:=xQ hb vt g1 s g5;apply sG;simp only[go_sem,seval,t8,t11,a8,OV,Bool.not_true,aS,aT,ay,az,aB];refine Go.lf rfl rfl rfl (λZ1 h=>oF b s Ow (h _ _ Va.row)) ?_;apply sG;simp only[go_sem,seval,t8,t10,t11,t12,t27,t28,t29,a8,a12,OV,r1,r2,r3,ad RP.symm,ad Xk.symm,ad RP,ad TP.symm,aS,aT,ay,az,aB];exact⟨_,by omega,j+1,s,⟨c.LD+1,c.LY+br b s⟩,by omega,rfl,Mo,.inr ⟨(by show(1:Int)<=c.LD+1;omega),vs,g2⟩,(by show(0:Int)<=c.LD+1;omega),(by show c.LD+1<=((j+1:Nat):Int);omega),
      (by show 0<=c.LY+br b s;omega),(by show c.LY+br b s<=7*((j+1:Nat):Int);omega),((Va.E' m8 m8' z8).E' m12 m12' Nb).E' m8 m8' z8,rfl,rfl,rfl⟩
    .rw[Nz g5];rw[aJ g5]at Mo;rw[gi Mo];apply sG;simp only[go_sem,seval,t8,t10,a8,Bool.not_false,iK,aS,aT];exact aE.pure (hfS.aG z8) rfl
  .have p4:(c.LD>0)=False:=Ly g4;have gs:s=Mf:=Decidable.byContradiction λh=>g3 ⟨h,by omega⟩;rw[Nz (λh=>h gs)]at q3;rw[aJ g4]at Mo;apply sR;simp only[BB,seval,<-decide_not,bk,eV,aL,cX,cV,db,da,dv,bF,gY,fg,bl,eO,cZ,eN,cq,bZ,bK,fV,bS,bY,bQ,Mw,gW,cz,bH,cK,bL,cu,cb,ie,binBV,bC,cD,MJ.nothing,t8,t10,t11,t12,t27,t28,t29,a8,a12,OV,q3,p4,r1,r3,ad RP.symm,ad Xk.symm,ad RP,ad TP.symm,aS,aT,ay,az,aB,V.dj,V.dh,V.cH,V.dp,V.eo,V.di,V.cF,V.ek,V.dk,V.ez,V.dn,V.dt,V.cE,V.dg,V.eh,V.dq,V.cI,V.ew,V.dr,V.ef];have vs:dS b s:=by
    rw[gs];rcases Sx with⟨-,h⟩|⟨h,-⟩
    .rw[h];exact cT b hb
    .omega
   exact⟨_,by omega,j+1,s,⟨c.LD+1,c.LY⟩,by omega,rfl,Mo,.inr ⟨(by show(1:Int)<=c.LD+1;omega),vs,g2⟩,(by show(0:Int)<=c.LD+1;omega),(by show c.LD+1<=((j+1:Nat):Int);omega),
    hr0,(by show c.LY<=7*((j+1:Nat):Int);omega),(Va.E' m12 m12' Nb).E' m8 m8' z8,rfl,rfl,rfl⟩
 .have p1:((j:Int)<P.length)=False:=Ly;rw[CZ (by omega),gy]at Mo;by_cases g4:c.LD=0
  .have p0:(c.LD=0)=True:=LH g4;rw[aI g4]at Mo;have OO:=ny b.atoms;have h0:=hJ.row;rw[lx,nT]at h0;apply sR;simp only[go_sem,seval,t8,t27,t28,t29,p1,a8,p0,aS,aT];by_cases g5:(b.atoms.length:Int)=0
   .have p5:((b.atoms.length:Int)=0)=True:=LH g5;rw[aI g5]at Mo;rw[gV Mo];refine ab.uP (by kernel_rfl) [0,1,2,3,4,5,6,7,8,9] [[],[],[1],[1,2],[1,2,3],[1,2,3,4],[1,2,3,4,5],[0],[0,1,2,3,4,5,6,7],[0,1,2,3,4,5,6,7,8]] [0,2,4,6,8,10,12,14,9,16,18] (by kernel_rfl) (by kernel_rfl) ?_;refine RE.MB (n:=0) [9,16,18] [0,2,4,6,8,10,12,14] [⟨(.some 78),(.build [(.int .i64 0),(.int .i64 0)] []),.none⟩,⟨(.some 79),(.Mb (.t 11)),.none⟩,⟨(.some 80),(.nilCheck (.t 79)),.none⟩,⟨(.some 81),(.Mc .false 1 1 (.t 80)),.none⟩,⟨(.some 82),(.load .false 1 (.t 81)),.none⟩,⟨(.some 83),(.len .false (.t 82)),.none⟩,⟨(.some 84),(.bin .eql (.t 83) (.c (.int .i64 0))),.none⟩,⟨.none,(.store 2 (.t 8) (.t 78)),.none⟩] rfl rfl ?_;apply sG;simp only[go_sem,seval,t8,t11,a8,h0,OO,p5,aS,aT,ar,aq,bV,bU];refine RE.MU rfl rfl rfl rfl rfl trivial (by simp only[go_sem,seval,t8,t11,a8,h0,OO,p5,ad m8.symm,aS,aT,ar,aq,bV,bU]) ?_;refine RE.MB (n:=0) [] [16,18] [⟨(.some 9),(.Mb (.t 84)),.none⟩,⟨(.some 10),(.Mb (.c (.int .i64 0))),.none⟩] rfl rfl ?_;apply sG;simp only[go_sem,seval];apply sR;simp only[go_sem,seval,t8,iK];exact aE.pure (hJ.sub.aG z8) rfl
   .have p5:((b.atoms.length:Int)=0)=False:=Ly g5;rw[aJ g5]at Mo;rw[gi Mo];refine ab.uP (by kernel_rfl) [0,1,2,3,4,5,6,7,8,9] [[],[],[1],[1,2],[1,2,3],[1,2,3,4],[1,2,3,4,5],[0],[0,1,2,3,4,5,6,7],[0,1,2,3,4,5,6,7,8]] [0,2,4,6,8,10,12,14,9,16,18] (by kernel_rfl) (by kernel_rfl) ?_;refine RE.MB (n:=0) [9,16,18] [0,2,4,6,8,10,12,14] [⟨(.some 78),(.build [(.int .i64 0),(.int .i64 0)] []),.none⟩,⟨(.some 79),(.Mb (.t 11)),.none⟩,⟨(.some 80),(.nilCheck (.t 79)),.none⟩,⟨(.some 81),(.Mc .false 1 1 (.t 80)),.none⟩,⟨(.some 82),(.load .false 1 (.t 81)),.none⟩,⟨(.some 83),(.len .false (.t 82)),.none⟩,⟨(.some 84),(.bin .eql (.t 83) (.c (.int .i64 0))),.none⟩,⟨.none,(.store 2 (.t 8) (.t 78)),.none⟩] rfl rfl ?_;apply sG;simp only[go_sem,seval,t8,t11,a8,h0,OO,p5,aS,aT,ar,aq,bV,bU];refine RE.MU rfl rfl rfl rfl rfl trivial (by simp only[go_sem,seval,t8,t11,a8,h0,OO,p5,ad m8.symm,aS,aT,ar,aq,bV,bU]) ?_;refine RE.MB (n:=0) [] [16,18] [⟨(.some 9),(.Mb (.t 84)),.none⟩,⟨(.some 10),(.Mb (.c (.int .i64 0))),.none⟩] rfl rfl ?_;apply sG;simp only[go_sem,seval];apply sR;simp only[go_sem,seval,t8,iK];exact aE.pure (hJ.sub.aG z8) rfl
  .have p0:(c.LD=0)=False:=Ly g4;rw[aJ g4]at Mo;have vt:dS b Mf/\¬bE b Mf:=by
    rcases Sx with⟨h,-⟩|⟨-,h,h'⟩
    .rw[h]at g4;exact absurd rfl g4
    .exact⟨h,h'⟩
   have hm:et b.atoms Mf:=vt.1.resolve_right λg=>vt.2 (by unfold bE;omega);have OC:=kB hb hm;apply sR;simp only[go_sem,seval,t8,t11,t12,t27,t28,t29,p1,a8,a12,p0,aS,aT,ay,az,aB];refine ab.aC rfl rfl rfl (oh b hb Mf hm hJ.row) ?_;apply sR;simp only[go_sem,seval,t11];refine ab.aC rfl rfl rfl (D9 (aV b Mf) OC (λt=>decide (bE b t)) (λx hx=>nQ b x hJ.row)) ?_;cases hany:(aV b Mf).any λt=>decide (bE b t)
   .rw[aJ (by rw[hany];simp)]at Mo;rw[gi Mo];apply sR;simp only[go_sem,seval,t8,t10,a8,Bool.not_false,iK,aS,aT];exact aE.pure (hJ.sub.aG z8) rfl
   .rw[aI hany]at Mo;rw[gV Mo];apply sR;simp only[go_sem,seval,t8,t10,a8,Bool.not_true,iK,aS,aT];exact aE.pure (hJ.sub.aG z8) rfl
open Go.Proofs Go.Proofs.Tryz
def BS{U:ag}{id e j:Nat}{rows:List V}{a x:Lu}(h:U id=some ⟨e,3,rows⟩)(hj:rows[j]?=some (aH a)):bY U 3 (.ptr id j 0) (aH x)=some (E' U id ⟨e,3,rows.set j (aH x)⟩):=by
 have e1:bQ (aH a) 0 3 (aH x)=some (aH x):=rfl;simp only[bY,h,hj,e1]
def FW{U:ag}{id e j:Nat}{rows:List V}{a:Lu}(h:U id=some ⟨e,3,rows⟩)(hj:rows[j]?=some (aH a)):cJ U true 3 (.ptr id j 0)=some (aH a):=by
 simp only[cJ,h,hj];rfl
def B9{U:ag}{id e:Nat}{rows:List V}{n:Nat}{k:Int}(h:U id=some ⟨e,3,rows⟩)(hn:n=rows.length)(h0:0<=k)(h1:k<n):bN U 3 (.own id 0 n) (.int .i64 k)=some (.ptr id k.toNat 0):=by
 simp only[bN,h];rw[aI ⟨trivial,h0,h1⟩];simp
def I4{U:ag}{id:Nat}(l:List Lu)(LR:l≠[])(hl:l.length<=1000000)(h0:U id=some ⟨37,3,l.map aH⟩):
 aA prog 41 [.own id 0 l.length] U λ_ Z'=>Z'=E' U id ⟨37,3,l.reverse.map aH⟩:=by
 refine e41.r (by simp[c41]) ?_;have Ns:0<l.length:=y9.2 LR;have r0:LP .i64 ((l.length:Int)-1):=au;refine ab.mix 4 ?_;apply sR;simp only[go_sem,seval,c41,r0];refine ab.loop (λm st=>∃(k:Nat) (R:List Lu),R.length=l.length/\k<=l.length/\m=l.length-k/\(∀q,q<l.length->R[q]?=if q<k\/l.length-k<=q then l[l.length-1-q]? else l[q]?)/\
  st.U=E' U id ⟨37,3,R.map aH⟩/\st.s 0=.own id 0 l.length/\st.s 2=vI k/\st.s 3=vI ((l.length:Int)-1-k)) l.length ⟨0,l,rfl,by omega,rfl,λq hq=>by simp;omega,(kD h0).symm,rfl,rfl,(by rw[show((l.length:Int)-1-(0:Nat))=(l.length:Int)-1 by simp];rfl)⟩ ?_
 rintro m ⟨S,ω⟩ ⟨k,R,hR,hk,rfl,hRq,L6,t0,t2,t3⟩;simp only at L6 t0 t2 t3;subst L6;refine ab.mix 4 ?_;by_cases Lr:(k:Int)<(l.length:Int)-1-k
 .have q1:((k:Int)<(l.length:Int)-1-k)=True:=LH Lr;have a0:(E' U id ⟨37,3,R.map aH⟩) id=some ⟨37,3,R.map aH⟩:=ak;generalize RH:E' U id ⟨37,3,R.map aH⟩=J at*;have Nf:k<R.length:=by omega
  obtain⟨jn,ZR⟩:∃jn:Nat,(l.length:Int)-1-k=jn:=⟨l.length-1-k,by omega⟩
  have hj1:jn<R.length:=by omega
  rw[ZR]at t3 q1;have hx:(R.map aH)[jn]?=some (aH R[jn]):=by simp[hj1]
  have hy:(R.map aH)[k]?=some (aH R[k]):=by simp[Nf]
  have i1:=B9 (k:=jn) a0 (show l.length=_ by rw[eU,hR]) (by omega) (by omega);have i2:=B9 (k:=k) a0 (show l.length=_ by rw[eU,hR]) (by omega) (by omega);rw[gX]at i1 i2;have l1:=FW a0 hx;have l2:=FW a0 hy;have s1:=BS (x:=R[jn]) a0 hy;have b0:(E' J id ⟨37,3,(R.map aH).set k (aH R[jn])⟩) id=some ⟨37,3,(R.map aH).set k (aH R[jn])⟩:=ak;generalize hZ2:E' J id ⟨37,3,(R.map aH).set k (aH R[jn])⟩=Y2 at*;have hx2:((R.map aH).set k (aH R[jn]))[jn]?=some (aH R[jn]):=by
   rw[List.getElem?_set_ne (by omega)];exact hx
  have i3:=B9 (k:=jn) b0 (show l.length=_ by rw[List.length_set,eU,hR]) (by omega) (by omega);rw[gX]at i3;have s2:=BS (x:=R[k]) b0 hx2;have r1:LP .i64 ((k:Int)+1):=au;have r2:LP .i64 ((jn:Int)-1):=au;apply sR;simp only[BB,seval,<-decide_not,bk,eV,aL,cX,cV,db,da,dv,bF,gY,fg,bl,eO,cZ,eN,cq,bZ,bK,fV,bS,bQ,Mw,gW,cz,bH,kF,cK,bL,cu,cb,ie,binBV,bC,cD,V.cells,V.stays,MJ.nothing,t0,t2,t3,q1,i1,i2,i3,l1,l2,s1,s2,r1,r2];refine⟨_,?_,k+1,(R.set k R[jn]).set jn R[k],by simp[hR],by omega,rfl,λq hq=>?_,?_,by simp[t0];omega⟩
  .omega
  .have hRk:=hRq k (by omega);have hRj:=hRq jn (by omega);rw[aJ (by omega),Oy Nf]at hRk;rw[aJ (by omega),Oy hj1]at hRj;by_cases g1:q=jn
   .subst g1;rw[List.getElem?_set_self (by simp[hR];omega),aI (.inr (by omega)),show l.length-1-q=k by omega];exact hRk
   .rw[List.getElem?_set_ne (λe=>g1 e.symm)];by_cases g2:q=k
    .subst g2;rw[List.getElem?_set_self (by omega),aI (.inl (by omega)),show l.length-1-q=jn by omega];exact hRj
    .rw[List.getElem?_set_ne (λe=>g2 e.symm),hRq q hq];by_cases g3:q<k\/l.length-k<=q
     .rw[aI g3,aI (by omega)]
     .rw[aJ g3,aJ (by omega)]
  .rw[<-hZ2,<-RH,qC,qC,List.map_set,List.map_set]
 .have q1:((k:Int)<(l.length:Int)-1-k)=False:=Ly Lr;apply sR;simp only[go_sem,seval,t2,t3,q1];have hRr:R=l.reverse:=by
   refine List.ext_getElem? λq=>?_;by_cases hq:q<l.length
   .rw[hRq q hq,List.getElem?_reverse hq];by_cases g3:q<k\/l.length-k<=q
    .rw[aI g3]
    .rw[aJ g3,show l.length-1-q=q by omega]
   .rw[qv (by omega),qv (by simp;omega)]
  rw[hRr];exact⟨_,_,aa.refl _,Wk.refl (aa.refl _) _,rfl⟩
def Ab(b:Bk)(s:Lu):V:=if yM b s then .LI [cm (aV b s).reverse,vI 0]else .LI [.bz,vI 4]
def An(l:List Nd)(hl:dV l)(w h:Int)(s:Lu)(h0:OP l w h=0):bc prog 16 [aM l,vI w,vI h,aH s] (Ab (bb l w h) s):=λU=>by
 refine e16.r (by simp[c16]) ?_;have hs:=aa.refl U;have hc:=λU=>nN l hl w h h0 U;obtain⟨he,-⟩:=iL h0;have hb:=fN hl he;generalize bb l w h=b at*;have q0:((0:Int)≠0)=False:=Ly λh=>h rfl;unfold Ab;refine ab.mix 13 ?_;apply sR;simp only[go_sem,seval,c16,ay,az];refine ae λi7 Z7 s7 a7 f7=>?_;have z7:=hs.none f7;replace hs:=hs.trans s7;simp only[go_sem,seval,a7];refine ab.call rfl rfl rfl (hc _) ?_;rintro r Z1 ⟨i,im,rfl,hJ⟩;replace a7:=hJ.sub _ _ a7;replace hJ:=hJ.less hs;apply sR;simp only[go_sem,seval,q0,a7,ay,az,aB];refine ab.aC rfl rfl rfl (Hl b hb.Uq s hJ.row) ?_;by_cases hm:yM b s
 .rw[NA hm,aI hm];have hf:¬bE b s:=by have:=hm.1.1.2;unfold bE;omega
  have LR:=(bt hb).ne s (.inl hm.1) hf;have OC:=kB hb hm.1;apply sR;simp only[go_sem,seval,a7,Bool.not_true,ay,az,aB];refine ab.call rfl rfl rfl (Ay b hb s hm.1 hJ.row) ?_;rintro v Z2 ⟨N8,ho⟩;rcases ho with⟨-,hn⟩|⟨id,rfl,ha,hk⟩
  .have:=congrArg List.length hn;rw[eU,List.length_nil]at this;exact absurd (rE this) LR
  .rw[eU];apply sR;simp only[go_sem,seval];refine ab.call rfl rfl rfl (I4 (aV b s) LR OC ha) ?_;rintro r Z3 rfl;apply sR;simp only[go_sem,seval];have Sb:aa U (E' Z2 id ⟨37,3,(aV b s).reverse.map aH⟩):=(hJ.sub.trans N8).aG (hJ.sub.none hk);have ho:aQ U (E' Z2 id ⟨37,3,(aV b s).reverse.map aH⟩) 37 3 (.own id 0 (aV b s).length) ((aV b s).reverse.map aH):=aQ.new (by simp) ak (hJ.sub.none hk);exact⟨_,U,Sb,Fz.wk (N:=λid=>U id=none) (.LI _ _ (.cons _ _ _ _ (ho.HO (λid h=>h) (NC.same _ (pF _))) (.cons _ _ _ _ (.same _ rfl) .nil))) Sb (λ_ h=>h),rfl,rfl⟩
 .rw[Nz hm,aJ hm];apply sR;simp only[go_sem,seval,Bool.not_false];exact aE.pure hJ.sub rfl
open Go.Proofs Go.Proofs.Tryz
section
variable {P:Program} {n:Nat} {st:St} {Q:St->Prop} {k:List It}
def C0{o:Op}{x y:VX}(h:LU P n o=.bin .add x y):∃t x0 y0 yt,o=.binOp .add t x0 y0 yt/\cx n x0=x/\cx n y0=y:=by
 cases o
 case binOp op' t x0 y0 yt=>
  simp only[LU,cy]at h
  repeat' split at h
  all_goals first
   |(simp only[L5.bin.injEq]at h;obtain⟨rfl,h2,h3⟩:=h;exact⟨t,x0,y0,yt,rfl,h2,h3⟩)
   |cases h
   |(cases op'<;>cases h)
 case call c=>
  obtain⟨callee,args,argTypes⟩:=c;cases callee
  case builtin b=>cases b<;>simp only[LU]at h<;>(repeat' split at h)<;>cases h
  all_goals (simp only[LU]at h;cases h)
 case unOp op t x=>cases op<;>simp only[LU]at h<;>cases h
 case makeFunc f a b=>cases f<;>simp only[LU]at h<;>(repeat' split at h)<;>cases h
 all_goals (simp only[LU]at h;(repeat' split at h)<;>cases h)
def ab.Kd{i:aK}{l:List aK}{x y:VX}{kk:IntKind}{a b:Int}(hw:bp st.s i.g=some true)(ho:i.op=.bin .add x y)(hx:x.ev st.s=.int kk a)(hy:y.ev st.s=.int kk b)
 (h:ab P n (.ops l::k) ⟨aU st.s i.dst (.int kk (kk.wrap (a+b))),st.U⟩ Q):ab P n (.ops (i::l)::k) st Q:=by
 refine ab.ins (by rw[ho];simp) hw λF hn I act w o all hi hs next Q' Lw=>?_
 subst hn;obtain⟨LF,hd⟩:=eF hi;rw[ho]at LF;obtain⟨t,x0,y0,yt,g1,rfl,rfl⟩:=C0 LF;have ex:act.eval x0=.int kk a:=by
  have:=ct hs x0;rw[hx]at this;simpa[C']using this
 have ey:act.eval y0=.int kk b:=by
  have:=ct hs y0;rw[hy]at this;simpa[C']using this
 have Me:(execOp act.eval o).run P w=.ok (.value (.int kk (kk.wrap (a+b)))) w:=by
  unfold execOp;rw[g1];simp[ex,ey,eqGuard,binOp,Op.intArith]
 unfold Oper.wp;rw[Me];refine Lw _ _ _ ⟨I,?_⟩ h;have:=hs.pure (d:=o.dst) (v:=.int kk (kk.wrap (a+b))) (x:=.int kk (kk.wrap (a+b))) (by simp[C']);rw[<-hd];exact this
end
def xC{l:List Nd}{i:Nat}(h:i<l.length):iP (l.take (i+1))=iP (l.take i)+l[i].words.length:=by
 unfold iP;rw[Ph h,gM,List.sum_append];simp
def ub:∀{l:List Nd},(∀x∈l,x.words.length<=200000000000000)->iP l<=l.length*200000000000000
 |[],_=>by simp[iP]
 |x::l,h=>by
  have h1:=h x (by simp);have h2:=ub (l:=l) λy hy=>h y (by simp[hy]);unfold iP at*;simp only[fb,List.sum_cons,MM];omega
def Eb(l:List Nd)(h:Int):Prop:=l.length<=60/\iP l<=300/\1<=h/\((ej l).2≠0\/(ej l).1.H'.tdiv (max (cY l h) 1)<300)
def yz(l:List Nd):0<=(ej l).1.H'/\(ej l).1.H'<=1099511627777:=by
 unfold ej;split
 .rename_i hb;have:=oG hb (s:=⟨0,0,l.length,0⟩) ⟨Int.le_refl _,(by decide:(0:Int)<=1099511627777)⟩ l.length (Md _);exact⟨this.1,this.2.1⟩
 .exact⟨Int.le_refl _,by decide⟩
def I2(l:List Nd)(hlen:l.length<=1000000000000)(hw:∀x∈l,x.words.length<=200000000000000)(h:Int)(U:ag):
 aA prog 5 [aM l,vI h] U λr Z'=>(∃x,r=.bool x/\(x=true->Eb l h))/\Z'=U:=by
 refine e5.r (by simp[c5]) ?_;have QK:=eX l;have Xl:aE (.bool false) U λr Z'=>(∃x,r=.bool x/\(x=true->Eb l h))/\Z'=U:=⟨_,_,aa.refl _,Wk.refl (aa.refl _) _,⟨_,rfl,λh=>by cases h⟩,rfl⟩
 refine ab.mix 9 ?_;apply sR;simp only[go_sem,seval,c5];refine ab.loop (λm st=>∃(i:Nat) (c:Int),i<=l.length/\m=l.length-i/\st.U=U/\st.s 0=aM l/\st.s 1=vI h/\st.s 5=vI c/\(l.length<=60->c=(iP (l.take i):Nat))/\st.s 6=vI i) l.length ⟨0,0,by omega,by omega,rfl,rfl,rfl,rfl,λ_=>by simp[iP],rfl⟩ ?_;rintro m ⟨s,Z'⟩ ⟨i,c,hi,rfl,L6,t0,t1,t5,hc,t6⟩;simp only at L6 t0 t1 t5 t6;subst L6;refine ab.mix 9 ?_;by_cases Lr:i<l.length
 .have q1:((i:Int)<l.length)=True:=LH;have hwi:=hw _ (ML Lr);have hws:=xC Lr;have MS:=λU=>dT (U:=U) (l:=l) (a:=i) Lr;have hlw:=dG l[i].words;have r1:LP .i64 ((i:Int)+1):=au
  (refine ab.bD MJ.nothing 20 ?_;simp only[go_sem,seval,nu,t0,t5,t6,QK,q1,MS,Nd.cells,hlw,tm])
  refine ab.Kd rfl rfl rfl rfl ?_;by_cases h60:l.length<=60
  .have hc':=hc h60;have hwr:IntKind.i64.wrap (c+(l[i].words.length:Int))=c+l[i].words.length:=by
    have jm:=ub (l:=l.take i) (λx hx=>hw x (uZ hx));rw[nB]at jm;rw[IntKind.wrap_i64];omega
   rw[hwr];apply sR;simp only[go_sem,seval,t0,t1,t6,r1];exact⟨_,by omega,i+1,_,by omega,rfl,rfl,λ_=>by rw[hws,hc'];omega,rfl⟩
  .apply sR;simp only[go_sem,seval,t0,t1,t6,r1];exact⟨_,by omega,i+1,_,by omega,rfl,rfl,λg=>absurd g h60,rfl⟩
 .have q1:((i:Int)<l.length)=False:=Ly;have Ni:i=l.length:=by omega
  rw[Ni,kP]at hc;by_cases g1:(l.length:Int)>60
  .have p1:((l.length:Int)>60)=True:=LH g1;apply sR;simp only[go_sem,seval,t0,t1,t5,t6,QK,q1,p1];exact Xl
  .have p1:((l.length:Int)>60)=False:=Ly g1;replace hc:=hc (by omega);by_cases g2:c>300
   .have p2:(c>300)=True:=LH g2;apply sR;simp only[go_sem,seval,t0,t1,t5,t6,QK,q1,p1,p2];exact Xl
   .have p2:(c>300)=False:=Ly g2;by_cases g3:h<1
    .have p3:(h<1)=True:=LH g3;apply sR;simp only[go_sem,seval,t0,t1,t5,t6,QK,q1,p1,p2,p3];exact Xl
    .have p3:(h<1)=False:=Ly g3;have fl:dV l:=⟨by omega,hw⟩
     have hcv:=rW l fl;have hle:=yy l fl h;obtain⟨e0,e1⟩:=yz l;have L3:∀x:Bool,(x=true->((ej l).2≠0\/(ej l).1.H'.tdiv (max (cY l h) 1)<300))->∀J,aa Z' J->aE (.bool x) J λr Z''=>(∃x,r=.bool x/\(x=true->Eb l h))/\Z''=Z':=λx hx J RH=>
      ⟨_,Z',RH,Wk.refl RH _,⟨_,rfl,λg=>⟨by omega,by omega,by omega,hx g⟩⟩,rfl⟩
     have hM:(if 1>cY l h then 1 else cY l h)=max (cY l h) 1:=by split<;>omega
     have hM0:(max (cY l h) 1=0)=False:=Ly;have hM1:1<=max (cY l h) 1:=by omega
     generalize max (cY l h) 1=M at*;generalize cY l h=LE at*;have hs:=aa.refl Z';generalize (ej l).2=E at*;have hSc:(ej l).1.cells=[vI (ej l).1.depth,vI (ej l).1.pieces,vI (ej l).1.nodes,vI (ej l).1.H']:=rfl;generalize (ej l).1=SM at*;apply sR;simp only[go_sem,seval,t0,t1,t5,t6,QK,q1,p1,p2,p3];refine ab.aC rfl rfl rfl (hcv _) ?_;by_cases g4:E=0
     .have p4:(E≠0)=False:=Ly λk=>k g4;have d0:=Int.tdiv_nonneg e0 (by omega:0<=M);have d1:=Int.tdiv_le_self M e0;have r2:LP .i64 (SM.H'.tdiv M):=au;apply sR;simp only[go_sem,seval,hSc];refine ae λi7 Z7 s7 a7 f7=>?_;have z7:=hs.none f7;replace hs:=hs.trans s7;simp only[go_sem,seval,a7,hSc,p4,t0,t1];generalize RC:E' _ i7 _=Y7;replace a7:=(congrFun RC i7).symm.trans ak;replace hs:=Eq.subst (motive:=aa _) RC (hs.aG z7);clear RC;refine Go.cN rfl rfl rfl hle ?_;by_cases g5:SM.H'.tdiv M<300
      .have p5:(SM.H'.tdiv M<300)=True:=LH g5;apply sG;simp only[go_sem,seval,hM,hM0,r2,p5];exact L3 _ (λ_=>.inr g5) _ hs
      .have p5:(SM.H'.tdiv M<300)=False:=Ly g5;apply sG;simp only[go_sem,seval,hM,hM0,r2,p5];exact L3 _ (λk=>by cases k) _ hs
     .have p4:(E≠0)=True:=LH g4;apply sR;simp only[go_sem,seval,hSc];refine ae λi7 Z7 s7 a7 f7=>?_;have z7:=hs.none f7;replace hs:=hs.trans s7;simp only[go_sem,seval,a7,hSc,p4];exact L3 _ (λ_=>.inl g4) _ (hs.aG z7)
open Go.Proofs Go.Proofs.Tryz
def vZ{b:Bk}{s:Lu}(hv:dS b s)(ho:Ur b s):yM b s↔¬bE b s:=by
 constructor
 .intro h g;have:=h.1.1.2;unfold bE at g;omega
 .intro h;exact⟨hv.resolve_right λg=>h (by unfold bE;omega),ho⟩
def vC(x:Int):Int:=IntKind.i64.wrap (BitVec.ofInt IntKind.i64.bits x &&& BitVec.ofInt IntKind.i64.bits 65535).toNat
def yj(x:Int):0<=vC x/\vC x<=65535:=by
 unfold vC;have h:(BitVec.ofInt IntKind.i64.bits x &&& BitVec.ofInt IntKind.i64.bits 65535).toNat<=65535:=by
  rw[BitVec.toNat_and];have e:(BitVec.ofInt IntKind.i64.bits 65535).toNat=65535:=by decide
  rw[e];exact Nat.and_le_right
 rw[IntKind.wrap_i64];omega
def SH(n:Nat)(Mp:List Int)(i:Nat):Nat:=if h:i<Mp.length then((vC Mp[i]).tmod n).toNat else n-1
def kY(b:Bk)(Mp:List Int)(i:Nat)(s:Lu):Lu:=(aV b s).reverse.getD (SH (aV b s).length Mp i) ⟨0,0,false⟩
def Cy{n:Nat}(hn:0<n)(Mp:List Int)(i:Nat):SH n Mp i<n:=by
 unfold SH;split
 .rename_i h;have h1:=yj Mp[i]
  have h2:=Int.tmod_lt_of_pos (vC Mp[i]) (show(0:Int)<n by omega);have h3:=Int.tmod_nonneg (n:Int) h1.1;omega
 .omega
def w8{b:Bk}(Mp:List Int)(i:Nat){s:Lu}(hn:aV b s≠[]):∃h:SH (aV b s).length Mp i<(aV b s).reverse.length,kY b Mp i s=(aV b s).reverse[SH (aV b s).length Mp i]:=by
 have h:=Cy (y9.2 hn) Mp i
 refine⟨by rw[List.length_reverse];exact h,?_⟩;unfold kY;rw[yi,Oy (by rw[List.length_reverse];exact h)];rfl
def xZ{b:Bk}(hb:bP b)(Mp:List Int)(i:Nat)(s:Lu)(hv:dS b s)(_:Ur b s)(hf:¬bE b s):kY b Mp i s∈aV b s:=by
 obtain⟨h,e⟩:=w8 Mp i ((bt hb).ne s hv hf)
 rw[e];exact List.mem_reverse.1 (ML h)
def xy(b:Bk):Ur b ⟨0,0,true⟩:=λ_=>⟨rfl,.inl rfl⟩
def Cr(l:List Nd)(hl:dV l)(w h:Int)(Mp:List Int)(h0:OP l w h=0)(ZY:Mp.length<=1000000):
 bc prog 11 [aM l,vI w,vI h,bj Mp] (cm (gH (bb l w h) (kY (bb l w h) Mp) 2000 0 ⟨0,0,true⟩)):=λU=>by
 refine e11.r (by simp[Wl]) ?_;have hs:=aa.refl U;have hc:=λs=>An l hl w h s h0;obtain⟨he,-⟩:=iL h0;have hb:=fN hl he;generalize bb l w h=b at*;have R6:=dG Mp
 obtain⟨W0,hW0⟩:∃x,gH b (kY b Mp) 2000 0 ⟨0,0,true⟩=x:=⟨_,rfl⟩
 rw[hW0];have q0:((0:Int)≠0)=False:=Ly λh=>h rfl;have q4:((4:Int)≠0)=True:=LH (by decide);refine ab.mix 15 ?_;apply sR;simp only[go_sem,seval,Wl];refine ae λMa Q4 M0 LG f10=>?_;have Ol:=hs.none f10;replace hs:=hs.trans M0;simp only[go_sem,seval,LG];generalize LN:E' _ Ma _=Uf;replace LG:=(congrFun LN Ma).symm.trans ak;replace hs:=Eq.subst (motive:=aa _) LN (hs.aG Ol);clear LN;refine ab.loop (λm st=>∃(j:Nat) (s:Lu) (pre:List Lu) (v:V),j<=2000/\m=2000-j/\pre.length=j/\dS b s/\Ur b s/\W0=pre++gH b (kY b Mp) (2000-j) j s/\aa U st.U/\aQ U st.U 37 3 v (pre.map aH)/\(∀n,v≠.own Ma 0 n)/\st.U Ma=some ⟨37,3,[aH s]⟩/\
  st.s 0=aM l/\st.s 1=vI w/\st.s 2=vI h/\st.s 3=bj Mp/\st.s 9=v/\st.s 10=.ptr Ma 0 0/\st.s 11=vI j) 2000 ⟨0,⟨0,0,true⟩,[],.bz,by omega,rfl,rfl,cT b hb,xy b,hW0.symm,hs,aQ.start,λn h=>(by cases h),LG,rfl,rfl,rfl,rfl,rfl,rfl,rfl⟩ ?_
 clear LG hs;rintro m ⟨S,ω⟩ ⟨j,s,pre,v,hj,rfl,Qi,hv,LS,UD,hK,ho,Yz,LG,t0,t1,t2,t3,t9,t10,t11⟩;simp only at hK ho LG t0 t1 t2 t3 t9 t10 t11;have L3:∀{J:ag} {V':List Lu},aa U J->aQ U J 37 3 v (V'.map aH)->aE v J λr Z'=>r=cm V'/\Z'=U:=λRH Vi=>Vi.vR RH rfl;refine ab.mix 15 ?_;by_cases Lr:j<2000
 .have p1:((j:Int)<2000)=True:=LH;obtain⟨f,hf⟩:∃f,2000-j=f+1:=⟨1999-j,by omega⟩
  rw[hf,gH]at UD;apply sR;simp only[go_sem,seval,t0,t1,t2,t10,t11,p1,LG,ay,az,aB];refine ab.aC rfl rfl rfl (hc s _) ?_;unfold Ab;by_cases Oh:bE b s
  .rw[aJ (λg=>(vZ hv LS).1 g Oh)];rw[aI Oh,kC]at UD;apply sR;simp only[go_sem,seval,t9,q4];rw[UD];exact L3 hK ho
  .rw[aI ((vZ hv LS).2 Oh)];rw[aJ Oh]at UD;have LR:=(bt hb).ne s hv Oh;have hm:et b.atoms s:=hv.resolve_right λg=>Oh (by unfold bE;omega);have OC:=kB hb hm;have N3:=xZ hb Mp j s hv LS Oh
   obtain⟨Ow,hcw⟩:=w8 Mp j LR
   have Ns:=y9.2 LR;have hlr:(aV b s).reverse.length=(aV b s).length:=List.length_reverse;have Yd:=i0 (aV b s).reverse;have Lv:=λU=>iz (U:=U) Ow;have Pj:=mL (aV b s).reverse[SH (aV b s).length Mp j];rw[<-hcw]at Pj;replace Lv:∀U,bN U 3 (cm (aV b s).reverse) (.int .i64 (SH (aV b s).length Mp j))=some (.rp (aH (kY b Mp j s))):=λU=>by rw[hcw];exact Lv U
   have hat2:=Cy Ns Mp j
   have heq:SH (aV b s).length Mp j=if h:j<Mp.length then((vC Mp[j]).tmod (aV b s).length).toNat else(aV b s).length-1:=rfl
   have vt:=((bt hb).on s hv Oh _ N3).1;have ot:=Ad N3;rw[hlr]at Yd;generalize kY b Mp j s=t at*
   generalize (aV b s).length=n at*;generalize (aV b s).reverse=N at*;have p2:((n:Int)=0)=False:=Ly;have r1:LP .i64 ((n:Int)-1):=au;have r3:LP .i64 ((j:Int)+1):=au;apply sR;simp only[go_sem,seval,t9,t10,q0,p2,Yd,LG,ay,az,aB];refine ae λi38 Z38 TR a38 f38=>?_;obtain⟨LQ,NF,Qk⟩:=ho.Ja TR;obtain⟨SV,hdb,Mn⟩:=ho.dst TR;have hAB:LQ=SV:=by rw[NF]at hdb;simpa using hdb
   subst hAB;have Oc:((pre.map aH).length+1)*25<=140737488355328:=by rw[eU];omega
   simp only[go_sem,seval,NF,fm a38,Oc];refine er λi39 Z39 s39 a39 f39=>?_;have Ye:=ao (TR _ _ LG) f39;replace LG:Z39 Ma=some ⟨37,3,[aH s]⟩:=s39 _ _ (by
    cases LQ with
    |none=>exact TR _ _ LG
    |some a=>exact(eT λg=>Yz _ (by rw[g];exact(Qk a rfl).2.2)).trans (TR _ _ LG))
   have Th:aa U Z39:=(Mn U (aa.refl _) Z38 (hK.trans TR)).trans s39;have ho2:aQ U Z39 37 3 (.own i39 0 ((pre.map aH).length+1)) ((pre++[s]).map aH):=by
    rw[gM];exact aQ.new (by simp) a39 ((hK.trans TR).none f39)
   have Mv:W0=(pre++[s])++gH b (kY b Mp) (2000-(j+1)) (j+1) t:=by rw[UD,lU,show 2000-(j+1)=f by omega];rfl
   by_cases hjb:j<Mp.length
   .have p5:((j:Int)<Mp.length)=True:=LH;rw[dif_pos hjb]at heq;have U6:∀U,bN U 1 (bj Mp) (.int .i64 j)=some (.rp (vI Mp[j])):=λU=>by simp[bj,bN,hjb]
    have T':=yj Mp[j]
    have htm:=Int.tmod_nonneg (n:Int) T'.1;have hA:IntKind.i64.wrap (BitVec.ofInt IntKind.i64.bits Mp[j] &&& BitVec.ofInt IntKind.i64.bits 65535).toNat=vC Mp[j]:=rfl
    simp only[go_sem,seval]at hA;have hle:(vC Mp[j]).tmod n=(SH n Mp j:Int):=by rw[heq];omega
    generalize vC Mp[j]=A at*
    generalize SH n Mp j=q at*
    have r2:LP .i64 (q:Int):=au;simp only[go_sem,seval,t3,t10,t11,R6,Yd,r1,r2,r3,p2,p5,U6,hA,hle,Lv,Pj,LG,ay,az];exact⟨_,by omega,j+1,t,pre++[s],.own i39 0 ((pre.map aH).length+1),by omega,rfl,by simp[Qi],vt,ot,Mv,Th.aG Ol,by rw[gM];exact aQ.new (by simp) ((ad Ye.symm).trans a39) ((hK.trans TR).none f39),λn' g=>(by cases g;exact Ye rfl),by simp[t0,t1,t2,t3]⟩
   .have p5:((j:Int)<Mp.length)=False:=Ly;rw[dif_neg hjb]at heq;have hle:(n:Int)-1=(SH n Mp j:Int):=by rw[heq];omega
    generalize SH n Mp j=q at*
    have r2:LP .i64 (q:Int):=au;simp only[go_sem,seval,t3,t10,t11,R6,Yd,r2,r3,p2,p5,hle,Lv,Pj,LG,ay,az];exact⟨_,by omega,j+1,t,pre++[s],.own i39 0 ((pre.map aH).length+1),by omega,rfl,by simp[Qi],vt,ot,Mv,Th.aG Ol,by rw[gM];exact aQ.new (by simp) ((ad Ye.symm).trans a39) ((hK.trans TR).none f39),λn' g=>(by cases g;exact Ye rfl),by simp[t0,t1,t2,t3]⟩
 .have p1:((j:Int)<2000)=False:=Ly;have e0:2000-j=0:=by omega
  rw[e0,gH,kC]at UD;apply sR;simp only[go_sem,seval,t9,t11,p1];rw[UD];exact L3 hK ho
def zU(sz:Nat)(ks:List Nat):Lx:=⟨26,.seq (.Oz false [⟨some 4,.Mb (.c (.bool false)),none⟩]) (.seq (.seq (.Oz false [⟨some 6,.Mb (.t 0),none⟩,⟨some 7,.len false (.t 6),none⟩,⟨some 8,.Mb (.t 1),none⟩,⟨some 9,.len false (.t 8),none⟩,⟨some 10,.bin .neq (.t 7) (.t 9),none⟩]) (.cond (.t 10) (.seq (.Oz false [⟨some 4,.Mb (.c (.bool false)),none⟩]) .ret) .skip)) (.seq (.seq (.Oz false [⟨some 5,.Mb (.c (.int .i64 0)),none⟩]) (.block 0 (.loop (.seq (.seq (.Oz false [⟨some 11,.Mb (.t 5),none⟩,⟨some 12,.Mb (.t 0),none⟩,⟨some 13,.len false (.t 12),none⟩,⟨some 14,.bin .lss (.t 11) (.t 13),none⟩]) (.cond (.t 14) .skip (.exit 0))) (.seq (.block 1 (.seq (.Oz true [⟨some 17,.Mb (.t 0),none⟩,⟨some 18,.Mb (.t 5),none⟩,⟨some 19,.O3 sz (.t 17) (.t 18),none⟩,⟨some 20,.load true sz (.t 19),none⟩,⟨some 21,.Mb (.t 1),none⟩,⟨some 22,.Mb (.t 5),none⟩,⟨some 23,.O3 sz (.t 21) (.t 22),none⟩,⟨some 24,.load true sz (.t 23),none⟩,⟨some 25,.Xo true ks (.t 20) (.t 24),none⟩]) (.cond (.t 25) (.seq (.Oz false [⟨some 4,.Mb (.c (.bool false)),none⟩]) .ret) .skip))) (.Oz false [⟨some 15,.Mb (.t 5),none⟩,⟨some 16,.bin .add (.t 15) (.c (.int .i64 1)),none⟩,⟨some 5,.Mb (.t 16),none⟩])))))) (.seq (.Oz false [⟨some 4,.Mb (.c (.bool true)),none⟩]) .ret))),[.tmp (.t 4)]⟩
def EE{P:Program}{f:FuncId}{fn:Func}(hf:P.funcs[f]?=some fn){sz:Nat}{ks:List Nat}(hc:Vj P fn=some (zU sz ks))(hk:fw P f=true){α:Type}[DecidableEq α](enc:α->V)
 (he:∀a b,kF true ks (enc a) (enc b)=some (.bool (decide (a≠b))))(hl:∀U a,cJ U true sz (.rp (enc a))=some (enc a))(xs ys:List α)(hx:xs.length<=1000000000000):
 bc P f [.sl sz (xs.map enc),.sl sz (ys.map enc)] (.bool (decide (xs=ys))):=λU=>by
 refine aA.mn hf hc hk (by simp[zU]) ?_;refine ab.mix 6 ?_;have n1:eK false (.sl sz (xs.map enc))=some (.int .i64 xs.length):=by simp[eK]
 have n2:eK false (.sl sz (ys.map enc))=some (.int .i64 ys.length):=by simp[eK]
 by_cases hlen:xs.length=ys.length
 .have q:((xs.length:Int)≠ys.length)=False:=Ly;apply sR;simp only[go_sem,seval,zU,n1,n2,q];refine ab.loop (λm st=>∃j,j<=xs.length/\m=xs.length-j/\xs.take j=ys.take j/\st.s 0=.sl sz (xs.map enc)/\st.s 1=.sl sz (ys.map enc)/\st.s 5=.int .i64 j/\st.U=U) xs.length ⟨0,by omega,rfl,rfl,rfl,rfl,rfl,rfl⟩ ?_;rintro m ⟨S,Z'⟩ ⟨j,hj,rfl,ht,t0,t1,t5,L6⟩;simp only at t0 t1 t5 L6;subst L6;refine ab.mix 6 ?_;by_cases Lr:j<xs.length
  .have q1:((j:Int)<xs.length)=True:=LH;have Sw:j<ys.length:=by omega
   have i1:∀U,bN U sz (.sl sz (xs.map enc)) (.int .i64 j)=some (.rp (enc xs[j])):=λU=>by simp[bN,Lr]
   have i2:∀U,bN U sz (.sl sz (ys.map enc)) (.int .i64 j)=some (.rp (enc ys[j])):=λU=>by simp[bN,Sw]
   have Q5:=he xs[j] ys[j];have tx:=Ph Lr;have ty:=Ph Sw;by_cases hq:xs[j]=ys[j]
   .rw[show decide (xs[j]≠ys[j])=false by simpa using hq]at Q5;apply sR;simp only[BB,seval,<-decide_not,bk,eV,aL,cX,cV,db,da,dv,bF,gY,fg,bl,eO,cZ,eN,cq,bZ,bK,fV,bS,bY,bQ,Mw,gW,cz,bH,cK,bL,cu,cb,ie,binBV,bC,cD,V.cells,V.stays,MJ.nothing,t0,t1,t5,n1,q1,i1,i2,hl,Q5];exact⟨au,_,by omega,j+1,by omega,rfl,by rw[tx,ty,ht,hq],by simp⟩
   .rw[show decide (xs[j]≠ys[j])=true by simpa using hq]at Q5;apply sR;simp only[BB,seval,<-decide_not,bk,eV,aL,cX,cV,db,da,dv,bF,gY,fg,bl,eO,cZ,eN,cq,bZ,bK,fV,bS,bY,bQ,Mw,gW,cz,bH,cK,bL,cu,cb,ie,binBV,bC,cD,V.cells,V.stays,MJ.nothing,t0,t1,t5,n1,q1,i1,i2,hl,Q5];refine aE.same ?_;have:¬xs=ys:=λh=>hq (by simp only[h]);rw[Nz this]
  .have q1:((j:Int)<xs.length)=False:=Ly;apply sR;simp only[go_sem,seval,t0,t1,t5,n1,q1];refine aE.same ?_;rw[pj (by omega),pj (by omega)]at ht;rw[NA ht]
 .have q:((xs.length:Int)≠ys.length)=True:=LH;apply sR;simp only[go_sem,seval,zU,n1,n2,q];refine aE.same ?_;rw[Nz λh=>hlen (by rw[h])]
open Go.Proofs Go.Proofs.Tryz
def Yg:Nd:=⟨3,1,⟨0,0,0,0,0,0,0,0,0,0,0,0⟩,0,0,[],0,1,2⟩
def RQ:List Nd:=[Yg,Yg,Yg,Yg,Yg]
def Ut:V:=.agg [vI 3,vI 1,vI 0,vI 0,vI 0,vI 0,vI 0,vI 0,vI 0,vI 0,vI 0,vI 0,vI 0,vI 0,vI 0,vI 0,.bz,vI 0,vI 1,vI 2]
def pk(U:ag)(N:Nat->Prop):Fz U N Ut (.agg (Nd.cells Yg)):=by
 unfold Ut;have s:∀k:Int,Fz U N (vI k) (vI k):=λk=>.same _ rfl;exact .agg _ _ (.cons _ _ _ _ (s _) (.cons _ _ _ _ (s _) (.cons _ _ _ _ (s _) (.cons _ _ _ _ (s _) (.cons _ _ _ _ (s _) (.cons _ _ _ _ (s _) (.cons _ _ _ _ (s _) (.cons _ _ _ _ (s _) (.cons _ _ _ _ (s _) (.cons _ _ _ _ (s _)
  (.cons _ _ _ _ (s _) (.cons _ _ _ _ (s _) (.cons _ _ _ _ (s _) (.cons _ _ _ _ (s _) (.cons _ _ _ _ (s _) (.cons _ _ _ _ (s _) (.cons _ _ _ _ (.nil 1) (.cons _ _ _ _ (s _) (.cons _ _ _ _ (s _) (.cons _ _ _ _ (s _) .nil))))))))))))))))))))
def Ex(U:ag):aA prog 15 [] U λr Z'=>aa U Z'/\aQ U Z' 51 20 r [Ut,Ut,Ut,Ut,Ut]:=by
 refine e15.r (by simp[YS]) ?_;refine ab.mix 3 ?_;apply sR;simp only[go_sem,seval,YS];refine ab.loop (λm st=>∃(j:Nat) (v:V),j<=5/\m=5-j/\aa U st.U/\aQ U st.U 51 20 v (List.replicate j Ut)/\st.s 1=v/\st.s 2=vI j) 5 ⟨0,.bz,by omega,rfl,aa.refl _,aQ.start,rfl,rfl⟩ ?_;rintro m ⟨S,ω⟩ ⟨j,v,hj,rfl,hK,ho,t1,t2⟩;simp only at hK ho t1 t2;refine ab.mix 3 ?_;by_cases Lr:j<5
 .have p1:((j:Int)<5)=True:=LH;have r1:LP .i64 ((j:Int)+1):=au;apply sR;simp only[go_sem,seval,t1,t2,p1];refine ae λi9 Z9 s9 a9 f9=>?_;obtain⟨LQ,NF,Mn⟩:=ho.dst s9;have Oc:((List.replicate j Ut).length+1)*177<=140737488355328:=by rw[List.length_replicate];omega
  simp only[go_sem,seval,NF,fm a9,Oc];refine er λMa Q4 M0 LG f10=>?_;simp only[go_sem,seval,t2,r1];exact⟨_,by omega,j+1,.own Ma 0 ((List.replicate j Ut).length+1),by omega,rfl,(Mn U (aa.refl _) Z9 (hK.trans s9)).trans M0,by rw[List.replicate_succ'];exact aQ.new (by simp) LG ((hK.trans s9).none f10),by simp⟩
 .have p1:((j:Int)<5)=False:=Ly;obtain rfl:j=5:=by omega
  apply sR;simp only[go_sem,seval,t1,t2,p1];exact⟨_,_,aa.refl _,Wk.refl (aa.refl _) _,hK,ho⟩
def EP:bc prog 15 [] (aM RQ):=λU=>by
 refine(Ex U).AU λr Z' h=>?_;obtain⟨hs,ho⟩:=h;have f:=λU=>pk U (λid=>U id=none);exact⟨_,U,hs,Fz.wk (N:=λid=>U id=none) (ho.HO (rows':=RQ.map λn=>.agg (Nd.cells n)) (λid h=>h) (.cons _ _ _ _ (pk _ _) (.cons _ _ _ _ (pk _ _) (.cons _ _ _ _ (pk _ _) (.cons _ _ _ _ (pk _ _) (.cons _ _ _ _ (pk _ _) .nil)))))) hs (λ_ h=>h),rfl,rfl⟩
def RR(l:List Int)(j:Nat):List Lu:=(List.range j).map λi=>⟨l.getD i 0,0,decide (i=0)⟩
def Cq(l:List Int){j:Nat}(h:j<l.length):RR l (j+1)=RR l j++[⟨l[j],0,decide (j=0)⟩]:=by
 unfold RR;rw[List.range_succ,gM];simp[h]
def sS{U:ag}{v:V}(l:List Int)(hl:l.length<=1000000)(hr:Reads U 1 false v (l.map vI)):
 aA prog 17 [v] U λr Z'=>r=cm (RR l l.length)/\Z'=U:=by
 refine e17.r (by simp[c17]) ?_;have Us:eK false v=some (.int .i64 l.length):=by rw[hr.1,eU]
 refine ab.mix 5 ?_;apply sR;simp only[go_sem,seval,c17];refine ab.loop (λm st=>∃(j:Nat) (u:V),j<=l.length/\m=l.length-j/\aa U st.U/\aQ U st.U 37 3 u ((RR l j).map aH)/\st.s 0=v/\st.s 3=u/\st.s 4=vI j) l.length ⟨0,.bz,by omega,rfl,aa.refl _,aQ.start,rfl,rfl,rfl⟩ ?_;rintro m ⟨S,ω⟩ ⟨j,u,hj,rfl,hK,ho,t0,t3,t4⟩;simp only at hK ho t0 t3 t4;refine ab.mix 5 ?_;by_cases Lr:j<l.length
 .have p1:((j:Int)<l.length)=True:=LH;have r1:LP .i64 ((j:Int)+1):=au;obtain⟨a,ha,OO⟩:=(Reads.mono hK hr).2 j (vI l[j]) (by simp[Lr]);have L8:=Cq l Lr;have Oc:((RR l j).map aH).length=j:=by unfold RR;simp
  have hdc:decide ((j:Int)=0)=decide (j=0):=decide_eq_decide.2 (by omega);generalize hD:decide (j=0)=D at*;apply sR;simp only[go_sem,seval,t0,t3,t4,Us,p1,ha,OO];refine ae λi19 Z19 s19 a19 f19=>?_;obtain⟨LQ,NF,Mn⟩:=ho.dst s19;have MR:(((RR l j).map aH).length+1)*25<=140737488355328:=by rw[Oc];omega
  simp only[go_sem,seval,NF,fm a19,MR];refine er λi20 Z20 s20 a20 f20=>?_;rw[hdc]at a20;simp only[go_sem,seval,t4,r1];exact⟨_,by omega,j+1,.own i20 0 (((RR l j).map aH).length+1),by omega,rfl,(Mn U (aa.refl _) Z19 (hK.trans s19)).trans s20,by rw[L8,gM];exact aQ.new (by simp) a20 ((hK.trans s19).none f20),by simp[t0]⟩
 .have p1:((j:Int)<l.length)=False:=Ly;obtain rfl:j=l.length:=by omega
  apply sR;simp only[go_sem,seval,t0,t3,t4,Us,p1];exact ho.vR hK rfl
def wo(a b:List Lu)(h:a.length<=1000000):bc prog 18 [cm a,cm b] (.bool (decide (a=b))):=
 EE func18 (sz:=3) (ks:=[0,0,1]) (e18.b.trans rfl) e18.c aH vi (λ_ _=>rfl) a b (by omega)
open Go.Proofs Go.Proofs.Tryz
set_option maxRecDepth 1000000
def SI(h:Int):Bk:=bb RQ 10 h
def f38:dV RQ:=⟨by decide,by decide⟩
def DN:OP RQ 10 4=0:=by kernel_rfl
def KT:OP RQ 10 1=0:=by kernel_rfl
def TR:gI (SI 4)=[⟨0,0,true⟩,⟨2,0,false⟩,⟨4,0,false⟩]:=by kernel_rfl
def Lk:(bI (SI 4) ⟨0,0,true⟩).1=⟨3,0⟩:=by kernel_rfl
def g38:eZ (SI 4)=[⟨0,0,true⟩,⟨2,0,false⟩,⟨4,0,false⟩]:=by kernel_rfl
def Lp:jM (SI 4)=⟨3,0⟩:=by kernel_rfl
def n38:Ab (SI 4) ⟨0,0,true⟩=.LI [cm [⟨1,0,false⟩,⟨2,0,false⟩],vI 0]:=by kernel_rfl
def m38:(bI (SI 1) ⟨0,0,true⟩).1.LD=10:=by kernel_rfl
def x38:iJ (SI 4) (RR [0,1,3] 3)=some ⟨3,0⟩:=by kernel_rfl
def y38:iJ (SI 4) (RR [0,3] 2)=none:=by kernel_rfl
open Go.Proofs Go.Proofs.Tryz
def yY{U Z1:ag}{i e:Nat}{l:List Int}(h:U i=some ⟨e,1,l.map vI⟩)(hs:aa U Z1):Reads Z1 1 false (.own i 0 l.length) (l.map vI):=qW (hs _ _ h)
def IB:bc prog 6 [] (.bool true):=λU=>by
 refine e6.r (by simp[c6]) ?_;have hs:=aa.refl U;have p1:=Cf RQ f38 10 4 DN;have p2:=tQ RQ f38 10 4 DN;have p3:=An RQ f38 10 4 ⟨0,0,true⟩ DN;have p4:=Cf RQ f38 10 1 KT;have p5:=nS RQ f38 10 4 DN (RR [0,1,3] 3) (by decide);have p6:=nS RQ f38 10 4 DN (RR [0,3] 2) (by decide);have hb:bb RQ 10 4=SI 4:=rfl;have Oc:bb RQ 10 1=SI 1:=rfl;rw[hb,TR,Lk]at p1;rw[hb,g38,Lp]at p2;rw[hb,n38]at p3;rw[Oc]at p4;rw[hb,gV x38]at p5;rw[hb,gi y38]at p6;have m:=m38;generalize (bI (SI 1) ⟨0,0,true⟩).1=C at*;generalize gI (SI 1)=G at*;clear hb Oc;have U6:=EP;generalize RQ=B at*;have q0:((0:Int)≠0)=False:=Ly λh=>h rfl;have q10:(C.LD=10)=True:=LH m;refine ab.mix 19 ?_;apply sR;simp only[go_sem,seval,c6];refine ab.aC rfl rfl rfl (U6 _) ?_;apply sR;simp only[go_sem,seval];refine ab.aC rfl rfl rfl (p1 _) ?_;apply sR;simp only[go_sem,seval,aS,aT];refine ae λi2 Z2 s2 a2 f2=>?_;have z2:=hs.none f2;replace hs:=hs.trans s2;simp only[go_sem,seval,a2,aS,aT];generalize hq2:E' _ i2 _=Y2;replace a2:=(congrFun hq2 i2).symm.trans ak;replace hs:=Eq.subst (motive:=aa _) hq2 (hs.aG z2);clear hq2;refine ab.aC rfl rfl rfl (U6 _) ?_;apply sR;simp only[go_sem,seval];refine ab.aC rfl rfl rfl (p2 _) ?_;apply sR;simp only[go_sem,seval,aS,aT];refine ae λi5 Z5 s5 a5 f5=>?_;have Ti:=ao a2 f5;replace a2:=s5 _ _ a2;have z5:=hs.none f5;replace hs:=hs.trans s5;simp only[go_sem,seval,a5,aS,aT];generalize Np:E' _ i5 _=Y5;replace a5:=(congrFun Np i5).symm.trans ak;replace a2:=((congrFun Np i2).symm.trans (ad Ti)).trans a2;replace hs:=Eq.subst (motive:=aa _) Np (hs.aG z5);clear Np;refine ab.aC rfl rfl rfl (U6 _) ?_;apply sR;simp only[go_sem,seval];refine ab.aC rfl rfl rfl (p3 _) ?_;apply sR;simp only[go_sem,seval];refine ab.aC rfl rfl rfl (U6 _) ?_;apply sR;simp only[go_sem,seval];refine ab.aC rfl rfl rfl (p4 _) ?_;apply sR;simp only[go_sem,seval,aS,aT];refine ae λMa Q4 M0 LG f10=>?_;have n210:=ao a2 f10;replace a2:=M0 _ _ a2;have W7:=ao a5 f10;replace a5:=M0 _ _ a5;have Ol:=hs.none f10;replace hs:=hs.trans M0;simp only[go_sem,seval,LG,aS,aT];generalize LN:E' _ Ma _=Uf;replace LG:=(congrFun LN Ma).symm.trans ak;replace a2:=((congrFun LN i2).symm.trans (ad n210)).trans a2;replace a5:=((congrFun LN i5).symm.trans (ad W7)).trans a5;replace hs:=Eq.subst (motive:=aa _) LN (hs.aG Ol);clear LN;refine ab.aC rfl rfl rfl (U6 _) ?_;apply sR;simp only[go_sem,seval];refine ae λi45 Z45 s45 a45 f45=>?_;have n245:=ao a2 f45;replace a2:=s45 _ _ a2;have n545:=ao a5 f45;replace a5:=s45 _ _ a5;have n1045:=ao LG f45;replace LG:=s45 _ _ LG;have z45:=hs.none f45;replace hs:=hs.trans s45;simp only[go_sem,seval];refine ab.aC rfl rfl rfl (sS [0,1,3] (by decide) (yY (l:=[0,1,3]) a45 (aa.refl _))) ?_;apply sR;simp only[go_sem,seval];refine ab.aC rfl rfl rfl (p5 _) ?_;apply sR;simp only[go_sem,seval,aS,aT];refine ae λNy Z12 Qc a12 f12=>?_;have n212:=ao a2 f12;replace a2:=Qc _ _ a2;have RD:=ao a5 f12;replace a5:=Qc _ _ a5;have PV:=ao LG f12;replace LG:=Qc _ _ LG;have z12:=hs.none f12;replace hs:=hs.trans Qc;simp only[go_sem,seval,a12,aS,aT];generalize NT:E' _ Ny _=Y12;replace a12:=(congrFun NT Ny).symm.trans ak;replace a2:=((congrFun NT i2).symm.trans (ad n212)).trans a2;replace a5:=((congrFun NT i5).symm.trans (ad RD)).trans a5;replace LG:=((congrFun NT Ma).symm.trans (ad PV)).trans LG;replace hs:=Eq.subst (motive:=aa _) NT (hs.aG z12);clear NT;refine ab.aC rfl rfl rfl (U6 _) ?_;apply sR;simp only[go_sem,seval];refine ae λi53 Z53 s53 a53 f53=>?_;have n253:=ao a2 f53;replace a2:=s53 _ _ a2;have n553:=ao a5 f53;replace a5:=s53 _ _ a5;have n1053:=ao LG f53;replace LG:=s53 _ _ LG;have n1253:=ao a12 f53;replace a12:=s53 _ _ a12;have z53:=hs.none f53;replace hs:=hs.trans s53;simp only[go_sem,seval];refine ab.aC rfl rfl rfl (sS [0,3] (by decide) (yY (l:=[0,3]) a53 (aa.refl _))) ?_;apply sR;simp only[go_sem,seval];refine ab.aC rfl rfl rfl (p6 _) ?_;apply sR;simp only[go_sem,seval,aS,aT];refine ae λQd XQ PD NK f15=>?_;have n215:=ao a2 f15;replace a2:=PD _ _ a2;have n515:=ao a5 f15;replace a5:=PD _ _ a5;have TT:=ao LG f15;replace LG:=PD _ _ LG;have n1215:=ao a12 f15;replace a12:=PD _ _ a12;have VC:=hs.none f15;replace hs:=hs.trans PD;simp only[go_sem,seval,NK,aS,aT];generalize MK:E' _ Qd _=XR;replace NK:=(congrFun MK Qd).symm.trans ak;replace a2:=((congrFun MK i2).symm.trans (ad n215)).trans a2;replace a5:=((congrFun MK i5).symm.trans (ad n515)).trans a5;replace LG:=((congrFun MK Ma).symm.trans (ad TT)).trans LG;replace a12:=((congrFun MK Ny).symm.trans (ad n1215)).trans a12;replace hs:=Eq.subst (motive:=aa _) MK (hs.aG VC);clear MK;refine ae λVS Z18 Sc Pz f18=>?_;have n218:=ao a2 f18;replace a2:=Sc _ _ a2;have n518:=ao a5 f18;replace a5:=Sc _ _ a5;have TU:=ao LG f18;replace LG:=Sc _ _ LG;have n1218:=ao a12 f18;replace a12:=Sc _ _ a12;have TV:=ao NK f18;replace NK:=Sc _ _ NK;have z18:=hs.none f18;replace hs:=hs.trans Sc;simp only[go_sem,seval,Pz];generalize Of:E' _ VS _=Y18;replace Pz:=(congrFun Of VS).symm.trans ak;replace a2:=((congrFun Of i2).symm.trans (ad n218)).trans a2;replace a5:=((congrFun Of i5).symm.trans (ad n518)).trans a5;replace LG:=((congrFun Of Ma).symm.trans (ad TU)).trans LG;replace a12:=((congrFun Of Ny).symm.trans (ad n1218)).trans a12;replace NK:=((congrFun Of Qd).symm.trans (ad TV)).trans NK;replace hs:=Eq.subst (motive:=aa _) Of (hs.aG z18);clear Of;have UF:eK false (cm [⟨1,0,false⟩,⟨2,0,false⟩])=some (.int .i64 2):=rfl;have hi0:∀U,bN U 3 (cm [⟨1,0,false⟩,⟨2,0,false⟩]) (.int .i64 0)=some (.rp (aH ⟨1,0,false⟩)):=λ_=>rfl;have hi1:∀U,bN U 3 (cm [⟨1,0,false⟩,⟨2,0,false⟩]) (.int .i64 1)=some (.rp (aH ⟨2,0,false⟩)):=λ_=>rfl;simp only[go_sem,seval,q0,UF];refine ae λi88 Z88 Xm a88 f88=>?_;have n288:=ao a2 f88;replace a2:=Xm _ _ a2;have n588:=ao a5 f88;replace a5:=Xm _ _ a5;have n1088:=ao LG f88;replace LG:=Xm _ _ LG;have n1288:=ao a12 f88;replace a12:=Xm _ _ a12;have n1588:=ao NK f88;replace NK:=Xm _ _ NK;have n1888:=ao Pz f88;replace Pz:=Xm _ _ Pz;have z88:=hs.none f88;replace hs:=hs.trans Xm;simp only[go_sem,seval];refine ab.aC rfl rfl rfl (sS [0,2,4] (by decide) (yY (l:=[0,2,4]) a88 (aa.refl _))) ?_;apply sR;simp only[go_sem,seval];refine ab.aC rfl rfl rfl (wo [⟨0,0,true⟩,⟨2,0,false⟩,⟨4,0,false⟩] (RR [0,2,4] 3) (by decide) _) ?_;rw[NA (show([⟨0,0,true⟩,⟨2,0,false⟩,⟨4,0,false⟩]:List Lu)=RR [0,2,4] 3 from by decide)];apply sR;simp only[go_sem,seval];refine ab.aC rfl rfl rfl (wo [⟨0,0,true⟩,⟨2,0,false⟩,⟨4,0,false⟩] [⟨0,0,true⟩,⟨2,0,false⟩,⟨4,0,false⟩] (by decide) _) ?_;rw[NA rfl];apply sR;simp only[go_sem,seval,a2,a5,LG,a12,NK,Pz,hi0,hi1,q10,Bool.not_false,aS,aT,ay,az];exact aE.pure hs rfl
def zp{b:Bk}(P:List Lu):(dP (br b) P).LY=ig b P:=by
 induction P with
 |nil=>rfl
 |cons t r ih=>simp only[dP,Ms.on,ig,fb,List.sum_cons]at*;omega
def yR{b:Bk}(hb:bP b){P:List Lu}{s:Lu}(hv:dS b s)(hp:gg (aV b) (bE b) s P):ig b (((s::P).dropLast).drop 1)=(dP (br b) P).LY/\((s::P).dropLast).length=P.length:=by
 refine⟨?_,by simp⟩;rw[zp];cases P with
 |nil=>rfl
 |cons t r=>
  rw[List.dropLast_cons₂,IY,zy];have key:∀(r:List Lu) (t:Lu),dS b t->gg (aV b) (bE b) t r->ig b ((t::r).dropLast)=ig b (t::r):=by
   intro r
   induction r with
   |nil=>
    intro t hv hp;have h0:=x7 hb hv hp;simp[ig,h0]
   |cons u r ih=>
    intro t hv hp;have:=ih u ((bt hb).on t hv hp.1 u hp.2.1).1 hp.2.2;rw[List.dropLast_cons₂];simp only[ig,fb,List.sum_cons]at*;omega
  exact key r t ((bt hb).on s hv hp.1 t hp.2.1).1 hp.2.2
def wy{b:Bk}(hb:bP b):iJ b (eZ b)=some (jM b)/\¬(jM b).lt (bI b ⟨0,0,true⟩).1:=by
 obtain⟨P,h1,h2,h3,h4⟩:=vQ hb;obtain⟨e1,e2⟩:=yR hb (cT b hb) h1;have hc:jM b=dP (br b) P:=by
  unfold jM;rw[h2,e1];have:=ik (br b) P;rw[e2];cases hP:dP (br b) P with
  |mk p r=>rw[hP]at this;simp only at this;rw[<-this]
 rw[hc];exact⟨h3,h4⟩
def yw{S:Type}{key:S->Int}{P Q:List S}(h:sW key P Q):∀(s:S) (k:Nat) (h1:k<((s::P).dropLast).length) (h2:k<((s::Q).dropLast).length),((s::P).dropLast).take k=((s::Q).dropLast).take k->((s::P).dropLast)[k]≠((s::Q).dropLast)[k]->key ((s::Q).dropLast)[k]<key ((s::P).dropLast)[k]:=by
 induction h with
 |same P=>intro s k h1 h2 _ LR;exact absurd rfl LR
 |first t u P Q hk=>
  intro s k h1 h2 ht LR
  match k with
  |0=>simp at LR
  |1=>simpa using hk
  |k+2=>
   exfalso;have hP:P≠[]:=by rintro rfl;simp at h1
   have hQ:Q≠[]:=by rintro rfl;simp at h2
   obtain⟨p,P',rfl⟩:=List.exists_cons_of_ne_nil hP;obtain⟨q,Q',rfl⟩:=List.exists_cons_of_ne_nil hQ;simp only[List.dropLast_cons₂,xF,List.cons.injEq,true_and]at ht;rw[ht.1]at hk;omega
 |on t P Q _ ih=>
  intro s k h1 h2 ht LR
  match k with
  |0=>simp at LR
  |k+1=>
   have e1:(s::t::P).dropLast.length=(t::P).dropLast.length+1:=by simp
   have e2:(s::t::Q).dropLast.length=(t::Q).dropLast.length+1:=by simp
   have ht2:(t::P).dropLast.take k=(t::Q).dropLast.take k:=by
    simp only[List.dropLast_cons₂,xF,List.cons.injEq,true_and]at ht;exact ht
   exact ih t k (by omega) (by omega) ht2 LR
open Go.Proofs Go.Proofs.Tryz
def uz(b:Bk)(c:Nat->Lu->Lu):∀(f i:Nat) (s:Lu),(gH b c f i s).length<=f
 |0,_,_=>Md _
 |f+1,i,s=>by
  rw[gH];split
  .simp
  .have:=uz b c f (i+1) (c i s);simp only[MM];omega
def CB{l:List Nd}(fl:dV l){w h:Int}(h0:OP l w h=0)(F:Eb l h)(Mp:List Int):
 iJ (bb l w h) (gI (bb l w h))=some (bI (bb l w h) ⟨0,0,true⟩).1/\(gI (bb l w h)).length<=100000/\
 ∃z,iJ (bb l w h) (gH (bb l w h) (kY (bb l w h) Mp) 2000 0 ⟨0,0,true⟩)=some z/\¬z.lt (bI (bb l w h) ⟨0,0,true⟩).1/\
  (z=(bI (bb l w h) ⟨0,0,true⟩).1->(gH (bb l w h) (kY (bb l w h) Mp) 2000 0 ⟨0,0,true⟩).length=(gI (bb l w h)).length/\
    ∀(k:Nat) (h1:k<(gI (bb l w h)).length) (h2:k<(gH (bb l w h) (kY (bb l w h) Mp) 2000 0 ⟨0,0,true⟩).length),(gI (bb l w h)).take k=(gH (bb l w h) (kY (bb l w h) Mp) 2000 0 ⟨0,0,true⟩).take k->
     (gI (bb l w h))[k]≠(gH (bb l w h) (kY (bb l w h) Mp) 2000 0 ⟨0,0,true⟩)[k]->(gH (bb l w h) (kY (bb l w h) Mp) 2000 0 ⟨0,0,true⟩)[k].atom<(gI (bb l w h))[k].atom):=by
 obtain⟨he,-⟩:=iL h0;have hb:=fN fl he;have hL:=jE he;have hphi:=ET fl he F.1 F.2.1 F.2.2.2;obtain⟨P,w1,w2⟩:=tJ hb hL (c:=kY (bb l w h) Mp) (λi s hv ho hf=>xZ hb Mp i s hv ho hf) 2000 0 ⟨0,0,true⟩ (cT _ hb) (xy _) hphi;obtain⟨c1,c2,c3⟩:=Dx hb w1;have hbp:=Br hb;have Mx:∀s,dS (bb l w h) s->¬bE (bb l w h) s->(bI (bb l w h) s).2∈aV (bb l w h) s:=zD hb;have ME:=lN hb hL Mx;have L8:=(oL hb Mx dR ⟨0,0,true⟩ (cT _ hb) (fZ hb)).2;have hbz:=A3 hb;refine⟨hbp.2,ME,_,by rw[w2];exact c1,c2,λhz=>?_⟩;have hbS:gI (bb l w h)=iT (bb l w h) (λs=>(bI (bb l w h) s).2) dR ⟨0,0,true⟩:=rfl;rw[L8]at hbS;have hpp:=ik (br (bb l w h)) P;rw[hz]at hpp;rw[w2];refine⟨by rw[List.length_dropLast,MM];omega,λk h1 h2 ht LR=>?_⟩;have Lr:=c3 hz;generalize gI (bb l w h)=B at*;subst hbS;exact yw Lr ⟨0,0,true⟩ k h1 h2 ht LR
def NdP(l:List Nd):Prop:=l.length<=1000000000000/\∀x∈l,x.words.length<=200000000000000
def Ce(a b:Ms):kF true [0,0] (eJ a) (eJ b)=some (.bool (decide (a≠b))):=by
 obtain⟨a1,a2⟩:=a;obtain⟨b1,b2⟩:=b;simp only[kF,eJ,cK,bL,cu,vI,MM,List.length_nil,true_and,↓reduceIte,ne_eq,Ms.mk.injEq];by_cases h1:a1=b1<;>by_cases h2:a2=b2<;>simp[h1,h2]
def yO(aw:bc prog 6 [] (.bool true))(l:List Nd)(hl:NdP l)(w h:Int)(Mp:List Int):bc prog 3 [aM l,vI w,vI h,bj Mp] (.bool true):=λU=>by
 refine e3.r (by simp[c3]) ?_;have R6:=dG Mp
 refine ab.mix 26 ?_;apply sR;simp only[go_sem,seval,c3];refine ab.call rfl rfl rfl (I2 l hl.1 hl.2 h _) ?_;rintro r Z' ⟨⟨x,rfl,hx⟩,rfl⟩;cases x with
 |false=>
  apply sR;simp only[go_sem,seval,Bool.not_false];refine ab.aC rfl rfl rfl (aw _) ?_;apply sR;simp only[go_sem,seval];exact aE.same rfl
 |true=>
  have F:=hx rfl;have fl:dV l:=⟨by have:=F.1;omega,hl.2⟩
  by_cases gb:(Mp.length:Int)>200
  .have pb:((Mp.length:Int)>200)=True:=LH gb;apply sR;simp only[go_sem,seval,Bool.not_true,R6,pb];refine ab.aC rfl rfl rfl (aw _) ?_;apply sR;simp only[go_sem,seval];exact aE.same rfl
  have pb:((Mp.length:Int)>200)=False:=Ly gb;have hs:=aa.refl Z';have q0:((0:Int)≠0)=False:=Ly λh=>h rfl;by_cases e0:OP l w h=0
  .have p1:=Cf l fl w h e0;have p2:=tQ l fl w h e0;obtain⟨b1,b2,z,b3,b4,b5⟩:=CB fl e0 F Mp
   obtain⟨he,-⟩:=iL e0;have hb:=fN fl he;obtain⟨g1,g2⟩:=wy hb;have g3:=lN hb (jE he) (nh hb);change (eZ (bb l w h)).length<=100000 at g3;have p3:=nS l fl w h e0 _ (show(gI (bb l w h)).length<=1000000 by omega);have p4:=nS l fl w h e0 _ (show(eZ (bb l w h)).length<=1000000 by omega);have p5:=Cr l fl w h Mp e0 (by omega)
   have Ub:=uz (bb l w h) (kY (bb l w h) Mp) 2000 0 ⟨0,0,true⟩;have p6:=nS l fl w h e0 _ (show(gH (bb l w h) (kY (bb l w h) Mp) 2000 0 ⟨0,0,true⟩).length<=1000000 by omega);rw[gV b1]at p3;rw[gV g1]at p4;rw[gV b3]at p6;clear b1 b3 g1 hb he F hx e0 fl;generalize gH (bb l w h) (kY (bb l w h) Mp) 2000 0 ⟨0,0,true⟩=W at*;generalize (bI (bb l w h) ⟨0,0,true⟩).1=cB at*;generalize jM (bb l w h)=cG at*;generalize gI (bb l w h)=B at*;generalize eZ (bb l w h)=G at*;have l1:=zk cG cB;have l2:=zk z cB;rw[Nz g2]at l1;rw[Nz b4]at l2;have x1:=Ce cB cB;have x2:=Ce cG cG;have x3:=Ce z cB;rw[Nz (λh=>h rfl)]at x1 x2;have Ya:=i0 B;have hlW:=i0 W;apply sR;simp only[go_sem,seval,Bool.not_true,R6,pb];refine ab.aC rfl rfl rfl (p1 _) ?_;apply sR;simp only[go_sem,seval,aS,aT];refine ae λMa Q4 M0 LG f10=>?_;have Ol:=hs.none f10;replace hs:=hs.trans M0;simp only[go_sem,seval,LG,aS,aT];generalize LN:E' _ Ma _=Uf;replace LG:=(congrFun LN Ma).symm.trans ak;replace hs:=Eq.subst (motive:=aa _) LN (hs.aG Ol);clear LN;refine ab.aC rfl rfl rfl (p2 _) ?_;apply sR;simp only[go_sem,seval,aS,aT];refine ae λSE Y13 Ui NJ f13=>?_;have TW:=ao LG f13;replace LG:=Ui _ _ LG;have z13:=hs.none f13;replace hs:=hs.trans Ui;simp only[go_sem,seval,NJ,q0,aS,aT];generalize Oe:E' _ SE _=ZO;replace NJ:=(congrFun Oe SE).symm.trans ak;replace LG:=((congrFun Oe Ma).symm.trans (ad TW)).trans LG;replace hs:=Eq.subst (motive:=aa _) Oe (hs.aG z13);clear Oe;refine ab.aC rfl rfl rfl (p3 _) ?_;apply sR;simp only[go_sem,seval,aS,aT];refine ae λQd XQ PD NK f15=>?_;have TT:=ao LG f15;replace LG:=PD _ _ LG;have Tt:=ao NJ f15;replace NJ:=PD _ _ NJ;have VC:=hs.none f15;replace hs:=hs.trans PD;simp only[go_sem,seval,NK,aS,aT];generalize MK:E' _ Qd _=XR;replace NK:=(congrFun MK Qd).symm.trans ak;replace LG:=((congrFun MK Ma).symm.trans (ad TT)).trans LG;replace NJ:=((congrFun MK SE).symm.trans (ad Tt)).trans NJ;replace hs:=Eq.subst (motive:=aa _) MK (hs.aG VC);clear MK;refine ab.aC rfl rfl rfl (p4 _) ?_;apply sR;simp only[go_sem,seval,aS,aT];refine ae λVS Z18 Sc Pz f18=>?_;have TU:=ao LG f18;replace LG:=Sc _ _ LG;have n1318:=ao NJ f18;replace NJ:=Sc _ _ NJ;have TV:=ao NK f18;replace NK:=Sc _ _ NK;have z18:=hs.none f18;replace hs:=hs.trans Sc;simp only[BB,seval,<-decide_not,bk,eV,aL,cX,cV,db,da,dv,bF,gY,fg,bl,eO,cZ,eN,cq,bZ,bK,fV,bS,bY,bQ,Mw,gW,cz,bH,cK,bL,cu,cb,ie,binBV,bC,cD,Pz,q0,LG,NJ,NK,x1,x2,ij,Bool.not_true,aS,aT,V.dj,V.dh,V.cH,V.dp,V.eo,V.di,V.cF,V.ek,V.dk,V.ez,V.dn,V.dt,V.cE,V.dg,V.eh,V.dq,V.cI,V.ew,V.dr,V.ef];generalize Of:E' _ VS _=Y18;replace Pz:=(congrFun Of VS).symm.trans ak;replace LG:=((congrFun Of Ma).symm.trans (ad TU)).trans LG;replace NJ:=((congrFun Of SE).symm.trans (ad n1318)).trans NJ;replace NK:=((congrFun Of Qd).symm.trans (ad TV)).trans NK;replace hs:=Eq.subst (motive:=aa _) Of (hs.aG z18);clear Of;simp only[BB,seval,<-decide_not,bk,eV,aL,cX,cV,db,da,dv,bF,gY,fg,bl,eO,cZ,eN,cq,bZ,bK,fV,bS,bY,bQ,Mw,gW,cz,bH,cK,bL,cu,cb,ie,binBV,bC,cD,LG,NJ,NK,Pz,x1,x2,Bool.not_true,ij,aS,aT,V.dj,V.dh,V.cH,V.dp,V.eo,V.di,V.cF,V.ek,V.dk,V.ez,V.dn,V.dt,V.cE,V.dg,V.eh,V.dq,V.cI,V.ew,V.dr,V.ef];refine ab.aC rfl rfl rfl (l1 _) ?_;apply sR;simp only[go_sem,seval];refine ab.aC rfl rfl rfl (p5 _) ?_;apply sR;simp only[go_sem,seval];refine ab.aC rfl rfl rfl (p6 _) ?_;apply sR;simp only[go_sem,seval,aS,aT];refine ae λi22 Y22 s22 Yh f22=>?_;have n1022:=ao LG f22;replace LG:=s22 _ _ LG;have z22:=hs.none f22;replace hs:=hs.trans s22;simp only[go_sem,seval,Yh,q0,LG,Bool.not_true,ij,aS,aT];generalize Vb:E' _ i22 _=Z22;replace Yh:=(congrFun Vb i22).symm.trans ak;replace LG:=((congrFun Vb Ma).symm.trans (ad n1022)).trans LG;replace hs:=Eq.subst (motive:=aa _) Vb (hs.aG z22);clear Vb;simp only[go_sem,seval,LG,Yh,ij,aS,aT];refine ab.aC rfl rfl rfl (l2 _) ?_;by_cases hz:z=cB
   .obtain⟨hlen,b6⟩:=b5 hz;rw[Nz (λh=>h hz)]at x3;have q1:((W.length:Int)≠B.length)=False:=Ly;apply sR;simp only[BB,seval,<-decide_not,bk,eV,aL,cX,cV,db,da,dv,bF,gY,fg,bl,eO,cZ,eN,cq,bZ,bK,fV,bS,bY,bQ,Mw,gW,cz,bH,cK,bL,cu,cb,ie,binBV,bC,cD,MJ.nothing,LG,Yh,x3,Ya,hlW,q1,ij,aS,aT,V.dj,V.dh,V.cH,V.dp,V.eo,V.di,V.cF,V.ek,V.dk,V.ez,V.dn,V.dt,V.cE,V.dg,V.eh,V.dq,V.cI,V.ew,V.dr,V.ef];refine ab.loop (λm st=>∃j,j<=B.length/\m=B.length-j/\B.take j=W.take j/\st.s 9=cm B/\st.s 21=cm W/\st.s 25=vI j/\st.U=Z22) B.length ⟨0,by omega,rfl,rfl,rfl,rfl,rfl,rfl⟩ ?_;clear LG Yh x3;rintro m ⟨S,ω⟩ ⟨j,hj,rfl,ht,t9,t21,t25,L6⟩;simp only at t9 t21 t25 L6;subst L6;refine ab.mix 26 ?_;by_cases Lr:j<B.length
    .have p9:((j:Int)<B.length)=True:=LH;have Sw:j<W.length:=by omega
     have i1:=λU=>iz (U:=U) Lr;have i2:=λU=>iz (U:=U) Sw;have d1:=mL B[j];have d2:=mL W[j];have Q5:=vi B[j] W[j];have tx:=Ph Lr;have ty:=Ph Sw;have b7:=b6 j Lr Sw ht;have r1:LP .i64 ((j:Int)+1):=au;by_cases hq:B[j]=W[j]
     .rw[Nz (λh=>h hq)]at Q5;apply sR;simp only[BB,seval,<-decide_not,bk,eV,aL,cX,cV,db,da,dv,bF,gY,fg,bl,eO,cZ,eN,cq,bZ,bK,fV,bS,bY,bQ,Mw,gW,cz,bH,cK,bL,cu,cb,ie,binBV,bC,cD,MJ.nothing,t9,t21,t25,Ya,p9,i1,i2,d1,d2,Q5,r1,ay,az,aB,V.dj,V.dh,V.cH,V.dp,V.eo,V.di,V.cF,V.ek,V.dk,V.ez,V.dn,V.dt,V.cE,V.dg,V.eh,V.dq,V.cI,V.ew,V.dr,V.ef];exact⟨_,by omega,j+1,by omega,rfl,by rw[tx,ty,ht,hq],by simp[t9,t21]⟩
     .rw[NA hq]at Q5;have q4:(B[j].atom>W[j].atom)=True:=LH (b7 hq);generalize B[j]=u at*;generalize W[j]=v at*;apply sR;simp only[BB,seval,<-decide_not,bk,eV,aL,cX,cV,db,da,dv,bF,gY,fg,bl,eO,cZ,eN,cq,bZ,bK,fV,bS,bY,bQ,Mw,gW,cz,bH,cK,bL,cu,cb,ie,binBV,bC,cD,MJ.nothing,t9,t21,t25,Ya,p9,i1,i2,d1,d2,Q5,q4,ay,az,aB,V.dj,V.dh,V.cH,V.dp,V.eo,V.di,V.cF,V.ek,V.dk,V.ez,V.dn,V.dt,V.cE,V.dg,V.eh,V.dq,V.cI,V.ew,V.dr,V.ef];refine Go.lf rfl rfl rfl (λZ1 h=>aw Z1) ?_;apply sG;simp only[go_sem,seval];exact aE.pure hs rfl
    .have p9:((j:Int)<B.length)=False:=Ly;apply sR;simp only[go_sem,seval,t9,t21,t25,Ya,p9];refine ab.aC rfl rfl rfl (aw _) ?_;apply sR;simp only[go_sem,seval];exact aE.pure hs rfl
   .rw[NA hz]at x3;apply sR;simp only[BB,seval,<-decide_not,bk,eV,aL,cX,cV,db,da,dv,bF,gY,fg,bl,eO,cZ,eN,cq,bZ,bK,fV,bS,bY,bQ,Mw,gW,cz,bH,cK,bL,cu,cb,ie,binBV,bC,cD,MJ.nothing,LG,Yh,x3,ij,aS,aT,V.dj,V.dh,V.cH,V.dp,V.eo,V.di,V.cF,V.ek,V.dk,V.ez,V.dn,V.dt,V.cE,V.dg,V.eh,V.dq,V.cI,V.ew,V.dr,V.ef];refine ab.aC rfl rfl rfl (aw _) ?_;apply sR;simp only[go_sem,seval];exact aE.pure hs rfl
  .have p1:=I0 l fl w h e0;have p2:=Bc l fl w h e0;have q1:(OP l w h≠0)=True:=LH e0;clear e0;generalize OP l w h=E at*;have q2:(E≠E)=False:=Ly λh=>h rfl;apply sR;simp only[go_sem,seval,Bool.not_true,R6,pb];refine ab.aC rfl rfl rfl (p1 _) ?_;apply sR;simp only[go_sem,seval,aS,aT];refine ae λMa Q4 M0 LG f10=>?_;have Ol:=hs.none f10;replace hs:=hs.trans M0;simp only[go_sem,seval,LG,aS,aT];generalize LN:E' _ Ma _=Uf;replace LG:=(congrFun LN Ma).symm.trans ak;replace hs:=Eq.subst (motive:=aa _) LN (hs.aG Ol);clear LN;refine ab.aC rfl rfl rfl (p2 _) ?_;apply sR;simp only[go_sem,seval,aS,aT];refine ae λSE Y13 Ui NJ f13=>?_;have TW:=ao LG f13;replace LG:=Ui _ _ LG;have z13:=hs.none f13;replace hs:=hs.trans Ui;simp only[go_sem,seval,NJ,q1,q2,aS,aT];generalize Oe:E' _ SE _=ZO;replace NJ:=(congrFun Oe SE).symm.trans ak;replace LG:=((congrFun Oe Ma).symm.trans (ad TW)).trans LG;replace hs:=Eq.subst (motive:=aa _) Oe (hs.aG z13);clear Oe;refine⟨au (by decide) (by decide),?_⟩;refine ab.aC rfl rfl rfl (aw _) ?_;apply sR;simp only[go_sem,seval];exact aE.pure hs rfl
end Go.Vc
