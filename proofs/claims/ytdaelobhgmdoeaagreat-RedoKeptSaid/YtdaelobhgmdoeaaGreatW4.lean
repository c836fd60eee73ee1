/- Part 4 of the library of this proof. -/
import Derived.Test.YtdaelobhgmdoeaaGreatW3
set_option linter.all false
set_option maxHeartbeats 8000000
set_option maxRecDepth 100000
namespace Go.Vc
open Go.Proofs Go.Proofs.Tryz
section
variable {P:Program} {n:Nat} {st:St} {Q:St->Prop} {k:List It}
def Go.bw{i:aD}{l:List aD}{fx:VX}{xs:List VX}{f:FuncId}{caps:List V}{v:V}(hw:aZ st.s i.g=some true)(ho:i.op=.call fx xs)
 (hf:fx.ev st.s=.fn f caps)(hc:aK P f (xs.map (·.ev st.s)++caps) v)(h:Go P n (.d l k) ⟨aQ st.s i.dst v,st.U⟩ Q):Go P n (.d (i::l) k) st Q:=by
 refine pZ hw ?_;rw[ho];exact⟨f,caps,v,hf,λZ1 _=>hc Z1,h⟩
end
def o7{U:ag}{id:Nat}{o:Ob}(h:U id=some o):C' U id o=U:=by
 funext i;simp only[C'];split
 .rename_i e;rw[e,h]
 .rfl
def Bq(n:Int):Prop:=-1152921504606846976<=n/\n<=1152921504606846976
def tk(n:Int):aK prog 44 [vI n] (.bool (decide (1<=n/\n<=1099511627776))):=λU=>by
 refine e44.r (by simp[c44]) ?_;apply sR;simp only[go_sem,seval,c44];refine And.intro (λh=>?_) (λh=>?_)
 .exact ak.same (by congr 1;exact decide_eq_decide.2 (by omega))
 .exact ak.same (by congr 1;exact(Xr (by omega)).symm)
def dF(n:Int):Int:=max (-1099511627776) (min n 1099511627776)
def B2(n:Int):aK prog 103 [vI n] (vI (dF n)):=λU=>by
 refine TF.r (by simp[PU]) ?_;apply sR;simp only[go_sem,seval,PU];exact ak.same (by congr 1;unfold dF;split<;>split<;>omega)
structure XR where
 (a b:Int)
deriving DecidableEq
def bo(s:XR):V:=.agg [vI s.a,vI s.b]
def uZ(s:XR):aK prog 328 [bo s] (.bool (decide (s.b<=s.a))):=λU=>by
 refine Vv.r (by simp[QU]) ?_;apply sR;simp only[go_sem,seval,QU,bo];refine ad λi1 Z1 s1 a1 f1=>?_;simp only[go_sem,seval,a1];exact ak.pure s1 rfl
def kr(s:XR):Int:=if s.b<=s.a then 0 else s.b-s.a
def YS(n:Int):Prop:=-2305843009213693952<=n/\n<=2305843009213693952
def JV(s:XR)(ha:YS s.a)(hb:YS s.b):aK prog 303 [bo s] (vI (kr s)):=λU=>by
 obtain⟨h1,h2⟩:=ha;obtain⟨h3,h4⟩:=hb;refine Vr.r (by simp[OU]) ?_;apply sR;simp only[go_sem,seval,OU,bo];refine ad λi1 Z1 s1 a1 f1=>?_;simp only[go_sem,seval,a1];refine ab.au rfl rfl rfl (uZ ⟨_,_⟩ _) ?_;apply sR;simp only[go_sem,seval,a1];unfold kr;refine And.intro (λh=>?_) (λh=>?_)
 .rw[aq h];exact ak.pure s1 rfl
 .rw[ao h];exact⟨ai,ak.pure s1 rfl⟩
open Go.Proofs Go.Proofs.Tryz
def ql(a b:XR):XR:=if a.b<=a.a\/b.b<=b.a\/min a.b b.b<=max a.a b.a then⟨0,0⟩else⟨max a.a b.a,min a.b b.b⟩
def dr(a b:Int):(if b>a then b else a)=max a b:=by split<;>omega
def gT(a b:Int):(if b<a then b else a)=min a b:=by split<;>omega
def PN(x y:XR):aK prog 338 [bo x,bo y] (bo (ql x y)):=λU=>by
 refine UE.r (by simp[QN]) ?_;have hs:=aa.refl U;refine ab.mix 6 ?_;apply sR;simp only[go_sem,seval,QN,bo];refine ad λi2 Z2 s2 a2 f2=>?_;replace hs:=hs.trans s2;simp only[go_sem,seval];refine ad λi3 Z3 s3 a3 f3=>?_;replace a2:=s3 _ _ a2;replace hs:=hs.trans s3;simp only[go_sem,seval];refine ad λi4 Z4 s4 a4 f4=>?_;replace a2:=s4 _ _ a2;replace a3:=s4 _ _ a3;have z4:=hs.none f4;replace hs:=hs.trans s4;simp only[go_sem,seval,a3,a2];refine ad λi5 Z5 s5 a5 f5=>?_;have n25:=al a2 f5;replace a2:=s5 _ _ a2;have n35:=al a3 f5;replace a3:=s5 _ _ a3;have n45:=al a4 f5;replace a4:=s5 _ _ a4;have z5:=hs.none f5;replace hs:=hs.trans s5;simp only[go_sem,seval,a5,a2,dr,gT,ae n25];generalize X9:C' _ i5 _=Y5;replace a5:=(congrFun X9 i5).symm.trans af;replace a2:=((congrFun X9 i2).symm.trans (ae n25)).trans a2;replace a3:=((congrFun X9 i3).symm.trans (ae n35)).trans a3;replace a4:=((congrFun X9 i4).symm.trans (ae n45)).trans a4;replace hs:=Eq.subst (motive:=aa _) X9 (hs.av z5);clear X9;refine ab.au rfl rfl rfl (uZ ⟨_,_⟩ _) ?_;unfold ql;by_cases h1:x.b<=x.a
 .rw[aq (.inl h1),XJ h1];apply sR;simp only[go_sem,seval,a4];exact ak.pure (hs.av z4) rfl
 rw[Xr h1];apply sR;simp only[go_sem,seval,a3];refine ab.au rfl rfl rfl (uZ ⟨_,_⟩ _) ?_;by_cases h2:y.b<=y.a
 .rw[aq (.inr (.inl h2)),XJ h2];apply sR;simp only[go_sem,seval,a4];exact ak.pure (hs.av z4) rfl
 rw[Xr h2];apply sR;simp only[go_sem,seval,a5];refine ab.au rfl rfl rfl (uZ ⟨_,_⟩ _) ?_;by_cases h3:min x.b y.b<=max x.a y.a
 .rw[aq (.inr (.inr h3)),XJ h3];apply sR;simp only[go_sem,seval,a4];exact ak.pure (hs.av z4) rfl
 .rw[ao (by omega),Xr h3];apply sR;simp only[go_sem,seval,a4,a5];exact ak.pure (hs.av z4) rfl
def K4(x y:XR):aK prog 336 [bo x,bo y] (.bool (decide (ql x y=⟨0,0⟩))):=λU=>by
 refine Um.r (by simp[Pe]) ?_;have hs:=aa.refl U;refine ab.mix 5 ?_;apply sR;simp only[go_sem,seval,Pe,bo];refine ad λi2 Z2 s2 a2 f2=>?_;replace hs:=hs.trans s2;simp only[go_sem,seval];refine ad λi3 Z3 s3 a3 f3=>?_;replace a2:=s3 _ _ a2;replace hs:=hs.trans s3;simp only[go_sem,seval,a3,a2];refine ab.au rfl rfl rfl (PN ⟨_,_⟩ ⟨_,_⟩ _) ?_;have e:(⟨x.a,x.b⟩:XR)=x:=rfl;have e':(⟨y.a,y.b⟩:XR)=y:=rfl;rw[e,e'];generalize ql x y=m;obtain⟨u,v⟩:=m;apply sR;simp only[go_sem,seval,bo];refine ak.pure hs ?_;by_cases h1:u=0<;>by_cases h2:v=0<;>simp[h1,h2]
structure Rct where
 (x y w h:Int)
deriving DecidableEq
def LC(r:Rct):V:=.agg [vI r.x,vI r.y,vI r.w,vI r.h]
def D5(r:Rct)(h1:Bq r.y)(h2:Bq r.h):aK prog 272 [LC r] (bo ⟨r.y,r.y+r.h⟩):=λU=>by
 obtain⟨g1,g2⟩:=h1;obtain⟨g3,g4⟩:=h2;refine Tm.r (by simp[Rv]) ?_;have hs:=aa.refl U;apply sR;simp only[go_sem,seval,Rv,LC];refine ad λi1 Z1 s1 a1 f1=>?_;replace hs:=hs.trans s1;simp only[go_sem,seval];refine ad λi2 Z2 s2 a2 f2=>?_;replace a1:=s2 _ _ a1;have z2:=hs.none f2;replace hs:=hs.trans s2;simp only[go_sem,seval,a2,a1];exact⟨ai,ak.pure (hs.av z2) rfl⟩
def IT(r:Rct)(h1:Bq r.x)(h2:Bq r.w):aK prog 330 [LC r] (bo ⟨r.x,r.x+r.w⟩):=λU=>by
 obtain⟨g1,g2⟩:=h1;obtain⟨g3,g4⟩:=h2;refine T0.r (by simp[O4]) ?_;have hs:=aa.refl U;apply sR;simp only[go_sem,seval,O4,LC];refine ad λi1 Z1 s1 a1 f1=>?_;replace hs:=hs.trans s1;simp only[go_sem,seval];refine ad λi2 Z2 s2 a2 f2=>?_;replace a1:=s2 _ _ a1;have z2:=hs.none f2;replace hs:=hs.trans s2;simp only[go_sem,seval,a2,a1];exact⟨ai,ak.pure (hs.av z2) rfl⟩
structure Pn where
 (y m:Int)
deriving DecidableEq
def hU(p:Pn):V:=.agg [vI p.y,vI p.m]
def Hh(p:Pn)(h1:Bq p.y)(h2:Bq p.m):aK prog 167 [hU p] (vI (p.y+p.m)):=λU=>by
 obtain⟨g1,g2⟩:=h1;obtain⟨g3,g4⟩:=h2;refine Ub.r (by simp[NW]) ?_;have hs:=aa.refl U;apply sR;simp only[go_sem,seval,NW,hU];refine ad λi1 Z1 s1 a1 f1=>?_;replace hs:=hs.trans s1;simp only[go_sem,seval,a1];exact⟨ai,ak.pure hs rfl⟩
def QA(p:Pn)(y h:Int)(h1:Bq y)(h2:Bq h):aK prog 266 [hU p,vI y,vI h] (hU ⟨y+h,0⟩):=λU=>by
 obtain⟨g1,g2⟩:=h1;obtain⟨g3,g4⟩:=h2;refine VN.r (by simp[Oj]) ?_;have hs:=aa.refl U;apply sR;simp only[go_sem,seval,Oj,hU];refine ad λi1 Z1 s1 a1 f1=>?_;replace hs:=hs.trans s1;simp only[go_sem,seval];refine ad λi2 Z2 s2 a2 f2=>?_;replace a1:=s2 _ _ a1;have z2:=hs.none f2;replace hs:=hs.trans s2;simp only[go_sem,seval,a2];exact⟨ai,ak.pure (hs.av z2) rfl⟩
def jT(p:Pn)(low:Int):Pn:=if low>p.y+p.m then⟨low,0⟩else p
def Kr(p:Pn)(low:Int)(h1:Bq p.y)(h2:Bq p.m):aK prog 216 [hU p,vI low] (hU (jT p low)):=λU=>by
 refine Wi.r (by simp[Ru]) ?_;have hs:=aa.refl U;refine ab.mix 5 ?_;apply sR;simp only[go_sem,seval,Ru,hU];refine ad λi2 Z2 s2 a2 f2=>?_;replace hs:=hs.trans s2;simp only[go_sem,seval];refine ad λi4 Z4 s4 a4 f4=>?_;replace a2:=s4 _ _ a2;have z4:=hs.none f4;replace hs:=hs.trans s4;simp only[go_sem,seval,a2];refine ab.au rfl rfl rfl (Hh ⟨_,_⟩ h1 h2 _) ?_;unfold jT;by_cases h:low>p.y+p.m
 .have q:(low>p.y+p.m)=True:=WE h;rw[aq h];apply sR;simp only[go_sem,seval,a4,q];exact ak.pure (hs.av z4) rfl
 .have q:(low>p.y+p.m)=False:=O' h;rw[ao h];apply sR;simp only[go_sem,seval,a4,a2,q];exact ak.pure (hs.av z4) rfl
def EH(y m n:Int){U:ag}{id:Nat}(P':U id=some ⟨342,2,[.agg [vI y,vI m]]⟩):ax prog 263 [.ptr id 0 0,vI n] U λr Z'=>r=.WJ []/\Z'=C' U id ⟨342,2,[.agg [vI y,vI (max m n)]]⟩:=by
 refine Vz.r (by simp[Qz]) ?_;apply sR;simp only[go_sem,seval,Qz,P',dr];exact⟨_,_,aa.refl _,Wk.refl (aa.refl _) _,rfl,rfl⟩
def No(y m n:Int)(hy:Bq y)(hm:Bq m)(hn:Bq n){U:ag}{id:Nat}(P':U id=some ⟨342,2,[.agg [vI y,vI m]]⟩):ax prog 264 [.ptr id 0 0,vI n] U λr Z'=>r=.WJ []/\Z'=C' U id ⟨342,2,[.agg [vI (if n>0 then y+m+n else y),vI (if n>0 then 0 else m)]]⟩:=by
 obtain⟨g1,g2⟩:=hy;obtain⟨g3,g4⟩:=hm;obtain⟨g5,g6⟩:=hn;refine TH.r (by simp[Lo]) ?_;by_cases h:n>0
 .have q:(n>0)=True:=WE h;rw[aq h,aq h];apply sR;simp only[go_sem,seval,Lo,P',q];exact⟨ai,ai,_,_,aa.refl _,Wk.refl (aa.refl _) _,rfl,rfl⟩
 .have q:(n>0)=False:=O' h;rw[ao h,ao h];apply sR;simp only[go_sem,seval,Lo,q];exact⟨_,_,aa.refl _,Wk.refl (aa.refl _) _,rfl,(by funext i;simp only[C'];split<;>simp_all)⟩
open Go.Proofs Go.Proofs.Tryz
structure T' where
 (node side anchor x y w h:Int)
deriving DecidableEq
def aJ(f:T'):V:=.agg [vI f.node,vI f.side,vI f.anchor,vI f.x,vI f.y,vI f.w,vI f.h]
def aB(l:List T'):V:=.sl 7 (l.map aJ)
def jb(f:T'):V:=.agg [vI f.node,vI f.side,vI f.anchor,vI f.x,vI f.y,vI f.w,vI f.h,vI f.x,vI f.y,vI f.w,vI f.h]
def T'.ok(f:T'):Prop:=Bq f.x/\Bq f.y/\Bq f.w/\Bq f.h
def j2{U:ag}{l:List T'}{i:Nat}(h:i<l.length):bp U 7 (aB l) (.int .i64 i)=some (.rp (aJ l[i])):=by simp[aB,bp,h]
def fM(l:List T'):cP false (aB l)=some (.int .i64 l.length):=by simp[aB,cP]
def M6(f:T'):aK prog 271 [aJ f] (jb f):=λU=>by
 refine UJ.r (by simp[QK]) ?_;have hs:=aa.refl U;apply sR;simp only[go_sem,seval,QK,aJ];refine ad λi1 Z1 s1 a1 f1=>?_;replace hs:=hs.trans s1;simp only[go_sem,seval];refine ad λi2 Z2 s2 a2 f2=>?_;replace a1:=s2 _ _ a1;have z2:=hs.none f2;replace hs:=hs.trans s2;simp only[go_sem,seval,a2,a1];exact ak.pure (hs.av z2) rfl
def Dm(f:T')(hf:f.ok):aK prog 226 [jb f] (vI (f.y+f.h)):=λU=>by
 refine V8.r (by simp[P0]) ?_;have hs:=aa.refl U;apply sR;simp only[go_sem,seval,P0,jb];refine ad λi1 Z1 s1 a1 f1=>?_;replace hs:=hs.trans s1;simp only[go_sem,seval,a1];refine ab.au rfl rfl rfl (D5 ⟨_,_,_,_⟩ hf.2.1 hf.2.2.2 _) ?_;apply sR;simp only[go_sem,seval,bo];exact ak.pure hs rfl
def je(y high:Int)(f:T'):Bool:=!decide (ql ⟨f.y,f.y+f.h⟩ ⟨y,y+max high 1⟩=⟨0,0⟩)
def Me(f:T')(y high:Int)(hf:f.ok)(hy:YS y)(hh:Bq high):aK prog 329 [jb f,vI y,vI high] (.bool (je y high f)):=λU=>by
 obtain⟨g1,g2⟩:=hy;obtain⟨g3,g4⟩:=hh;refine VF.r (by simp[P5]) ?_;have hs:=aa.refl U;refine ab.mix 7 ?_;apply sR;simp only[go_sem,seval,P5,jb];refine ad λi3 Z3 s3 a3 f3=>?_;replace hs:=hs.trans s3;simp only[go_sem,seval,a3];refine ab.au rfl rfl rfl (D5 ⟨_,_,_,_⟩ hf.2.1 hf.2.2.2 _) ?_;apply sR;simp only[go_sem,seval,dr];refine⟨ai,?_⟩;refine ab.au rfl rfl rfl (K4 ⟨_,_⟩ ⟨_,_⟩ _) ?_;apply sR;simp only[go_sem,seval];rw[show max high 1=max 1 high by omega];exact ak.pure hs (by simp[je,Int.max_comm])
def la(f:T')(s:XR):XR:=if f.side=1 then⟨max s.a (f.x+f.w),s.b⟩else⟨s.a,min s.b f.x⟩
def Nq(f:T')(s:XR)(hf:f.ok):aK prog 306 [jb f,bo s] (bo (la f s)):=λU=>by
 refine Wz.r (by simp[QP]) ?_;have hs:=aa.refl U;refine ab.mix 6 ?_;apply sR;simp only[go_sem,seval,QP,jb,bo];refine ad λi2 Z2 s2 a2 f2=>?_;replace hs:=hs.trans s2;simp only[go_sem,seval];refine ad λi3 Z3 s3 a3 f3=>?_;replace a2:=s3 _ _ a2;have z3:=hs.none f3;replace hs:=hs.trans s3;simp only[go_sem,seval];refine ad λi4 Z4 s4 a4 f4=>?_;have n24:=al a2 f4;replace a2:=s4 _ _ a2;have n34:=al a3 f4;replace a3:=s4 _ _ a3;have z4:=hs.none f4;replace hs:=hs.trans s4;simp only[go_sem,seval,a2];refine ab.au rfl rfl rfl (IT ⟨_,_,_,_⟩ hf.1 hf.2.2.1 _) ?_;apply sR;simp only[go_sem,seval,bo];refine ad λi5 Z5 s5 a5 f5=>?_;have n25:=al a2 f5;replace a2:=s5 _ _ a2;have n35:=al a3 f5;replace a3:=s5 _ _ a3;have n45:=al a4 f5;replace a4:=s5 _ _ a4;have z5:=hs.none f5;replace hs:=hs.trans s5;unfold la;by_cases h:f.side=1
 .have q:(f.side=1)=True:=WE h;rw[aq h];simp only[go_sem,seval,a5,a4,a3,a2,q,dr,ae n25,ae n35,ae n45,ae n34.symm];exact ak.pure (((hs.av z5).av z3).av z4) rfl
 .have q:(f.side=1)=False:=O' h;rw[ao h];simp only[go_sem,seval,a5,a4,a3,a2,q,gT,ae n25,ae n35,ae n45,ae n34.symm];exact ak.pure (((hs.av z5).av z3).av z4) rfl
open Go.Proofs Go.Proofs.Tryz
def Bo{α:Type}(p:α->Bool)(l:List α){i:Nat}(h:i<l.length):(l.take (i+1)).filter p=(l.take i).filter p++if p l[i]then[l[i]]else[]:=by
 rw[ZS h,List.filter_append];cases hp:p l[i]<;>simp[hp]
def M5(l:List T')(y high:Int)(hl:l.length<=1000000)(WL:∀f∈l,f.ok)(hy:YS y)(hh:Bq high)(g:FuncId)(caps:List V)(τ:List T'->ag->Prop)
 (hJ:∀pre U Z',τ pre U->aa U Z'->τ pre Z')
 (hg:∀pre f U,f∈l->τ pre U->ax prog g (jb f::caps) U λr Z'=>r=.WJ []/\τ (pre++[f]) Z'){U:ag}(h0:τ [] U):
 ax prog 304 [aB l,vI y,vI high,.fn g caps] U λr Z'=>r=.WJ []/\τ (l.filter (je y high)) Z':=by
 refine VE.r (by simp[Rt]) ?_;refine ab.mix 14 ?_;apply sR;simp only[go_sem,seval,Rt,fM];refine ab.loop (λm st=>∃i:Nat,i<=l.length/\m=l.length-i/\τ ((l.take i).filter (je y high)) st.U/\st.s 1=vI y/\st.s 2=vI high/\st.s 3=.fn g caps/\st.s 11=aB l/\st.s 12=vI l.length/\st.s 13=vI i) l.length ?_ ?_
 .exact⟨0,by omega,rfl,h0,rfl,rfl,rfl,rfl,rfl,rfl⟩
 .rintro m ⟨s,Z'⟩ ⟨i,hi,rfl,hj,k1,k2,k3,k11,k12,k13⟩;simp only at hj k1 k2 k3 k11 k12 k13;refine ab.mix 14 ?_;by_cases H':i<l.length
  .have q:((i:Int)<l.length)=True:=WE;have hix:=λU=>j2 (U:=U) H';have hmem:=XI H';have hfok:=WL _ hmem;have XB:=Bo (je y high) l H';generalize l[i]=f at*;have hs:=aa.refl Z';apply sR;simp only[go_sem,seval,k11,k12,k13,q,hix,aJ];refine ad λi9 Z9 s9 a9 f9=>?_;have z9:=hs.none f9;replace hs:=hs.trans s9;simp only[go_sem,seval,a9];generalize XQ:C' _ i9 _=Y9;replace a9:=(congrFun XQ i9).symm.trans af;replace hs:=Eq.subst (motive:=aa _) XQ (hs.av z9);clear XQ;refine ab.au rfl rfl rfl (M6 f _) ?_;apply sR;simp only[go_sem,seval,jb];refine ad λXk Z10 YP Xy f10=>?_;have n910:=al a9 f10;replace a9:=YP _ _ a9;have z10:=hs.none f10;replace hs:=hs.trans YP;simp only[go_sem,seval,Xy,k1,k2];generalize YB:C' _ Xk _=Y10;replace Xy:=(congrFun YB Xk).symm.trans af;replace a9:=((congrFun YB i9).symm.trans (ae n910)).trans a9;replace hs:=Eq.subst (motive:=aa _) YB (hs.av z10);clear YB;refine ab.au rfl rfl rfl (Me f y high hfok hy hh _) ?_;cases hm:je y high f
   .rw[hm]at XB;apply sR;simp only[go_sem,seval,k1,k2,k3,k11,k12,k13];refine⟨ai,_,by omega,i+1,by omega,rfl,?_,by simp⟩;rw[XB];simpa using hJ _ _ _ hj hs
   .rw[hm]at XB;apply sR;simp only[go_sem,seval,Xy,k3];refine ab.call rfl rfl rfl (hg _ f _ hmem (hJ _ _ _ hj hs)) ?_;rintro r Z2 ⟨rfl,hj2⟩;apply sR;simp only[go_sem,seval,k1,k2,k3,k11,k12,k13];refine⟨ai,_,by omega,i+1,by omega,rfl,?_,by simp⟩;rw[XB];simpa using hj2
  .have q:((i:Int)<l.length)=False:=O';apply sR;simp only[go_sem,seval,k12,k13,q];obtain rfl:i=l.length:=by omega
   rw[iR]at hj;exact⟨_,_,aa.refl _,Wk.refl (aa.refl _) _,rfl,hj⟩
def dS(l:List T')(y high:Int)(s:XR):XR:=(l.filter (je y high)).foldl (λs f=>la f s) s
def SS{id:Nat}(f:T')(s:XR)(hf:f.ok){U:ag}(P':U id=some ⟨288,2,[bo s]⟩):ax prog 331 [jb f,.ptr id 0 0] U λr Z'=>r=.WJ []/\∃Z1,aa U Z1/\Z'=C' Z1 id ⟨288,2,[bo (la f s)]⟩:=by
 refine U6.r (by simp[QX]) ?_;have a1:=P';rw[bo]at a1;apply sR;simp only[go_sem,seval,QX,jb];refine ad λi2 Z2 s2 a2 f2=>?_;replace a1:=s2 _ _ a1;simp only[go_sem,seval,a2,a1];refine ab.au rfl rfl rfl (Nq f s hf _) ?_;apply sR;simp only[go_sem,seval,a1,bo];exact⟨_,_,aa.refl _,Wk.refl (aa.refl _) _,rfl,Z2,s2,rfl⟩
def Fl(l:List T')(y high:Int)(s:XR)(hl:l.length<=1000000)(WL:∀f∈l,f.ok)(hy:YS y)(hh:Bq high):aK prog 307 [aB l,vI y,vI high,bo s] (bo (dS l y high s)):=λU=>by
 refine Wa.r (by simp[Oo]) ?_;have hs:=aa.refl U;refine ab.mix 10 ?_;apply sR;simp only[go_sem,seval,Oo,bo];refine ad λi7 Z7 s7 a7 f7=>?_;replace hs:=hs.trans s7;simp only[go_sem,seval];refine ad λi8 Z8 s8 a8 f8=>?_;replace a7:=s8 _ _ a7;have z8:=hs.none f8;replace hs:=hs.trans s8;simp only[go_sem,seval,a7];refine ad λi9 Z9 s9 a9 f9=>?_;have n79:=al a7 f9;replace a7:=s9 _ _ a7;have n89:=al a8 f9;replace a8:=s9 _ _ a8;have z9:=hs.none f9;replace hs:=hs.trans s9;simp only[go_sem,seval,a9];generalize XQ:C' _ i9 _=Y9;replace a9:=(congrFun XQ i9).symm.trans af;replace a7:=((congrFun XQ i7).symm.trans (ae n79)).trans a7;replace a8:=((congrFun XQ i8).symm.trans (ae n89)).trans a8;replace hs:=Eq.subst (motive:=aa _) XQ (hs.av z9);clear XQ;refine ab.call rfl rfl rfl (M5 l y high hl WL hy hh 331 [.ptr i9 0 0] (λpre J=>J i9=some ⟨288,2,[bo (pre.foldl (λs f=>la f s) s)]⟩/\J i8=some ⟨288,2,[.agg [vI 0,vI 0]]⟩/\aa U J) ?_ ?_ ⟨a9,a8,hs⟩) ?_
 .rintro pre J X' ⟨h1,h2,h4⟩ h5;exact⟨h5 _ _ h1,h5 _ _ h2,h4.trans h5⟩
 .rintro pre f J hf ⟨h1,h2,h4⟩;refine(SS f _ (WL f hf) h1).mono ?_;rintro r X' ⟨rfl,Y1,h5,rfl⟩;refine⟨rfl,?_,by rw[ae n89];exact h5 _ _ h2,(h4.trans h5).av z9⟩;rw[af,vz];rfl
 .rintro r J ⟨rfl,h1,h2,h4⟩;have hcs:bo (List.foldl (λs f=>la f s) s (List.filter (je y high) l))=.agg [vI (dS l y high s).a,vI (dS l y high s).b]:=rfl;rw[hcs]at h1;apply sR;simp only[go_sem,seval,h1,h2];exact ak.pure (h4.av z8) rfl
open Go.Proofs Go.Proofs.Tryz
def kC(s:XR)(a:Int×Bool)(f:T'):Int×Bool:=if la f s=s\/(a.2=true/\f.y+f.h>=a.1)then a else(f.y+f.h,true)
def gK(l:List T')(y high:Int)(s:XR):Int×Bool:=(l.filter (je y high)).foldl (kC s) (0,false)
def La{i1 i2 i3:Nat}(f:T')(s:XR)(a:Int×Bool)(hf:f.ok)(h12:i1≠i2)(h13:i1≠i3)(h23:i2≠i3){U:ag}(q1:U i1=some ⟨288,2,[bo s]⟩)(q2:U i2=some ⟨4,1,[.bool a.2]⟩)(q3:U i3=some ⟨3,1,[vI a.1]⟩):
 ax prog 305 [jb f,.ptr i1 0 0,.ptr i2 0 0,.ptr i3 0 0] U λr Z'=>r=.WJ []/\∃Z1,aa U Z1/\Z'=C' (C' Z1 i3 ⟨3,1,[vI (kC s a f).1]⟩) i2 ⟨4,1,[.bool (kC s a f).2]⟩:=by
 refine TW.r (by simp[QW]) ?_;refine ab.mix 5 ?_;obtain⟨u,v⟩:=a;simp only at q2 q3;apply sR;simp only[go_sem,seval,QW,jb];refine ad λi4 Z4 s4 a4 f4=>?_;replace q1:=s4 _ _ q1;replace q2:=s4 _ _ q2;replace q3:=s4 _ _ q3;have hcut:=Nq f s hf;have hbot:=Dm f hf;obtain⟨s1,s2⟩:=s;rw[bo]at q1;simp only[go_sem,seval,a4,q1];refine Go.bw rfl rfl rfl hcut ?_;unfold kC;generalize la f ⟨s1,s2⟩=c;obtain⟨c1,c2⟩:=c;have same:∀Z':ag,Z'=Z4->C' (C' Z' i3 ⟨3,1,[vI u]⟩) i2 ⟨4,1,[.bool v]⟩=Z4:=λZ' e=>by
  subst e;rw[o7 q3,o7 q2]
 by_cases hc:c1=s1/\c2=s2
 .obtain⟨rfl,rfl⟩:=hc;apply sG;simp only[go_sem,seval,q1,bo];refine⟨_,_,aa.refl _,Wk.refl (aa.refl _) _,rfl,Z4,s4,?_⟩;rw[aq (by simp),same _ rfl]
 .have hd:(decide (c1=s1)&&decide (c2=s2))=false:=by
   by_cases h1:c1=s1<;>by_cases h2:c2=s2<;>simp_all
  have W6:¬(⟨c1,c2⟩:XR)=⟨s1,s2⟩:=by simpa using hc
  cases v
  .rw[ao (by simp[W6])];apply sG;simp only[go_sem,seval,q1,q2,a4,bo,hd];refine ab.au rfl rfl rfl (hbot _) ?_;apply sR;simp only[go_sem,seval,q2,q3,ae h23];exact⟨_,_,aa.refl _,Wk.refl (aa.refl _) _,rfl,Z4,s4,rfl⟩
  .apply sG;simp only[go_sem,seval,q1,q2,a4,bo,hd];refine Go.bw rfl rfl rfl hbot ?_;by_cases hb:f.y+f.h>=u
   .have q:(f.y+f.h>=u)=True:=WE hb;apply sG;simp only[go_sem,seval,q3,q];refine⟨_,_,aa.refl _,Wk.refl (aa.refl _) _,rfl,Z4,s4,?_⟩;rw[aq (.inr (by first|exact hb|exact⟨rfl,hb⟩|simp)),same _ rfl]
   .have q:(f.y+f.h>=u)=False:=O' hb;rw[ao (by simp[W6];omega)];apply sG;simp only[go_sem,seval,q3,a4,q];refine ab.au rfl rfl rfl (hbot _) ?_;apply sR;simp only[go_sem,seval,q2,q3,ae h23];exact⟨_,_,aa.refl _,Wk.refl (aa.refl _) _,rfl,Z4,s4,rfl⟩
def IG(l:List T')(y high:Int)(s:XR)(hl:l.length<=1000000)(WL:∀f∈l,f.ok)(hy:YS y)(hh:Bq high):aK prog 268 [aB l,vI y,vI high,bo s] (.WJ [vI (gK l y high s).1,.bool (gK l y high s).2]):=λU=>by
 refine Wu.r (by simp[RI]) ?_;have hs:=aa.refl U;refine ab.mix 12 ?_;apply sR;simp only[go_sem,seval,RI,bo];refine ad λi7 Z7 s7 a7 f7=>?_;replace hs:=hs.trans s7;simp only[go_sem,seval];refine ad λXk Z10 YP Xy f10=>?_;have n710:=al a7 f10;replace a7:=YP _ _ a7;have z10:=hs.none f10;replace hs:=hs.trans YP;simp only[go_sem,seval];refine ad λYm Z11 s11 Zk f11=>?_;have n711:=al a7 f11;replace a7:=s11 _ _ a7;have ZD:=al Xy f11;replace Xy:=s11 _ _ Xy;have z11:=hs.none f11;replace hs:=hs.trans s11;simp only[go_sem,seval,Zk,Xy,ae ZD.symm];rw[zy ZD,o7 Zk,o7 Xy];refine ab.call rfl rfl rfl (M5 l y high hl WL hy hh 305 [.ptr i7 0 0,.ptr Ym 0 0,.ptr Xk 0 0] (λpre J=>J i7=some ⟨288,2,[bo s]⟩/\J Ym=some ⟨4,1,[.bool (pre.foldl (kC s) (0,false)).2]⟩/\
  J Xk=some ⟨3,1,[vI (pre.foldl (kC s) (0,false)).1]⟩/\aa U J) ?_ ?_ ⟨a7,Zk,Xy,hs⟩) ?_
 .rintro pre J X' ⟨h1,h2,h3,h4⟩ h5;exact⟨h5 _ _ h1,h5 _ _ h2,h5 _ _ h3,h4.trans h5⟩
 .rintro pre f J hf ⟨h1,h2,h3,h4⟩;refine(La f s _ (WL f hf) n711 n710 ZD.symm h1 h2 h3).mono ?_;rintro r X' ⟨rfl,Y1,h5,rfl⟩;refine⟨rfl,?_,?_,?_,((h4.trans h5).av z10).av z11⟩
  .rw[ae n711,ae n710];exact h5 _ _ h1
  .rw[af,vz];rfl
  .rw[ae ZD,af,vz];rfl
 .rintro r J ⟨rfl,h1,h2,h3,h4⟩;apply sR;simp only[go_sem,seval,h2,h3];exact ak.pure h4 rfl
def xQ(tell:T'->Int×Bool)(a:Int×Bool)(f:T'):Int×Bool:=if(tell f).2=true/\(a.2=false\/(tell f).1>a.1)then((tell f).1,true)else a
def dU(tell:T'->Int×Bool)(l:List T'):Int×Bool:=l.foldl (xQ tell) (0,false)
def Jf(l:List T')(hl:l.length<=1000000)(g:FuncId)(caps:List V)(tell:T'->Int×Bool)(μ:ag->Prop)(hI:∀U Z',μ U->aa U Z'->μ Z')
 (hg:∀f U,f∈l->μ U->ax prog g (jb f::caps) U λr Z'=>r=.WJ [vI (tell f).1,.bool (tell f).2]/\Z'=U){U:ag}(h0:μ U):
 ax prog 224 [aB l,.fn g caps] U λr Z'=>r=.WJ [vI (dU tell l).1,.bool (dU tell l).2]/\Z'=U:=by
 refine UP.r (by simp[Ol]) ?_;refine ab.mix 15 ?_;apply sR;simp only[go_sem,seval,Ol,fM];refine ab.loop (λm st=>∃i:Nat,i<=l.length/\m=l.length-i/\aa U st.U/\st.s 1=.fn g caps/\st.s 6=vI (dU tell (l.take i)).1/\st.s 7=.bool (dU tell (l.take i)).2/\st.s 12=aB l/\st.s 13=vI l.length/\st.s 14=vI i) l.length ?_ ?_
 .exact⟨0,by omega,rfl,aa.refl _,rfl,rfl,rfl,rfl,rfl,rfl⟩
 .rintro m ⟨s,Z'⟩ ⟨i,hi,rfl,hs,k1,k6,k7,k12,k13,k14⟩;simp only at hs k1 k6 k7 k12 k13 k14;refine ab.mix 15 ?_;by_cases H':i<l.length
  .have q:((i:Int)<l.length)=True:=WE;have hix:=λU=>j2 (U:=U) H';have hmem:=XI H';have XB:dU tell (l.take (i+1))=xQ tell (dU tell (l.take i)) l[i]:=by
    rw[ZS H',dU,vz];rfl
   generalize l[i]=f at*;generalize dU tell (l.take i)=a at*;obtain⟨u,v⟩:=a;simp only at k6 k7;apply sR;simp only[go_sem,seval,k12,k13,k14,q,hix,aJ];refine ad λi9 Z9 s9 a9 f9=>?_;have z9:=hs.none f9;replace hs:=hs.trans s9;simp only[go_sem,seval,a9,k1];generalize XQ:C' _ i9 _=Y9;replace a9:=(congrFun XQ i9).symm.trans af;replace hs:=Eq.subst (motive:=aa _) XQ (hs.av z9);clear XQ;refine ab.au rfl rfl rfl (M6 f _) ?_;apply sR;simp only[go_sem,seval];refine ab.au rfl rfl rfl (hg f _ hmem (hI _ _ h0 hs)) ?_;have r1:WR .i64 ((i:Int)+1):=ai;unfold xQ at XB;generalize tell f=t at*;obtain⟨x,is⟩:=t;simp only at XB;cases is
   .rw[ao (by simp)]at XB;apply sR;simp only[go_sem,seval,k1,k6,k7,k12,k13,k14,r1];exact⟨_,by omega,i+1,by omega,rfl,hs,by simp[XB]⟩
   .cases v
    .rw[aq (by simp)]at XB;apply sR;simp only[go_sem,seval,k1,k7,k12,k13,k14,r1];exact⟨_,by omega,i+1,by omega,rfl,hs,by simp[XB]⟩
    .by_cases hb:x>u
     .have q2:(x>u)=True:=WE hb;rw[aq ⟨rfl,.inr hb⟩]at XB;apply sR;simp only[go_sem,seval,k1,k6,k7,k12,k13,k14,r1,q2];exact⟨_,by omega,i+1,by omega,rfl,hs,by simp[XB]⟩
     .have q2:(x>u)=False:=O' hb;rw[ao (by simp[hb])]at XB;apply sR;simp only[go_sem,seval,k1,k6,k7,k12,k13,k14,r1,q2];exact⟨_,by omega,i+1,by omega,rfl,hs,by simp[XB]⟩
  .have q:((i:Int)<l.length)=False:=O';obtain rfl:i=l.length:=by omega
   rw[iR]at k6 k7;apply sR;simp only[go_sem,seval,k6,k7,k13,k14,q];exact ak.pure hs rfl
def VM(a b:Int):Int:=IntKind.i64.wrap (BitVec.ofInt IntKind.i64.bits a &&& BitVec.ofInt IntKind.i64.bits b).toNat
def nE(ZN:Int)(f:T'):Int×Bool:=(f.y+f.h,decide (VM f.side ZN≠0))
def PD{i:Nat}(f:T')(ZN:Int)(hf:f.ok){U:ag}(q:U i=some ⟨3,1,[vI ZN]⟩):ax prog 225 [jb f,.ptr i 0 0] U λr Z'=>r=.WJ [vI (nE ZN f).1,.bool (nE ZN f).2]/\Z'=U:=by
 refine Ut.r (by simp[Rh]) ?_;refine ab.mix 5 ?_;have hs:=aa.refl U;apply sR;simp only[go_sem,seval,Rh,jb];refine ad λi2 Z2 s2 a2 f2=>?_;replace hs:=hs.trans s2;replace q:=s2 _ _ q;simp only[go_sem,seval,a2];refine Go.bw rfl rfl rfl (Dm f hf) ?_;apply sG;simp only[go_sem,seval,a2,q];exact ak.pure hs rfl
def Cu(l:List T')(ZN:Int)(hl:l.length<=1000000)(WL:∀f∈l,f.ok):aK prog 168 [aB l,vI ZN] (.WJ [vI (dU (nE ZN) l).1,.bool (dU (nE ZN) l).2]):=λU=>by
 refine Tu.r (by simp[Om]) ?_;refine ab.mix 6 ?_;have hs:=aa.refl U;apply sR;simp only[go_sem,seval,Om];refine ad λi3 Z3 s3 a3 f3=>?_;replace hs:=hs.trans s3;simp only[go_sem,seval];refine ab.au rfl rfl rfl (Jf l hl 225 [.ptr i3 0 0] (nE ZN) (λJ=>J i3=some ⟨3,1,[vI ZN]⟩) (λ_ _ h h'=>h' _ _ h) (λf J hf h=>PD f ZN (WL f hf) h) a3) ?_;apply sR;simp only[go_sem,seval];exact ak.pure hs rfl
def wy(f:T'):Int×Bool:=(f.y,true)
def NX(f:T')(hf:f.ok):aK prog 332 [jb f] (.WJ [vI (wy f).1,.bool (wy f).2]):=λU=>by
 refine VA.r (by simp[Q9]) ?_;refine ab.mix 4 ?_;have hs:=aa.refl U;apply sR;simp only[go_sem,seval,Q9,jb];refine ad λi1 Z1 s1 a1 f1=>?_;replace hs:=hs.trans s1;simp only[go_sem,seval,a1];refine ab.au rfl rfl rfl (D5 ⟨_,_,_,_⟩ hf.2.1 hf.2.2.2 _) ?_;apply sR;simp only[go_sem,seval,bo];exact ak.pure hs rfl
def R0(l:List T')(hl:l.length<=1000000)(WL:∀f∈l,f.ok):aK prog 308 [aB l] (.WJ [vI (dU wy l).1,.bool (dU wy l).2]):=λU=>by
 refine Vn.r (by simp[Pw]) ?_;refine ab.mix 4 ?_;apply sR;simp only[go_sem,seval,Pw];refine ab.au rfl rfl rfl (Jf l hl 332 [] wy (λ_=>True) (λ_ _ h _=>h) (λf J hf _=>NX f (WL f hf) J) trivial) ?_;apply sR;simp only[go_sem,seval];exact ak.same rfl
end Go.Vc
