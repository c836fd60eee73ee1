/- Part 4 of the library of this proof. -/
import Derived.Test.YtdaelobhgmdoeaaGreatW3
set_option linter.all false
set_option maxHeartbeats 8000000
set_option maxRecDepth 100000
namespace Go.Vc
open Go.Proofs Go.Proofs.Tryz
section
variable {P:Program} {n:Nat} {st:St} {Q:St->Prop} {k:List It}
def Go.bW{i:az}{l:List az}{fx:VX}{xs:List VX}{f:FuncId}{caps:List V}{v:V}(hw:aP st.s i.g=some true)(ho:i.op=.call fx xs)
 (hf:fx.ev st.s=.fn f caps)(hc:aJ P f (xs.map (·.ev st.s)++caps) v)(h:Go P n (.d l k) ⟨aN st.s i.dst v,st.U⟩ Q):Go P n (.d (i::l) k) st Q:=by
 refine lK hw ?_;rw[ho];exact⟨f,caps,v,hf,λZ1 _=>hc Z1,h⟩
end
def oW{U:af}{id:Nat}{o:Ob}(h:U id=some o):C' U id o=U:=by
 funext i;simp only[C'];split
 .rename_i e;rw[e,h]
 .rfl
def Bq(n:Int):Prop:=-1152921504606846976<=n/\n<=1152921504606846976
def sZ(n:Int):aJ prog 44 [vI n] (.bool (decide (1<=n/\n<=1099511627776))):=λU=>by
 refine e44.r (by simp[c44]) ?_;apply sR;simp only[go_sem,seval,c44];refine And.intro (λh=>?_) (λh=>?_)
 .exact ak.same (by congr 1;exact decide_eq_decide.2 (by omega))
 .exact ak.same (by congr 1;exact(Zz (by omega)).symm)
def dr(n:Int):Int:=max (-1099511627776) (min n 1099511627776)
def CY(n:Int):aJ prog 103 [vI n] (vI (dr n)):=λU=>by
 refine V2.r (by simp[So]) ?_;apply sR;simp only[go_sem,seval,So];exact ak.same (by congr 1;unfold dr;split<;>split<;>omega)
structure ZC where
 (a b:Int)
deriving DecidableEq
def bf(s:ZC):V:=.agg [vI s.a,vI s.b]
def vt(s:ZC):aJ prog 328 [bf s] (.bool (decide (s.b<=s.a))):=λU=>by
 refine VU.r (by simp[SX]) ?_;apply sR;simp only[go_sem,seval,SX,bf];refine ad λi1 Z1 s1 a1 f1=>?_;simp only[go_sem,seval,a1];exact ak.pure s1 rfl
def k0(s:ZC):Int:=if s.b<=s.a then 0 else s.b-s.a
def Bq2(n:Int):Prop:=-2305843009213693952<=n/\n<=2305843009213693952
def IG(s:ZC)(ha:Bq2 s.a)(hb:Bq2 s.b):aJ prog 303 [bf s] (vI (k0 s)):=λU=>by
 obtain⟨h1,h2⟩:=ha;obtain⟨h3,h4⟩:=hb;refine XM.r (by simp[Tg]) ?_;apply sR;simp only[go_sem,seval,Tg,bf];refine ad λi1 Z1 s1 a1 f1=>?_;simp only[go_sem,seval,a1];refine ab.ay rfl rfl rfl (vt ⟨_,_⟩ _) ?_;apply sR;simp only[go_sem,seval,a1];unfold k0;refine And.intro (λh=>?_) (λh=>?_)
 .rw[ar h];exact ak.pure s1 rfl
 .rw[av h];exact⟨ai,ak.pure s1 rfl⟩
open Go.Proofs Go.Proofs.Tryz
def ql(a b:ZC):ZC:=if a.b<=a.a\/b.b<=b.a\/min a.b b.b<=max a.a b.a then⟨0,0⟩else⟨max a.a b.a,min a.b b.b⟩
def dc(a b:Int):(if b>a then b else a)=max a b:=by split<;>omega
def gG(a b:Int):(if b<a then b else a)=min a b:=by split<;>omega
def Pk(x y:ZC):aJ prog 338 [bf x,bf y] (bf (ql x y)):=λU=>by
 refine Ws.r (by simp[SN]) ?_;have hs:=aa.refl U;refine ab.mix 6 ?_;apply sR;simp only[go_sem,seval,SN,bf];refine ad λi2 Z2 s2 a2 f2=>?_;replace hs:=hs.trans s2;simp only[go_sem,seval];refine ad λi3 Z3 s3 a3 f3=>?_;replace a2:=s3 _ _ a2;replace hs:=hs.trans s3;simp only[go_sem,seval];refine ad λi4 Z4 s4 a4 f4=>?_;replace a2:=s4 _ _ a2;replace a3:=s4 _ _ a3;have z4:=hs.none f4;replace hs:=hs.trans s4;simp only[go_sem,seval,a3,a2];refine ad λi5 Z5 s5 a5 f5=>?_;have n25:=ao a2 f5;replace a2:=s5 _ _ a2;have n35:=ao a3 f5;replace a3:=s5 _ _ a3;have n45:=ao a4 f5;replace a4:=s5 _ _ a4;have z5:=hs.none f5;replace hs:=hs.trans s5;simp only[go_sem,seval,a5,a2,dc,gG,ae n25];generalize hq5:C' _ i5 _=Y5;replace a5:=(congrFun hq5 i5).symm.trans ag;replace a2:=((congrFun hq5 i2).symm.trans (ae n25)).trans a2;replace a3:=((congrFun hq5 i3).symm.trans (ae n35)).trans a3;replace a4:=((congrFun hq5 i4).symm.trans (ae n45)).trans a4;replace hs:=Eq.subst (motive:=aa _) hq5 (hs.ax z5);clear hq5;refine ab.ay rfl rfl rfl (vt ⟨_,_⟩ _) ?_;unfold ql;by_cases h1:x.b<=x.a
 .rw[ar (.inl h1),ZN h1];apply sR;simp only[go_sem,seval,a4];exact ak.pure (hs.ax z4) rfl
 rw[Zz h1];apply sR;simp only[go_sem,seval,a3];refine ab.ay rfl rfl rfl (vt ⟨_,_⟩ _) ?_;by_cases h2:y.b<=y.a
 .rw[ar (.inr (.inl h2)),ZN h2];apply sR;simp only[go_sem,seval,a4];exact ak.pure (hs.ax z4) rfl
 rw[Zz h2];apply sR;simp only[go_sem,seval,a5];refine ab.ay rfl rfl rfl (vt ⟨_,_⟩ _) ?_;by_cases h3:min x.b y.b<=max x.a y.a
 .rw[ar (.inr (.inr h3)),ZN h3];apply sR;simp only[go_sem,seval,a4];exact ak.pure (hs.ax z4) rfl
 .rw[av (by omega),Zz h3];apply sR;simp only[go_sem,seval,a4,a5];exact ak.pure (hs.ax z4) rfl
def N2(x y:ZC):aJ prog 336 [bf x,bf y] (.bool (decide (ql x y=⟨0,0⟩))):=λU=>by
 refine WX.r (by simp[Qw]) ?_;have hs:=aa.refl U;refine ab.mix 5 ?_;apply sR;simp only[go_sem,seval,Qw,bf];refine ad λi2 Z2 s2 a2 f2=>?_;replace hs:=hs.trans s2;simp only[go_sem,seval];refine ad λi3 Z3 s3 a3 f3=>?_;replace a2:=s3 _ _ a2;replace hs:=hs.trans s3;simp only[go_sem,seval,a3,a2];refine ab.ay rfl rfl rfl (Pk ⟨_,_⟩ ⟨_,_⟩ _) ?_;have e:(⟨x.a,x.b⟩:ZC)=x:=rfl;have e':(⟨y.a,y.b⟩:ZC)=y:=rfl;rw[e,e'];generalize ql x y=m;obtain⟨u,v⟩:=m;apply sR;simp only[go_sem,seval,bf];refine ak.pure hs ?_;by_cases h1:u=0<;>by_cases h2:v=0<;>simp[h1,h2]
structure Rct where
 (x y w h:Int)
deriving DecidableEq
def Mg(r:Rct):V:=.agg [vI r.x,vI r.y,vI r.w,vI r.h]
def Ek(r:Rct)(h1:Bq r.y)(h2:Bq r.h):aJ prog 272 [Mg r] (bf ⟨r.y,r.y+r.h⟩):=λU=>by
 obtain⟨g1,g2⟩:=h1;obtain⟨g3,g4⟩:=h2;refine WN.r (by simp[O3]) ?_;have hs:=aa.refl U;apply sR;simp only[go_sem,seval,O3,Mg];refine ad λi1 Z1 s1 a1 f1=>?_;replace hs:=hs.trans s1;simp only[go_sem,seval];refine ad λi2 Z2 s2 a2 f2=>?_;replace a1:=s2 _ _ a1;have z2:=hs.none f2;replace hs:=hs.trans s2;simp only[go_sem,seval,a2,a1];exact⟨ai,ak.pure (hs.ax z2) rfl⟩
def KZ(r:Rct)(h1:Bq r.x)(h2:Bq r.w):aJ prog 330 [Mg r] (bf ⟨r.x,r.x+r.w⟩):=λU=>by
 obtain⟨g1,g2⟩:=h1;obtain⟨g3,g4⟩:=h2;refine Wq.r (by simp[QJ]) ?_;have hs:=aa.refl U;apply sR;simp only[go_sem,seval,QJ,Mg];refine ad λi1 Z1 s1 a1 f1=>?_;replace hs:=hs.trans s1;simp only[go_sem,seval];refine ad λi2 Z2 s2 a2 f2=>?_;replace a1:=s2 _ _ a1;have z2:=hs.none f2;replace hs:=hs.trans s2;simp only[go_sem,seval,a2,a1];exact⟨ai,ak.pure (hs.ax z2) rfl⟩
structure Pn where
 (y m:Int)
deriving DecidableEq
def gZ(p:Pn):V:=.agg [vI p.y,vI p.m]
def HR(p:Pn)(h1:Bq p.y)(h2:Bq p.m):aJ prog 167 [gZ p] (vI (p.y+p.m)):=λU=>by
 obtain⟨g1,g2⟩:=h1;obtain⟨g3,g4⟩:=h2;refine Vl.r (by simp[QN]) ?_;have hs:=aa.refl U;apply sR;simp only[go_sem,seval,QN,gZ];refine ad λi1 Z1 s1 a1 f1=>?_;replace hs:=hs.trans s1;simp only[go_sem,seval,a1];exact⟨ai,ak.pure hs rfl⟩
def Q7(p:Pn)(y h:Int)(h1:Bq y)(h2:Bq h):aJ prog 266 [gZ p,vI y,vI h] (gZ ⟨y+h,0⟩):=λU=>by
 obtain⟨g1,g2⟩:=h1;obtain⟨g3,g4⟩:=h2;refine X9.r (by simp[SZ]) ?_;have hs:=aa.refl U;apply sR;simp only[go_sem,seval,SZ,gZ];refine ad λi1 Z1 s1 a1 f1=>?_;replace hs:=hs.trans s1;simp only[go_sem,seval];refine ad λi2 Z2 s2 a2 f2=>?_;replace a1:=s2 _ _ a1;have z2:=hs.none f2;replace hs:=hs.trans s2;simp only[go_sem,seval,a2];exact⟨ai,ak.pure (hs.ax z2) rfl⟩
def j3(p:Pn)(low:Int):Pn:=if low>p.y+p.m then⟨low,0⟩else p
def LF(p:Pn)(low:Int)(h1:Bq p.y)(h2:Bq p.m):aJ prog 216 [gZ p,vI low] (gZ (j3 p low)):=λU=>by
 refine Wd.r (by simp[Qi]) ?_;have hs:=aa.refl U;refine ab.mix 5 ?_;apply sR;simp only[go_sem,seval,Qi,gZ];refine ad λi2 Z2 s2 a2 f2=>?_;replace hs:=hs.trans s2;simp only[go_sem,seval];refine ad λi4 Z4 s4 a4 f4=>?_;replace a2:=s4 _ _ a2;have z4:=hs.none f4;replace hs:=hs.trans s4;simp only[go_sem,seval,a2];refine ab.ay rfl rfl rfl (HR ⟨_,_⟩ h1 h2 _) ?_;unfold j3;by_cases h:low>p.y+p.m
 .have q:(low>p.y+p.m)=True:=Yi h;rw[ar h];apply sR;simp only[go_sem,seval,a4,q];exact ak.pure (hs.ax z4) rfl
 .have q:(low>p.y+p.m)=False:=T' h;rw[av h];apply sR;simp only[go_sem,seval,a4,a2,q];exact ak.pure (hs.ax z4) rfl
def F1(y m n:Int){U:af}{id:Nat}(O':U id=some ⟨342,2,[.agg [vI y,vI m]]⟩):au prog 263 [.ptr id 0 0,vI n] U λr Z'=>r=.P' []/\Z'=C' U id ⟨342,2,[.agg [vI y,vI (max m n)]]⟩:=by
 refine XG.r (by simp[Sh]) ?_;apply sR;simp only[go_sem,seval,Sh,O',dc];exact⟨_,_,aa.refl _,Wk.refl (aa.refl _) _,rfl,rfl⟩
def Ou(y m n:Int)(hy:Bq y)(hm:Bq m)(hn:Bq n){U:af}{id:Nat}(O':U id=some ⟨342,2,[.agg [vI y,vI m]]⟩):au prog 264 [.ptr id 0 0,vI n] U λr Z'=>r=.P' []/\Z'=C' U id ⟨342,2,[.agg [vI (if n>0 then y+m+n else y),vI (if n>0 then 0 else m)]]⟩:=by
 obtain⟨g1,g2⟩:=hy;obtain⟨g3,g4⟩:=hm;obtain⟨g5,g6⟩:=hn;refine Vh.r (by simp[Me]) ?_;by_cases h:n>0
 .have q:(n>0)=True:=Yi h;rw[ar h,ar h];apply sR;simp only[go_sem,seval,Me,O',q];exact⟨ai,ai,_,_,aa.refl _,Wk.refl (aa.refl _) _,rfl,rfl⟩
 .have q:(n>0)=False:=T' h;rw[av h,av h];apply sR;simp only[go_sem,seval,Me,q];exact⟨_,_,aa.refl _,Wk.refl (aa.refl _) _,rfl,(by funext i;simp only[C'];split<;>simp_all)⟩
open Go.Proofs Go.Proofs.Tryz
structure U' where
 (node side anchor x y w h:Int)
deriving DecidableEq
def aK(f:U'):V:=.agg [vI f.node,vI f.side,vI f.anchor,vI f.x,vI f.y,vI f.w,vI f.h]
def aH(l:List U'):V:=.sl 7 (l.map aK)
def iT(f:U'):V:=.agg [vI f.node,vI f.side,vI f.anchor,vI f.x,vI f.y,vI f.w,vI f.h,vI f.x,vI f.y,vI f.w,vI f.h]
def U'.ok(f:U'):Prop:=Bq f.x/\Bq f.y/\Bq f.w/\Bq f.h
def jY{U:af}{l:List U'}{i:Nat}(h:i<l.length):bo U 7 (aH l) (.int .i64 i)=some (.rp (aK l[i])):=by simp[aH,bo,h]
def fZ(l:List U'):cU false (aH l)=some (.int .i64 l.length):=by simp[aH,cU]
def OH(f:U'):aJ prog 271 [aK f] (iT f):=λU=>by
 refine XQ.r (by simp[Sy]) ?_;have hs:=aa.refl U;apply sR;simp only[go_sem,seval,Sy,aK];refine ad λi1 Z1 s1 a1 f1=>?_;replace hs:=hs.trans s1;simp only[go_sem,seval];refine ad λi2 Z2 s2 a2 f2=>?_;replace a1:=s2 _ _ a1;have z2:=hs.none f2;replace hs:=hs.trans s2;simp only[go_sem,seval,a2,a1];exact ak.pure (hs.ax z2) rfl
def DN(f:U')(hf:f.ok):aJ prog 226 [iT f] (vI (f.y+f.h)):=λU=>by
 refine Wm.r (by simp[Sz]) ?_;have hs:=aa.refl U;apply sR;simp only[go_sem,seval,Sz,iT];refine ad λi1 Z1 s1 a1 f1=>?_;replace hs:=hs.trans s1;simp only[go_sem,seval,a1];refine ab.ay rfl rfl rfl (Ek ⟨_,_,_,_⟩ hf.2.1 hf.2.2.2 _) ?_;apply sR;simp only[go_sem,seval,bf];exact ak.pure hs rfl
def jd(y high:Int)(f:U'):Bool:=!decide (ql ⟨f.y,f.y+f.h⟩ ⟨y,y+max high 1⟩=⟨0,0⟩)
def Nh(f:U')(y high:Int)(hf:f.ok)(hy:Bq2 y)(hh:Bq high):aJ prog 329 [iT f,vI y,vI high] (.bool (jd y high f)):=λU=>by
 obtain⟨g1,g2⟩:=hy;obtain⟨g3,g4⟩:=hh;refine WR.r (by simp[RD]) ?_;have hs:=aa.refl U;refine ab.mix 7 ?_;apply sR;simp only[go_sem,seval,RD,iT];refine ad λi3 Z3 s3 a3 f3=>?_;replace hs:=hs.trans s3;simp only[go_sem,seval,a3];refine ab.ay rfl rfl rfl (Ek ⟨_,_,_,_⟩ hf.2.1 hf.2.2.2 _) ?_;apply sR;simp only[go_sem,seval,dc];refine⟨ai,?_⟩;refine ab.ay rfl rfl rfl (N2 ⟨_,_⟩ ⟨_,_⟩ _) ?_;apply sR;simp only[go_sem,seval];rw[show max high 1=max 1 high by omega];exact ak.pure hs (by simp[jd,Int.max_comm])
def la(f:U')(s:ZC):ZC:=if f.side=1 then⟨max s.a (f.x+f.w),s.b⟩else⟨s.a,min s.b f.x⟩
def OF(f:U')(s:ZC)(hf:f.ok):aJ prog 306 [iT f,bf s] (bf (la f s)):=λU=>by
 refine XB.r (by simp[PX]) ?_;have hs:=aa.refl U;refine ab.mix 6 ?_;apply sR;simp only[go_sem,seval,PX,iT,bf];refine ad λi2 Z2 s2 a2 f2=>?_;replace hs:=hs.trans s2;simp only[go_sem,seval];refine ad λi3 Z3 s3 a3 f3=>?_;replace a2:=s3 _ _ a2;have z3:=hs.none f3;replace hs:=hs.trans s3;simp only[go_sem,seval];refine ad λi4 Z4 s4 a4 f4=>?_;have n24:=ao a2 f4;replace a2:=s4 _ _ a2;have n34:=ao a3 f4;replace a3:=s4 _ _ a3;have z4:=hs.none f4;replace hs:=hs.trans s4;simp only[go_sem,seval,a2];refine ab.ay rfl rfl rfl (KZ ⟨_,_,_,_⟩ hf.1 hf.2.2.1 _) ?_;apply sR;simp only[go_sem,seval,bf];refine ad λi5 Z5 s5 a5 f5=>?_;have n25:=ao a2 f5;replace a2:=s5 _ _ a2;have n35:=ao a3 f5;replace a3:=s5 _ _ a3;have n45:=ao a4 f5;replace a4:=s5 _ _ a4;have z5:=hs.none f5;replace hs:=hs.trans s5;unfold la;by_cases h:f.side=1
 .have q:(f.side=1)=True:=Yi h;rw[ar h];simp only[go_sem,seval,a5,a4,a3,a2,q,dc,ae n25,ae n35,ae n45,ae n34.symm];exact ak.pure (((hs.ax z5).ax z3).ax z4) rfl
 .have q:(f.side=1)=False:=T' h;rw[av h];simp only[go_sem,seval,a5,a4,a3,a2,q,gG,ae n25,ae n35,ae n45,ae n34.symm];exact ak.pure (((hs.ax z5).ax z3).ax z4) rfl
open Go.Proofs Go.Proofs.Tryz
def Bw{α:Type}(p:α->Bool)(l:List α){i:Nat}(h:i<l.length):(l.take (i+1)).filter p=(l.take i).filter p++if p l[i]then[l[i]]else[]:=by
 rw[Zq0 h,List.filter_append];cases hp:p l[i]<;>simp[hp]
def Oj(l:List U')(y high:Int)(hl:l.length<=1000000)(M':∀f∈l,f.ok)(hy:Bq2 y)(hh:Bq high)(g:FuncId)(caps:List V)(J:List U'->af->Prop)
 (hJ:∀pre U Z',J pre U->aa U Z'->J pre Z')
 (hg:∀pre f U,f∈l->J pre U->au prog g (iT f::caps) U λr Z'=>r=.P' []/\J (pre++[f]) Z'){U:af}(h0:J [] U):
 au prog 304 [aH l,vI y,vI high,.fn g caps] U λr Z'=>r=.P' []/\J (l.filter (jd y high)) Z':=by
 refine Xd.r (by simp[Sq]) ?_;refine ab.mix 14 ?_;apply sR;simp only[go_sem,seval,Sq,fZ];refine ab.loop (λm st=>∃i:Nat,i<=l.length/\m=l.length-i/\J ((l.take i).filter (jd y high)) st.U/\st.s 1=vI y/\st.s 2=vI high/\st.s 3=.fn g caps/\st.s 11=aH l/\st.s 12=vI l.length/\st.s 13=vI i) l.length ?_ ?_
 .exact⟨0,by omega,rfl,h0,rfl,rfl,rfl,rfl,rfl,rfl⟩
 .rintro m ⟨s,Z'⟩ ⟨i,hi,rfl,hj,k1,k2,k3,k11,k12,k13⟩;simp only at hj k1 k2 k3 k11 k12 k13;refine ab.mix 14 ?_;by_cases L':i<l.length
  .have q:((i:Int)<l.length)=True:=Yi;have hix:=λU=>jY (U:=U) L';have hmem:=Zw L';have hfok:=M' _ hmem;have Zg:=Bw (jd y high) l L';generalize l[i]=f at*;have hs:=aa.refl Z';apply sR;simp only[go_sem,seval,k11,k12,k13,q,hix,aK];refine ad λi9 Z9 s9 a9 f9=>?_;have z9:=hs.none f9;replace hs:=hs.trans s9;simp only[go_sem,seval,a9];generalize ZA:C' _ i9 _=Y9;replace a9:=(congrFun ZA i9).symm.trans ag;replace hs:=Eq.subst (motive:=aa _) ZA (hs.ax z9);clear ZA;refine ab.ay rfl rfl rfl (OH f _) ?_;apply sR;simp only[go_sem,seval,iT];refine ad λYU Z10 s10 Zf f10=>?_;have n910:=ao a9 f10;replace a9:=s10 _ _ a9;have z10:=hs.none f10;replace hs:=hs.trans s10;simp only[go_sem,seval,Zf,k1,k2];generalize hq10:C' _ YU _=Y10;replace Zf:=(congrFun hq10 YU).symm.trans ag;replace a9:=((congrFun hq10 i9).symm.trans (ae n910)).trans a9;replace hs:=Eq.subst (motive:=aa _) hq10 (hs.ax z10);clear hq10;refine ab.ay rfl rfl rfl (Nh f y high hfok hy hh _) ?_;cases hm:jd y high f
   .rw[hm]at Zg;apply sR;simp only[go_sem,seval,k1,k2,k3,k11,k12,k13];refine⟨ai,_,by omega,i+1,by omega,rfl,?_,by simp⟩;rw[Zg];simpa using hJ _ _ _ hj hs
   .rw[hm]at Zg;apply sR;simp only[go_sem,seval,Zf,k3];refine ab.call rfl rfl rfl (hg _ f _ hmem (hJ _ _ _ hj hs)) ?_;rintro r Z2 ⟨rfl,hj2⟩;apply sR;simp only[go_sem,seval,k1,k2,k3,k11,k12,k13];refine⟨ai,_,by omega,i+1,by omega,rfl,?_,by simp⟩;rw[Zg];simpa using hj2
  .have q:((i:Int)<l.length)=False:=T';apply sR;simp only[go_sem,seval,k12,k13,q];obtain rfl:i=l.length:=by omega
   rw[ic]at hj;exact⟨_,_,aa.refl _,Wk.refl (aa.refl _) _,rfl,hj⟩
def dJ(l:List U')(y high:Int)(s:ZC):ZC:=(l.filter (jd y high)).foldl (λs f=>la f s) s
def TY{id:Nat}(f:U')(s:ZC)(hf:f.ok){U:af}(O':U id=some ⟨288,2,[bf s]⟩):au prog 331 [iT f,.ptr id 0 0] U λr Z'=>r=.P' []/\∃Z1,aa U Z1/\Z'=C' Z1 id ⟨288,2,[bf (la f s)]⟩:=by
 refine Va.r (by simp[Te]) ?_;have a1:=O';rw[bf]at a1;apply sR;simp only[go_sem,seval,Te,iT];refine ad λi2 Z2 s2 a2 f2=>?_;replace a1:=s2 _ _ a1;simp only[go_sem,seval,a2,a1];refine ab.ay rfl rfl rfl (OF f s hf _) ?_;apply sR;simp only[go_sem,seval,a1,bf];exact⟨_,_,aa.refl _,Wk.refl (aa.refl _) _,rfl,Z2,s2,rfl⟩
def GA(l:List U')(y high:Int)(s:ZC)(hl:l.length<=1000000)(M':∀f∈l,f.ok)(hy:Bq2 y)(hh:Bq high):aJ prog 307 [aH l,vI y,vI high,bf s] (bf (dJ l y high s)):=λU=>by
 refine Vu.r (by simp[PW]) ?_;have hs:=aa.refl U;refine ab.mix 10 ?_;apply sR;simp only[go_sem,seval,PW,bf];refine ad λi7 Z7 s7 a7 f7=>?_;replace hs:=hs.trans s7;simp only[go_sem,seval];refine ad λi8 Z8 s8 a8 f8=>?_;replace a7:=s8 _ _ a7;have z8:=hs.none f8;replace hs:=hs.trans s8;simp only[go_sem,seval,a7];refine ad λi9 Z9 s9 a9 f9=>?_;have n79:=ao a7 f9;replace a7:=s9 _ _ a7;have n89:=ao a8 f9;replace a8:=s9 _ _ a8;have z9:=hs.none f9;replace hs:=hs.trans s9;simp only[go_sem,seval,a9];generalize ZA:C' _ i9 _=Y9;replace a9:=(congrFun ZA i9).symm.trans ag;replace a7:=((congrFun ZA i7).symm.trans (ae n79)).trans a7;replace a8:=((congrFun ZA i8).symm.trans (ae n89)).trans a8;replace hs:=Eq.subst (motive:=aa _) ZA (hs.ax z9);clear ZA;refine ab.call rfl rfl rfl (Oj l y high hl M' hy hh 331 [.ptr i9 0 0] (λpre C=>C i9=some ⟨288,2,[bf (pre.foldl (λs f=>la f s) s)]⟩/\C i8=some ⟨288,2,[.agg [vI 0,vI 0]]⟩/\aa U C) ?_ ?_ ⟨a9,a8,hs⟩) ?_
 .rintro pre C X' ⟨h1,h2,h4⟩ h5;exact⟨h5 _ _ h1,h5 _ _ h2,h4.trans h5⟩
 .rintro pre f C hf ⟨h1,h2,h4⟩;refine(TY f _ (M' f hf) h1).mono ?_;rintro r X' ⟨rfl,Y1,h5,rfl⟩;refine⟨rfl,?_,by rw[ae n89];exact h5 _ _ h2,(h4.trans h5).ax z9⟩;rw[ag,xQ];rfl
 .rintro r C ⟨rfl,h1,h2,h4⟩;have hcs:bf (List.foldl (λs f=>la f s) s (List.filter (jd y high) l))=.agg [vI (dJ l y high s).a,vI (dJ l y high s).b]:=rfl;rw[hcs]at h1;apply sR;simp only[go_sem,seval,h1,h2];exact ak.pure (h4.ax z8) rfl
open Go.Proofs Go.Proofs.Tryz
def kD(s:ZC)(a:Int×Bool)(f:U'):Int×Bool:=if la f s=s\/(a.2=true/\f.y+f.h>=a.1)then a else(f.y+f.h,true)
def gz(l:List U')(y high:Int)(s:ZC):Int×Bool:=(l.filter (jd y high)).foldl (kD s) (0,false)
def NV{i1 i2 i3:Nat}(f:U')(s:ZC)(a:Int×Bool)(hf:f.ok)(h12:i1≠i2)(h13:i1≠i3)(h23:i2≠i3){U:af}(q1:U i1=some ⟨288,2,[bf s]⟩)(q2:U i2=some ⟨4,1,[.bool a.2]⟩)(q3:U i3=some ⟨3,1,[vI a.1]⟩):
 au prog 305 [iT f,.ptr i1 0 0,.ptr i2 0 0,.ptr i3 0 0] U λr Z'=>r=.P' []/\∃Z1,aa U Z1/\Z'=C' (C' Z1 i3 ⟨3,1,[vI (kD s a f).1]⟩) i2 ⟨4,1,[.bool (kD s a f).2]⟩:=by
 refine Xj.r (by simp[Sp]) ?_;refine ab.mix 5 ?_;obtain⟨u,v⟩:=a;simp only at q2 q3;apply sR;simp only[go_sem,seval,Sp,iT];refine ad λi4 Z4 s4 a4 f4=>?_;replace q1:=s4 _ _ q1;replace q2:=s4 _ _ q2;replace q3:=s4 _ _ q3;have hcut:=OF f s hf;have hbot:=DN f hf;obtain⟨s1,s2⟩:=s;rw[bf]at q1;simp only[go_sem,seval,a4,q1];refine Go.bW rfl rfl rfl hcut ?_;unfold kD;generalize la f ⟨s1,s2⟩=c;obtain⟨c1,c2⟩:=c;have same:∀Z':af,Z'=Z4->C' (C' Z' i3 ⟨3,1,[vI u]⟩) i2 ⟨4,1,[.bool v]⟩=Z4:=λZ' e=>by
  subst e;rw[oW q3,oW q2]
 by_cases hc:c1=s1/\c2=s2
 .obtain⟨rfl,rfl⟩:=hc;apply sG;simp only[go_sem,seval,q1,bf];refine⟨_,_,aa.refl _,Wk.refl (aa.refl _) _,rfl,Z4,s4,?_⟩;rw[ar (by simp),same _ rfl]
 .have hd:(decide (c1=s1)&&decide (c2=s2))=false:=by
   by_cases h1:c1=s1<;>by_cases h2:c2=s2<;>simp_all
  have YF:¬(⟨c1,c2⟩:ZC)=⟨s1,s2⟩:=by simpa using hc
  cases v
  .rw[av (by simp[YF])];apply sG;simp only[go_sem,seval,q1,q2,a4,bf,hd];refine ab.ay rfl rfl rfl (hbot _) ?_;apply sR;simp only[go_sem,seval,q2,q3,ae h23];exact⟨_,_,aa.refl _,Wk.refl (aa.refl _) _,rfl,Z4,s4,rfl⟩
  .apply sG;simp only[go_sem,seval,q1,q2,a4,bf,hd];refine Go.bW rfl rfl rfl hbot ?_;by_cases hb:f.y+f.h>=u
   .have q:(f.y+f.h>=u)=True:=Yi hb;apply sG;simp only[go_sem,seval,q3,q];refine⟨_,_,aa.refl _,Wk.refl (aa.refl _) _,rfl,Z4,s4,?_⟩;rw[ar (.inr (by first|exact hb|exact⟨rfl,hb⟩|simp)),same _ rfl]
   .have q:(f.y+f.h>=u)=False:=T' hb;rw[av (by simp[YF];omega)];apply sG;simp only[go_sem,seval,q3,a4,q];refine ab.ay rfl rfl rfl (hbot _) ?_;apply sR;simp only[go_sem,seval,q2,q3,ae h23];exact⟨_,_,aa.refl _,Wk.refl (aa.refl _) _,rfl,Z4,s4,rfl⟩
def Jw(l:List U')(y high:Int)(s:ZC)(hl:l.length<=1000000)(M':∀f∈l,f.ok)(hy:Bq2 y)(hh:Bq high):aJ prog 268 [aH l,vI y,vI high,bf s] (.P' [vI (gz l y high s).1,.bool (gz l y high s).2]):=λU=>by
 refine U0.r (by simp[P0]) ?_;have hs:=aa.refl U;refine ab.mix 12 ?_;apply sR;simp only[go_sem,seval,P0,bf];refine ad λi7 Z7 s7 a7 f7=>?_;replace hs:=hs.trans s7;simp only[go_sem,seval];refine ad λYU Z10 s10 Zf f10=>?_;have n710:=ao a7 f10;replace a7:=s10 _ _ a7;have z10:=hs.none f10;replace hs:=hs.trans s10;simp only[go_sem,seval];refine ad λZM Z11 s11 ZT f11=>?_;have n711:=ao a7 f11;replace a7:=s11 _ _ a7;have n1011:=ao Zf f11;replace Zf:=s11 _ _ Zf;have z11:=hs.none f11;replace hs:=hs.trans s11;simp only[go_sem,seval,ZT,Zf,ae n1011.symm];rw[zD n1011,oW ZT,oW Zf];refine ab.call rfl rfl rfl (Oj l y high hl M' hy hh 305 [.ptr i7 0 0,.ptr ZM 0 0,.ptr YU 0 0] (λpre C=>C i7=some ⟨288,2,[bf s]⟩/\C ZM=some ⟨4,1,[.bool (pre.foldl (kD s) (0,false)).2]⟩/\
  C YU=some ⟨3,1,[vI (pre.foldl (kD s) (0,false)).1]⟩/\aa U C) ?_ ?_ ⟨a7,ZT,Zf,hs⟩) ?_
 .rintro pre C X' ⟨h1,h2,h3,h4⟩ h5;exact⟨h5 _ _ h1,h5 _ _ h2,h5 _ _ h3,h4.trans h5⟩
 .rintro pre f C hf ⟨h1,h2,h3,h4⟩;refine(NV f s _ (M' f hf) n711 n710 n1011.symm h1 h2 h3).mono ?_;rintro r X' ⟨rfl,Y1,h5,rfl⟩;refine⟨rfl,?_,?_,?_,((h4.trans h5).ax z10).ax z11⟩
  .rw[ae n711,ae n710];exact h5 _ _ h1
  .rw[ag,xQ];rfl
  .rw[ae n1011,ag,xQ];rfl
 .rintro r C ⟨rfl,h1,h2,h3,h4⟩;apply sR;simp only[go_sem,seval,h2,h3];exact ak.pure h4 rfl
def wS(tell:U'->Int×Bool)(a:Int×Bool)(f:U'):Int×Bool:=if(tell f).2=true/\(a.2=false\/(tell f).1>a.1)then((tell f).1,true)else a
def dM(tell:U'->Int×Bool)(l:List U'):Int×Bool:=l.foldl (wS tell) (0,false)
def Jp(l:List U')(hl:l.length<=1000000)(g:FuncId)(caps:List V)(tell:U'->Int×Bool)(μ:af->Prop)(hI:∀U Z',μ U->aa U Z'->μ Z')
 (hg:∀f U,f∈l->μ U->au prog g (iT f::caps) U λr Z'=>r=.P' [vI (tell f).1,.bool (tell f).2]/\Z'=U){U:af}(h0:μ U):
 au prog 224 [aH l,.fn g caps] U λr Z'=>r=.P' [vI (dM tell l).1,.bool (dM tell l).2]/\Z'=U:=by
 refine WL.r (by simp[Pw]) ?_;refine ab.mix 15 ?_;apply sR;simp only[go_sem,seval,Pw,fZ];refine ab.loop (λm st=>∃i:Nat,i<=l.length/\m=l.length-i/\aa U st.U/\st.s 1=.fn g caps/\st.s 6=vI (dM tell (l.take i)).1/\st.s 7=.bool (dM tell (l.take i)).2/\st.s 12=aH l/\st.s 13=vI l.length/\st.s 14=vI i) l.length ?_ ?_
 .exact⟨0,by omega,rfl,aa.refl _,rfl,rfl,rfl,rfl,rfl,rfl⟩
 .rintro m ⟨s,Z'⟩ ⟨i,hi,rfl,hs,k1,k6,k7,k12,k13,k14⟩;simp only at hs k1 k6 k7 k12 k13 k14;refine ab.mix 15 ?_;by_cases L':i<l.length
  .have q:((i:Int)<l.length)=True:=Yi;have hix:=λU=>jY (U:=U) L';have hmem:=Zw L';have Zg:dM tell (l.take (i+1))=wS tell (dM tell (l.take i)) l[i]:=by
    rw[Zq0 L',dM,xQ];rfl
   generalize l[i]=f at*;generalize dM tell (l.take i)=a at*;obtain⟨u,v⟩:=a;simp only at k6 k7;apply sR;simp only[go_sem,seval,k12,k13,k14,q,hix,aK];refine ad λi9 Z9 s9 a9 f9=>?_;have z9:=hs.none f9;replace hs:=hs.trans s9;simp only[go_sem,seval,a9,k1];generalize ZA:C' _ i9 _=Y9;replace a9:=(congrFun ZA i9).symm.trans ag;replace hs:=Eq.subst (motive:=aa _) ZA (hs.ax z9);clear ZA;refine ab.ay rfl rfl rfl (OH f _) ?_;apply sR;simp only[go_sem,seval];refine ab.ay rfl rfl rfl (hg f _ hmem (hI _ _ h0 hs)) ?_;have r1:Yr .i64 ((i:Int)+1):=ai;unfold wS at Zg;generalize tell f=t at*;obtain⟨x,is⟩:=t;simp only at Zg;cases is
   .rw[av (by simp)]at Zg;apply sR;simp only[go_sem,seval,k1,k6,k7,k12,k13,k14,r1];exact⟨_,by omega,i+1,by omega,rfl,hs,by simp[Zg]⟩
   .cases v
    .rw[ar (by simp)]at Zg;apply sR;simp only[go_sem,seval,k1,k7,k12,k13,k14,r1];exact⟨_,by omega,i+1,by omega,rfl,hs,by simp[Zg]⟩
    .by_cases hb:x>u
     .have q2:(x>u)=True:=Yi hb;rw[ar ⟨rfl,.inr hb⟩]at Zg;apply sR;simp only[go_sem,seval,k1,k6,k7,k12,k13,k14,r1,q2];exact⟨_,by omega,i+1,by omega,rfl,hs,by simp[Zg]⟩
     .have q2:(x>u)=False:=T' hb;rw[av (by simp[hb])]at Zg;apply sR;simp only[go_sem,seval,k1,k6,k7,k12,k13,k14,r1,q2];exact⟨_,by omega,i+1,by omega,rfl,hs,by simp[Zg]⟩
  .have q:((i:Int)<l.length)=False:=T';obtain rfl:i=l.length:=by omega
   rw[ic]at k6 k7;apply sR;simp only[go_sem,seval,k6,k7,k13,k14,q];exact ak.pure hs rfl
def Xr(a b:Int):Int:=IntKind.i64.wrap (BitVec.ofInt IntKind.i64.bits a &&& BitVec.ofInt IntKind.i64.bits b).toNat
def nD(sides:Int)(f:U'):Int×Bool:=(f.y+f.h,decide (Xr f.side sides≠0))
def Ss{i:Nat}(f:U')(sides:Int)(hf:f.ok){U:af}(q:U i=some ⟨3,1,[vI sides]⟩):au prog 225 [iT f,.ptr i 0 0] U λr Z'=>r=.P' [vI (nD sides f).1,.bool (nD sides f).2]/\Z'=U:=by
 refine VJ.r (by simp[R6]) ?_;refine ab.mix 5 ?_;have hs:=aa.refl U;apply sR;simp only[go_sem,seval,R6,iT];refine ad λi2 Z2 s2 a2 f2=>?_;replace hs:=hs.trans s2;replace q:=s2 _ _ q;simp only[go_sem,seval,a2];refine Go.bW rfl rfl rfl (DN f hf) ?_;apply sG;simp only[go_sem,seval,a2,q];exact ak.pure hs rfl
def Dm(l:List U')(sides:Int)(hl:l.length<=1000000)(M':∀f∈l,f.ok):aJ prog 168 [aH l,vI sides] (.P' [vI (dM (nD sides) l).1,.bool (dM (nD sides) l).2]):=λU=>by
 refine VW.r (by simp[RG]) ?_;refine ab.mix 6 ?_;have hs:=aa.refl U;apply sR;simp only[go_sem,seval,RG];refine ad λi3 Z3 s3 a3 f3=>?_;replace hs:=hs.trans s3;simp only[go_sem,seval];refine ab.ay rfl rfl rfl (Jp l hl 225 [.ptr i3 0 0] (nD sides) (λC=>C i3=some ⟨3,1,[vI sides]⟩) (λ_ _ h h'=>h' _ _ h) (λf C hf h=>Ss f sides (M' f hf) h) a3) ?_;apply sR;simp only[go_sem,seval];exact ak.pure hs rfl
def wq(f:U'):Int×Bool:=(f.y,true)
def Pz(f:U')(hf:f.ok):aJ prog 332 [iT f] (.P' [vI (wq f).1,.bool (wq f).2]):=λU=>by
 refine Vt.r (by simp[PS]) ?_;refine ab.mix 4 ?_;have hs:=aa.refl U;apply sR;simp only[go_sem,seval,PS,iT];refine ad λi1 Z1 s1 a1 f1=>?_;replace hs:=hs.trans s1;simp only[go_sem,seval,a1];refine ab.ay rfl rfl rfl (Ek ⟨_,_,_,_⟩ hf.2.1 hf.2.2.2 _) ?_;apply sR;simp only[go_sem,seval,bf];exact ak.pure hs rfl
def Uu(l:List U')(hl:l.length<=1000000)(M':∀f∈l,f.ok):aJ prog 308 [aH l] (.P' [vI (dM wq l).1,.bool (dM wq l).2]):=λU=>by
 refine Xz.r (by simp[QE]) ?_;refine ab.mix 4 ?_;apply sR;simp only[go_sem,seval,QE];refine ab.ay rfl rfl rfl (Jp l hl 332 [] wq (λ_=>True) (λ_ _ h _=>h) (λf C hf _=>Pz f (M' f hf) C) trivial) ?_;apply sR;simp only[go_sem,seval];exact ak.same rfl
end Go.Vc
