/- Part 4 of the library of this proof. -/
import Derived.Test.YtdaelobhgmdoeaaGreatW3
set_option linter.all false
set_option maxHeartbeats 8000000
set_option maxRecDepth 100000
namespace Go.Vc
open Go.Proofs Go.Proofs.Tryz
section
variable {P:Program} {n:Nat} {st:St} {Q:St->Prop} {k:List It}
def Go.bO{i:aN}{l:List aN}{fx:VX}{xs:List VX}{f:FuncId}{caps:List V}{v:V}(hw:bu st.s i.g=some true)(ho:i.op=.call fx xs)
 (hf:fx.ev st.s=.fn f caps)(hc:aV P f (xs.map (·.ev st.s)++caps) v)(h:Go P n (.d l k) ⟨aX st.s i.dst v,st.U⟩ Q):Go P n (.d (i::l) k) st Q:=by
 refine nP hw ?_;rw[ho];exact⟨f,caps,v,hf,λZ1 _=>hc Z1,h⟩
end
def mE{U:ai}{id:Nat}{o:Ob}(h:U id=some o):C' U id o=U:=by
 funext i;simp only[C'];split
 .rename_i e;rw[e,h]
 .rfl
def Bq(n:Int):Prop:=-1152921504606846976<=n/\n<=1152921504606846976
def pU(n:Int):aV prog 44 [vI n] (.bool (decide (1<=n/\n<=1099511627776))):=λU=>by
 refine e44.r (by simp[c44]) ?_;apply sR;simp only[go_sem,seval,c44];refine And.intro (λh=>?_) (λh=>?_)
 .exact ay.same (by congr 1;exact decide_eq_decide.2 (by omega))
 .exact ay.same (by congr 1;exact(decide_eq_false (by omega)).symm)
def dL(n:Int):Int:=max (-1099511627776) (min n 1099511627776)
def yF(n:Int):aV prog 103 [vI n] (vI (dL n)):=λU=>by
 refine Re.r (by simp[Ld]) ?_;apply sR;simp only[go_sem,seval,Ld];exact ay.same (by congr 1;unfold dL;split<;>split<;>omega)
structure Sz where
 (a b:Int)
deriving DecidableEq
def aZ(s:Sz):V:=.agg [vI s.a,vI s.b]
def rM(s:Sz):aV prog 328 [aZ s] (.bool (decide (s.b<=s.a))):=λU=>by
 refine Qo.r (by simp[K7]) ?_;apply sR;simp only[go_sem,seval,K7,aZ];refine af λi1 Z1 s1 a1 f1=>?_;simp only[go_sem,seval,a1];exact ay.pure s1 rfl
def jt(s:Sz):Int:=if s.b<=s.a then 0 else s.b-s.a
def Ty(n:Int):Prop:=-2305843009213693952<=n/\n<=2305843009213693952
def EK(s:Sz)(ha:Ty s.a)(hb:Ty s.b):aV prog 303 [aZ s] (vI (jt s)):=λU=>by
 obtain⟨h1,h2⟩:=ha;obtain⟨h3,h4⟩:=hb;refine Pe.r (by simp[JN]) ?_;apply sR;simp only[go_sem,seval,JN,aZ];refine af λi1 Z1 s1 a1 f1=>?_;simp only[go_sem,seval,a1];refine ad.aB rfl rfl rfl (rM ⟨_,_⟩ _) ?_;apply sR;simp only[go_sem,seval,a1];unfold jt;refine And.intro (λh=>?_) (λh=>?_)
 .rw[if_pos h];exact ay.pure s1 rfl
 .rw[if_neg h];exact⟨ao (by omega) (by omega),ay.pure s1 rfl⟩
open Go.Proofs Go.Proofs.Tryz
def nH(a b:Sz):Sz:=if a.b<=a.a\/b.b<=b.a\/min a.b b.b<=max a.a b.a then⟨0,0⟩else⟨max a.a b.a,min a.b b.b⟩
def dg(a b:Int):(if b>a then b else a)=max a b:=by split<;>omega
def e8(a b:Int):(if b<a then b else a)=min a b:=by split<;>omega
def Mb(x y:Sz):aV prog 338 [aZ x,aZ y] (aZ (nH x y)):=λU=>by
 refine Qq.r (by simp[Mn]) ?_;have hs:=aa.refl U;refine ad.mix 6 ?_;apply sR;simp only[go_sem,seval,Mn,aZ];refine af λi2 Z2 s2 a2 f2=>?_;have z2:=hs.none f2;replace hs:=hs.trans s2;simp only[go_sem,seval,a2];refine af λi3 Z3 s3 a3 f3=>?_;have XD:=aq a2 f3;replace a2:=s3 _ _ a2;have z3:=hs.none f3;replace hs:=hs.trans s3;simp only[go_sem,seval,a3,a2];refine af λi4 Z4 s4 a4 f4=>?_;have Yv:=aq a2 f4;replace a2:=s4 _ _ a2;have YU:=aq a3 f4;replace a3:=s4 _ _ a3;have z4:=hs.none f4;replace hs:=hs.trans s4;simp only[go_sem,seval,a4,a3,a2];refine af λi5 Z5 s5 a5 f5=>?_;have ZR:=aq a2 f5;replace a2:=s5 _ _ a2;have Yw:=aq a3 f5;replace a3:=s5 _ _ a3;have TL:=aq a4 f5;replace a4:=s5 _ _ a4;have z5:=hs.none f5;replace hs:=hs.trans s5;simp only[go_sem,seval,a5,a4,a3,a2,dg,e8,ab ZR,ab Yw,ab TL];generalize Ui:C' _ i5 _=Y5;replace a5:=(congrFun Ui i5).symm.trans ag;replace a2:=((congrFun Ui i2).symm.trans (ab ZR)).trans a2;replace a3:=((congrFun Ui i3).symm.trans (ab Yw)).trans a3;replace a4:=((congrFun Ui i4).symm.trans (ab TL)).trans a4;replace hs:=Eq.subst (motive:=aa _) Ui (hs.aE z5);clear Ui;refine ad.aB rfl rfl rfl (rM ⟨_,_⟩ _) ?_;unfold nH;by_cases h1:x.b<=x.a
 .rw[if_pos (.inl h1),decide_eq_true h1];apply sR;simp only[go_sem,seval,a4,a5];exact ay.pure (hs.aE z4) rfl
 rw[decide_eq_false h1];apply sR;simp only[go_sem,seval,a3,a5,a4];refine ad.aB rfl rfl rfl (rM ⟨_,_⟩ _) ?_;by_cases h2:y.b<=y.a
 .rw[if_pos (.inr (.inl h2)),decide_eq_true h2];apply sR;simp only[go_sem,seval,a4,a5];exact ay.pure (hs.aE z4) rfl
 rw[decide_eq_false h2];apply sR;simp only[go_sem,seval,a3,a5,a4];refine ad.aB rfl rfl rfl (rM ⟨_,_⟩ _) ?_;by_cases h3:min x.b y.b<=max x.a y.a
 .rw[if_pos (.inr (.inr h3)),decide_eq_true h3];apply sR;simp only[go_sem,seval,a4,a5];exact ay.pure (hs.aE z4) rfl
 .rw[if_neg (by omega),decide_eq_false h3];apply sR;simp only[go_sem,seval,a4,a5];exact ay.pure (hs.aE z4) rfl
def Ip(x y:Sz):aV prog 336 [aZ x,aZ y] (.bool (decide (nH x y=⟨0,0⟩))):=λU=>by
 refine Ra.r (by simp[Mp]) ?_;have hs:=aa.refl U;refine ad.mix 5 ?_;apply sR;simp only[go_sem,seval,Mp,aZ];refine af λi2 Z2 s2 a2 f2=>?_;have z2:=hs.none f2;replace hs:=hs.trans s2;simp only[go_sem,seval,a2];refine af λi3 Z3 s3 a3 f3=>?_;have XD:=aq a2 f3;replace a2:=s3 _ _ a2;have z3:=hs.none f3;replace hs:=hs.trans s3;simp only[go_sem,seval,a3,a2];refine ad.aB rfl rfl rfl (Mb ⟨_,_⟩ ⟨_,_⟩ _) ?_;have e:(⟨x.a,x.b⟩:Sz)=x:=rfl;have e':(⟨y.a,y.b⟩:Sz)=y:=rfl;rw[e,e'];generalize nH x y=m;obtain⟨u,v⟩:=m;apply sR;simp only[go_sem,seval,aZ];refine ay.pure hs ?_;by_cases h1:u=0<;>by_cases h2:v=0<;>simp[h1,h2]
structure Rct where
 (x y w h:Int)
deriving DecidableEq
def Hy(r:Rct):V:=.agg [vI r.x,vI r.y,vI r.w,vI r.h]
def Bc(r:Rct)(h1:Bq r.y)(h2:Bq r.h):aV prog 272 [Hy r] (aZ ⟨r.y,r.y+r.h⟩):=λU=>by
 obtain⟨g1,g2⟩:=h1;obtain⟨g3,g4⟩:=h2;refine Qp.r (by simp[JD]) ?_;have hs:=aa.refl U;apply sR;simp only[go_sem,seval,JD,Hy];refine af λi1 Z1 s1 a1 f1=>?_;have z1:=hs.none f1;replace hs:=hs.trans s1;simp only[go_sem,seval,a1];refine af λi2 Z2 s2 a2 f2=>?_;have n12:=aq a1 f2;replace a1:=s2 _ _ a1;have z2:=hs.none f2;replace hs:=hs.trans s2;simp only[go_sem,seval,a2,a1];exact⟨ao (by omega) (by omega),ay.pure (hs.aE z2) rfl⟩
def F6(r:Rct)(h1:Bq r.x)(h2:Bq r.w):aV prog 330 [Hy r] (aZ ⟨r.x,r.x+r.w⟩):=λU=>by
 obtain⟨g1,g2⟩:=h1;obtain⟨g3,g4⟩:=h2;refine QV.r (by simp[Lz]) ?_;have hs:=aa.refl U;apply sR;simp only[go_sem,seval,Lz,Hy];refine af λi1 Z1 s1 a1 f1=>?_;have z1:=hs.none f1;replace hs:=hs.trans s1;simp only[go_sem,seval,a1];refine af λi2 Z2 s2 a2 f2=>?_;have n12:=aq a1 f2;replace a1:=s2 _ _ a1;have z2:=hs.none f2;replace hs:=hs.trans s2;simp only[go_sem,seval,a2,a1];exact⟨ao (by omega) (by omega),ay.pure (hs.aE z2) rfl⟩
structure Pn where
 (y m:Int)
deriving DecidableEq
def gN(p:Pn):V:=.agg [vI p.y,vI p.m]
def D3(p:Pn)(h1:Bq p.y)(h2:Bq p.m):aV prog 167 [gN p] (vI (p.y+p.m)):=λU=>by
 obtain⟨g1,g2⟩:=h1;obtain⟨g3,g4⟩:=h2;refine Rp.r (by simp[KP]) ?_;have hs:=aa.refl U;apply sR;simp only[go_sem,seval,KP,gN];refine af λi1 Z1 s1 a1 f1=>?_;have z1:=hs.none f1;replace hs:=hs.trans s1;simp only[go_sem,seval,a1];exact⟨ao (by omega) (by omega),ay.pure hs rfl⟩
def JX(p:Pn)(y h:Int)(h1:Bq y)(h2:Bq h):aV prog 266 [gN p,vI y,vI h] (gN ⟨y+h,0⟩):=λU=>by
 obtain⟨g1,g2⟩:=h1;obtain⟨g3,g4⟩:=h2;refine Pb.r (by simp[Mx]) ?_;have hs:=aa.refl U;apply sR;simp only[go_sem,seval,Mx,gN];refine af λi1 Z1 s1 a1 f1=>?_;have z1:=hs.none f1;replace hs:=hs.trans s1;simp only[go_sem,seval,a1];refine af λi2 Z2 s2 a2 f2=>?_;have n12:=aq a1 f2;replace a1:=s2 _ _ a1;have z2:=hs.none f2;replace hs:=hs.trans s2;simp only[go_sem,seval,a2,a1];exact⟨ao (by omega) (by omega),ay.pure (hs.aE z2) rfl⟩
def jf(p:Pn)(low:Int):Pn:=if low>p.y+p.m then⟨low,0⟩else p
def Ep(p:Pn)(low:Int)(h1:Bq p.y)(h2:Bq p.m):aV prog 216 [gN p,vI low] (gN (jf p low)):=λU=>by
 refine PI.r (by simp[KF]) ?_;have hs:=aa.refl U;refine ad.mix 5 ?_;apply sR;simp only[go_sem,seval,KF,gN];refine af λi2 Z2 s2 a2 f2=>?_;have z2:=hs.none f2;replace hs:=hs.trans s2;simp only[go_sem,seval,a2];refine af λi4 Z4 s4 a4 f4=>?_;have Yv:=aq a2 f4;replace a2:=s4 _ _ a2;have z4:=hs.none f4;replace hs:=hs.trans s4;simp only[go_sem,seval,a4,a2];refine ad.aB rfl rfl rfl (D3 ⟨_,_⟩ h1 h2 _) ?_;unfold jf;by_cases h:low>p.y+p.m
 .have q:(low>p.y+p.m)=True:=eq_true h;rw[if_pos h];apply sR;simp only[go_sem,seval,a4,a2,q];exact ay.pure (hs.aE z4) rfl
 .have q:(low>p.y+p.m)=False:=eq_false h;rw[if_neg h];apply sR;simp only[go_sem,seval,a4,a2,q];exact ay.pure (hs.aE z4) rfl
def Cv(y m n:Int){U:ai}{id:Nat}(M':U id=some ⟨342,2,[.agg [vI y,vI m]]⟩):aD prog 263 [.ptr id 0 0,vI n] U λr Z'=>r=.RB []/\Z'=C' U id ⟨342,2,[.agg [vI y,vI (max m n)]]⟩:=by
 refine PU.r (by simp[Lg]) ?_;apply sR;simp only[go_sem,seval,Lg,M',dg];exact⟨_,_,aa.refl _,Wk.refl (aa.refl _) _,rfl,rfl⟩
def Jc(y m n:Int)(hy:Bq y)(hm:Bq m)(hn:Bq n){U:ai}{id:Nat}(M':U id=some ⟨342,2,[.agg [vI y,vI m]]⟩):aD prog 264 [.ptr id 0 0,vI n] U λr Z'=>r=.RB []/\Z'=C' U id ⟨342,2,[.agg [vI (if n>0 then y+m+n else y),vI (if n>0 then 0 else m)]]⟩:=by
 obtain⟨g1,g2⟩:=hy;obtain⟨g3,g4⟩:=hm;obtain⟨g5,g6⟩:=hn;refine OK.r (by simp[Hd]) ?_;by_cases h:n>0
 .have q:(n>0)=True:=eq_true h;rw[if_pos h,if_pos h];apply sR;simp only[go_sem,seval,Hd,M',q];exact⟨ao (by omega) (by omega),ao (by omega) (by omega),_,_,aa.refl _,Wk.refl (aa.refl _) _,rfl,rfl⟩
 .have q:(n>0)=False:=eq_false h;rw[if_neg h,if_neg h];apply sR;simp only[go_sem,seval,Hd,M',q];exact⟨_,_,aa.refl _,Wk.refl (aa.refl _) _,rfl,(by funext i;simp only[C'];split<;>simp_all)⟩
open Go.Proofs Go.Proofs.Tryz
structure P' where
 (node side anchor x y w h:Int)
deriving DecidableEq
def aQ(f:P'):V:=.agg [vI f.node,vI f.side,vI f.anchor,vI f.x,vI f.y,vI f.w,vI f.h]
def aH(l:List P'):V:=.sl 7 (l.map aQ)
def ik(f:P'):V:=.agg [vI f.node,vI f.side,vI f.anchor,vI f.x,vI f.y,vI f.w,vI f.h,vI f.x,vI f.y,vI f.w,vI f.h]
def P'.ok(f:P'):Prop:=Bq f.x/\Bq f.y/\Bq f.w/\Bq f.h
def jX{U:ai}{l:List P'}{i:Nat}(h:i<l.length):bQ U 7 (aH l) (.int .i64 i)=some (.rp (aQ l[i])):=by simp[aH,bQ,h]
def gi(l:List P'):dy false (aH l)=some (.int .i64 l.length):=by simp[aH,dy]
def Jb(f:P'):aV prog 271 [aQ f] (ik f):=λU=>by
 refine Qw.r (by simp[LY]) ?_;have hs:=aa.refl U;apply sR;simp only[go_sem,seval,LY,aQ];refine af λi1 Z1 s1 a1 f1=>?_;have z1:=hs.none f1;replace hs:=hs.trans s1;simp only[go_sem,seval,a1];refine af λi2 Z2 s2 a2 f2=>?_;have n12:=aq a1 f2;replace a1:=s2 _ _ a1;have z2:=hs.none f2;replace hs:=hs.trans s2;simp only[go_sem,seval,a2,a1];exact ay.pure (hs.aE z2) rfl
def zh(f:P')(hf:f.ok):aV prog 226 [ik f] (vI (f.y+f.h)):=λU=>by
 refine QK.r (by simp[MM]) ?_;have hs:=aa.refl U;apply sR;simp only[go_sem,seval,MM,ik];refine af λi1 Z1 s1 a1 f1=>?_;have z1:=hs.none f1;replace hs:=hs.trans s1;simp only[go_sem,seval,a1];refine ad.aB rfl rfl rfl (Bc ⟨_,_,_,_⟩ hf.2.1 hf.2.2.2 _) ?_;apply sR;simp only[go_sem,seval,aZ];exact ay.pure hs rfl
def iE(y high:Int)(f:P'):Bool:=!decide (nH ⟨f.y,f.y+f.h⟩ ⟨y,y+max high 1⟩=⟨0,0⟩)
def HW(f:P')(y high:Int)(hf:f.ok)(hy:Ty y)(hh:Bq high):aV prog 329 [ik f,vI y,vI high] (.bool (iE y high f)):=λU=>by
 obtain⟨g1,g2⟩:=hy;obtain⟨g3,g4⟩:=hh;refine PO.r (by simp[Li]) ?_;have hs:=aa.refl U;refine ad.mix 7 ?_;apply sR;simp only[go_sem,seval,Li,ik];refine af λi3 Z3 s3 a3 f3=>?_;have z3:=hs.none f3;replace hs:=hs.trans s3;simp only[go_sem,seval,a3];refine ad.aB rfl rfl rfl (Bc ⟨_,_,_,_⟩ hf.2.1 hf.2.2.2 _) ?_;apply sR;simp only[go_sem,seval,dg];refine⟨ao (by omega) (by omega),?_⟩;refine ad.aB rfl rfl rfl (Ip ⟨_,_⟩ ⟨_,_⟩ _) ?_;apply sR;simp only[go_sem,seval];rw[show max high 1=max 1 high by omega];exact ay.pure hs (by simp[iE,Int.max_comm])
def jR(f:P')(s:Sz):Sz:=if f.side=1 then⟨max s.a (f.x+f.w),s.b⟩else⟨s.a,min s.b f.x⟩
def IU(f:P')(s:Sz)(hf:f.ok):aV prog 306 [ik f,aZ s] (aZ (jR f s)):=λU=>by
 refine QW.r (by simp[KM]) ?_;have hs:=aa.refl U;refine ad.mix 6 ?_;apply sR;simp only[go_sem,seval,KM,ik,aZ];refine af λi2 Z2 s2 a2 f2=>?_;have z2:=hs.none f2;replace hs:=hs.trans s2;simp only[go_sem,seval,a2];refine af λi3 Z3 s3 a3 f3=>?_;have XD:=aq a2 f3;replace a2:=s3 _ _ a2;have z3:=hs.none f3;replace hs:=hs.trans s3;simp only[go_sem,seval,a3,a2];refine af λi4 Z4 s4 a4 f4=>?_;have Yv:=aq a2 f4;replace a2:=s4 _ _ a2;have YU:=aq a3 f4;replace a3:=s4 _ _ a3;have z4:=hs.none f4;replace hs:=hs.trans s4;simp only[go_sem,seval,a4,a3,a2];refine ad.aB rfl rfl rfl (F6 ⟨_,_,_,_⟩ hf.1 hf.2.2.1 _) ?_;apply sR;simp only[go_sem,seval,aZ];refine af λi5 Z5 s5 a5 f5=>?_;have ZR:=aq a2 f5;replace a2:=s5 _ _ a2;have Yw:=aq a3 f5;replace a3:=s5 _ _ a3;have TL:=aq a4 f5;replace a4:=s5 _ _ a4;have z5:=hs.none f5;replace hs:=hs.trans s5;unfold jR;by_cases h:f.side=1
 .have q:(f.side=1)=True:=eq_true h;rw[if_pos h];simp only[go_sem,seval,a5,a4,a3,a2,q,dg,e8,ab ZR,ab Yw,ab TL,ab YU.symm,ab Yw.symm,ab Yv,ab YU,ab TL.symm];exact ay.pure (((hs.aE z5).aE z3).aE z4) rfl
 .have q:(f.side=1)=False:=eq_false h;rw[if_neg h];simp only[go_sem,seval,a5,a4,a3,a2,q,dg,e8,ab ZR,ab Yw,ab TL,ab YU.symm,ab Yw.symm,ab Yv,ab YU,ab TL.symm];exact ay.pure (((hs.aE z5).aE z3).aE z4) rfl
open Go.Proofs Go.Proofs.Tryz
def Al{α:Type}(p:α->Bool)(l:List α){i:Nat}(h:i<l.length):(l.take (i+1)).filter p=(l.take i).filter p++if p l[i]then[l[i]]else[]:=by
 rw[List.take_succ_eq_append_getElem h,List.filter_append];cases hp:p l[i]<;>simp[hp]
def I4(l:List P')(y high:Int)(hl:l.length<=1000000)(RC:∀f∈l,f.ok)(hy:Ty y)(hh:Bq high)(g:FuncId)(caps:List V)(τ:List P'->ai->Prop)
 (hJ:∀pre U Z',τ pre U->aa U Z'->τ pre Z')
 (hg:∀pre f U,f∈l->τ pre U->aD prog g (ik f::caps) U λr Z'=>r=.RB []/\τ (pre++[f]) Z'){U:ai}(h0:τ [] U):
 aD prog 304 [aH l,vI y,vI high,.fn g caps] U λr Z'=>r=.RB []/\τ (l.filter (iE y high)) Z':=by
 refine Qd.r (by simp[JP]) ?_;refine ad.mix 14 ?_;apply sR;simp only[go_sem,seval,JP,gi];refine ad.loop (λm st=>∃i:Nat,i<=l.length/\m=l.length-i/\τ ((l.take i).filter (iE y high)) st.U/\st.s 1=vI y/\st.s 2=vI high/\st.s 3=.fn g caps/\st.s 11=aH l/\st.s 12=vI l.length/\st.s 13=vI i) l.length ?_ ?_
 .exact⟨0,by omega,rfl,h0,rfl,rfl,rfl,rfl,rfl,rfl⟩
 .rintro m ⟨s,Z'⟩ ⟨i,hi,rfl,hj,k1,k2,k3,k11,Uf,VN⟩;simp only at hj k1 k2 k3 k11 Uf VN;refine ad.mix 14 ?_;by_cases H':i<l.length
  .have q:((i:Int)<l.length)=True:=eq_true (by omega);have hix:=λU=>jX (U:=U) H';have Yx:=List.getElem_mem H';have hfok:=RC _ Yx;have SB:=Al (iE y high) l H';generalize l[i]=f at*;have hs:=aa.refl Z';apply sR;simp only[go_sem,seval,k1,k2,k3,k11,Uf,VN,q,hix,aQ];refine af λi9 Z9 s9 a9 f9=>?_;have z9:=hs.none f9;replace hs:=hs.trans s9;simp only[go_sem,seval,a9,k1,k2,k3,k11,Uf,VN];generalize SL:C' _ i9 _=Y9;replace a9:=(congrFun SL i9).symm.trans ag;replace hs:=Eq.subst (motive:=aa _) SL (hs.aE z9);clear SL;refine ad.aB rfl rfl rfl (Jb f _) ?_;apply sR;simp only[go_sem,seval,ik];refine af λSb WO TV Sg f10=>?_;have n910:=aq a9 f10;replace a9:=TV _ _ a9;have Vr:=hs.none f10;replace hs:=hs.trans TV;simp only[go_sem,seval,Sg,k1,k2,k3,k11,Uf,VN];generalize TW:C' _ Sb _=Y10;replace Sg:=(congrFun TW Sb).symm.trans ag;replace a9:=((congrFun TW i9).symm.trans (ab n910)).trans a9;replace hs:=Eq.subst (motive:=aa _) TW (hs.aE Vr);clear TW;refine ad.aB rfl rfl rfl (HW f y high hfok hy hh _) ?_;cases hm:iE y high f
   .rw[hm]at SB;apply sR;simp only[go_sem,seval,k1,k2,k3,k11,Uf,VN];refine⟨ao (by omega) (by omega),_,by omega,i+1,by omega,rfl,?_,by simp[k1,k2,k3,k11,Uf]⟩;rw[SB];simpa using hJ _ _ _ hj hs
   .rw[hm]at SB;apply sR;simp only[go_sem,seval,Sg,k1,k2,k3,k11,Uf,VN];refine ad.call rfl rfl rfl (hg _ f _ Yx (hJ _ _ _ hj hs)) ?_;rintro r Z2 ⟨rfl,hj2⟩;apply sR;simp only[go_sem,seval,k1,k2,k3,k11,Uf,VN];refine⟨ao (by omega) (by omega),_,by omega,i+1,by omega,rfl,?_,by simp[k1,k2,k3,k11,Uf]⟩;rw[SB];simpa using hj2
  .have q:((i:Int)<l.length)=False:=eq_false (by omega);apply sR;simp only[go_sem,seval,k1,k2,k3,k11,Uf,VN,q];obtain rfl:i=l.length:=by omega
   rw[List.take_length]at hj;exact⟨_,_,aa.refl _,Wk.refl (aa.refl _) _,rfl,hj⟩
def dX(l:List P')(y high:Int)(s:Sz):Sz:=(l.filter (iE y high)).foldl (λs f=>jR f s) s
def NS{id:Nat}(f:P')(s:Sz)(hf:f.ok){U:ai}(M':U id=some ⟨288,2,[aZ s]⟩):aD prog 331 [ik f,.ptr id 0 0] U λr Z'=>r=.RB []/\∃Z1,aa U Z1/\Z'=C' Z1 id ⟨288,2,[aZ (jR f s)]⟩:=by
 refine Pz.r (by simp[Lf]) ?_;have hs:=aa.refl U;have a1:=M';rw[aZ]at a1;apply sR;simp only[go_sem,seval,Lf,ik];refine af λi2 Z2 s2 a2 f2=>?_;have n2:=aq a1 f2;replace a1:=s2 _ _ a1;simp only[go_sem,seval,a2,a1];refine ad.aB rfl rfl rfl (IU f s hf _) ?_;apply sR;simp only[go_sem,seval,a1,aZ];exact⟨_,_,aa.refl _,Wk.refl (aa.refl _) _,rfl,Z2,s2,rfl⟩
def CE(l:List P')(y high:Int)(s:Sz)(hl:l.length<=1000000)(RC:∀f∈l,f.ok)(hy:Ty y)(hh:Bq high):aV prog 307 [aH l,vI y,vI high,aZ s] (aZ (dX l y high s)):=λU=>by
 refine Rj.r (by simp[M3]) ?_;have hs:=aa.refl U;refine ad.mix 10 ?_;apply sR;simp only[go_sem,seval,M3,aZ];refine af λi7 Z7 s7 a7 f7=>?_;have z7:=hs.none f7;replace hs:=hs.trans s7;simp only[go_sem,seval,a7];refine af λi8 Z8 s8 a8 f8=>?_;have XE:=aq a7 f8;replace a7:=s8 _ _ a7;have z8:=hs.none f8;replace hs:=hs.trans s8;simp only[go_sem,seval,a8,a7];refine af λi9 Z9 s9 a9 f9=>?_;have n79:=aq a7 f9;replace a7:=s9 _ _ a7;have Yb:=aq a8 f9;replace a8:=s9 _ _ a8;have z9:=hs.none f9;replace hs:=hs.trans s9;simp only[go_sem,seval,a9,a8,a7,ab n79,ab Yb];generalize SL:C' _ i9 _=Y9;replace a9:=(congrFun SL i9).symm.trans ag;replace a7:=((congrFun SL i7).symm.trans (ab n79)).trans a7;replace a8:=((congrFun SL i8).symm.trans (ab Yb)).trans a8;replace hs:=Eq.subst (motive:=aa _) SL (hs.aE z9);clear SL;refine ad.call rfl rfl rfl (I4 l y high hl RC hy hh 331 [.ptr i9 0 0] (λpre J=>J i9=some ⟨288,2,[aZ (pre.foldl (λs f=>jR f s) s)]⟩/\J i8=some ⟨288,2,[.agg [vI 0,vI 0]]⟩/\aa U J) ?_ ?_ ⟨a9,a8,hs⟩) ?_
 .rintro pre J X' ⟨h1,h2,h4⟩ h5;exact⟨h5 _ _ h1,h5 _ _ h2,h4.trans h5⟩
 .rintro pre f J hf ⟨h1,h2,h4⟩;refine(NS f _ (RC f hf) h1).mono ?_;rintro r X' ⟨rfl,Y1,h5,rfl⟩;refine⟨rfl,?_,by rw[ab Yb];exact h5 _ _ h2,(h4.trans h5).aE z9⟩;rw[ag,List.foldl_append];rfl
 .rintro r J ⟨rfl,h1,h2,h4⟩;have hcs:aZ (List.foldl (λs f=>jR f s) s (List.filter (iE y high) l))=.agg [vI (dX l y high s).a,vI (dX l y high s).b]:=rfl;rw[hcs]at h1;apply sR;simp only[go_sem,seval,h1,h2];exact ay.pure (h4.aE z8) rfl
open Go.Proofs Go.Proofs.Tryz
def jL(s:Sz)(a:Int×Bool)(f:P'):Int×Bool:=if jR f s=s\/(a.2=true/\f.y+f.h>=a.1)then a else(f.y+f.h,true)
def gy(l:List P')(y high:Int)(s:Sz):Int×Bool:=(l.filter (iE y high)).foldl (jL s) (0,false)
def HR{i1 i2 i3:Nat}(f:P')(s:Sz)(a:Int×Bool)(hf:f.ok)(h12:i1≠i2)(h13:i1≠i3)(h23:i2≠i3){U:ai}(q1:U i1=some ⟨288,2,[aZ s]⟩)(q2:U i2=some ⟨4,1,[.bool a.2]⟩)(q3:U i3=some ⟨3,1,[vI a.1]⟩):
 aD prog 305 [ik f,.ptr i1 0 0,.ptr i2 0 0,.ptr i3 0 0] U λr Z'=>r=.RB []/\∃Z1,aa U Z1/\Z'=C' (C' Z1 i3 ⟨3,1,[vI (jL s a f).1]⟩) i2 ⟨4,1,[.bool (jL s a f).2]⟩:=by
 refine OP.r (by simp[LC]) ?_;refine ad.mix 5 ?_;obtain⟨u,v⟩:=a;simp only at q2 q3;apply sR;simp only[go_sem,seval,LC,ik];refine af λi4 Z4 s4 a4 f4=>?_;have n1:=aq q1 f4;have n2:=aq q2 f4;have n3:=aq q3 f4;replace q1:=s4 _ _ q1;replace q2:=s4 _ _ q2;replace q3:=s4 _ _ q3;have hcut:=IU f s hf;have hbot:=zh f hf;obtain⟨s1,s2⟩:=s;rw[aZ]at q1;simp only[go_sem,seval,a4,q1,q2,q3];refine Go.bO rfl rfl rfl hcut ?_;unfold jL;generalize jR f ⟨s1,s2⟩=c;obtain⟨c1,c2⟩:=c;have same:∀Z':ai,Z'=Z4->C' (C' Z' i3 ⟨3,1,[vI u]⟩) i2 ⟨4,1,[.bool v]⟩=Z4:=λZ' e=>by
  subst e;rw[mE q3,mE q2]
 by_cases hc:c1=s1/\c2=s2
 .obtain⟨rfl,rfl⟩:=hc;apply sG;simp only[go_sem,seval,q1,aZ];refine⟨_,_,aa.refl _,Wk.refl (aa.refl _) _,rfl,Z4,s4,?_⟩;rw[if_pos (by simp),same _ rfl]
 .have hd:(decide (c1=s1)&&decide (c2=s2))=false:=by
   by_cases h1:c1=s1<;>by_cases h2:c2=s2<;>simp_all
  have R6:¬(⟨c1,c2⟩:Sz)=⟨s1,s2⟩:=by simpa using hc
  cases v
  .rw[if_neg (by simp[R6])];apply sG;simp only[go_sem,seval,q1,q2,a4,aZ,hd];refine ad.aB rfl rfl rfl (hbot _) ?_;apply sR;simp only[go_sem,seval,q2,q3,ab h23,a4];exact⟨_,_,aa.refl _,Wk.refl (aa.refl _) _,rfl,Z4,s4,rfl⟩
  .apply sG;simp only[go_sem,seval,q1,q2,a4,aZ,hd];refine Go.bO rfl rfl rfl hbot ?_;by_cases hb:f.y+f.h>=u
   .have q:(f.y+f.h>=u)=True:=eq_true hb;apply sG;simp only[go_sem,seval,q3,q];refine⟨_,_,aa.refl _,Wk.refl (aa.refl _) _,rfl,Z4,s4,?_⟩;rw[if_pos (.inr (by first|exact hb|exact⟨rfl,hb⟩|simp[hb])),same _ rfl]
   .have q:(f.y+f.h>=u)=False:=eq_false hb;rw[if_neg (by simp[R6];omega)];apply sG;simp only[go_sem,seval,q3,a4,q];refine ad.aB rfl rfl rfl (hbot _) ?_;apply sR;simp only[go_sem,seval,q2,q3,ab h23,a4];exact⟨_,_,aa.refl _,Wk.refl (aa.refl _) _,rfl,Z4,s4,rfl⟩
def EI(l:List P')(y high:Int)(s:Sz)(hl:l.length<=1000000)(RC:∀f∈l,f.ok)(hy:Ty y)(hh:Bq high):aV prog 268 [aH l,vI y,vI high,aZ s] (.RB [vI (gy l y high s).1,.bool (gy l y high s).2]):=λU=>by
 refine OS.r (by simp[Lj]) ?_;have hs:=aa.refl U;refine ad.mix 12 ?_;apply sR;simp only[go_sem,seval,Lj,aZ];refine af λi7 Z7 s7 a7 f7=>?_;have z7:=hs.none f7;replace hs:=hs.trans s7;simp only[go_sem,seval,a7];refine af λSb WO TV Sg f10=>?_;have Zp:=aq a7 f10;replace a7:=TV _ _ a7;have Vr:=hs.none f10;replace hs:=hs.trans TV;simp only[go_sem,seval,Sg,a7];refine af λTz ZS VO Vs f11=>?_;have n711:=aq a7 f11;replace a7:=VO _ _ a7;have SR:=aq Sg f11;replace Sg:=VO _ _ Sg;have z11:=hs.none f11;replace hs:=hs.trans VO;simp only[go_sem,seval,Vs,Sg,a7,ab n711,ab SR,ab Zp,ab SR.symm];rw[vG SR,mE Vs,mE Sg];refine ad.call rfl rfl rfl (I4 l y high hl RC hy hh 305 [.ptr i7 0 0,.ptr Tz 0 0,.ptr Sb 0 0] (λpre J=>J i7=some ⟨288,2,[aZ s]⟩/\J Tz=some ⟨4,1,[.bool (pre.foldl (jL s) (0,false)).2]⟩/\
  J Sb=some ⟨3,1,[vI (pre.foldl (jL s) (0,false)).1]⟩/\aa U J) ?_ ?_ ⟨a7,Vs,Sg,hs⟩) ?_
 .rintro pre J X' ⟨h1,h2,h3,h4⟩ h5;exact⟨h5 _ _ h1,h5 _ _ h2,h5 _ _ h3,h4.trans h5⟩
 .rintro pre f J hf ⟨h1,h2,h3,h4⟩;refine(HR f s _ (RC f hf) n711 Zp SR.symm h1 h2 h3).mono ?_;rintro r X' ⟨rfl,Y1,h5,rfl⟩;refine⟨rfl,?_,?_,?_,((h4.trans h5).aE Vr).aE z11⟩
  .rw[ab n711,ab Zp];exact h5 _ _ h1
  .rw[ag,List.foldl_append];rfl
  .rw[ab SR,ag,List.foldl_append];rfl
 .rintro r J ⟨rfl,h1,h2,h3,h4⟩;apply sR;simp only[go_sem,seval,h2,h3];exact ay.pure h4 rfl
def uj(tell:P'->Int×Bool)(a:Int×Bool)(f:P'):Int×Bool:=if(tell f).2=true/\(a.2=false\/(tell f).1>a.1)then((tell f).1,true)else a
def ee(tell:P'->Int×Bool)(l:List P'):Int×Bool:=l.foldl (uj tell) (0,false)
def Fu(l:List P')(hl:l.length<=1000000)(g:FuncId)(caps:List V)(tell:P'->Int×Bool)(μ:ai->Prop)(hI:∀U Z',μ U->aa U Z'->μ Z')
 (hg:∀f U,f∈l->μ U->aD prog g (ik f::caps) U λr Z'=>r=.RB [vI (tell f).1,.bool (tell f).2]/\Z'=U){U:ai}(h0:μ U):
 aD prog 224 [aH l,.fn g caps] U λr Z'=>r=.RB [vI (ee tell l).1,.bool (ee tell l).2]/\Z'=U:=by
 refine Qa.r (by simp[Ko]) ?_;refine ad.mix 15 ?_;apply sR;simp only[go_sem,seval,Ko,gi];refine ad.loop (λm st=>∃i:Nat,i<=l.length/\m=l.length-i/\aa U st.U/\st.s 1=.fn g caps/\st.s 6=vI (ee tell (l.take i)).1/\st.s 7=.bool (ee tell (l.take i)).2/\st.s 12=aH l/\st.s 13=vI l.length/\st.s 14=vI i) l.length ?_ ?_
 .exact⟨0,by omega,rfl,aa.refl _,rfl,rfl,rfl,rfl,rfl,rfl⟩
 .rintro m ⟨s,Z'⟩ ⟨i,hi,rfl,hs,k1,k6,k7,Uf,VN,k14⟩;simp only at hs k1 k6 k7 Uf VN k14;refine ad.mix 15 ?_;by_cases H':i<l.length
  .have q:((i:Int)<l.length)=True:=eq_true (by omega);have hix:=λU=>jX (U:=U) H';have Yx:=List.getElem_mem H';have SB:ee tell (l.take (i+1))=uj tell (ee tell (l.take i)) l[i]:=by
    rw[List.take_succ_eq_append_getElem H',ee,List.foldl_append];rfl
   generalize l[i]=f at*;generalize ee tell (l.take i)=a at*;obtain⟨u,v⟩:=a;simp only at k6 k7;apply sR;simp only[go_sem,seval,k1,k6,k7,Uf,VN,k14,q,hix,aQ];refine af λi9 Z9 s9 a9 f9=>?_;have z9:=hs.none f9;replace hs:=hs.trans s9;simp only[go_sem,seval,a9,k1,k6,k7,Uf,VN,k14];generalize SL:C' _ i9 _=Y9;replace a9:=(congrFun SL i9).symm.trans ag;replace hs:=Eq.subst (motive:=aa _) SL (hs.aE z9);clear SL;refine ad.aB rfl rfl rfl (Jb f _) ?_;apply sR;simp only[go_sem,seval,k1,k6,k7,Uf,VN,k14];refine ad.aB rfl rfl rfl (hg f _ Yx (hI _ _ h0 hs)) ?_;have r1:RM .i64 ((i:Int)+1):=ao (by omega) (by omega);unfold uj at SB;generalize tell f=t at*;obtain⟨x,is⟩:=t;simp only at SB;cases is
   .rw[if_neg (by simp)]at SB;apply sR;simp only[go_sem,seval,k1,k6,k7,Uf,VN,k14,r1];exact⟨_,by omega,i+1,by omega,rfl,hs,by simp[k1,k6,k7,Uf,VN,SB]⟩
   .cases v
    .rw[if_pos (by simp)]at SB;apply sR;simp only[go_sem,seval,k1,k6,k7,Uf,VN,k14,r1];exact⟨_,by omega,i+1,by omega,rfl,hs,by simp[k1,Uf,VN,SB]⟩
    .by_cases hb:x>u
     .have q2:(x>u)=True:=eq_true hb;rw[if_pos ⟨rfl,.inr hb⟩]at SB;apply sR;simp only[go_sem,seval,k1,k6,k7,Uf,VN,k14,r1,q2];exact⟨_,by omega,i+1,by omega,rfl,hs,by simp[k1,Uf,VN,SB]⟩
     .have q2:(x>u)=False:=eq_false hb;rw[if_neg (by simp[hb])]at SB;apply sR;simp only[go_sem,seval,k1,k6,k7,Uf,VN,k14,r1,q2];exact⟨_,by omega,i+1,by omega,rfl,hs,by simp[k1,k6,k7,Uf,VN,SB]⟩
  .have q:((i:Int)<l.length)=False:=eq_false (by omega);obtain rfl:i=l.length:=by omega
   rw[List.take_length]at k6 k7;apply sR;simp only[go_sem,seval,k1,k6,k7,Uf,VN,k14,q];exact ay.pure hs rfl
def Pg(a b:Int):Int:=IntKind.i64.wrap (BitVec.ofInt IntKind.i64.bits a &&& BitVec.ofInt IntKind.i64.bits b).toNat
def lC(Uo:Int)(f:P'):Int×Bool:=(f.y+f.h,decide (Pg f.side Uo≠0))
def Mg{i:Nat}(f:P')(Uo:Int)(hf:f.ok){U:ai}(q:U i=some ⟨3,1,[vI Uo]⟩):aD prog 225 [ik f,.ptr i 0 0] U λr Z'=>r=.RB [vI (lC Uo f).1,.bool (lC Uo f).2]/\Z'=U:=by
 refine PL.r (by simp[L8]) ?_;refine ad.mix 5 ?_;have hs:=aa.refl U;apply sR;simp only[go_sem,seval,L8,ik];refine af λi2 Z2 s2 a2 f2=>?_;have z2:=hs.none f2;replace hs:=hs.trans s2;replace q:=s2 _ _ q;simp only[go_sem,seval,a2,q];refine Go.bO rfl rfl rfl (zh f hf) ?_;apply sG;simp only[go_sem,seval,a2,q];exact ay.pure hs rfl
def zy(l:List P')(Uo:Int)(hl:l.length<=1000000)(RC:∀f∈l,f.ok):aV prog 168 [aH l,vI Uo] (.RB [vI (ee (lC Uo) l).1,.bool (ee (lC Uo) l).2]):=λU=>by
 refine Pa.r (by simp[JC]) ?_;refine ad.mix 6 ?_;have hs:=aa.refl U;apply sR;simp only[go_sem,seval,JC];refine af λi3 Z3 s3 a3 f3=>?_;have z3:=hs.none f3;replace hs:=hs.trans s3;simp only[go_sem,seval,a3];refine ad.aB rfl rfl rfl (Fu l hl 225 [.ptr i3 0 0] (lC Uo) (λJ=>J i3=some ⟨3,1,[vI Uo]⟩) (λ_ _ h h'=>h' _ _ h) (λf J hf h=>Mg f Uo (RC f hf) h) a3) ?_;apply sR;simp only[go_sem,seval];exact ay.pure hs rfl
def uz(f:P'):Int×Bool:=(f.y,true)
def Mw(f:P')(hf:f.ok):aV prog 332 [ik f] (.RB [vI (uz f).1,.bool (uz f).2]):=λU=>by
 refine QA.r (by simp[KU]) ?_;refine ad.mix 4 ?_;have hs:=aa.refl U;apply sR;simp only[go_sem,seval,KU,ik];refine af λi1 Z1 s1 a1 f1=>?_;have z1:=hs.none f1;replace hs:=hs.trans s1;simp only[go_sem,seval,a1];refine ad.aB rfl rfl rfl (Bc ⟨_,_,_,_⟩ hf.2.1 hf.2.2.2 _) ?_;apply sR;simp only[go_sem,seval,aZ];exact ay.pure hs rfl
def NP(l:List P')(hl:l.length<=1000000)(RC:∀f∈l,f.ok):aV prog 308 [aH l] (.RB [vI (ee uz l).1,.bool (ee uz l).2]):=λU=>by
 refine Qs.r (by simp[LD]) ?_;refine ad.mix 4 ?_;apply sR;simp only[go_sem,seval,LD];refine ad.aB rfl rfl rfl (Fu l hl 332 [] uz (λ_=>True) (λ_ _ h _=>h) (λf J hf _=>Mw f (RC f hf) J) trivial) ?_;apply sR;simp only[go_sem,seval];exact ay.same rfl
end Go.Vc
