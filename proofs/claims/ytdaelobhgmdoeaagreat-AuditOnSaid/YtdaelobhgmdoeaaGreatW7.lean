/- Part 7 of the library of this proof. -/
import Derived.Test.YtdaelobhgmdoeaaGreatW6
set_option linter.all false
set_option maxHeartbeats 8000000
set_option maxRecDepth 100000
namespace Go.Vc
open Go.Proofs Go.Proofs.Tryz
def M6{f:U'}{s:Zv}(hf:f.ok)(h:Bq2 s.a/\Bq2 s.b):Bq2 (kY f s).a/\Bq2 (kY f s).b:=by
 obtain⟨⟨x1,x2⟩,_,⟨w1,w2⟩,_⟩:=hf;obtain⟨⟨a1,a2⟩,b1,b2⟩:=h;unfold kY;split
 .exact⟨⟨by simp only;omega,by simp only;omega⟩,b1,b2⟩
 .exact⟨⟨a1,a2⟩,by simp only;omega,by simp only;omega⟩
def Cq:∀{l:List U'} {s:Zv},(∀f∈l,f.ok)->Bq2 s.a/\Bq2 s.b->Bq2 (l.foldl (λs f=>kY f s) s).a/\Bq2 (l.foldl (λs f=>kY f s) s).b
 |[],_,_,h=>h
 |f::l,s,hl,h=>Cq (l:=l) (λg hg=>hl g (by simp[hg])) (M6 (hl f (by simp)) h)
def ou{l:List U'}{y high:Int}{s:Zv}(hl:∀f∈l,f.ok)(h:Bq2 s.a/\Bq2 s.b):Bq2 (dJ l y high s).a/\Bq2 (dJ l y high s).b:=
 Cq (λf hf=>hl f (rR.1 hf).1) h
def xj{s:Zv}:∀{l:List U'},(∀f∈l,kY f s=s)->l.foldl (λs f=>kY f s) s=s
 |[],_=>rfl
 |f::l,h=>by rw[j5,h f (by simp)];exact xj λg hg=>h g (by simp[hg])
def qm(s:Zv):∀(l:List U') (a:Int×Bool),(l.foldl (kf s) a=a\/∃f∈l,l.foldl (kf s) a=(f.y+f.h,true))/\(a.2=true->(l.foldl (kf s) a).2=true)/\((∃f∈l,kY f s≠s)->(l.foldl (kf s) a).2=true)
 |[],a=>⟨.inl rfl,id,by simp⟩
 |f::l,a=>by
  obtain⟨h1,h2,h3⟩:=qm s l (kf s a f);have hf:kf s a f=a\/kf s a f=(f.y+f.h,true):=by unfold kf;split<;>simp
  refine⟨?_,λha=>h2 ?_,?_⟩
  .rw[j5];rcases h1 with h1|⟨g,hg,h1⟩
   .rw[h1];rcases hf with hf|hf
    .exact .inl hf
    .exact .inr ⟨f,by simp,hf⟩
   .exact .inr ⟨g,by simp[hg],h1⟩
  .rcases hf with hf|hf<;>rw[hf]
   exact ha
  .rintro⟨g,hg,YA⟩;rcases cg.1 hg with rfl|hg
   .refine h2 ?_;unfold kf;split
    .rename_i h;exact(h.resolve_left YA).1
    .rfl
   .exact h3 ⟨g,hg,YA⟩
def GW{y high:Int}{f:U'}(h:jb y high f=true):y<f.y+f.h:=by
 refine Classical.byContradiction λhn=>?_;have:pX ⟨f.y,f.y+f.h⟩ ⟨y,y+max high 1⟩=⟨0,0⟩:=by
  unfold pX;rw[ar];simp only;omega
 simp[jb,this]at h
def iW{l:List U'}{y high:Int}{s:Zv}(h:(gw l y high s).2=true):∃f∈l,y<f.y+f.h/\(gw l y high s).1=f.y+f.h:=by
 rcases(qm s (l.filter (jb y high)) (0,false)).1 with h1|⟨f,hf,h1⟩
 .unfold gw at h;rw[h1]at h;cases h
 .obtain⟨hl,hm⟩:=rR.1 hf;exact⟨f,hl,GW hm,by unfold gw;rw[h1]⟩
def qt{l:List U'}{y high:Int}{s:Zv}(h:dJ l y high s≠s):(gw l y high s).2=true:=by
 refine(qm s (l.filter (jb y high)) (0,false)).2.2 (Classical.byContradiction λhn=>h (xj λf hf=>Classical.byContradiction λhe=>hn ⟨f,hf,he⟩))
def gtJ(l:List U')(y:Int):Nat:=(l.filter λf=>decide (y<f.y+f.h)).length
def filter_lt{α:Type}{p q:α->Bool}(hpq:∀x,q x=true->p x=true):∀{l:List α},(l.filter q).length<=(l.filter p).length/\((∃x∈l,p x=true/\q x=false)->(l.filter q).length<(l.filter p).length)
 |[]=>by simp
 |a::l=>by
  obtain⟨h1,h2⟩:=filter_lt hpq (l:=l);cases hp:p a<;>cases hq:q a
  .simp only[List.filter_cons,hp,hq,eQ,if_false];refine⟨h1,?_⟩;rintro⟨x,hx,h3,h4⟩;rcases cg.1 hx with rfl|hx
   .rw[hp]at h3;cases h3
   .exact h2 ⟨x,hx,h3,h4⟩
  .rw[hpq a hq]at hp;cases hp
  .simp only[List.filter_cons,hp,hq,eQ,if_false,if_true,ZK];exact⟨by omega,λ_=>by omega⟩
  .simp only[List.filter_cons,hp,hq,if_true,ZK];refine⟨by omega,?_⟩;rintro⟨x,hx,h3,h4⟩;rcases cg.1 hx with rfl|hx
   .rw[hq]at h4;cases h4
   .have:=h2 ⟨x,hx,h3,h4⟩;omega
def Ap{l:List U'}{y z:Int}(h:∃f∈l,y<f.y+f.h/\z=f.y+f.h):gtJ l z<gtJ l y:=by
 obtain⟨f,hf,h1,rfl⟩:=h;exact(filter_lt (p:=λg:U'=>decide (y<g.y+g.h)) (q:=λg:U'=>decide (f.y+f.h<g.y+g.h)) (λg hg=>by simp at hg|-;omega) (l:=l)).2 ⟨f,hf,by simpa using h1,by simp⟩
def yZ(l:List U')(w high:Int)(s:Zv)(y:Int):Bool:=decide (w<=kr (dJ l y high s))||decide (dJ l y high s=s)
def rJ(l:List U')(w high:Int)(s:Zv):Nat->Int->Int
 |0,y=>y
 |k+1,y=>if yZ l w high s y then y else rJ l w high s k (gw l y high s).1
def lY(l:List U')(w high:Int)(s:Zv)(y:Int):Int:=rJ l w high s l.length y
def K9{l:List U'}{y high:Int}{s:Zv}(hl:∀f∈l,f.ok)(h:(gw l y high s).2=true):Bq2 (gw l y high s).1:=by
 obtain⟨f,hf,_,e⟩:=iW h;obtain⟨_,⟨a1,a2⟩,_,b1,b2⟩:=hl f hf;rw[e];exact⟨by omega,by omega⟩
def tQ(l:List U')(high y:Int)(s:Zv):V:=.agg [vI s.a,vI s.b,aG l,vI high,vI y]
def Fw(l:List U')(high y:Int)(s:Zv)(hl:l.length<=1000000)(M':∀f∈l,f.ok)(hy:Bq2 y)(hh:Bq high):aJ prog 269 [tQ l high y s] (bh (dJ l y high s)):=λU=>by
 refine VO.r (by simp[SU]) ?_;have hs:=aa.refl U;refine ab.mix 3 ?_;have e1:(aG l).cells=[aG l]:=rfl;have e2:(aG l).stays=true:=rfl;apply sR;simp only[go_sem,seval,SU,tQ];refine ad λi1 Z1 s1 a1 f1=>?_;replace hs:=hs.trans s1;simp only[go_sem,seval];refine ad λi2 Z2 s2 a2 f2=>?_;replace a1:=s2 _ _ a1;have z2:=hs.none f2;replace hs:=hs.trans s2;simp only[go_sem,seval,a1];refine ab.ay rfl rfl rfl (Gt l y high s hl M' hy hh _) ?_;apply sR;simp only[go_sem,seval,a2,bh];exact ak.pure (hs.ax z2) rfl
def Mb(l:List U')(w high y:Int)(s:Zv)(hl:l.length<=1000000)(M':∀f∈l,f.ok)(hy:Bq2 y)(hh:Bq high)(ZM:Bq2 s.a/\Bq2 s.b):aJ prog 267 [tQ l high y s,vI w] (.bool (yZ l w high s y)):=λU=>by
 refine V0.r (by simp[R3]) ?_;have hs:=aa.refl U;refine ab.mix 5 ?_;have hb:=Fw l high y s hl M' hy hh;have hlen:=JW (dJ l y high s) (ou M' ZM).1 (ou M' ZM).2;unfold yZ;generalize dJ l y high s=b at*;have e1:(aG l).cells=[aG l]:=rfl;have e2:(aG l).stays=true:=rfl;apply sR;simp only[go_sem,seval,R3,tQ];refine ad λi2 Z2 s2 a2 f2=>?_;replace hs:=hs.trans s2;simp only[go_sem,seval,a2];refine Go.cm rfl rfl rfl hb ?_;apply sG;simp only[go_sem,seval];refine Go.cm rfl rfl rfl hlen ?_;by_cases h1:w<=kr b
 .have q:(w<=kr b)=True:=Yd h1;apply sG;simp only[go_sem,seval,q];exact ak.pure hs (by simp)
 .have q:(w<=kr b)=False:=T' h1;apply sG;simp only[go_sem,seval,q,a2];refine Go.cm rfl rfl rfl hb ?_;obtain⟨b1,b2⟩:=b;obtain⟨s1,s2⟩:=s;apply sG;simp only[go_sem,seval,a2,bh];refine ak.pure hs ?_;by_cases h2:b1=s1<;>by_cases h3:b2=s2<;>simp[h2,h3]
def IG(l:List U')(w high y:Int)(s:Zv)(hl:l.length<=1000000)(M':∀f∈l,f.ok)(hy:Bq2 y)(hh:Bq high)(ZM:Bq2 s.a/\Bq2 s.b):
 aJ prog 222 [aG l,vI w,vI high,vI y,bh s] (.P' [bh (dJ l (lY l w high s y) high s),vI (lY l w high s y)]):=λU=>by
 refine WK.r (by simp[Pt]) ?_;have hs:=aa.refl U;refine ab.mix 13 ?_;have e1:(aG l).cells=[aG l]:=rfl;have e2:(aG l).stays=true:=rfl;apply sR;simp only[go_sem,seval,Pt,bh];refine ad λi9 Z9 s9 a9 f9=>?_;replace hs:=hs.trans s9;simp only[go_sem,seval];refine ad λYM Z10 s10 YX f10=>?_;replace a9:=s10 _ _ a9;have z10:=hs.none f10;replace hs:=hs.trans s10;simp only[go_sem,seval,a9,e1,e2];refine ad λi12 Z12 s12 a12 f12=>?_;have n912:=ao a9 f12;replace a9:=s12 _ _ a9;have n1012:=ao YX f12;replace YX:=s12 _ _ YX;have z12:=hs.none f12;replace hs:=hs.trans s12;simp only[go_sem,seval,a12];generalize hq12:C' _ i12 _=Y12;replace a12:=(congrFun hq12 i12).symm.trans ag;replace a9:=((congrFun hq12 i9).symm.trans (ae n912)).trans a9;replace YX:=((congrFun hq12 YM).symm.trans (ae n1012)).trans YX;replace hs:=Eq.subst (motive:=aa _) hq12 (hs.ax z12);clear hq12;obtain⟨z,hz⟩:∃z,z=lY l w high s y:=⟨_,rfl⟩
 rw[<-hz];refine ab.fj (λst=>∃J,st.U=J/\aa U J/\J i12=some ⟨344,5,[tQ l high z s]⟩/\J YM=some ⟨288,2,[.agg [vI 0,vI 0]]⟩/\st.s 10=.ptr YM 0 0/\st.s 12=.ptr i12 0 0/\Bq2 z)
  (λm st=>∃(y':Int) (k:Nat),m=gtJ l y'/\gtJ l y'<=k/\z=rJ l w high s k y'/\Bq2 y'/\aa U st.U/\st.U i12=some ⟨344,5,[tQ l high y' s]⟩/\st.U YM=some ⟨288,2,[.agg [vI 0,vI 0]]⟩/\st.s 1=vI w/\st.s 10=.ptr YM 0 0/\st.s 12=.ptr i12 0 0) (gtJ l y) ?_ ?_ ?_
 .exact⟨y,l.length,rfl,List.length_filter_le _ _,hz,hy,hs,a12,YX,rfl,rfl,rfl⟩
 .rintro m ⟨S,J⟩ ⟨y',k,rfl,hk,hzk,hy',hs,b12,b10,k1,k10,k12⟩;simp only at hs b12 b10 k1 k10 k12;refine ab.mix 13 ?_;rw[tQ]at b12;apply sR;simp only[go_sem,seval,k1,k12,b12];refine ab.ay rfl rfl rfl (Mb l w high y' s hl M' hy' hh ZM _) ?_;cases hf:yZ l w high s y'
  .have YA:dJ l y' high s≠s:=λe=>by simp[yZ,e]at hf
   have hfd:=qt YA;have hdec:=Ap (iW hfd);apply sR;simp only[go_sem,seval,k12,b12];refine ab.ay rfl rfl rfl (Ji l y' high s hl M' hy' hh _) ?_;apply sR;simp only[go_sem,seval,k1,k10,k12,b12];obtain⟨k',rfl⟩:∃k',k=k'+1:=⟨k-1,by omega⟩
   rw[rJ,hf]at hzk;refine⟨_,hdec,_,k',rfl,by omega,by simpa using hzk,K9 M' hfd,hs.ax z12,rfl,?_⟩;rw[ae n1012];exact b10
  .have hzy:z=y':=by cases k<;>simp[rJ,hf]at hzk<;>exact hzk
   subst hzy;apply sR;simp only[go_sem,seval,k10,k12];exact⟨J,rfl,hs,b12,b10,hy'⟩
 .rintro⟨S,J⟩ ⟨X',rfl,hs,b12,b10,k10,k12,hz2⟩;simp only at hs b12 b10 k10 k12;rw[tQ]at b12;refine ab.mix 13 ?_;apply sR;simp only[go_sem,seval];refine ab.uA (by kernel_rfl) [0,2,3,1,4,5] [[],[0],[],[2],[0,1],[0,1,2,3,4]] [0,4,6,2,7,8,7,10] (by kernel_rfl) (by kernel_rfl) ?_;refine RE.Zy (n:=0) [2,7,8,7,10] [0,4,6] [⟨(.some 35),(.load .true 5 (.t 12)),.none⟩,⟨(.some 37),(.YB .false 4 1 (.t 12)),.none⟩,⟨(.some 38),(.load .false 1 (.t 37)),.none⟩] rfl rfl ?_;apply sG;simp only[go_sem,seval,k12,b12];refine RE.ay rfl rfl rfl rfl rfl (Fw l high z s hl M' hz2 hh _) ?_;refine RE.chk rfl rfl rfl rfl rfl trivial (by simp only[go_sem,seval,b12]) ?_;refine RE.Zy (n:=0) [7,10] [8] [⟨.none,(.store 2 (.t 10) (.t 36)),.none⟩] rfl rfl ?_;apply sG;simp only[go_sem,seval,k10,b10,bh];refine RE.chk rfl rfl rfl rfl rfl trivial (by simp only[go_sem,seval,b12,ae n1012.symm]) ?_;refine RE.Zy (n:=0) [] [10] [⟨(.some 11),(.YH (.t 38)),.none⟩] rfl rfl ?_;apply sG;simp only[go_sem,seval];apply sR;simp only[go_sem,seval,k10,ag];exact ak.pure (hs.ax z10) rfl
open Go.Proofs Go.Proofs.Tryz
def oq(e sz b:Nat):Yb:=⟨8,.seq (.reg false [⟨some 2,.YH (.c .aC),none⟩]) (.seq (.seq (.reg false [⟨some 3,.YH (.t 0),none⟩,⟨some 4,.Zz false (.t 3) (.c (.iface 0 .undef)),none⟩]) (.cond (.t 4) (.seq (.reg false [⟨some 2,.YH (.c .aC),none⟩]) .ret) .skip)) (.seq (.reg false [⟨some 5,.eR e sz [],none⟩,⟨some 6,.YH (.t 0),none⟩,⟨some 7,.append e sz b (.t 5) (.t 6),none⟩,⟨some 2,.YH (.t 7),none⟩]) .ret)),[.tmp (.t 2)]⟩
def vg{P:Program}{f:FuncId}{fn:Func}(hf:P.funcs[f]?=some fn){e sz b:Nat}(hc:cfn P fn=some (oq e sz b))(hk:bV P f=true)(rows:List V)(hb:rows.length*(b+1)<=140737488355328)(U:af):
 au P f [.sl sz rows] U λr Z'=>aa U Z'/\aL U Z' e sz r rows:=by
 refine au.jT hf hc hk (by simp[oq]) ?_;refine ab.mix 3 ?_
 (refine ab.bg ZQ.nothing 8 ?_;simp only[go_sem,seval,fw,oq])
 refine ab.HD rfl rfl rfl λt ht=>?_;cases t
 .apply sR;simp only[go_sem,seval];refine ad λid1 Z1 s1 a1 f1=>?_;obtain⟨Yn,hd,Zk⟩:=(aL.new (K:=U) (e:=e) (sz:=sz) (n:=0) (rows:=[]) rfl a1 f1).dst (aa.refl _);have hsrc:∀U,bz U sz (.sl sz rows)=some rows:=λU=>by simp[bz]
  simp only[go_sem,seval,hd,hsrc,hb];refine cO λid2 Z2 s2 a2 f2=>?_;have hs2:=(Zk U (aa.refl _) Z1 s1).trans s2;simp only[go_sem,seval];exact⟨_,_,aa.refl _,Wk.refl (aa.refl _) _,hs2,aL.new (by simp) a2 (s1.none f2)⟩
 .apply sR;simp only[go_sem,seval];obtain rfl:rows=[]:=ht rfl;exact⟨_,_,aa.refl _,Wk.refl (aa.refl _) _,aa.refl _,aL.start⟩
def Cl{P:Program}{f:FuncId}{fn:Func}(hf:P.funcs[f]?=some fn){e sz b:Nat}(hc:cfn P fn=some (oq e sz b))(hk:bV P f=true)(rows:List V)(hb:rows.length*(b+1)<=140737488355328):
 aJ P f [.sl sz rows] (.sl sz rows):=λU=>(vg hf hc hk rows hb U).Aj λ_ _ h=>h.2.Ke h.1 rfl
def dH(l:List U'):(aG l).cells=[aG l]:=rfl
def dF(l:List U'):(aG l).stays=true:=rfl
def mR{tell:U'->Int×Bool}{l:List U'}(h:(dP tell l).2=true):∃f∈l,(dP tell l).1=(tell f).1/\(tell f).2=true:=by
 have key:∀(l:List U') (a:Int×Bool),l.foldl (ve tell) a=a\/∃f∈l,l.foldl (ve tell) a=((tell f).1,true)/\(tell f).2=true:=by
  intro l
  induction l with
  |nil=>intro a;exact .inl rfl
  |cons g l ih=>
   intro a;rw[j5];rcases ih (ve tell a g)with h|⟨f,hf,h,h'⟩
   .rw[h];unfold ve;split
    .rename_i hc;exact .inr ⟨g,by simp,rfl,hc.1⟩
    .exact .inl rfl
   .exact .inr ⟨f,by simp[hf],h,h'⟩
 rcases key l (0,false)with h1|⟨f,hf,h1,h2⟩
 .unfold dP at h;rw[h1]at h;cases h
 .exact⟨f,hf,by unfold dP;rw[h1],h2⟩
def pQ(l:List U')(w high:Int)(s:Zv)(y:Int):Bool:=!(gw l y high s).2||decide (kr (dJ l y high s)>=w)
def lW(l:List U')(w high:Int)(s:Zv):Nat->Int->Int
 |0,y=>y
 |k+1,y=>if pQ l w high s y then y else lW l w high s k (gw l y high s).1
def qG(l:List U')(w high:Int)(s:Zv)(y:Int):Int:=lW l w high s l.length y
def BN(f:U')(l:List U')(s:Zv):V:=.agg [vI f.node,vI f.side,vI f.anchor,vI f.x,vI f.y,vI f.w,vI f.h,aG l,vI s.a,vI s.b]
def Mx(l:List U')(f:U')(y:Int)(s:Zv)(hl:l.length<=1000000)(M':∀f∈l,f.ok)(hy:Bq2 y)(hh:Bq f.h)(ZM:Bq2 s.a/\Bq2 s.b):
 aJ prog 309 [BN f l s,vI y] (.P' [bh (dJ l (qG l f.w f.h s y) f.h s),vI (qG l f.w f.h s y)]):=λU=>by
 refine Vq.r (by simp[Si]) ?_;have hs:=aa.refl U;refine ab.mix 9 ?_;apply sR;simp only[go_sem,seval,Si,BN];refine ad λi2 Z2 s2 a2 f2=>?_;replace hs:=hs.trans s2;simp only[go_sem,seval];refine ad λi4 Z4 s4 a4 f4=>?_;replace a2:=s4 _ _ a2;have z4:=hs.none f4;replace hs:=hs.trans s4;simp only[go_sem,seval];obtain⟨z,hz⟩:∃z,z=qG l f.w f.h s y:=⟨_,rfl⟩
 rw[<-hz];refine ab.loop (λm st=>∃(y':Int) (k:Nat),m=gtJ l y'/\gtJ l y'<=k/\z=lW l f.w f.h s k y'/\Bq2 y'/\aa U st.U/\st.U i2=some ⟨388,10,[BN f l s]⟩/\st.U i4=some ⟨288,2,[.agg [vI 0,vI 0]]⟩/\st.s 1=vI y'/\st.s 2=.ptr i2 0 0/\st.s 4=.ptr i4 0 0) (gtJ l y) ?_ ?_
 .exact⟨y,l.length,rfl,List.length_filter_le _ _,hz,hy,hs,a2,a4,rfl,rfl,rfl⟩
 .rintro m ⟨S,J⟩ ⟨y',k,rfl,hk,hzk,hy',hs,b2,b4,k1,k2,k4⟩;simp only at hs b2 b4 k1 k2 k4;refine ab.mix 9 ?_;rw[BN]at b2;have hb:=ou (y:=y') (high:=f.h) M' ZM;apply sR;simp only[go_sem,seval,k1,k2,b2];refine ab.ay rfl rfl rfl (Gt l y' f.h s hl M' hy' hh _) ?_;apply sR;simp only[go_sem,seval,bh];refine ad λi6 Z6 s6 a6 f6=>?_;have n26:=ao b2 f6;have n46:=ao b4 f6;replace b2:=s6 _ _ b2;replace b4:=s6 _ _ b4;have z6:=hs.none f6;replace hs:=hs.trans s6;simp only[go_sem,seval,a6,b2,k1,k2,ae n26];generalize hq:C' _ i6 _=Y6;have a6':=(congrFun hq i6).symm.trans ag;have b2':=((congrFun hq i2).symm.trans (ae n26)).trans b2;have b4':=((congrFun hq i4).symm.trans (ae n46)).trans b4;replace hs:=Eq.subst (motive:=aa _) hq (hs.ax z6);refine ab.ay rfl rfl rfl (Ji l y' f.h s hl M' hy' hh _) ?_;have hex:pQ l f.w f.h s y'=true->z=y':=λh=>by cases k<;>simp[lW,h]at hzk<;>exact hzk
  have hlen:=JW (dJ l y' f.h s) hb.1 hb.2;have hgo:pQ l f.w f.h s y'=false->∃k',k=k'+1/\gtJ l (gw l y' f.h s).1<gtJ l y'/\z=lW l f.w f.h s k' (gw l y' f.h s).1/\Bq2 (gw l y' f.h s).1:=λh=>by
   have h2:(gw l y' f.h s).2=true:=by
    simp only[pQ,Bool.or_eq_false_iff,Bool.not_eq_false']at h;exact h.1
   have hdec:=Ap (iW h2);obtain⟨k',rfl⟩:∃k',k=k'+1:=⟨k-1,by omega⟩
   rw[lW,h]at hzk;exact⟨k',rfl,hdec,by simpa using hzk,K9 M' h2⟩
  unfold pQ at hex hgo;cases hn:(gw l y' f.h s).2
  .rw[hn]at hex;obtain rfl:=hex (by simp);apply sR;simp only[go_sem,seval,k1,k4,a6',b4'];exact ak.pure (hs.ax z4) rfl
  .rw[hn]at hex hgo;apply sR;simp only[go_sem,seval,a6'];refine Go.cm rfl rfl rfl hlen ?_;by_cases hw:kr (dJ l y' f.h s)>=f.w
   .have q:(kr (dJ l y' f.h s)>=f.w)=True:=Yd hw;obtain rfl:=hex (by simp[hw]);apply sG;simp only[go_sem,seval,k1,k2,k4,a6',b4',b2',q];exact ak.pure (hs.ax z4) rfl
   .have q:(kr (dJ l y' f.h s)>=f.w)=False:=T' hw;obtain⟨k',rfl,h1,h2,h3⟩:=hgo (by simp[hw]);apply sG;simp only[go_sem,seval,k2,k4,b4',b2',q];refine⟨_,h1,_,k',rfl,by omega,h2,h3,hs,?_⟩;exact⟨by rw[BN],rfl⟩
structure WOk(ws:List Int)(space:Int):Prop where
 len:ws.length<=100000
 rng:∀x∈ws,0<=x/\x<=1099511627776
 s0:0<=space
 s1:space<=1099511627776
def ga(space:Int):List Int->Nat->Int->List (Nat×Int)
 |[],_,_=>[]
 |x::r,k,n=>(k+1,n+space+x)::ga space r (k+1) (n+space+x)
def qV(space width:Int):List Int->Nat->Int->Nat×Int
 |[],k,n=>(k,n)
 |x::r,k,n=>if n+space+x>width then(k,n)else qV space width r (k+1) (n+space+x)
def kZ(ws:List Int)(space width:Int)(i:Nat):Nat×Int:=qV space width (ws.drop (i+1)) (i+1) (ws.getD i 0)
def ub(space width:Int):∀(r:List Int) (k:Nat) (n:Int),k<=(qV space width r k n).1/\(qV space width r k n).1<=k+r.length
 |[],k,n=>by simp[qV]
 |x::r,k,n=>by
  rw[qV];split
  .simp
  .have:=ub space width r (k+1) (n+space+x);simp only[ZK];omega
def BT{ws:List Int}{space width:Int}{i:Nat}(h:i<ws.length):i<(kZ ws space width i).1/\(kZ ws space width i).1<=ws.length:=by
 have:=ub space width (ws.drop (i+1)) (i+1) (ws.getD i 0);rw[qF]at this;unfold kZ;omega
def WOk.get{ws:List Int}{space:Int}(h:WOk ws space){i:Nat}(hi:i<ws.length):0<=ws[i]/\ws[i]<=1099511627776:=h.rng _ (Zr hi)
open Go.Proofs Go.Proofs.Tryz
def ldI(U:af)(l:List Int):bB U false 1 (.rp (bl l))=some (bl l):=rfl
def cJ(l:List Int):(bl l).cells=[bl l]:=rfl
def gV(l:List Int):(bl l).stays=true:=rfl
def iQ{U:af}{l:List Int}{i:Nat}(h:i<l.length):bo U 1 (bl l) (.int .i64 i)=some (.rp (vI l[i])):=by simp[bl,bo,h]
def fo(l:List Int):cW false (bl l)=some (.int .i64 l.length):=by simp[bl,cW]
def lk(ws:List Int)(space:Int):V:=.agg [bl ws,vI space]
def UK(ws:List Int)(space:Int):l4 false 0 1 (.rp (lk ws space))=some (.rp (bl ws)):=rfl
def Tm(ws:List Int)(space:Int):l4 false 1 1 (.rp (lk ws space))=some (.rp (vI space)):=rfl
def Cg(ws:List Int)(space:Int):(lk ws space).cells=[bl ws,vI space]:=rfl
def BR(ws:List Int)(space:Int):(lk ws space).stays=true:=rfl
def Uo(ws:List Int)(space i:Int):aJ prog 326 [lk ws space,vI i] (.bool (decide (i<0\/i>=ws.length))):=λU=>by
 refine Vk.r (by simp[Rq]) ?_;have hs:=aa.refl U;have hn:=fo ws;apply sR;simp only[go_sem,seval,Rq,lk];refine ad λi2 Z2 s2 a2 f2=>?_;replace hs:=hs.trans s2;by_cases h:i<0
 .have q:(i<0)=True:=Yd h;simp only[go_sem,seval,q];exact ak.pure hs (by simp)
 .have q:(i<0)=False:=T' h;simp only[go_sem,seval,a2,q,hn];exact ak.pure hs (by simp)
def fC(l:List (Nat×Int)):List (List V):=l.map λp=>[vI p.1,vI p.2]
def H3(ws:List Int)(space:Int)(hw:WOk ws space)(i:Nat)(hi:i<ws.length):Iter prog 335 [.rp (lk ws space),.rp (vI i)] (fC (ga space (ws.drop i) i (0-space))):=by
 refine⟨TD.c,λYp τ Jx Z0 hy hJ=>?_⟩;refine(TD.r (by simp[Qo]) ?_).2;have YL:=hw.s0;have ZM:=hw.s1;have hln:=hw.len;have hn:=fo ws;have r0:Yl .i64 (0-space):=ai;refine ab.mix 6 ?_;apply sR;simp only[BB,seval,aX,ez,aE,ef,ZQ.nothing,Qo,Tm,r0];refine ab.loop (λm st=>∃(pre:List (Nat×Int)) (j:Nat) (n:Int) (ZJ:af),m=ws.length-j/\i<=j/\j<=ws.length/\-1099511627776<=n/\n<=2199023255552*j/\ga space (ws.drop i) i (0-space)=pre++ga space (ws.drop j) j n/\
  τ (fC pre) ZJ/\aa ZJ st.U/\st.s 0=.yl Yp/\st.s 1=.rp (lk ws space)/\st.s 4=vI n/\st.s 5=vI j) (ws.length-i) ?_ ?_
 .exact⟨[],i,0-space,Z0,rfl,by omega,by omega,by omega,by omega,rfl,hJ,aa.refl _,rfl,rfl,rfl,rfl⟩
 .rintro m ⟨s,Z'⟩ ⟨pre,j,n,ZJ,rfl,hij,hj,hn1,hn2,hxs,hJp,G',t0,t1,t4,t5⟩;simp only at G' t0 t1 t4 t5;refine ab.mix 6 ?_;by_cases H':j<ws.length
  .have q:((j:Int)<ws.length)=True:=Yd;have hx:=hw.get H';have X2:=λU=>iQ (U:=U) H';rw[ia H',ga]at hxs;generalize ws[j]=w at*;have r1:Yl .i64 (space+w):=ai;have r2:Yl .i64 (n+(space+w)):=ai;have r3:Yl .i64 ((j:Int)+1):=ai;have en:n+space+w=n+(space+w):=by omega
   rw[en]at hxs;have e:fC (ga space (ws.drop i) i (0-space))=fC pre++[vI ((j:Int)+1),vI (n+(space+w))]::fC (ga space (ws.drop (j+1)) (j+1) (n+(space+w))):=by rw[hxs];simp[fC]
   apply sR;simp only[BB,seval,aX,ez,aE,dW,iS,ZQ.nothing,t0,t1,t4,t5,hn,q,ldI,UK,Tm,X2,r1,r2,r3];refine ab.nb (Post:=λb Z2=>∃Yr,aT ZJ Z' Yr Z2/\((b=true/\τ (fC pre++[[vI ((j:Int)+1),vI (n+(space+w))]]) Yr)\/(b=false/\Jx (fC pre++[[vI ((j:Int)+1),vI (n+(space+w))]]) Yr))) rfl rfl rfl (hy _ _ _ ZJ Z' e hJp G') ?_;rintro b Z2 ⟨Yr,ZU,Zn⟩;rcases Zn with⟨rfl,Zn⟩|⟨rfl,Zn⟩
   .apply sR;simp only[go_sem,seval,t0,t1,t5,r3];refine⟨_,?_,pre++[(j+1,n+(space+w))],j+1,n+(space+w),Yr,rfl,by omega,by omega,by omega,by omega,by rw[hxs];simp,?_,ZU.1,by simp⟩
    .omega
    .simpa[fC]using Zn
   .apply sR;simp only[go_sem,seval];refine⟨_,Yr,ZU.1,Wk.refl ZU.1 _,.inr ⟨_,?_,Zn⟩⟩;rw[e];exact⟨fC (ga space (ws.drop (j+1)) (j+1) (n+(space+w))),by simp⟩
  .have q:((j:Int)<ws.length)=False:=T';apply sR;simp only[BB,seval,aX,ez,aE,dW,iS,fZ,ZQ.nothing,t1,t5,hn,q,ldI,UK];rw[show ws.drop j=[]from List.drop_of_length_le (by omega),ga,lH]at hxs;exact⟨_,ZJ,G',Wk.refl G' _,.inl (by rw[hxs];exact hJp)⟩
def P9(ws:List Int)(space:Int)(i:Int):aJ prog 327 [lk ws space,vI i] (.fn 335 [.rp (lk ws space),.rp (vI i)]):=λU=>by
 refine WN.r (by simp[RU]) ?_;refine ab.mix 4 ?_;have q1:=Cg ws space;have q2:=BR ws space;have q3:(lk ws space).cells.length=2:=rfl;generalize hx:lk ws space=x at*;apply sR;simp only[go_sem,seval,RU,q1,q2];refine ad λid1 Z1 s1 a1 f1=>?_;simp only[go_sem,seval];refine ad λid2 Z2 s2 a2 f2=>?_;simp only[go_sem,seval];exact⟨_,U,s1.trans s2,Wk.fn (vs':=[.rp x,.rp (vI i)]) ⟨Wk.ptr (s1.trans s2) (s2 _ _ a1) f1,Wk.ptr (s1.trans s2) a2 (s1.none f2),trivial⟩,rfl,rfl⟩
open Go.Proofs Go.Proofs.Tryz
def yC(i j n:Int):V:=.agg [vI i,vI j,vI n]
structure TkJ(ws:List Int)(space width:Int)(i:Nat)(U:af)(id6 id7 id8 id10:Nat)(pre:List (List V))(v:V)(ZJ:af):Prop where
 sub:aa U ZJ
 r8:ZJ id8=some ⟨377,3,[.agg [vI 0,vI 0,vI 0]]⟩
 r6:ZJ id6=some ⟨3,1,[vI width]⟩
 r7:ZJ id7=some ⟨3,1,[vI i]⟩
 r10:ZJ id10=some ⟨377,3,[v]⟩
 st:(pre=[]/\v=.agg [vI 0,vI 0,vI 0])\/∃n:Int,0<pre.length/\i+pre.length<=ws.length/\fC (ga space (ws.drop i) i (0-space))=pre++fC (ga space (ws.drop (i+pre.length)) (i+pre.length) n)/\
  kZ ws space width i=qV space width (ws.drop (i+pre.length)) (i+pre.length) n/\v=.agg [vI i,vI (i+pre.length:Nat),vI n]
def Nl(ws:List Int)(space width:Int)(hw:WOk ws space)(i:Nat)(hi:i<ws.length):aJ prog 302 [bl ws,vI space,vI width,vI i] (yC i (kZ ws space width i).1 (kZ ws space width i).2):=λU=>by
 refine WX.r (by simp[O9]) ?_;have hs:=aa.refl U;have hln:=hw.len;refine ab.mix 13 ?_;apply sR;simp only[go_sem,seval,O9];refine ad λi6 Z6 s6 a6 f6=>?_;replace hs:=hs.trans s6;simp only[go_sem,seval];refine ad λi7 Z7 s7 a7 f7=>?_;replace a6:=s7 _ _ a6;replace hs:=hs.trans s7;simp only[go_sem,seval];refine ad λi8 Z8 s8 a8 f8=>?_;replace a6:=s8 _ _ a6;replace a7:=s8 _ _ a7;have z8:=hs.none f8;replace hs:=hs.trans s8;simp only[go_sem,seval,cJ,gV];refine ad λi9 Z9 s9 a9 f9=>?_;have n69:=ao a6 f9;replace a6:=s9 _ _ a6;have n79:=ao a7 f9;replace a7:=s9 _ _ a7;have n89:=ao a8 f9;replace a8:=s9 _ _ a8;have z9:=hs.none f9;replace hs:=hs.trans s9;simp only[go_sem,seval,a9,a7,ae n79];generalize Zs:C' _ i9 _=Y9;replace a9:=(congrFun Zs i9).symm.trans ag;replace a6:=((congrFun Zs i6).symm.trans (ae n69)).trans a6;replace a7:=((congrFun Zs i7).symm.trans (ae n79)).trans a7;replace a8:=((congrFun Zs i8).symm.trans (ae n89)).trans a8;replace hs:=Eq.subst (motive:=aa _) Zs (hs.ax z9);clear Zs;have hf:=Uo ws space i;rw[show decide ((i:Int)<0\/(i:Int)>=ws.length)=false by simp;omega]at hf;refine ab.ay rfl rfl rfl (hf _) ?_;apply sR;simp only[go_sem,seval];refine ad λYM Z10 s10 YX f10=>?_;have n610:=ao a6 f10;replace a6:=s10 _ _ a6;have n710:=ao a7 f10;replace a7:=s10 _ _ a7;have n810:=ao a8 f10;replace a8:=s10 _ _ a8;replace a9:=s10 _ _ a9;have z10:=hs.none f10;replace hs:=hs.trans s10;simp only[go_sem,seval,a9,a7];refine ab.ay rfl rfl rfl (P9 ws space i _) ?_;apply sR;simp only[go_sem,seval];generalize hS:mix 13 _ _=S;have S6:S 6=.ptr i6 0 0:=by rw[<-hS];rfl
 have S7:S 7=.ptr i7 0 0:=by rw[<-hS];rfl
 have S8:S 8=.ptr i8 0 0:=by rw[<-hS];rfl
 have S10:S 10=.ptr YM 0 0:=by rw[<-hS];rfl
 have S22:S 22=.fn 335 [.rp (lk ws space),.rp (vI i)]:=by rw[<-hS];rfl
 clear hS;have hit:=H3 ws space hw i hi;have hdr:ws.drop i=ws[i]::ws.drop (i+1):=ia hi;have hgd:ws.getD i 0=ws[i]:=by simp[hi]
 have fin:∀(J:af) (w:V),aa U J->J i8=some ⟨377,3,[.agg [vI 0,vI 0,vI 0]]⟩->J YM=some ⟨377,3,[yC i (kZ ws space width i).1 (kZ ws space width i).2]⟩->
  ab prog 39 [It.code (.seq (.reg false [⟨some 38,.load true 3 (.t 10),none⟩,⟨none,.store 3 (.t 8) (.t 38),none⟩]) .ret)] ⟨S,J⟩ (λst=>Ret [VR.cell true 3 (VX.t 8)] st λr Z'=>r=yC i (kZ ws space width i).1 (kZ ws space width i).2/\Z'=U):=by
  intro J w h1 h2 h3;refine ab.mix 13 ?_;rw[yC]at h3;apply sR;simp only[go_sem,seval,S8,S10,h2,h3];exact ak.pure (h1.ax z8) rfl
 refine ab.cA (g:=.t 22) (caps:=[.rp (lk ws space),.rp (vI i)]) S22 hit (λx hx=>?_) [0] (λpre ZJ=>∃v,TkJ ws space width i U i6 i7 i8 YM pre v ZJ)
  (λe pre ZJ=>e=some 0/\aa U ZJ/\ZJ i8=some ⟨377,3,[.agg [vI 0,vI 0,vI 0]]⟩/\ZJ YM=some ⟨377,3,[yC i (kZ ws space width i).1 (kZ ws space width i).2]⟩) ?_ ?_ ?_ ?_ ?_
 .obtain⟨t,_,rfl⟩:=gg.1 hx;rfl
 .exact⟨_,hs,a8,a6,a7,YX,.inl ⟨rfl,rfl⟩⟩
 .rintro pre x post ZJ ZB hxs ⟨v,τ⟩ G';have b6:=G' _ _ τ.r6;have b7:=G' _ _ τ.r7;have b10:=G' _ _ τ.r10;rcases τ.st with⟨rfl,rfl⟩|⟨n,hp,hpl,hr,Zb,rfl⟩
  .obtain rfl:x=[vI ((i:Int)+1),vI ws[i]]:=by
    rw[hdr]at hxs;simp only[ga,fC,dS,kA,List.cons.injEq]at hxs;rw[<-hxs.1];simp only[Int.sub_add_cancel,Int.zero_add];rw[show((i+1:Nat):Int)=(i:Int)+1 by omega]
   refine ab.mix 13 ?_;generalize hSS:kW S [23,24] _=S0;have T6:S0 6=.ptr i6 0 0:=by rw[<-hSS];exact S6
   have T7:S0 7=.ptr i7 0 0:=by rw[<-hSS];exact S7
   have T10:S0 10=.ptr YM 0 0:=by rw[<-hSS];exact S10
   have T23:S0 23=vI ((i:Int)+1):=by rw[<-hSS];rfl
   have T24:S0 24=vI ws[i]:=by rw[<-hSS];rfl
   clear hSS;have r1:Yl .i64 ((i:Int)+1):=ai;have q:((i:Int)+1>(i:Int)+1)=False:=T';apply sR;simp only[go_sem,seval,T23,T24];apply sR;simp only[go_sem,seval,T7,T10,b7,b10,r1,q];refine⟨_,(aT.refl G').set τ.r10,_,τ.sub.ax z10,by rw[ae n810];exact τ.r8,by rw[ae n610];exact τ.r6,by rw[ae n710];exact τ.r7,ag,.inr ⟨ws[i],by simp,by simp;omega,?_,?_,?_⟩⟩
   .rw[hdr,ga];simp only[Int.sub_add_cancel,Int.zero_add,fC,dS,kA,ZK,List.length_nil,List.cons_append];rw[show((i+1:Nat):Int)=(i:Int)+1 by omega]
   .unfold kZ;rw[hgd];rfl
   .simp
  .have H':i+pre.length<ws.length:=by
    rcases Nat.lt_or_ge (i+pre.length) ws.length with h|h
    .exact h
    .exfalso;rw[List.drop_of_length_le h]at hr;rw[hr]at hxs;have:=congrArg List.length hxs;simp[ga,fC]at this
   have hd2:ws.drop (i+pre.length)=ws[i+pre.length]::ws.drop (i+pre.length+1):=ia H';obtain rfl:x=[vI ((i:Int)+pre.length+1),vI (n+space+ws[i+pre.length])]:=by
    rw[hr,hd2]at hxs;have h2:=List.append_cancel_left hxs;simp only[ga,fC,dS,List.cons.injEq]at h2;rw[<-h2.1];rw[show((i+pre.length+1:Nat):Int)=(i:Int)+pre.length+1 by omega]
   rw[hd2,qV]at Zb;refine ab.mix 13 ?_;generalize hSS:kW S [23,24] _=S0;have T6:S0 6=.ptr i6 0 0:=by rw[<-hSS];exact S6
   have T7:S0 7=.ptr i7 0 0:=by rw[<-hSS];exact S7
   have T10:S0 10=.ptr YM 0 0:=by rw[<-hSS];exact S10
   have T23:S0 23=vI ((i:Int)+pre.length+1):=by rw[<-hSS];rfl
   have T24:S0 24=vI (n+space+ws[i+pre.length]):=by rw[<-hSS];rfl
   clear hSS;have r1:Yl .i64 ((i:Int)+1):=ai;have q:((i:Int)+pre.length+1>(i:Int)+1)=True:=Yd;apply sR;simp only[go_sem,seval,T23,T24];by_cases hw2:n+space+ws[i+pre.length]>width
   .have q2:(n+space+ws[i+pre.length]>width)=True:=Yd hw2;rw[ar hw2]at Zb;apply sR;simp only[go_sem,seval,T6,T7,b6,b7,r1,q,q2];refine⟨_,aT.refl G',τ.sub,τ.r8,?_⟩;rw[τ.r10,Zb];rfl
   .have q2:(n+space+ws[i+pre.length]>width)=False:=T' hw2;rw[av hw2]at Zb;apply sR;simp only[go_sem,seval,T6,T7,T10,b6,b7,b10,r1,q,q2];have hpl2:(pre++[[vI ((i:Int)+pre.length+1),vI (n+space+ws[i+pre.length])]]).length=pre.length+1:=by simp
    refine⟨_,(aT.refl G').set τ.r10,_,τ.sub.ax z10,by rw[ae n810];exact τ.r8,by rw[ae n610];exact τ.r6,by rw[ae n710];exact τ.r7,ag,.inr ⟨n+space+ws[i+pre.length],by omega,by omega,?_,?_,?_⟩⟩
    .rw[hr,hd2,hpl2,ga];simp only[fC,dS,lz,List.cons_append,kA];rw[show((i+pre.length+1:Nat):Int)=(i:Int)+pre.length+1 by omega];rfl
    .rw[hpl2];exact Zb
    .rw[hpl2,show((i+(pre.length+1):Nat):Int)=(i:Int)+pre.length+1 by omega]
 .rintro Z' ⟨v,τ⟩;rcases τ.st with⟨h0,rfl⟩|⟨n,hp,hpl,hr,Zb,rfl⟩
  .exfalso;rw[hdr]at h0;simp[ga,fC]at h0
  .have he:fC (ga space (ws.drop (i+(fC (ga space (ws.drop i) i (0-space))).length)) (i+(fC (ga space (ws.drop i) i (0-space))).length) n)=[]:=by
    have:=congrArg List.length hr;rw[gZ]at this;exact xz (by omega)
   generalize (fC (ga space (ws.drop i) i (0-space))).length=p at*;have hd:ws.drop (i+p)=[]:=by
    cases h:ws.drop (i+p)with
    |nil=>rfl
    |cons a b=>rw[h]at he;simp[ga,fC]at he
   rw[hd,qV]at Zb;refine ab.inBlock (fin Z' .aC τ.sub τ.r8 ?_);rw[τ.r10,Zb];rfl
 .intro id O' pre Z' _ ⟨h0,h1,h2,h3⟩;obtain rfl:id=0:=by simpa using O'
  refine ab.exit rfl ?_;exact fin Z' .aC h1 h2 h3
 .rintro pre Z' _ ⟨h0,_⟩;cases h0
open Go.Proofs Go.Proofs.Tryz
def vW(p:Pn)(n:Int):Pn:=⟨if n>0 then p.y+p.m+n else p.y,if n>0 then 0 else p.m⟩
def eg(p:Pn)(mg n:Int):Pn:=vW ⟨p.y,max p.m mg⟩ n
def mA(p:Pn)(mg n:Int):Pn:=⟨(vW p n).y,max (vW p n).m mg⟩
def Gy(p:Pn)(mg n:Int)(h1:Bq p.y)(h2:Bq p.m)(h3:Bq mg)(h4:Bq n):aJ prog 217 [gW p,vI mg,vI n] (gW (eg p mg n)):=λU=>by
 refine U3.r (by simp[Qr]) ?_;have hs:=aa.refl U;refine ab.mix 10 ?_;apply sR;simp only[go_sem,seval,Qr,gW];refine ad λi3 Z3 s3 a3 f3=>?_;replace hs:=hs.trans s3;simp only[go_sem,seval];refine ad λi6 Z6 s6 a6 f6=>?_;replace a3:=s6 _ _ a3;have z6:=hs.none f6;replace hs:=hs.trans s6;simp only[go_sem,seval,a3];refine ad λi7 Z7 s7 a7 f7=>?_;have n37:=ao a3 f7;replace a3:=s7 _ _ a3;have n67:=ao a6 f7;replace a6:=s7 _ _ a6;have z7:=hs.none f7;replace hs:=hs.trans s7;simp only[go_sem,seval,a7];generalize hq7:C' _ i7 _=Y7;replace a7:=(congrFun hq7 i7).symm.trans ag;replace a3:=((congrFun hq7 i3).symm.trans (ae n37)).trans a3;replace a6:=((congrFun hq7 i6).symm.trans (ae n67)).trans a6;replace hs:=Eq.subst (motive:=aa _) hq7 (hs.ax z7);clear hq7;refine ab.call rfl rfl rfl (F3 p.y p.m mg a7) ?_;rintro r Z1 ⟨rfl,rfl⟩;apply sR;simp only[go_sem,seval];have hm:Bq (max p.m mg):=by obtain⟨g1,g2⟩:=h2;obtain⟨g3,g4⟩:=h3;exact⟨by omega,by omega⟩
 refine ab.call rfl rfl rfl (Ox p.y (max p.m mg) n h1 hm h4 ag) ?_;rintro r Z2 ⟨rfl,rfl⟩;apply sR;simp only[go_sem,seval,a6,ae n67];exact ak.pure ((hs.ax z7).ax z6) rfl
def Gz(p:Pn)(mg n:Int)(h1:Bq p.y)(h2:Bq p.m)(h3:Bq mg)(h4:Bq n):aJ prog 218 [gW p,vI mg,vI n] (gW (mA p mg n)):=λU=>by
 refine Vb.r (by simp[O8]) ?_;have hs:=aa.refl U;refine ab.mix 10 ?_;apply sR;simp only[go_sem,seval,O8,gW];refine ad λi3 Z3 s3 a3 f3=>?_;replace hs:=hs.trans s3;simp only[go_sem,seval];refine ad λi6 Z6 s6 a6 f6=>?_;replace a3:=s6 _ _ a3;have z6:=hs.none f6;replace hs:=hs.trans s6;simp only[go_sem,seval,a3];refine ad λi7 Z7 s7 a7 f7=>?_;have n37:=ao a3 f7;replace a3:=s7 _ _ a3;have n67:=ao a6 f7;replace a6:=s7 _ _ a6;have z7:=hs.none f7;replace hs:=hs.trans s7;simp only[go_sem,seval,a7];generalize hq7:C' _ i7 _=Y7;replace a7:=(congrFun hq7 i7).symm.trans ag;replace a3:=((congrFun hq7 i3).symm.trans (ae n37)).trans a3;replace a6:=((congrFun hq7 i6).symm.trans (ae n67)).trans a6;replace hs:=Eq.subst (motive:=aa _) hq7 (hs.ax z7);clear hq7;refine ab.call rfl rfl rfl (Ox p.y p.m n h1 h2 h4 a7) ?_;rintro r Z1 ⟨rfl,rfl⟩;apply sR;simp only[go_sem,seval];refine ab.call rfl rfl rfl (F3 _ _ mg ag) ?_;rintro r Z2 ⟨rfl,rfl⟩;apply sR;simp only[go_sem,seval,a6,ae n67];exact ak.pure ((hs.ax z7).ax z6) rfl
structure Ln where
 (fr to x y w:Int)
deriving DecidableEq
def od(l:Ln):V:=.agg [vI l.fr,vI l.to,vI l.x,vI l.y,vI l.w]
def pF(fs:List U')(ws:List Int)(space high:Int)(i:Nat)(y:Int)(s:Zv):Ln:=
 let YT:=lY fs (ws.getD i 0) high s y
 let b:=dJ fs YT high s
 let t:=kZ ws space (kr b) i
 ⟨i,t.1,b.a,YT,t.2⟩
def NN(fs:List U')(ws:List Int)(space high:Int)(i:Nat)(y:Int)(s:Zv)(hl:fs.length<=1000000)(M':∀f∈fs,f.ok)(hy:Bq2 y)(hh:Bq high)(ZM:Bq2 s.a/\Bq2 s.b)(hw:WOk ws space)(hi:i<ws.length):
 aJ prog 265 [aG fs,bl ws,vI space,vI high,vI i,vI y,bh s] (od (pF fs ws space high i y s)):=λU=>by
 refine VJ.r (by simp[ON]) ?_;have hs:=aa.refl U;have hn:=fo ws;have X2:=λU=>iQ (U:=U) hi;have q0:((i:Int)<0)=False:=T';have q1:((i:Int)>=ws.length)=False:=T';refine ab.mix 18 ?_;apply sR;simp only[go_sem,seval,ON,bh];refine ad λi13 Y13 s13 a13 f13=>?_;replace hs:=hs.trans s13;simp only[go_sem,seval];refine ad λi14 Z14 s14 a14 f14=>?_;replace a13:=s14 _ _ a13;have z14:=hs.none f14;replace hs:=hs.trans s14;simp only[go_sem,seval,a13,hn,X2,q0,q1];have hgd:ws.getD i 0=ws[i]:=by simp[hi]
 obtain⟨YT,hat⟩:∃a,a=lY fs ws[i] high s y:=⟨_,rfl⟩
 have hro:=IG fs ws[i] high y s hl M' hy hh ZM;rw[<-hat]at hro;have hbo:=ou (y:=YT) (high:=high) M' ZM;unfold pF;rw[hgd];simp only;rw[<-hat];obtain⟨b,hb⟩:∃b,b=dJ fs YT high s:=⟨_,rfl⟩
 rw[<-hb]at hro hbo|-;refine Go.cm rfl rfl rfl hro ?_;apply sG;simp only[go_sem,seval,bh];refine aW λi15 Y15 s15 a15 f15=>?_;have n1315:=ao a13 f15;replace a13:=s15 _ _ a13;have n1415:=ao a14 f15;replace a14:=s15 _ _ a14;have z15:=hs.none f15;replace hs:=hs.trans s15;simp only[go_sem,seval,a15];generalize ZX:C' _ i15 _=Z15;replace a15:=(congrFun ZX i15).symm.trans ag;replace a13:=((congrFun ZX i13).symm.trans (ae n1315)).trans a13;replace a14:=((congrFun ZX i14).symm.trans (ae n1415)).trans a14;replace hs:=Eq.subst (motive:=aa _) ZX (hs.ax z15);clear ZX;refine ab.ay rfl rfl rfl (JW b hbo.1 hbo.2 _) ?_;apply sR;simp only[go_sem,seval];refine ab.ay rfl rfl rfl (Nl ws space (kr b) hw i hi _) ?_;apply sR;simp only[go_sem,seval,yC];refine ad λi17 Y17 s17 a17 f17=>?_;have n1317:=ao a13 f17;replace a13:=s17 _ _ a13;have n1417:=ao a14 f17;replace a14:=s17 _ _ a14;have n1517:=ao a15 f17;replace a15:=s17 _ _ a15;have z17:=hs.none f17;replace hs:=hs.trans s17;simp only[go_sem,seval,a17,a15,a14,ae n1417,ae n1517];exact ak.pure ((hs.ax z17).ax z14) rfl
open Go.Proofs Go.Proofs.Tryz
def aL.Es{K ZJ Z1:af}{e sz:Nat}{v:V}{rows:List V}(h:aL K ZJ e sz v rows)(hs:aa ZJ Z1):
 ∃Yn,bN Z1 e sz v=some (rows,Yn)/\(∀K':af,aa K' K->∀Z2,aa K' Z2->aa K' (Vc.bt Z2 Yn))/\(∀i o,ZJ i=some o->(o.elem≠e\/o.sz≠sz)->∀Z2:af,Vc.bt Z2 Yn i=Z2 i)/\(∀i,ZJ i=none->∀Z2:af,Vc.bt Z2 Yn i=Z2 i):=by
 rcases h with⟨rfl,rfl⟩|⟨id,rfl,ho,hk⟩
 .exact⟨none,rfl,λ_ _ _ h=>h,λ_ _ _ _ _=>rfl,λ_ _ _=>rfl⟩
 .refine⟨some id,?_,λK' hK Z2 h=>h.xP (hK.none hk),λi o hi YA Z2=>?_,λi hi Z2=>?_⟩
  .simp only[bN,hs _ _ ho];rw[ar ⟨trivial,trivial,trivial,YQ _⟩,hU]
  .refine bR λe'=>?_;subst e';rw[ho]at hi;injection hi with hi;subst hi;rcases YA with h|h<;>exact h rfl
  .refine bR λe'=>?_;subst e';rw[ho]at hi;cases hi
def tg{l:List U'}{w high B:Int}{s:Zv}(hB:∀f∈l,f.y+f.h<=B):∀(k:Nat) (y:Int),y<=rJ l w high s k y/\rJ l w high s k y<=max y B
 |0,y=>by simp only[rJ];omega
 |k+1,y=>by
  rw[rJ];split
  .omega
  .rename_i hf;have YA:dJ l y high s≠s:=λe=>hf (by simp[yZ,e]);obtain⟨f,hm,h1,h2⟩:=iW (qt YA);have:=tg hB k (gw l y high s).1 (w:=w) (high:=high) (s:=s);have:=hB f hm;omega
def fI{l:List U'}{w high B y:Int}{s:Zv}(hB:∀f∈l,f.y+f.h<=B):y<=lY l w high s y/\lY l w high s y<=max y B:=tg hB _ _
def cV(fs:List U')(ws:List Int)(space high:Int)(s:Zv):Nat->Nat->Int->List Ln
 |0,_,_=>[]
 |k+1,i,y=>if i<ws.length then pF fs ws space high i y s::cV fs ws space high s k (pF fs ws space high i y s).to.toNat ((pF fs ws space high i y s).y+high)else[]
def kT(fs:List U')(ws:List Int)(space high:Int)(s:Zv):∀(k i:Nat) (y:Int),(cV fs ws space high s k i y).length<=k
 |0,_,_=>by simp[cV]
 |k+1,i,y=>by
  rw[cV];split
  .have:=kT fs ws space high s k (pF fs ws space high i y s).to.toNat ((pF fs ws space high i y s).y+high);simp only[ZK];omega
  .simp
def CP(l:Ln):(od l).cells=[vI l.fr,vI l.to,vI l.x,vI l.y,vI l.w]:=rfl
def CW(l:Ln):(od l).stays=true:=rfl
def sT(l:List Ln):V:=.sl 5 (l.map od)
variable {P:Program} {l:List az} {K:St->Prop} {f:Nat} {pre m S r its:List Nat} {Yo:List (List Nat)} {a b c:PT} {x:St}
def GT.gr(h:dI l Yo pre r=its)(hg:RE P l K its x):GT P l K (f+1) pre (.leaf Yo r) x:=by subst h;exact hg
def GT.nW(h:dI l Yo pre m=its)(hg:RE P l (λx=>GT P l K f (pre++m) a x/\GT P l K f (pre++m) b x) its x):GT P l K (f+1) pre (.fork Yo m S [a,b]) x:=by
 subst h;refine RE.mono (λx hx k hk=>?_) hg;simp only[cg,List.not_mem_nil,or_false]at hk;rcases hk with rfl|rfl
 .exact hx.1
 .exact hx.2
def GT.OE(h:dI l Yo pre m=its)(hg:RE P l (λx=>GT P l K f (pre++m) a x/\GT P l K f (pre++m) b x/\GT P l K f (pre++m) c x) its x):GT P l K (f+1) pre (.fork Yo m S [a,b,c]) x:=by
 subst h;refine RE.mono (λx hx k hk=>?_) hg;simp only[cg,List.not_mem_nil,or_false]at hk;rcases hk with rfl|rfl|rfl
 .exact hx.1
 .exact hx.2.1
 .exact hx.2.2
open Go.Proofs Go.Proofs.Tryz
def p9(fs:List U')(y:Int):Int:=if(dP wT fs).2 then max y (dP wT fs).1 else y
def lS(fs:List U')(f:U')(y:Int)(s:Zv):Int:=qG fs f.w f.h s (p9 fs y)
def qY(fs:List U')(f:U')(y:Int)(s:Zv):Int:=
 let b:=dJ fs (lS fs f y s) f.h s
 if f.side=1 then b.a else max b.a (b.b-f.w)
def jc(fs:List U')(f:U')(y:Int)(s:Zv):U':={ f with x:=qY fs f y s,y:=lS fs f y s }
def sy(fs:List U')(f:U')(y:Int)(s:Zv):List U':=fs++[jc fs f y s]
def Mf{fs:List U'}{y:Int}(M':∀f∈fs,f.ok)(hy:Bq2 y):Bq2 (p9 fs y):=by
 unfold p9;split
 .rename_i h;obtain⟨f,hf,h1,_⟩:=mR h;obtain⟨_,⟨h3,h4⟩,_⟩:=M' f hf;obtain⟨g1,g2⟩:=hy;rw[h1];simp only[wT];exact⟨by omega,by omega⟩
 .exact hy
def Qj(fs:List U')(f:U')(y:Int)(s:Zv)(hl:fs.length<=1000000)(M':∀f∈fs,f.ok)(hy:Bq2 y)(hh:Bq f.h)(hw:Bq f.w)(ZM:Bq2 s.a/\Bq2 s.b):
 aJ prog 270 [aG fs,aK f,vI y,bh s] (.P' [vI (qY fs f y s),vI (lS fs f y s)]):=λU=>by
 refine VK.r (by simp[Sk]) ?_;have hs:=aa.refl U;refine ab.mix 14 ?_;apply sR;simp only[go_sem,seval,Sk,aK,bh];refine ad λi5 Z5 s5 a5 f5=>?_;replace hs:=hs.trans s5;simp only[go_sem,seval];refine ad λi7 Z7 s7 a7 f7=>?_;replace a5:=s7 _ _ a5;replace hs:=hs.trans s7;simp only[go_sem,seval];refine ab.ay rfl rfl rfl (Tc fs hl M' _) ?_;have hty:=Mf (y:=y) M' hy;have hdn:=Mx fs f (p9 fs y) s hl M' hty hh ZM;have hbo:=ou (y:=lS fs f y s) (high:=f.h) M' ZM;obtain⟨z,hz⟩:∃z,z=lS fs f y s:=⟨_,rfl⟩
 have hz2:qG fs f.w f.h s (p9 fs y)=z:=hz.symm;rw[hz2]at hdn;rw[<-hz]at hbo;obtain⟨b,hb⟩:∃b,b=dJ fs z f.h s:=⟨_,rfl⟩
 have hx:qY fs f y s=if f.side=1 then b.a else max b.a (b.b-f.w):=by unfold qY;rw[<-hz,<-hb]
 rw[<-hz,hx];rw[<-hb]at hdn hbo;obtain⟨hb1,Zl,hb3,hb4⟩:-2305843009213693952<=b.a/\b.a<=2305843009213693952/\-2305843009213693952<=b.b/\b.b<=2305843009213693952:=⟨hbo.1.1,hbo.1.2,hbo.2.1,hbo.2.2⟩
 obtain⟨hw1,hw2⟩:=hw;cases ht:(dP wT fs).2
 .have hty2:p9 fs y=y:=by unfold p9;rw[ht];rfl
  rw[hty2]at hdn;apply sR;simp only[go_sem,seval,a7,a5,dH,dF];refine ab.ay rfl rfl rfl (hdn _) ?_;apply sR;simp only[go_sem,seval,bh];refine ad λi12 Z12 s12 a12 f12=>?_;have n512:=ao a5 f12;replace a5:=s12 _ _ a5;have n712:=ao a7 f12;replace a7:=s12 _ _ a7;have z12:=hs.none f12;replace hs:=hs.trans s12;by_cases hsd:f.side=1
  .have q:(f.side=1)=True:=Yd hsd;rw[ar hsd];simp only[go_sem,seval,a12,a5,q,ae n512];exact ak.pure (hs.ax z12) rfl
  .have q:(f.side=1)=False:=T' hsd;rw[av hsd];have r1:Yl .i64 (b.b-f.w):=ai;simp only[go_sem,seval,a12,a5,q,r1,df,ae n512];exact ak.pure (hs.ax z12) rfl
 .have hty2:p9 fs y=max y (dP wT fs).1:=by unfold p9;rw[ht];rfl
  rw[hty2]at hdn;apply sR;simp only[go_sem,seval,a7,a5,dH,dF,df];refine ab.ay rfl rfl rfl (hdn _) ?_;apply sR;simp only[go_sem,seval,bh];refine ad λi12 Z12 s12 a12 f12=>?_;have n512:=ao a5 f12;replace a5:=s12 _ _ a5;have n712:=ao a7 f12;replace a7:=s12 _ _ a7;have z12:=hs.none f12;replace hs:=hs.trans s12;by_cases hsd:f.side=1
  .have q:(f.side=1)=True:=Yd hsd;rw[ar hsd];simp only[go_sem,seval,a12,a5,q,ae n512];exact ak.pure (hs.ax z12) rfl
  .have q:(f.side=1)=False:=T' hsd;rw[av hsd];have r1:Yl .i64 (b.b-f.w):=ai;simp only[go_sem,seval,a12,a5,q,r1,df,ae n512];exact ak.pure (hs.ax z12) rfl
open Go.Proofs Go.Proofs.Tryz
def YO(l:List Nd)(i:Nat):Int:=((l[i]?).map Nd.size).getD 0
def x4(l:List Nd)(a:Int):Bool:=decide (0<=a)&&decide (a<l.length)
def ie(l:List Nd)(a b:Int):Bool:=x4 l a&&(x4 l b&&(decide (b>=a)&&decide (b-a<YO l a.toNat)))
def gO(l:List Nd)(a:Nat):Nat->List Int
 |0=>[]
 |k+1=>if ie l k a then(k:Int)::gO l a k else gO l a k
def uz(l:List Nd)(a:Nat):Nat->Int
 |0=>-1
 |k+1=>if ie l k a then(k:Int)else uz l a k
def ew(l:List Nd)(a:Nat):Int:=uz l a a
def Cr{l:List Nd}{a:Int}:x4 l a=true↔0<=a/\a<l.length:=by simp[x4]
def mB{l:List Nd}{i:Nat}(h:i<l.length):YO l i=l[i].size:=by simp[YO,h]
def I5{l:List Nd}(h:Zd l=true){i:Nat}(hi:i<l.length):1<=l[i].size/\l[i].size<=(l.length:Int)-i/\(l[i].kind=1\/l[i].size<=1):=by
 simp only[Zd,Ba]at h;exact jl l (l.length+1) 0 l.length (by omega) (YQ _) h.2 i (by omega) hi hi
def wW(l:List Nd)(a:Nat):∀k,-1<=uz l a k/\uz l a k<k
 |0=>by simp[uz]
 |k+1=>by
  rw[uz];split
  .omega
  .have:=wW l a k;omega
open Go.Proofs Go.Proofs.Tryz
def Af(U:af)(l:List Int):bz U 1 (bl l)=some (l.map vI):=by simp[bl,bz]
def rY{l:List Nd}(hb:Zd l=true){i:Nat}(h:i<l.length):1<=YO l i/\YO l i<=l.length:=by
 rw[mB h];have:=I5 hb h;omega
open Go.Proofs Go.Proofs.Tryz
def oC(l:List Nd):∀(m a e:Nat),e-a<m->e<=l.length->bQ l a e=true->∀k,a<=k->(h:k<e)->(h2:k<l.length)->bQ l (k+1) (k+l[k].size.toNat)=true
 |0,_,_,h,_,_=>by omega
 |m+1,a,e,hm,he,hr=>by
  intro k hk hke h2;have hae:a<e:=by omega
  have ha:a<l.length:=by omega
  rw[bQ,dif_pos hae]at hr;have hga:l[a]?=some l[a]:=by simp[ha]
  rw[hga]at hr;simp only at hr;split at hr
  .rename_i hx;simp only[Ba]at hr;obtain⟨⟨h3,h4⟩,h5⟩:=hr;by_cases hka:k=a
   .subst hka;exact h4
   .by_cases hin:k<a+l[a].size.toNat
    .exact oC l m (a+1) (a+l[a].size.toNat) (by omega) (by omega) h4 k (by omega) hin h2
    .exact oC l m (a+l[a].size.toNat) e (by omega) he h5 k (by omega) hke h2
  .cases hr
def ZR(x:Nd):Int:=if x.kind=1 then x.st.top+x.st.Yv+x.st.Yj+x.st.Yc+x.st.head else if x.kind=2 then x.line*x.words.length else x.h
def pof(x:Nd):Int:=if x.kind=1 then 0 else if x.kind=2 then x.words.length else 1
def j4:List Nd->Int
 |[]=>0
 |x::l=>ZR x+j4 l
def lF:List Nd->Int
 |[]=>0
 |x::l=>pof x+lF l
def Bn(a b:List Nd):j4 (a++b)=j4 a+j4 b:=by
 induction a with
 |nil=>simp[j4]
 |cons x a ih=>simp only[List.cons_append,j4,ih];omega
def Cd(a b:List Nd):lF (a++b)=lF a+lF b:=by
 induction a with
 |nil=>simp[lF]
 |cons x a ih=>simp only[List.cons_append,lF,ih];omega
def wj{x:Nd}(h:x.ok=true):0<=ZR x:=by
 obtain⟨p1,p2,p3,p4,p5,p6⟩:=kc h;unfold ZR;split
 .rename_i hk;obtain⟨q1,q2,q3,q4,q5⟩:=p6 hk;omega
 .split
  .exact Int.mul_nonneg p2 (by omega)
  .exact p4
def DM{l:List Nd}(h:l.all Nd.ok=true):0<=j4 l:=by
 induction l with
 |nil=>simp[j4]
 |cons x l ih=>
  simp only[iV,Ba]at h;have:=wj h.1;have:=ih h.2;simp only[j4];omega
def dm(l:List Nd):Nat->Int
 |0=>0
 |i+1=>match l[i]? with
  |some x=>if x.kind=1 then max (dm l i) (jm l i (i+1))else dm l i
  |none=>dm l i
def Jq{l:List Nd}{i:Nat}{x:Nd}{s:Sm}(hx:x.ok=true)(hs:0<=s.Ya/\s.Ya<=1099511627777):(qp l i x s).Ya=min (s.Ya+ZR x) 1099511627777/\(qp l i x s).pieces=s.pieces+pof x/\
 (qp l i x s).depth=(if x.kind=1 then max s.depth (jm l i (i+1))else s.depth)/\(qp l i x s).nodes=s.nodes:=by
 obtain⟨p1,p2,p3,p4,p5,p6⟩:=kc hx;unfold qp ZR pof;by_cases hk:x.kind=1
 .obtain⟨q1,q2,q3,q4,q5⟩:=p6 hk;simp only[hk,if_true,kM];refine⟨by omega,by omega,trivial,trivial⟩
 .by_cases hk2:x.kind=2
  .rw[av hk,ar hk2,av hk,ar hk2,av hk,ar hk2,av hk];simp only[];refine⟨u5 hs p2 _,trivial,trivial,trivial⟩
  .rw[av hk,av hk2,av hk,av hk2,av hk,av hk2,av hk];exact⟨rfl,rfl,rfl,rfl⟩
def xI(l:List Nd)(M':l.all Nd.ok=true):∀i,i<=l.length->(gQ l ⟨0,0,l.length,0⟩ i)=⟨dm l i,lF (l.take i),l.length,min (j4 (l.take i)) 1099511627777⟩
 |0,_=>by simp[gQ,dm,lF,j4];omega
 |i+1,hi=>by
  have ih:=xI l M' i (by omega);have hg:l[i]?=some l[i]:=by simp[show i<l.length by omega]
  have hx:=dX.1 M' _ (Zr (show i<l.length by omega));have ht:l.take (i+1)=l.take i++[l[i]]:=Zq0 (by omega);have hn:0<=j4 (l.take i):=DM (dX.2 λx hx=>dX.1 M' x (pz hx));have hh:=wj hx;simp only[gQ,hg,ih];obtain⟨g1,g2,g3,g4⟩:=Jq (l:=l) (i:=i) (s:=⟨dm l i,lF (l.take i),l.length,min (j4 (l.take i)) 1099511627777⟩) hx ⟨by simp only;omega,by simp only;omega⟩;generalize qp l i l[i] ⟨dm l i,lF (l.take i),l.length,min (j4 (l.take i)) 1099511627777⟩=r at*;obtain⟨r1,r2,r3,r4⟩:=r;simp only at g1 g2 g3 g4;subst g1 g2 g3 g4;simp only[dm,hg,ht,Cd,Bn,lF,j4,Sm.mk.injEq,Int.add_zero,true_and];omega
open Go.Proofs Go.Proofs.Tryz
def V.flat:V->Bool
 |.agg vs=>vs.all V.lone
 |v=>v.lone
def V.Gh:V->Bool
 |.P' vs=>vs.all V.flat
 |v=>v.flat
def al.lone{I Y':Mu}{ow ow':Nat->Prop}{w w':World}:∀{vs:List V} {l:List Value},vs.all V.lone=true->al I ow w vs l->al Y' ow' w' vs l
 |[],l,_,h=>by simpa[al]using h
 |v::vs,l,hv,h=>by
  simp only[iV,Ba]at hv;simp only[al]at h|-;obtain⟨x,xs,rfl,h1,h2⟩:=h;exact⟨x,xs,rfl,E'.lone hv.1 h1,al.lone hv.2 h2⟩
def E'.flat{I Y':Mu}{ow ow':Nat->Prop}{w w':World}{v:V}{x:Value}(hv:v.flat=true)(h:E' I ow w v x):E' Y' ow' w' v x:=by
 cases v<;>try exact E'.lone hv h
 rename_i vs;simp only[E']at h|-;obtain⟨Yf,rfl,h1,h2⟩:=h;exact⟨Yf,rfl,al.lone hv h1,h2⟩
def al.flat{I Y':Mu}{ow ow':Nat->Prop}{w w':World}:∀{vs:List V} {l:List Value},vs.all V.flat=true->al I ow w vs l->al Y' ow' w' vs l
 |[],l,_,h=>by simpa[al]using h
 |v::vs,l,hv,h=>by
  simp only[iV,Ba]at hv;simp only[al]at h|-;obtain⟨x,xs,rfl,h1,h2⟩:=h;exact⟨x,xs,rfl,E'.flat hv.1 h1,al.flat hv.2 h2⟩
def E'.Gh{I Y':Mu}{ow ow':Nat->Prop}{w w':World}{v:V}{x:Value}(hv:v.Gh=true)(h:E' I ow w v x):E' Y' ow' w' v x:=by
 cases v<;>try exact E'.flat hv h
 rename_i vs;simp only[E']at h|-;obtain⟨Yf,rfl,h1⟩:=h;exact⟨Yf,rfl,al.flat hv h1⟩
def aJ.Cb{P:Program}{f:FuncId}{args args':List V}{v:V}{U:af}(hw:WkL U iJ args args')(h:aJ P f args' v)(hv:v.Gh=true):
 au P f args U λr Z'=>r=v/\Z'=U:=by
 refine⟨(h iJ).1,?_⟩;intro I w Yf hs hr;have YL:Sat w (aA I iJ) I iJ w:=by
  have:=hs.drop (lO U);exact⟨YQ _,rfl,rfl,rfl,λ_ _ _=>rfl,this.fin,this.inj,this.obj,λb hb _=>hb,this.nK⟩
 refine((h iJ).2 I w Yf YL (WkL.all hs hw hr)).mono ?_;rintro e w' ⟨r,Z',Y',val,rfl,⟨rfl,rfl⟩,hle,Ye,hrep⟩;have Yx:∀b,¬aA I iJ b:=λb ⟨_,_,_,_,h,_⟩=>by simp[iJ]at h
 have ZZ:∀b,b<w.heap.size->w'.heap[b]?=w.heap[b]?:=λb hb=>Ye.same b hb (Yx b);have hborn:∀id o,U id=some o->Y' id=I id:=λid o ho=>hle id (λe=>by
  have:=hs.obj id o ho;rw[e]at this;exact this)
 have hown:∀b,aA Y' U b->aA I U b:=λb ⟨id,o,sz,cap,h1,h2⟩=>⟨id,o,sz,cap,h1,hborn id o h1▸h2⟩
 have hk:cD (aA I U) (aA Y' U) w w':=λb hb hn=>⟨λho=>hn (hown b ho),ZZ b hb⟩
 refine⟨_,U,Y',val,rfl,⟨rfl,rfl⟩,hle,?_,E'.Gh hv hrep⟩;refine⟨Ye.size,Ye.os,Ye.tape,Ye.output,λb hb _=>ZZ b hb,Ye.fin,?_,?_,λb hb _=>hown b hb,hs.glob⟩
 .intro id ZD o o' b sz cap sz' ZT h1 h2 h3 h4;exact hs.inj id ZD o o' b sz cap sz' ZT h1 h2 (hborn id o h1▸h3) (hborn ZD o' h2▸h4)
 .intro id o ho;rw[hborn id o ho];refine(hs.obj id o ho).mono hle hk Ye.size λb sz cap hp=>ZZ b ?_;exact aA.lt hs ⟨id,o,sz,cap,ho,hp⟩
open Go.Proofs Go.Proofs.Tryz
def cF{l:List Nd}{a e:Nat}(he:e<=l.length)(h:bQ l a e=true){k:Nat}(h1:a<=k)(h2:k<e):(k:Int)+YO l k<=e/\1<=YO l k:=by
 have:=jl l (e-a+1) a e (by omega) he h k h1 h2 (by omega);rw[mB (by omega)];omega
def dq{l:List Nd}{a e:Nat}(he:e<=l.length)(h:bQ l a e=true)(hae:a<e):bQ l (a+(YO l a).toNat) e=true/\bQ l (a+1) (a+(YO l a).toNat)=true:=by
 have ha:a<l.length:=by omega
 rw[bQ,dif_pos hae]at h;simp only[Zq6 ha]at h;rw[mB ha];split at h
 .simp only[Ba]at h;exact⟨h.2,h.1.2⟩
 .cases h
open Go.Proofs Go.Proofs.Tryz
def Fb(l:List Nd)(hl:dU l)(hb:Zd l=true):aJ prog 161 [aH l] (.agg [aH l]):=λU=>by
 refine VW.r (by simp[Ta]) ?_;refine ab.mix 3 ?_;apply sR;simp only[go_sem,seval,Ta];refine ad λid2 Z1 s1 a2 f2=>?_;simp only[go_sem,seval];refine ab.ay rfl rfl rfl (Gj l hl _) ?_;apply sR;simp only[go_sem,seval,hb,a2,aH];refine ak.pure (s1.ax f2) rfl
def PF(l:List Nd)(a:Int):aJ prog 261 [aH l,vI a] (.bool (x4 l a)):=λU=>by
 refine We.r (by simp[SE]) ?_;refine ab.mix 6 ?_;apply sR;simp only[go_sem,seval,SE,eO];refine And.intro (λh=>?_) (λh=>?_)
 .refine ak.same ?_;simp[x4];omega
 .refine ak.same ?_;simp[x4];omega
def zC(l:List Nd)(hl:dU l)(hb:Zd l=true)(a:Nat)(ha:a<l.length):aJ prog 262 [aH l,vI a] (vI (ew l a)):=λU=>by
 have hl1:=hl.1;refine Xx.r (by simp[RG]) ?_;refine ab.mix 6 ?_;apply sR;simp only[go_sem,seval,RG];refine⟨ai,?_⟩;refine ab.loop (λm st=>∃(k:Nat),k<=a/\m=k/\ew l a=uz l a k/\st.U=U/\st.s 0=aH l/\st.s 1=vI a/\st.s 5=vI ((k:Int)-1)) a ?_ ?_
 .exact⟨a,by omega,rfl,rfl,rfl,rfl,rfl,rfl⟩
 .rintro m ⟨s,Z'⟩ ⟨k,hk,rfl,heq,YF,h0,h1,h5⟩;simp only at YF h0 h1 h5;subst YF;refine ab.mix 6 ?_;apply sR;simp only[go_sem,seval,h0,h1,h5];refine And.intro (λh=>?_) (λh=>?_)
  .obtain⟨k,rfl⟩:∃j,m=j+1:=⟨m-1,by omega⟩
   have e1:((k+1:Nat):Int)-1=k:=by omega
   have H':k<l.length:=by omega
   have hsz:=rY hb H';have hse:=mB H';have hx:=nC (U:=Z') H';simp only[go_sem,seval,e1,hx,Nd.cells,h0,h1,h5];rw[<-hse];refine⟨ai,And.intro (λhc=>?_) (λhc=>?_)⟩
   .refine ak.same ?_;rw[heq,uz,ar];simp only[ie,Ba,Zq9,x4];simp;omega
   .refine⟨ai,_,?_,k,by omega,rfl,?_,rfl⟩
    .omega
    .rw[heq,uz,av];simp only[ie,Ba,Zq9,x4];simp;omega
  .have hk0:m=0:=by omega
   subst hk0;refine ak.same ?_;rw[heq];rfl
end Go.Vc
