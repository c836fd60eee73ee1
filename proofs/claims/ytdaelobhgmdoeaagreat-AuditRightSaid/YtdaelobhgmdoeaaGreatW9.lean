/- Part 9 of the library of this proof. -/
import Derived.Test.YtdaelobhgmdoeaaGreatW8
set_option linter.all false
set_option maxHeartbeats 8000000
set_option maxRecDepth 100000
namespace Go.Vc
open Go.Proofs Go.Proofs.Tryz
def bc.lt:bc->bc
 |.seq a _=>a
 |c=>c
def bc.bd:bc->bc
 |.block _ a=>a
 |c=>c
structure BkFull(b:Bk):Prop extends BkOk b where
 wF:dV b.nodes
 isb:Zk b.nodes=true
 h1:1<=b.h
 h2:b.h<=1099511627776
 nod:∀a∈b.atoms,0<=a.node/\a.node<b.nodes.length
def bw(b:Bk)(s:Zm):Kp:=if b.atoms=[]then⟨[],0,b.h⟩else uG b.nodes (atG b.atoms (min s.atom ((b.atoms.length:Int)-1))).node b.h
def hdS(l:List Nd)(w:Int)(p:List Zi×Int)(a:Int):List Zi×Int:=(p.1++[⟨a,-1,0,0,p.2,w,(stA l a).head⟩],p.2+(stA l a).head)
def hdK(l:List Nd)(w:Int)(L:List Int):List Zi×Int:=L.foldl (hdS l w) ([],0)
def Bi(l:List Nd)(w:Int)(L:List Int)(a:Int):hdK l w (L++[a])=hdS l w (hdK l w L) a:=by
 unfold hdK;rw[xQ];rfl
def Gv(l:List Nd)(w:Int):∀(L:List Int),(hdK l w L).1.length=L.length:=by
 have key:∀(L:List Int) (p:List Zi×Int),(L.foldl (hdS l w) p).1.length=p.1.length+L.length:=by
  intro L
  induction L with
  |nil=>intro p;rfl
  |cons a L ih=>intro p;rw[j4,ih];simp[hdS];omega
 intro L;have:=key L ([],0);simpa[hdK]using this
def FA(l:List Nd)(w:Int)(L:List Int)(h:∀a∈L,0<=(stA l a).head)(j:Nat):0<=(hdK l w (L.take j)).2/\(hdK l w (L.take j)).2<=(hdK l w L).2:=by
 have key:∀(L:List Int),(∀a∈L,0<=(stA l a).head)->∀(p:List Zi×Int),p.2<=(L.foldl (hdS l w) p).2:=by
  intro L
  induction L with
  |nil=>intro _ p;exact Int.le_refl _
  |cons a L ih=>
   intro h p;rw[j4];have h1:=ih (λx hx=>h x (by simp[hx])) (hdS l w p a);have h2:=h a (by simp);simp only[hdS]at h1|-;omega
 refine⟨key (L.take j) (λa ha=>h a (rq ha)) ([],0),?_⟩;have e:hdK l w L=(L.drop j).foldl (hdS l w) (hdK l w (L.take j)):=by
  rw[hdK,hdK,<-xQ,uQ]
 rw[e];exact key _ (λa ha=>h a (List.mem_of_mem_drop ha)) _
def vy{l:List Nd}{L:List Int}{h:Int}:∀m,m<=L.length->∀a∈(gq l L h m).YH,a∈L
 |0,_,a,ha=>by simp[gq]at ha
 |m+1,hm,a,ha=>by
  rw[gq,jO]at ha;split at ha
  .exact vy m (by omega) a ha
  .simp only[db,eu]at ha;rcases ha with ha|ha
   .exact vy m (by omega) a ha
   .rw[ha];have L':L.length-1-m<L.length:=by omega
    have hg:L.getD (L.length-1-m) 0=L[L.length-1-m]:=by simp[L']
    rw[hg];exact Zw L'
def tg{l:List Nd}{L:List Int}{h w:Int}:∀m,(hdK l w (gq l L h m).YH).2=(gq l L h m).high
 |0=>rfl
 |m+1=>by
  rw[gq,jO];split
  .exact tg m
  .simp only[Bi,hdS];rw[tg m]
structure We(b:Bk)(k:Kp):Prop where
 len:k.YH.length<=1000000
 mem:∀a∈k.YH,∃n:Nat,a=n/\n<b.nodes.length
 sum:(hdK b.nodes b.w k.YH).2=k.high
 high:0<=k.high/\k.high<=1099511627776
 body:0<=k.body/\k.body<=1099511627776
def vm{b:Bk}(hb:BkFull b)(s:Zm):We b (bw b s):=by
 have h1:=hb.h1;have h2:=hb.h2;have hn:b.nodes.length<=100000:=by have:=hb.wF.1;omega
 unfold bw;split
 .exact⟨by simp,by simp,rfl,by simp,by simp;omega⟩
 .unfold uG;split
  .rename_i hc;obtain⟨_,h3,h4⟩:=hc;generalize (atG b.atoms (min s.atom ((b.atoms.length:Int)-1))).node=a at*;have ha:a.toNat<b.nodes.length:=by omega
   have hrg:∀x∈abv b.nodes a.toNat,∃n:Nat,x=n/\n<b.nodes.length:=λx hx=>by
    obtain⟨n,h1,h2⟩:=qV ha x hx;exact⟨n,h1,by omega⟩
   have hi:=rC hb.isb hrg (by omega:0<=b.h) (abv b.nodes a.toNat).length (YY _);have hl:(abv b.nodes a.toNat).length<=b.nodes.length+1:=jz _ _ _;unfold zF;exact⟨by omega,λx hx=>hrg x (vy _ (YY _) x hx),tg _,by omega,by omega⟩
  .exact⟨by simp,by simp,rfl,by simp,by simp⟩
def bz(b:Bk)(s:Zm)(hv:V):Wx:=⟨hv,(bw b s).high,(bw b s).body,s,0,(hdK b.nodes b.w (bw b s).YH).1,[],[],0⟩
def Kb(b:Bk)(hb:BkFull b)(s:Zm)(YT:0<=s.atom)(U:af):
 au prog 115 [.rp (bx b),aV s] U λr Z'=>∃i1 vh hv,r=.ptr i1 0 0/\WxJ b U i1 (bz b s hv) Z' vh .aC .aC:=by
 refine XR.r (by simp[H5]) ?_;have hs:=aa.refl U;have hbk:bx b=.agg [aI b.nodes,vI b.w,vI b.h,bp b.atoms,aH b.Ye,vI b.Ym,bC b.Ys]:=rfl;have hsc:(aV s).cells=[vI s.atom,vI s.done,.bool s.free]:=rfl;have hss:(aV s).stays=true:=rfl;have hln:=ik b.atoms;have hlen:=hb.len;refine ab.mix 11 ?_;apply sR;simp only[go_sem,seval,H5,hsc,hss];refine ad λi3 Z3 s3 a3 f3=>?_;have z3:=hs.none f3;replace hs:=hs.trans s3;rw[aV]at a3;simp only[go_sem,seval,a3,hbk];refine aW λi19 Z19 s19 a19 f19=>?_;have n319:=ao a3 f19;replace a3:=s19 _ _ a3;have z19:=hs.none f19;replace hs:=hs.trans s19;have hr:=vm hb s;unfold bz;have hJ0:∀(hv:V) (k:Kp) (C:af),C i19=some (cW b ⟨hv,k.high,k.body,s,0,[],[],[],0⟩ .aC .aC .aC)->aa U C->WxJ b U i19 ⟨hv,k.high,k.body,s,0,[],[],[],0⟩ C .aC .aC .aC:=λhv k C h h2=>
  ⟨h,aL.start,aL.start,aL.start,dz.aC _,dz.aC _,dz.aC _,h2,z19⟩
 have fin:∀(S:Nat->V) (C:af) (hv:V),cU false hv=some (.int .i64 (bw b s).YH.length)->(∀(j:Nat) (h:j<(bw b s).YH.length) (U:af),bo U 1 hv (.int .i64 j)=some (.rp (vI (bw b s).YH[j])))->
  C i19=some (cW b ⟨hv,(bw b s).high,(bw b s).body,s,0,[],[],[],0⟩ .aC .aC .aC)->aa U C->S 0=.rp (bx b)->S 5=.ptr i19 0 0->S 7=vI 0->S 57=hv->S 58=vI (bw b s).YH.length->S 59=vI 0->
  ab prog 96 [It.code H5.code.rt.rt.rt.rt.lt.rt.bd,It.inBlock 0,It.code H5.code.rt.rt.rt.rt.rt] ⟨S,C⟩ λst=>Ret [.tmp (.t 4)] st λr Z'=>∃i1 vh hv,r=.ptr i1 0 0/\WxJ b U i1 ⟨hv,(bw b s).high,(bw b s).body,s,0,(hdK b.nodes b.w (bw b s).YH).1,[],[],0⟩ Z' vh .aC .aC:=by
  intro S C hv hlL hix h19 hsZ t0 t5 t7 t57 t58 t59;have hJ:=hJ0 _ _ _ h19 hsZ;clear hJ0 h19 hsZ hs a3 a19;generalize bw b s=k at*;obtain⟨L,high,body⟩:=k;obtain⟨r1,r2,r3,⟨r4,r5⟩,_⟩:=hr;simp only at r1 r2 r3 r4 r5 hJ hlL hix t58|-;have hh0:∀a∈L,0<=(stA b.nodes a).head:=λa ha=>by
   obtain⟨n,rfl,hn⟩:=r2 a ha;rw[j6 hn];exact(gm hb.isb hn).st.head.1
  have a19:=hJ.row;rw[cW]at a19;refine ab.mix 60 ?_;simp only[H5,bc.rt,bc.lt,bc.bd];refine ab.loop (λm st=>∃(j:Nat) (vh:V),j<=L.length/\m=L.length-j/\WxJ b U i19 ⟨hv,high,body,s,0,(hdK b.nodes b.w (L.take j)).1,[],[],0⟩ st.U vh .aC .aC/\st.s 0=.rp (bx b)/\st.s 5=.ptr i19 0 0/\st.s 7=vI (hdK b.nodes b.w (L.take j)).2/\st.s 57=hv/\st.s 58=vI L.length/\st.s 59=vI j) L.length ?_ ?_
  .exact⟨0,.aC,by omega,rfl,hJ,t0,t5,t7,t57,t58,t59⟩
  .clear hJ a19 t0 t5 t7 t57 t58 t59;rintro m ⟨S,C⟩ ⟨j,vh,hj,rfl,hJ,t0,t5,t7,t57,t58,t59⟩;simp only at hJ t0 t5 t7 t57 t58 t59;refine ab.mix 60 ?_;by_cases L':j<L.length
   .have q:((j:Int)<L.length)=True:=Yi;obtain⟨n,hn,hnl⟩:=r2 _ (Zw L');have Yb:=hix j L';have hnd:=λU=>jX b.nodes hnl U;have jT:=FA b.nodes b.w L hh0 j;have hsum1:=FA b.nodes b.w L hh0 (j+1);have hlk:=Gv b.nodes b.w (L.take j);have hlt2:(L.take j).length=j:=by rw[ia];omega
    have Zg:L.take (j+1)=L.take j++[(n:Int)]:=by rw[Zq0 L',hn]
    have hstep:hdK b.nodes b.w (L.take (j+1))=hdS b.nodes b.w (hdK b.nodes b.w (L.take j)) n:=by rw[Zg,Bi]
    rw[r3]at jT hsum1;rw[hstep]at hsum1;rw[hn]at Yb;generalize hdK b.nodes b.w (L.take j)=X at*;obtain⟨F,y⟩:=X;simp only[hdS,j6 hnl]at jT hsum1 hlk hJ t7 hstep;have q1:Yr .i64 (y+b.nodes[n].st.head):=ai;have q2:Yr .i64 ((j:Int)+1):=ai;have a19:=hJ.row;rw[cW]at a19;obtain⟨cv,sv⟩:=hJ.oh.vc;generalize b.nodes[n]=nd at*;apply sR;simp only[go_sem,seval,t0,t5,t7,t57,t58,t59,q,Yb,hnd,Nd.cells,a19,hbk,UA];refine aW λi86 Z86 s86 a86 f86=>?_;have hJ5:=hJ.mono s86;obtain⟨Yt,hda,hgr⟩:=zj hJ5.sub hJ5.no hJ5.row hJ5.oh;have hfl:(F.map bb).length<=1000000:=by rw[de];omega
    generalize hrw:F.map bb=rows at*;have Zu:(rows.length+1)*57<=140737488355328:=by omega
    simp only[go_sem,seval,hda,dh a86,Zu];refine kP λi87 Z87 s87 a87 f87=>?_;obtain⟨b1,hg⟩:=hgr Z87 i87 _ s87 a87 f87;rw[cW]at b1;obtain⟨g1,g2,g3⟩:=hg (cW b ⟨hv,high,body,s,0,F++[⟨n,-1,0,0,y,b.w,nd.st.head⟩],[],[],0⟩ (.own i87 0 (rows.length+1)) .aC .aC);simp only[go_sem,seval,b1,t0,t5,t7,t57,t58,t59,q1,q2];refine⟨_,?_,j+1,.own i87 0 (rows.length+1),by omega,rfl,?_,rfl,?_,rfl⟩
    .omega
    .rw[hstep];rw[iE]at g2;refine⟨ag,?_,aL.start,aL.start,(dz.aC _).symm,(dz.aC _).symm,dz.aC _,g1,hJ.no⟩;show aL _ _ _ _ _ ((F++[_]).map bb);rw[gy,hrw];exact g2
    .rw[hstep]
   .have q:((j:Int)<L.length)=False:=T';have hje:j=L.length:=by omega
    rw[hje,ic]at hJ;apply sR;simp only[go_sem,seval,t5,t58,t59,q];exact⟨_,_,aa.refl _,Wk.refl (aa.refl _) _,i19,vh,hv,rfl,hJ⟩
 by_cases he:b.atoms=[]
 .have q:((b.atoms.length:Int)>0)=False:=by rw[he];simp
  have hre:bw b s=⟨[],0,b.h⟩:=ar he;simp only[go_sem,seval,a19,kZ,hln,q];rw[hre]at fin|-;rw[<-hbk]at a19;refine fin _ _ .aC rfl (λj h=>by simp at h) a19 hs ?_ ?_ ?_ ?_ ?_ ?_<;>rfl
 .have hl0:0<b.atoms.length:=wK.2 he;have q:((b.atoms.length:Int)>0)=True:=Yi;have r1:Yr .i64 ((b.atoms.length:Int)-1):=ai;obtain⟨k,hk⟩:∃k:Nat,min s.atom ((b.atoms.length:Int)-1)=k:=⟨(min s.atom ((b.atoms.length:Int)-1)).toNat,by omega⟩
  have hkl:k<b.atoms.length:=by omega
  have Yb:=λU=>jf (U:=U) hkl;have hre:bw b s=uG b.nodes b.atoms[k].node b.h:=by rw[bw,av he,hk,aZ hkl]
  have hc:=TZ b.nodes hb.wF b.atoms[k].node b.h;rw[<-hre]at hc;simp only[go_sem,seval,kZ,hln,q,cQ];refine ab.uO (by kernel_rfl) [0,1,2,3,4,5,6,7,8,9,10,11,12,13,14,15,16,17,18,19,20,21,22,23,24,25] [[],[],[1],[1,2],[1,2,3],[],[5],[5,6],[5,6,7],[5,6,7,8],[],[10],[],[12],[10,11,12,13],[5,6,7,8,9,10,11,12,13,14],[5,6,7,8,9,10,11,12,13,14,15],[5,6,7,8,9,10,11,12,13,14,15,16],[],[18],[18,19],[18,19,20],[1,2,3,4,5,6,7,8,9,10,11,12,13,14,15,16,17,18,19,20,21],[0,1,2,3,4,5,6,7,8,9,10,11,12,13,14,15,16,17,18,19,20,21,22],[0,1,2,3,4,5,6,7,8,9,10,11,12,13,14,15,16,17,18,19,20,21,22,23],[0,1,2,3,4,5,6,7,8,9,10,11,12,13,14,15,16,17,18,19,20,21,22,23,24]] [0,2,4,6,8,10,12,14,16,18,20,22,24,26,28,30,32,34,36,38,40,42,44,46,48,50] (by kernel_rfl) (by kernel_rfl) ?_;refine RE.ZF (n:=0) [44,46,48,50] [0,2,4,6,8,10,12,14,16,18,20,22,24,26,28,30,32,34,36,38,40,42] [⟨(.some 28),(.YO (.t 5)),.none⟩,⟨(.some 29),(.YO (.t 0)),.none⟩,⟨(.some 30),(.nilCheck (.t 29)),.none⟩,⟨(.some 31),(.YJ .false 0 1 (.t 30)),.none⟩,⟨(.some 32),(.load .false 1 (.t 31)),.none⟩,⟨(.some 33),(.YO (.t 0)),.none⟩,⟨(.some 34),(.nilCheck (.t 33)),.none⟩,⟨(.some 35),(.YJ .true 3 3 (.t 34)),.none⟩,⟨(.some 36),(.YJ .false 0 1 (.t 35)),.none⟩,⟨(.some 37),(.load .false 1 (.t 36)),.none⟩,⟨(.some 38),(.YJ .false 0 1 (.t 3)),.none⟩,⟨(.some 39),(.load .false 1 (.t 38)),.none⟩,⟨(.some 40),(.YO (.t 6)),.none⟩,⟨(.some 41),(.bin .sub (.t 40) (.c (.int .i64 1))),.none⟩,⟨(.some 42),(.minmax .false (.t 39) (.t 41)),.none⟩,⟨(.some 43),(.idxA 8 (.t 37) (.t 42)),.none⟩,⟨(.some 44),(.YJ .false 1 1 (.t 43)),.none⟩,⟨(.some 45),(.load .false 1 (.t 44)),.none⟩,⟨(.some 46),(.YO (.t 0)),.none⟩,⟨(.some 47),(.nilCheck (.t 46)),.none⟩,⟨(.some 48),(.YJ .false 2 1 (.t 47)),.none⟩,⟨(.some 49),(.load .false 1 (.t 48)),.none⟩] rfl rfl ?_;apply sG;simp only[go_sem,seval,a3,kZ,UA,r1,gG,hk,Yb,di];rw[vU]at hc;refine RE.ay rfl rfl rfl rfl rfl (hc _) ?_;refine RE.ZF (n:=0) [] [46,48,50] [⟨(.some 51),(.nilCheck (.t 28)),.none⟩,⟨(.some 52),(.YJ .true 0 3 (.t 51)),.none⟩,⟨.none,(.store 3 (.t 52) (.t 50)),.none⟩] rfl rfl ?_;apply sG;simp only[go_sem,seval,a19];have hlL:=fA (bw b s).YH;apply sR;simp only[go_sem,seval,hlL];rw[<-hbk];refine fin _ _ (bh (bw b s).YH) hlL (λj h U=>iS h) ag (hs.ax z19) ?_ ?_ ?_ ?_ ?_ ?_<;>rfl
open Go.Proofs Go.Proofs.Tryz
def bkE(b:Bk):bx b=.agg [aI b.nodes,vI b.w,vI b.h,bp b.atoms,aH b.Ye,vI b.Ym,bC b.Ys]:=rfl
def uT(b:Bk)(hb:1<=b.h):aJ prog 60 [.rp (bx b)] (.bool false):=λU=>by
 refine e60.r (by simp[c60]) ?_;have q:(b.h=0)=False:=T';refine ab.mix 3 ?_;apply sR;simp only[go_sem,seval,c60,bkE,q,FQ];exact ak.same rfl
def HF(b:Bk)(hb:BkFull b)(U:af):au prog 54 [.rp (bx b)] U λr Z'=>aa U Z'/\aL U Z' 168 3 r (b.Ys.map fc):=by
 refine e54.r (by simp[c54]) ?_;have h1:=hb.brk;have h2:=hb.len;refine ab.mix 3 ?_;apply sR;simp only[go_sem,seval,c54];refine ab.ay rfl rfl rfl (uT b hb.h1 _) ?_;apply sR;simp only[go_sem,seval,bkE,IU];refine ab.call rfl rfl rfl (xi func113 (TP.b.trans rfl) TP.c (b.Ys.map fc) (by simp;omega) _) ?_;rintro r Z' ⟨hs,ho⟩;apply sR;simp only[go_sem,seval];exact⟨_,_,aa.refl _,Wk.refl (aa.refl _) _,hs,ho⟩
def AX(b:Bk):V:=.agg [bp b.atoms,aH b.Ye,vI b.Ym]
def zd(b:Bk)(hb:BkFull b):aJ prog 25 [.rp (bx b)] (AX b):=λU=>by
 refine e25.r (by simp[c25]) ?_;have hs:=aa.refl U;have h2:=hb.len;have h3:=hb.flen;refine ab.mix 4 ?_;apply sR;simp only[go_sem,seval,c25];refine ad λi2 Z2 s2 a2 f2=>?_;have z2:=hs.none f2;replace hs:=hs.trans s2;simp only[go_sem,seval];refine ab.ay rfl rfl rfl (uT b hb.h1 _) ?_;apply sR;simp only[go_sem,seval,bkE];refine ad λi3 Z3 s3 a3 f3=>?_;have n23:=ao a2 f3;replace a2:=s3 _ _ a2;have z3:=hs.none f3;replace hs:=hs.trans s3;simp only[go_sem,seval,a3];generalize hq3:C' _ i3 _=τ3;replace a3:=(congrFun hq3 i3).symm.trans ag;replace a2:=((congrFun hq3 i2).symm.trans (ae n23)).trans a2;replace hs:=Eq.subst (motive:=aa _) hq3 (hs.ax z3);clear hq3;refine Go.bW rfl rfl rfl (JK b.atoms (by omega)) ?_;apply sG;simp only[go_sem,seval,a3];refine Go.bW rfl rfl rfl (Dz b.Ye (by omega)) ?_;apply sG;simp only[go_sem,seval,a3,a2,cH,dF,iq,dG,ae n23];exact ak.pure ((hs.ax z3).ax z2) rfl
def Ho(b:Bk)(hb:BkFull b):aJ prog 56 [.rp (bx b)] (bI ⟨⟨0,0,true⟩,[]⟩):=λU=>by
 refine e56.r (by simp[c56]) ?_;have hs:=aa.refl U;refine ab.mix 4 ?_;apply sR;simp only[go_sem,seval,c56];refine ad λi2 Z2 s2 a2 f2=>?_;have z2:=hs.none f2;replace hs:=hs.trans s2;simp only[go_sem,seval];refine ab.ay rfl rfl rfl (uT b hb.h1 _) ?_;apply sR;simp only[go_sem,seval,a2];refine⟨_,U,hs.ax z2,Wk.agg (vs':=[vI 0,vI 0,.bool true,aH []]) ⟨Wk.refl (hs.ax z2) _,Wk.refl (hs.ax z2) _,Wk.refl (hs.ax z2) _,Wk.aC 7,trivial⟩,rfl,rfl⟩
def ru(a:U'):∀(p:List U') (i:Nat),nF a p i=-1\/∃k:Nat,nF a p i=((i+k:Nat):Int)/\k<p.length
 |[],_=>.inl rfl
 |q::r,i=>by
  rw[nF];split
  .exact .inr ⟨0,rfl,by simp⟩
  .rcases ru a r (i+1)with h|⟨k,h1,h2⟩
   .exact .inl h
   .exact .inr ⟨k+1,by rw[h1];congr 1;omega,by simp;omega⟩
def pX(Ye:List U'):List U'->Nat->Bool
 |[],_=>true
 |x::r,YZ=>if nF x (Ye.drop YZ) 0<0 then false else pX Ye r (YZ+(nF x (Ye.drop YZ) 0).toNat+1)
def kX(b:Bk)(s:Sta):Prop:=pX b.Ye s.bJ 0=true/\(dI b.atoms s.s\/s.s.atom=b.atoms.length/\s.s.done=0)
instance (b:Bk) (s:Sta):Decidable (kX b s):=by unfold kX;infer_instance
def NX(b:Bk)(hb:BkFull b)(s:Sta)(hp:s.bJ.length<=1000000):aJ prog 114 [.rp (bx b),bI s] (.bool (decide (kX b s))):=λU=>by
 refine Vn.r (by simp[Rk]) ?_;have hs:=aa.refl U;have h3:=hb.flen;have hlp:=fZ s.bJ;have hla:=ik b.atoms;refine ab.mix 13 ?_;apply sR;simp only[go_sem,seval,Rk,bI];refine ad λi3 Z3 s3 a3 f3=>?_;replace hs:=hs.trans s3;simp only[go_sem,seval,a3,hlp];refine ab.loop (λm st=>∃(j YZ:Nat),j<=s.bJ.length/\m=s.bJ.length-j/\YZ<=b.Ye.length/\pX b.Ye s.bJ 0=pX b.Ye (s.bJ.drop j) YZ/\aa U st.U/\st.U i3=some ⟨45,4,[.agg [vI s.s.atom,vI s.s.done,.bool s.s.free,aH s.bJ]]⟩/\st.s 0=.rp (bx b)/\st.s 3=.ptr i3 0 0/\st.s 5=vI YZ/\st.s 10=aH s.bJ/\st.s 11=vI s.bJ.length/\st.s 12=vI j) s.bJ.length ?_ ?_
 .exact⟨0,0,by omega,rfl,by omega,rfl,hs,a3,rfl,rfl,rfl,rfl,rfl,rfl⟩
 .clear hs a3;rintro m ⟨S,C⟩ ⟨j,YZ,hj,rfl,hat,heq,hs,a3,t0,t3,t5,t10,t11,t12⟩;simp only at hs a3 t0 t3 t5 t10 t11 t12;refine ab.mix 13 ?_;by_cases L':j<s.bJ.length
  .have q:((j:Int)<s.bJ.length)=True:=Yi;have Yb:=λU=>jY (U:=U) L';have hfl:aK s.bJ[j]=.agg [vI s.bJ[j].node,vI s.bJ[j].side,vI s.bJ[j].anchor,vI s.bJ[j].x,vI s.bJ[j].y,vI s.bJ[j].w,vI s.bJ[j].h]:=rfl;have hd:s.bJ.drop j=s.bJ[j]::s.bJ.drop (j+1):=ie L';rw[hd,pX]at heq;have hsl:=td hat;generalize s.bJ[j]=f at*;have hic:=KG (b.Ye.drop YZ) (by rw[rW];omega) f;rw[hfl]at hic;have r1:Yr .i64 ((j:Int)+1):=ai;apply sR;simp only[go_sem,seval,t10,t11,t12,q,Yb,hfl];refine ad λi7 Z7 s7 a7 f7=>?_;have n37:=ao a3 f7;replace a3:=s7 _ _ a3;have z7:=hs.none f7;replace hs:=hs.trans s7;simp only[BB,seval,aX,eN,aE,mf,cP,lx,gk,fC,gW,V.cells,V.stays,a7,bkE,Gn,t0,t5,hsl];generalize hq7:C' _ i7 _=Y7;replace a7:=(congrFun hq7 i7).symm.trans ag;replace a3:=((congrFun hq7 i3).symm.trans (ae n37)).trans a3;replace hs:=Eq.subst (motive:=aa _) hq7 (hs.ax z7);clear hq7;refine Go.bW rfl rfl rfl hic ?_;have hln:(b.Ye.drop YZ).length=b.Ye.length-YZ:=rW;rcases ru f (b.Ye.drop YZ) 0 with h|⟨k,h,hk⟩
   .rw[h]at heq|-;rw[ar (by omega)]at heq;have hf:decide (kX b s)=false:=Zz λhm=>by rw[kX,heq]at hm;cases hm.1
    apply sG;simp only[go_sem,seval];rw[hf];exact ak.pure hs rfl
   .rw[h,jc]at heq|-;rw[av (by omega),e8]at heq;have q1:((k:Int)<0)=False:=T';have r2:Yr .i64 ((k:Int)+1):=ai;have r3:Yr .i64 ((YZ:Int)+(k+1)):=ai;apply sG;simp only[go_sem,seval,t0,t3,t5,t10,t11,t12,q1,r1,r2,r3];refine⟨_,?_,j+1,YZ+k+1,by omega,rfl,by omega,heq,hs,a3,rfl,?_,rfl⟩
    .omega
    .show V.int _ _=V.int _ _;congr 1
  .have q:((j:Int)<s.bJ.length)=False:=T';have hje:j=s.bJ.length:=by omega
   rw[hje,ym,pX]at heq;have hmc:=tc b.atoms s.s;rw[aV]at hmc;apply sR;simp only[go_sem,seval,t0,t3,t11,t12,q,a3,bkE,kZ];refine Go.bW rfl rfl rfl hmc ?_;have fin:∀v:Bool,decide (kX b s)=v->ak (.bool v) C λr Z'=>r=.bool (decide (kX b s))/\Z'=U:=λv h=>by rw[h];exact ak.pure hs rfl
   by_cases hm:dI b.atoms s.s
   .have f:=fin true (ZN ⟨heq,.inl hm⟩);rw[ZN hm];generalize decide (kX b s)=B at*;apply sG;simp only[go_sem,seval];exact f
   rw[Zz hm];by_cases ha:s.s.atom=b.atoms.length
   .by_cases hd:s.s.done=0
    .have f:=fin true (ZN ⟨heq,.inr ⟨ha,hd⟩⟩);generalize decide (kX b s)=B at*;have q1:(s.s.atom=(b.atoms.length:Int))=True:=Yi ha;have q2:(s.s.done=0)=True:=Yi hd;apply sG;simp only[go_sem,seval,t0,t3,a3,bkE,kZ,hla,q1,q2];exact f
    .have f:=fin false (Zz λh=>by rcases h.2 with h|h;exact hm h;exact hd h.2)
     generalize decide (kX b s)=B at*;have q1:(s.s.atom=(b.atoms.length:Int))=True:=Yi ha;have q2:(s.s.done=0)=False:=T' hd;apply sG;simp only[go_sem,seval,t0,t3,a3,bkE,kZ,hla,q1,q2];exact f
   .have f:=fin false (Zz λh=>by rcases h.2 with h|h;exact hm h;exact ha h.1)
    generalize decide (kX b s)=B at*;have q1:(s.s.atom=(b.atoms.length:Int))=False:=T' ha;apply sG;simp only[go_sem,seval,t0,t3,a3,bkE,kZ,hla,q1];exact f
def eK(b:Bk)(s:Sta):Prop:=¬kX b s\/s.s.atom=b.atoms.length/\s.s.free=false/\s.bJ=[]
instance (b:Bk) (s:Sta):Decidable (eK b s):=by unfold eK;infer_instance
def zL(b:Bk)(hb:BkFull b)(s:Sta)(hp:s.bJ.length<=1000000):aJ prog 57 [.rp (bx b),bI s] (.bool (decide (eK b s))):=λU=>by
 refine e57.r (by simp[c57]) ?_;have hs:=aa.refl U;have hlp:=fZ s.bJ;have hla:=ik b.atoms;have hmc:=NX b hb s hp;rw[bI]at hmc;refine ab.mix 5 ?_;apply sR;simp only[go_sem,seval,c57,bI];refine ad λi3 Z3 s3 a3 f3=>?_;have z3:=hs.none f3;replace hs:=hs.trans s3;simp only[go_sem,seval];refine ab.ay rfl rfl rfl (uT b hb.h1 _) ?_;apply sR;simp only[go_sem,seval,a3];refine ab.ay rfl rfl rfl (hmc _) ?_;have fin:∀v:Bool,decide (eK b s)=v->ak (.bool v) Z3 λr Z'=>r=.bool (decide (eK b s))/\Z'=U:=λv h=>by rw[h];exact ak.pure hs rfl
 by_cases hm:kX b s
 .rw[ZN hm];by_cases ha:s.s.atom=b.atoms.length
  .have q1:(s.s.atom=(b.atoms.length:Int))=True:=Yi ha;by_cases hf:s.s.free=true
   .have f:=fin false (Zz λh=>by rcases h with h|h;exact h hm;rw[hf]at h;cases h.2.1)
    generalize decide (eK b s)=B at*;rw[hf]at a3;apply sR;simp only[go_sem,seval,a3,bkE,kZ,hla,q1];exact f
   .have hf':s.s.free=false:=by simpa using hf
    by_cases hn:s.bJ=[]
    .have f:=fin true (ZN (.inr ⟨ha,hf',hn⟩));generalize decide (eK b s)=B at*;have q2:((s.bJ.length:Int)=0)=True:=Yi (by rw[hn];rfl);rw[hf']at a3;apply sR;simp only[go_sem,seval,a3,bkE,kZ,hla,q1,hlp,q2];exact f
    .have f:=fin false (Zz λh=>by rcases h with h|h;exact h hm;exact hn h.2.2)
     generalize decide (eK b s)=B at*;have q2:((s.bJ.length:Int)=0)=False:=T' (by have:=wK.2 hn;omega);rw[hf']at a3;apply sR;simp only[go_sem,seval,a3,bkE,kZ,hla,q1,hlp,q2];exact f
  .have f:=fin false (Zz λh=>by rcases h with h|h;exact h hm;exact ha h.1)
   generalize decide (eK b s)=B at*;have q1:(s.s.atom=(b.atoms.length:Int))=False:=T' ha;apply sR;simp only[go_sem,seval,a3,bkE,kZ,hla,q1];exact f
 .rw[Zz hm];have f:=fin true (ZN (.inl hm));generalize decide (eK b s)=B at*;apply sR;simp only[go_sem,seval];exact f
open Go.Proofs Go.Proofs.Tryz
structure YL where
 (no kind:Int)
 (hs fs ls:List Zi)
def aG(l:List Zi):V:=.sl 7 (l.map bb)
def aQ(p:YL):V:=.agg [vI p.no,vI p.kind,aG p.hs,aG p.fs,aG p.ls]
def uV{s:Nat->V}{U:af}{a1 a2:Bool}{n1 n2 d e t:Nat}{Post:V->af->Prop}:
 Ret [.cell a1 n1 (.t d),.cell a2 n2 (.t e),.tmp (.t t)] ⟨s,U⟩ Post=dj (bB U a1 n1 (s d)) λv=>dj (bB U a2 n2 (s e)) λw=>ak (.P' [v,w,s t]) U Post:=by
 unfold Ret ak nS;simp only[ei,gj,VX.ev];cases bB U a1 n1 (s d)<;>cases bB U a2 n2 (s e)<;>simp[dj]
def u7{body:Int}:∀(l:List U') (sh:Int),0<=sh->sh<=body->(∀f∈l,0<=f.h)->(dk body l sh).1.length<=l.length/\(∀m∈(dk body l sh).1,0<=m.y/\m.y<=body)/\0<=(dk body l sh).2.2/\(dk body l sh).2.2<=body
 |[],sh,h0,h1,_=>by simp[dk];omega
 |f::r,sh,h0,h1,hh=>by
  rw[dk];have hf:=hh f (by simp);split
  .simp;omega
  .rename_i hc;obtain⟨g1,g2,g3,g4⟩:=u7 (body:=body) r (sh+min f.h body) (by omega) (by omega) (λg hg=>hh g (by simp[hg]));refine⟨by simp;omega,λm hm=>?_,g3,g4⟩;rcases cm.1 hm with rfl|hm
   .simp only;omega
   .exact g2 m hm
def EJ{l:List Nd}{x:Kp}{a:Int}(h:1<=x.body):1<=(jO l x a).body:=by
 unfold jO;split
 .exact h
 .simp only;omega
def sQ{l:List Nd}{L:List Int}{h:Int}(hh:1<=h):∀m,1<=(gq l L h m).body
 |0=>hh
 |m+1=>EJ (sQ hh m)
def gT{b:Bk}(hb:BkFull b)(s:Zm)(h0:0<=s.atom):1<=(bw b s).body:=by
 have h1:=hb.h1;unfold bw;split
 .exact h1
 .rename_i he;have hl0:0<b.atoms.length:=wK.2 he;obtain⟨k,hk⟩:∃k:Nat,min s.atom ((b.atoms.length:Int)-1)=k:=⟨(min s.atom ((b.atoms.length:Int)-1)).toNat,by omega⟩
  have hkl:k<b.atoms.length:=by omega
  have hn:=hb.nod _ (Zw hkl);rw[hk,aZ hkl];have hm:jN b.nodes b.h=true:=by simp[jN,hb.isb,hb.h1,hb.h2]
  unfold uG;rw[ar ⟨hm,hn⟩];exact sQ h1 _
def pC{Ye:List U'}:∀(p:List U') (YZ:Nat),pX Ye p YZ=true->∀f∈p,f∈Ye
 |[],_,_,f,hf=>by cases hf
 |x::r,YZ,h,f,hf=>by
  rw[pX]at h;split at h
  .cases h
  .rename_i hk;rcases cm.1 hf with rfl|hf
   .have key:∀(l:List U') (i:Nat),¬nF f l i<0->f∈l:=by
     intro l
     induction l with
     |nil=>intro i h;simp[nF]at h
     |cons q l ih=>
      intro i h;rw[nF]at h;split at h
      .rename_i e;simp[e]
      .exact List.mem_cons_of_mem _ (ih _ h)
    exact List.mem_of_mem_drop (key _ _ hk)
   .exact pC r _ h f hf
def nz(x:Wx):YL:=⟨0,x.kind,x.hs,x.fs,x.ls⟩
def cd(b:Bk)(s:Sta):Wx:={ (({ bz b s.s .aC with shift:=(dk (bw b s.s).body s.bJ 0).2.2 }:Wx).put (dk (bw b s.s).body s.bJ 0).1)with kind:=0 }
def rE(b:Bk)(s:Sta):Prop:=s.s.atom=b.atoms.length\/(dk (bw b s.s).body s.bJ 0).2.1≠[]\/(dk (bw b s.s).body s.bJ 0).2.2>0/\jR b.atoms s.s>(bw b s.s).body-(dk (bw b s.s).body s.bJ 0).2.2
instance (b:Bk) (s:Sta):Decidable (rE b s):=by unfold rE;infer_instance
def aO(b:Bk)(s:Sta):YL×Sta:=
 if b.atoms=[]/\s.s.free=true then(nz (yG b (bz b s.s .aC)),ml b (bz b s.s .aC))
 else if rE b s then(nz { cd b s with kind:=2 },⟨⟨s.s.atom,s.s.done,s.s.free&&decide (s.s.atom<b.atoms.length)⟩,(dk (bw b s.s).body s.bJ 0).2.1⟩)
 else(nz (dO b (cd b s)),eI b (cd b s))
def tT(b:Bk)(x:Wx)(h:V):nz (dO b { x with YH:=h })=nz (dO b x)/\eI b { x with YH:=h }=eI b x:=by
 unfold dO eI;by_cases hc:fv b.Ys x.s.atom (dQ b x)
 .rw[ar (show fv b.Ys ({ x with YH:=h }:Wx).s.atom (dQ b { x with YH:=h })from hc),ar (show fv b.Ys ({ x with YH:=h }:Wx).s.atom (dQ b { x with YH:=h })from hc),ar hc,ar hc];exact⟨rfl,rfl⟩
 .rw[av (show¬fv b.Ys ({ x with YH:=h }:Wx).s.atom (dQ b { x with YH:=h })from hc),av (show¬fv b.Ys ({ x with YH:=h }:Wx).s.atom (dQ b { x with YH:=h })from hc),av hc,av hc];exact⟨rfl,rfl⟩
def WxJ.ax{b:Bk}{K:af}{ix:Nat}{x:Wx}{U:af}{vh vf vl:V}(h:WxJ b K ix x U vh vf vl){i:Nat}{o:Ob}(hi:K i=some o)(o':Ob):WxJ b (C' K i o') ix x (C' U i o') vh vf vl:=by
 have hn:ix≠i:=λe=>by have:=h.no;subst e;rw[this]at hi;cases hi
 have key:∀{v rows},aL (aU K ix) U 63 7 v rows->aL (aU (C' K i o') ix) (C' U i o') 63 7 v rows:=λhv=>by
  rcases hv with h|⟨a,e,h3,h4⟩
  .exact .inl h
  .have hk:=(aF.1 h4).2;have ha:a≠i:=λe=>by subst e;rw[hk]at hi;cases hi
   exact .inr ⟨a,e,(Vc.ae ha).trans h3,aF.2 ⟨(aF.1 h4).1,(Vc.ae ha).trans hk⟩⟩
 refine⟨(Vc.ae hn).trans h.row,key h.oh,key h.of,key h.ol,h.hf,h.hl,h.fl,λa q ha=>?_,(Vc.ae hn).trans h.no⟩;by_cases e:a=i
 .subst e;rw[Vc.ag]at ha|-;exact ha
 .rw[Vc.ae e]at ha|-;exact h.sub _ _ ha
def WxJ.ret{b:Bk}{K Z0:af}{ix:Nat}{x:Wx}{U:af}{vh vf vl:V}(h:WxJ b K ix x U vh vf vl)(h0:aa Z0 K)(S:V)(e:Int):
 ak (.P' [.agg [vI 0,vI x.kind,vh,vf,vl],S,vI e]) U λr Z'=>r=.P' [aQ (nz x),S,vI e]/\Z'=Z0:=by
 have hs:=h0.trans h.sub;have hK:aa Z0 (aU K ix):=λi o hh=>by
  rw[aU,av (λe=>by rw[e]at hh;have:=h0 _ _ hh;rw[h.no]at this;cases this)];exact h0 _ _ hh
 exact⟨_,Z0,hs,Wk.P' (vs':=[aQ (nz x),S,vI e]) ⟨Wk.agg (vs':=[vI 0,vI x.kind,aG x.hs,aG x.fs,aG x.ls]) ⟨Wk.refl hs _,Wk.refl hs _,h.oh.wk hK hs,h.of.wk hK hs,h.ol.wk hK hs,trivial⟩,Wk.refl hs _,Wk.refl hs _,trivial⟩,rfl,rfl⟩
def F2(b:Bk)(hb:BkFull b)(hfh:∀f∈b.Ye,0<=f.h)(s:Sta)(hp:s.bJ.length<=1000000):
 aJ prog 58 [.rp (bx b),bI s] (if eK b s then .P' [aQ ⟨0,0,[],[],[]⟩,bI ⟨⟨0,0,false⟩,[]⟩,vI 4]else .P' [aQ (aO b s).1,bI (aO b s).2,vI 0]):=λU=>by
 refine e58.r (by simp[c58]) ?_;have hs:=aa.refl U;have h2:=hb.len;have hla:=ik b.atoms;have hec:=zL b hb s hp;rw[bI]at hec;refine ab.mix 12 ?_;apply sR;simp only[go_sem,seval,c58,bI];refine ad λi3 Z3 s3 a3 f3=>?_;replace hs:=hs.trans s3;simp only[go_sem,seval];refine ad λi4 Z4 s4 a4 f4=>?_;replace a3:=s4 _ _ a3;have z4:=hs.none f4;replace hs:=hs.trans s4;simp only[go_sem,seval];refine ad λi5 Z5 s5 a5 f5=>?_;have n35:=ao a3 f5;replace a3:=s5 _ _ a3;have n45:=ao a4 f5;replace a4:=s5 _ _ a4;have z5:=hs.none f5;replace hs:=hs.trans s5;simp only[go_sem,seval,a3];refine ab.ay rfl rfl rfl (hec _) ?_;by_cases hm:eK b s
 .rw[ar hm,ZN hm];have n54:=n45.symm;apply sR;simp only[go_sem,seval,a4,a5,ae n45,ae n54,uV];have Yk:=(hs.ax (o:=⟨37,5,[.agg [vI 0,vI 0,.aC,.aC,.aC]]⟩) z4).ax (o:=⟨45,4,[.agg [vI 0,vI 0,.bool false,.aC]]⟩) z5;exact⟨_,U,Yk,Wk.P' (vs':=[aQ ⟨0,0,[],[],[]⟩,bI ⟨⟨0,0,false⟩,[]⟩,vI 4]) ⟨Wk.agg (vs':=[vI 0,vI 0,aG [],aG [],aG []]) ⟨Wk.refl Yk _,Wk.refl Yk _,Wk.aC 7,Wk.aC 7,Wk.aC 7,trivial⟩,Wk.agg (vs':=[vI 0,vI 0,.bool false,aH []]) ⟨Wk.refl Yk _,Wk.refl Yk _,Wk.refl Yk _,Wk.aC 7,trivial⟩,Wk.refl Yk _,trivial⟩,rfl,rfl⟩
 .rw[av hm,Zz hm];have ZK:kX b s:=Decidable.byContradiction λh=>hm (.inl h);have hat:0<=s.s.atom:=by rcases ZK.2 with h|h;exact h.1.1;omega
  have hph:∀f∈s.bJ,0<=f.h:=λf hf=>hfh f (pC _ _ ZK.1 f hf);have hro:=vm hb s.s;have hr1:=gT hb s.s hat;have hbc:=Kb b hb s.s hat Z5;rw[aV]at hbc;apply sR;simp only[go_sem,seval,a3,bkE,kZ];refine ab.call rfl rfl rfl hbc ?_;rintro r Z6 ⟨i1,vh,hv,rfl,hJ⟩;have c3:=hJ.sub _ _ a3;have xs:(bz b s.s hv).s=s.s:=rfl;have xb:(bz b s.s hv).body=(bw b s.s).body:=rfl;have xh:(bz b s.s hv).high=(bw b s.s).high:=rfl;have xl:(bz b s.s hv).ls=[]:=rfl;have xf:(bz b s.s hv).fs=[]:=rfl;have xk:(bz b s.s hv).kind=0:=rfl;have hs5:aa U Z5:=hs;by_cases h0:b.atoms=[]/\s.s.free=true
  .obtain⟨h01,h02⟩:=h0;have q1:((b.atoms.length:Int)=0)=True:=Yi (by rw[h01];rfl);rw[aO,ar ⟨h01,h02⟩];have hlc:=J5 b hb.toBkOk (bz b s.s hv) (by rw[xl];simp) (by rw[xh];have:=hro.high;omega) hJ;have e1:nz (yG b (bz b s.s .aC))=nz (yG b (bz b s.s hv)):=rfl;have e2:ml b (bz b s.s .aC)=ml b (bz b s.s hv):=rfl;rw[e1,e2];generalize yG b (bz b s.s hv)=X at*;generalize ml b (bz b s.s hv)=Z at*;rw[h02]at c3;apply sR;simp only[go_sem,seval,q1,hla,c3];refine ab.call rfl rfl rfl hlc ?_;rintro r Z7 ⟨vl',rfl,hJ7⟩;have d5:=hJ7.sub _ _ a5;apply sR;simp only[go_sem,seval,d5,bI,cQ];have hJ8:=hJ7.ax a5 ⟨45,4,[.agg [vI Z.s.atom,vI Z.s.done,.bool Z.s.free,aH Z.bJ]]⟩;generalize hq8:C' Z7 i5 _=Y8 at*;have b1:=hJ8.row;rw[cW]at b1;have b5:=hJ8.sub _ _ ag;have b4:=hJ8.sub i4 _ ((ae n45).trans a4);obtain⟨ch,sh⟩:=hJ8.oh.vc;obtain⟨cf,sf⟩:=hJ8.of.vc;obtain⟨cl,sl⟩:=hJ8.ol.vc;have n54:=n45.symm;refine ab.uO (by kernel_rfl) [0,1,2,3,4,5,6,7] [[],[0],[0,1],[0,1,2],[],[0,1,2,3],[0,1,2,3,4,5],[0,1,2,3,4,5,6]] [0,2,4,6,8,10,9,12,14] (by kernel_rfl) (by kernel_rfl) ?_;refine RE.ZF (n:=0) [9,12,14] [0,2,4,6,8,10] [⟨(.some 36),(.YO (.t 8)),.none⟩,⟨(.some 37),(.nilCheck (.t 36)),.none⟩,⟨(.some 38),(.YJ .true 7 5 (.t 37)),.none⟩,⟨(.some 39),(.load .true 5 (.t 38)),.none⟩,⟨(.some 40),(.load .true 4 (.t 5)),.none⟩,⟨.none,(.store 5 (.t 4) (.t 39)),.none⟩] rfl rfl ?_;apply sG;simp only[go_sem,seval,b1,b4,b5];refine RE.chk rfl rfl rfl rfl rfl trivial (by simp only[go_sem,seval,b5,ae n54]) ?_;refine RE.ZF (n:=0) [] [12,14] [⟨.none,(.store 4 (.t 5) (.t 40)),.none⟩,⟨(.some 6),(.YO (.c (.int .i64 0))),.none⟩] rfl rfl ?_;apply sG;simp only[go_sem,seval,b5,ae n54];apply sR;simp only[go_sem,seval,uV,ae n45];exact((hJ8.ax ((ae n45).trans a4) _).ax ((ae n54).trans ag) _).ret (((hs5.ax z5).ax z4).ax z5) _ _
  .have hpr:aO b s=if rE b s then(nz { cd b s with kind:=2 },⟨⟨s.s.atom,s.s.done,s.s.free&&decide (s.s.atom<b.atoms.length)⟩,(dk (bw b s.s).body s.bJ 0).2.1⟩)else(nz (dO b (cd b s)),eI b (cd b s)):=by rw[aO,av h0]
   have htc:=Pu s.bJ hp (bw b s.s).body hr1 (by have:=hro.body;omega) hph;obtain⟨g1,g2,g3,g4⟩:=u7 (body:=(bw b s.s).body) s.bJ 0 (Int.le_refl _) (by omega) hph;have hlc:=Mp b.atoms hb.YZ s.s (by
    rcases ZK.2 with h|h
    .have:=yF hb.toBkOk h;omega
    .omega)
   rw[aV]at hlc;have b1:=hJ.row;simp only[cW,bz]at b1;have hfw:=N3 b hb.toBkOk;have hX:∀x:Wx,x=({ bz b s.s hv with shift:=(dk (bw b s.s).body s.bJ 0).2.2 }:Wx).put (dk (bw b s.s).body s.bJ 0).1->nz { x with kind:=2 }=nz { cd b s with kind:=2 }/\nz (dO b x)=nz (dO b (cd b s))/\eI b x=eI b (cd b s):=λx hx=>by
    subst hx;exact⟨rfl,(tT b (cd b s) hv).1,(tT b (cd b s) hv).2⟩
   have hp1:rE b s->aO b s=_:=λh=>hpr.trans (ar h);have hp2:¬rE b s->aO b s=_:=λh=>hpr.trans (av h);clear hpr;unfold rE at hp1 hp2;generalize cd b s=TX at*;generalize dk (bw b s.s).body s.bJ 0=T at*;obtain⟨put,left,sh'⟩:=T;simp only at htc g1 g2 g3 g4 hX hp1 hp2;have hll:=fZ left;have hq:(((b.atoms.length:Int)=0)=True/\s.s.free=false)\/(((b.atoms.length:Int)=0)=False/\True):=by
    by_cases he:b.atoms=[]
    .exact .inl ⟨Yi (by rw[he];rfl),by
      cases hfr:s.s.free
      .rfl
      .exact absurd ⟨he,hfr⟩ h0⟩
    .exact .inr ⟨T' (by have:=wK.2 he;omega),trivial⟩
   rcases hq with⟨q,hf⟩|⟨q,hf⟩
   all_goals
    apply sR;simp only[go_sem,seval,q,hf,hla,c3,b1,bkE];refine Go.bW rfl rfl rfl htc ?_;apply sG;simp only[go_sem,seval,b1];generalize hq7:C' Z6 i1 _=Y7;have hJ7:WxJ b Z5 i1 { bz b s.s hv with shift:=sh' } Y7 vh .aC .aC:=by
     rw[<-hq7];exact hJ.set _ rfl rfl rfl
    refine ab.call rfl rfl rfl (pz b put (by omega) { bz b s.s hv with shift:=sh' } (by simp[bz]) (λf hf=>by
     have:=g2 f hf;have:=hro.high;have:=hro.body;exact ai (by show _<=f.y+(bw b s.s).high;omega) (by show f.y+(bw b s.s).high<=_;omega)) hJ7) ?_
    rintro-Z8 ⟨vl',hJ8⟩;obtain⟨x1,x2,x3⟩:=hX _ rfl;have c3:=hJ8.sub _ _ a3;have d5:=hJ8.sub _ _ a5;have b1:=hJ8.row;have ys:(Wx.put { bz b s.s hv with shift:=sh' } put).s=s.s:=rfl;have yb:(Wx.put { bz b s.s hv with shift:=sh' } put).body=(bw b s.s).body:=rfl;have yh:(Wx.put { bz b s.s hv with shift:=sh' } put).high=(bw b s.s).high:=rfl;have yw:(Wx.put { bz b s.s hv with shift:=sh' } put).shift=sh':=rfl;have yf:(Wx.put { bz b s.s hv with shift:=sh' } put).fs.length<=1000000:=by simp[Wx.put,bz]
    have yl:(Wx.put { bz b s.s hv with shift:=sh' } put).ls.length<=1000000:=by simp[Wx.put,bz];omega
    generalize Wx.put { bz b s.s hv with shift:=sh' } put=Y at*;rw[cW]at b1;have n15:i1≠i5:=λe=>by have:=hJ8.no;rw[e,a5]at this;cases this
    have n51:=n15.symm;have n54:=n45.symm;have r1:Yr .i64 ((bw b s.s).body-sh'):=ai (by omega) (by have:=hro.body;omega);rw[<-yb]at r1 hp1 hp2;by_cases hfull:s.s.atom=b.atoms.length\/left≠[]\/sh'>0/\jR b.atoms s.s>Y.body-sh'
    .rw[hp1 hfull,<-x1];have hw:((s.s.atom=(b.atoms.length:Int))=True/\True/\True/\True)\/((s.s.atom=(b.atoms.length:Int))=False/\((left.length:Int)>0)=True/\True/\True)\/
      ((s.s.atom=(b.atoms.length:Int))=False/\((left.length:Int)>0)=False/\(sh'>0)=True/\(jR b.atoms s.s>Y.body-sh')=True):=by
      by_cases hA:s.s.atom=b.atoms.length
      .exact .inl ⟨Yi hA,trivial,trivial,trivial⟩
      by_cases hB:left=[]
      .obtain⟨hC,hD⟩:=(hfull.resolve_left hA).resolve_left (λh=>h hB);exact .inr (.inr ⟨T' hA,T' (by rw[hB];simp),Yi hC,Yi hD⟩)
      .exact .inr (.inl ⟨T' hA,Yi (by have:=wK.2 hB;omega),trivial,trivial⟩)
     obtain⟨VAL,hV⟩:∃VAL:Bool,VAL=(s.s.free&&decide (s.s.atom<b.atoms.length)):=⟨_,rfl⟩
     have n13:i3≠i1:=λe=>by have:=hJ8.no;rw[<-e,a3]at this;cases this
     cases hfr:s.s.free
     all_goals
      simp only[hfr,Bool.false_and,Bool.true_and]at hV;rw[hfr]at hlc;rcases hw with⟨qA,qB,qC,qD⟩|⟨qA,qB,qC,qD⟩|⟨qA,qB,qC,qD⟩
      all_goals
       apply sR;simp only[go_sem,seval,c3,d5,b1,hla,hll,qA,qB,qC,bkE,hfr,ae n51,ae n13,ae n35,cQ,dF,dG]
       try
        refine Go.bW rfl rfl rfl hlc ?_;apply sG;simp only[go_sem,seval,c3,d5,b1,r1,qD,hla,bkE,hfr,ae n51,ae n13,ae n35,cQ,dF,dG]
       generalize hq8:C' (C' Z8 i1 _) i5 _=Y8;have hJ8:WxJ b (C' Z5 i5 ⟨45,4,[.agg [vI s.s.atom,vI s.s.done,.bool VAL,aH left]]⟩) i1 { Y with kind:=2 } Y8 vh .aC vl':=by
        rw[<-hq8,hV];exact(hJ8.set { Y with kind:=2 } rfl rfl rfl).ax a5 _
       clear hq8;have b1:=hJ8.row;rw[cW]at b1;have b5:=hJ8.sub _ _ ag;rw[hV]at b5;have b4:=hJ8.sub i4 _ ((ae n45).trans a4);obtain⟨ch,sh⟩:=hJ8.oh.vc;obtain⟨cf,sf⟩:=hJ8.of.vc;obtain⟨cl,sl⟩:=hJ8.ol.vc;refine ab.uO (by kernel_rfl) [0,1,2,3,4,5,6,7] [[],[0],[0,1],[0,1,2],[],[0,1,2,3],[0,1,2,3,4,5],[0,1,2,3,4,5,6]] [0,2,4,6,8,10,9,12,14] (by kernel_rfl) (by kernel_rfl) ?_;refine RE.ZF (n:=0) [9,12,14] [0,2,4,6,8,10] [⟨(.some 110),(.YO (.t 8)),.none⟩,⟨(.some 111),(.nilCheck (.t 110)),.none⟩,⟨(.some 112),(.YJ .true 7 5 (.t 111)),.none⟩,⟨(.some 113),(.load .true 5 (.t 112)),.none⟩,⟨(.some 114),(.load .true 4 (.t 5)),.none⟩,⟨.none,(.store 5 (.t 4) (.t 113)),.none⟩] rfl rfl ?_;apply sG;simp only[go_sem,seval,b1,b4,b5];refine RE.chk rfl rfl rfl rfl rfl trivial (by simp only[go_sem,seval,b5,ae n54]) ?_;refine RE.ZF (n:=0) [] [12,14] [⟨.none,(.store 4 (.t 5) (.t 114)),.none⟩,⟨(.some 6),(.YO (.c (.int .i64 0))),.none⟩] rfl rfl ?_;apply sG;simp only[go_sem,seval,b5,ae n54];apply sR;simp only[go_sem,seval,uV,ae n45];exact((hJ8.ax ((ae n45).trans a4) _).ax ((ae n54).trans ag) _).ret (((hs5.ax z5).ax z4).ax z5) _ _
    .rw[hp2 hfull,<-x2,<-x3];have hA:¬s.s.atom=b.atoms.length:=λh=>hfull (.inl h);have hm':dI b.atoms s.s:=ZK.2.resolve_right λh=>hA h.1;have hw:((s.s.atom=(b.atoms.length:Int))=False/\((left.length:Int)>0)=False/\(sh'>0)=False/\True)\/((s.s.atom=(b.atoms.length:Int))=False/\((left.length:Int)>0)=False/\(sh'>0)=True/\(jR b.atoms s.s>Y.body-sh')=False):=by
      have hB:left=[]:=Decidable.byContradiction λh=>hfull (.inr (.inl h));have hB':((left.length:Int)>0)=False:=T' (by rw[hB];simp);by_cases hC:sh'>0
      .exact .inr ⟨T' hA,hB',Yi hC,T' λh=>hfull (.inr (.inr ⟨hC,h⟩))⟩
      .exact .inl ⟨T' hA,hB',T' hC,trivial⟩
     have hwf:=hfw Y (by rw[ys];exact hm') yf yl (by rw[yh];have:=hro.high;omega) (by rw[yb];have:=hro.body;omega) (by rw[yw];have:=hro.body;omega) hJ8;generalize dO b Y=X at*;generalize eI b Y=Z at*;rcases hw with⟨qA,qB,qC,qD⟩|⟨qA,qB,qC,qD⟩
     all_goals
      apply sR;simp only[go_sem,seval,c3,hla,qA,hll,qB,qC]
      try
       refine Go.bW rfl rfl rfl hlc ?_;apply sG;simp only[go_sem,seval,b1,r1,qD]
      refine ab.call rfl rfl rfl hwf ?_;rintro-Z9 ⟨vf',vl'',rfl,hJ9⟩;have e5:=hJ9.sub _ _ a5;apply sR;simp only[go_sem,seval,e5,bI,cQ];have hJ8:=hJ9.ax a5 ⟨45,4,[.agg [vI Z.s.atom,vI Z.s.done,.bool Z.s.free,aH Z.bJ]]⟩;generalize hq8:C' Z9 i5 _=Y8 at*;have b1:=hJ8.row;rw[cW]at b1;have b5:=hJ8.sub _ _ ag;have b4:=hJ8.sub i4 _ ((ae n45).trans a4);obtain⟨ch,sh⟩:=hJ8.oh.vc;obtain⟨cf,sf⟩:=hJ8.of.vc;obtain⟨cl,sl⟩:=hJ8.ol.vc;refine ab.uO (by kernel_rfl) [0,1,2,3,4,5,6,7] [[],[0],[0,1],[0,1,2],[],[0,1,2,3],[0,1,2,3,4,5],[0,1,2,3,4,5,6]] [0,2,4,6,8,10,9,12,14] (by kernel_rfl) (by kernel_rfl) ?_;refine RE.ZF (n:=0) [9,12,14] [0,2,4,6,8,10] [⟨(.some 117),(.YO (.t 8)),.none⟩,⟨(.some 118),(.nilCheck (.t 117)),.none⟩,⟨(.some 119),(.YJ .true 7 5 (.t 118)),.none⟩,⟨(.some 120),(.load .true 5 (.t 119)),.none⟩,⟨(.some 121),(.load .true 4 (.t 5)),.none⟩,⟨.none,(.store 5 (.t 4) (.t 120)),.none⟩] rfl rfl ?_;apply sG;simp only[go_sem,seval,b1,b4,b5];refine RE.chk rfl rfl rfl rfl rfl trivial (by simp only[go_sem,seval,b5,ae n54]) ?_;refine RE.ZF (n:=0) [] [12,14] [⟨.none,(.store 4 (.t 5) (.t 121)),.none⟩,⟨(.some 6),(.YO (.c (.int .i64 0))),.none⟩] rfl rfl ?_;apply sG;simp only[go_sem,seval,b5,ae n54];apply sR;simp only[go_sem,seval,uV,ae n45];exact((hJ8.ax ((ae n45).trans a4) _).ax ((ae n54).trans ag) _).ret (((hs5.ax z5).ax z4).ax z5) _ _
def blk(cnt:Nat->Nat)(a n:Nat):List Int:=(List.range' a n).flatMap λi=>List.replicate (cnt i) (i:Int)
def kV(cnt:Nat->Nat)(a:Nat):blk cnt a 0=[]:=rfl
def iB(cnt:Nat->Nat)(a n:Nat):blk cnt a (n+1)=List.replicate (cnt a) (a:Int)++blk cnt (a+1) n:=by
 simp[blk,List.range'_succ]
def pD{f g:Nat->Nat}:∀(n a:Nat),(∀i,a<=i->i<a+n->f i=g i)->blk f a n=blk g a n
 |0,_,_=>rfl
 |n+1,a,h=>by
  rw[iB,iB,h a (YY a) (by omega),pD n (a+1) (λi h1 h2=>h i (by omega) (by omega))]
def CW(cnt:Nat->Nat):∀(n a m:Nat),blk cnt a (n+m)=blk cnt a n++blk cnt (a+n) m
 |0,a,m=>by simp[kV]
 |n+1,a,m=>by
  rw[show n+1+m=(n+m)+1 by omega,iB,iB,CW cnt n (a+1) m,lN,show a+1+n=a+(n+1) by omega]
def NT(f g:Nat->Nat)(a n m:Nat):blk f a n++blk g (a+n) m=blk (λi=>if i<a+n then f i else g i) a (n+m):=by
 rw[CW];congr 1
 .exact pD n a λi h1 h2=>by simp[h2]
 .exact pD m (a+n) λi h1 h2=>by simp[show¬i<a+n by omega]
structure AtI(τ:Int)(x:Zq):Prop where
 y0:0<=x.y
 y1:x.y<=τ
 h0:1<=x.h
 h1:x.h<=1099511627776
def AtI.mono{B τ:Int}{x:Zq}(h:AtI B x)(hB:B<=τ):AtI τ x:=⟨h.y0,Int.le_trans h.y1 hB,h.h0,h.h1⟩
def nL(a:Nat)(h:Int):∀(L:List Ln) (s:WS),(iu a h s L).atoms=s.atoms++L.map (eS a h)
 |[],s=>by simp[iu]
 |x::L,s=>by
  have:=nL a h L (s.put (eS a h x));simp only[iu,j4]at this|-;rw[this];simp[WS.put]
def LU(a:Nat)(h:Int)(L:List Ln):(L.map (eS a h)).map (·.node)=List.replicate L.length (a:Int):=by
 rw[List.map_map]
 induction L with
 |nil=>rfl
 |cons x L ih=>rw[dP,ih];rfl
def Ih{l:List Nd}{a e:Nat}(he:e<=l.length)(h:bQ l a e=true)(hae:a<e)(hk:(YP l a).kind≠1):YW l a<=1:=by
 have ha:a<l.length:=by omega
 rw[jC ha]at hk;rw[bQ,dif_pos hae]at h;simp only[Zq6 ha]at h;split at h
 .simp only[Ba,kU,Zq9]at h;have:=h.1.1.resolve_left hk;simp only[YW,Zq6 ha,Option.map_some,Option.getD_some];omega
 .cases h
structure CT(l:List Nd)(s t:WS)(a e τ:Nat):Prop where
 YZ:∀x∈t.atoms,AtI (1099511627776*(τ:Int)) x
 nodes:∃cnt,t.atoms.map (·.node)=s.atoms.map (·.node)++blk cnt a (e-a)/\∀i,a<=i->i<e->okN (YP l i) (cnt i)=true
def CT.join{l:List Nd}{s t u:WS}{a m e τ D:Nat}(h1:a<=m)(h2:m<=e)(hA:CT l s t a m τ)(hB:CT l t u m e D):CT l s u a e D:=by
 obtain⟨_,f,hf,hfo⟩:=hA;obtain⟨hat,g,hg,hgo⟩:=hB;refine⟨hat,λi=>if i<m then f i else g i,?_,λi h3 h4=>?_⟩
 .rw[hg,hf,lN];congr 1;obtain⟨n,rfl⟩:∃n,m=a+n:=⟨m-a,by omega⟩
  obtain⟨k,rfl⟩:∃k,e=a+n+k:=⟨e-(a+n),by omega⟩
  rw[show a+n-a=n by omega,show a+n+k-(a+n)=k by omega,show a+n+k-a=n+k by omega,NT]
 .simp only;split
  .exact hfo i h3 (by omega)
  .exact hgo i (by omega) h4
def vi{l:List Nd}{rs:List Rm}(hD:DOk l rs):∀(k a e:Nat) (s:WS) (τ:Nat),e-a<=k->a<=e->e<=l.length->bQ l a e=true->fP s τ->(∀x∈s.atoms,AtI (1099511627776*(τ:Int)) x)->CT l s (cS l rs k a e s) a e (τ+cst l a e)
 |0,a,e,s,τ,hk,hae,_,_,h,hx=>by
  obtain rfl:a=e:=by omega
  refine⟨λx YM=>(hx x YM).mono (by omega),λ_=>0,by simp[cS,kV],λi h1 h2=>by omega⟩
 |k+1,a,e,s,τ,hk,hae,he,hr,h,hx=>by
  rw[cS];by_cases L':a<e
  .rw[ar L'];obtain⟨h1,h2⟩:=cG he hr (YY a) L';obtain⟨h3,h4⟩:=du he hr L';have YE:NOk (YP l a):=by rw[jC (by omega)];exact gm hD.isb (by omega)
   have hc1:cst l a e=cst l a (a+(YW l a).toNat)+cst l (a+(YW l a).toNat) e:=mB (by omega) (by omega) he;have hc2:cst l a (a+(YW l a).toNat)=4+(YP l a).words.length+cst l (a+1) (a+(YW l a).toNat):=we (by omega) (by omega);have step:∀t,fP t (τ+cst l a (a+(YW l a).toNat))->CT l s t a (a+(YW l a).toNat) (τ+cst l a (a+(YW l a).toNat))->CT l s (cS l rs k (a+(YW l a).toNat) e t) a e (τ+cst l a e):=λt ht hA=>by
    rw[hc1,<-Nat.add_assoc];exact hA.join (by omega) (by omega) (vi hD k _ e t _ (by omega) (by omega) he h3 ht hA.YZ)
   have one:∀(t:WS) (n:Nat),okN (YP l a) n=true->(YW l a).toNat=1->t.atoms.map (·.node)=s.atoms.map (·.node)++List.replicate n (a:Int)->(∀x∈t.atoms,AtI (1099511627776*((τ+cst l a (a+(YW l a).toNat):Nat):Int)) x)->CT l s t a (a+(YW l a).toNat) (τ+cst l a (a+(YW l a).toNat)):=λt n hn ZV hm hat=>by
    refine⟨hat,λ_=>n,?_,λi h5 h6=>?_⟩
    .rw[hm,ZV,show a+1-a=1 by omega,iB,kV,lO]
    .obtain rfl:i=a:=by omega
     exact hn
   obtain⟨⟨hf,p1,p2,p3,p4⟩,p5,p6⟩:=h;have hI:fP s τ:=⟨⟨hf,p1,p2,p3,p4⟩,p5,p6⟩
   by_cases k1:(YP l a).kind=1
   .rw[ar k1];have hI2:=gv hD k (a+1) (a+(YW l a).toNat) _ _ (by omega) (by omega) (by omega) h4 (eZ hI YE.st);have hA2:=vi hD k (a+1) (a+(YW l a).toNat) (s.enter (YP l a).st) (τ+2) (by omega) (by omega) (by omega) h4 (eZ hI YE.st) (λx YM=>(hx x YM).mono (by omega));refine step _ ((kj hI2 YE.st).more (by omega)) ?_;obtain⟨hat,cnt,hc,hco⟩:=hA2;refine⟨λx YM=>(hat x YM).mono (by omega),λi=>if i=a then 0 else cnt i,?_,λi h5 h6=>?_⟩
    .have e1:(s.enter (YP l a).st).atoms=s.atoms:=rfl;rw[e1]at hc;show(cS l rs k (a+1) (a+(YW l a).toNat) (s.enter (YP l a).st)).atoms.map (·.node)=_;rw[hc];congr 1;obtain⟨m,hm⟩:∃m,(YW l a).toNat=m+1:=⟨(YW l a).toNat-1,by omega⟩
     rw[hm,show a+(m+1)-(a+1)=m by omega,show a+(m+1)-a=m+1 by omega,iB];simp only[if_true,List.replicate_zero,kW];exact pD m (a+1) λi h5 h6=>by simp[show i≠a by omega]
    .simp only;split
     .rename_i e;subst e;simp[okN,k1]
     .exact hco i (by omega) h6
   .rw[av k1];have ZV:(YW l a).toNat=1:=by
     have:=Ih he hr L' k1;omega
    by_cases k2:(YP l a).kind=2
    .rw[ar k2];refine step _ ((me hI YE a).more (by omega)) ?_;have hl:=YE.line;obtain⟨hw0,hl1⟩:=YE.text k2;have hLl:=kS s.B' (YP l a).words (YP l a).space (YP l a).line (dZ rs a) (YP l a).words.length 0 (s.Yq.y+s.Yq.m);have hLb:=jZ (ws:=(YP l a).words) (space:=(YP l a).space) (s:=dZ rs a) (λf hf'=>(hf f hf').yB) hl.1 (YP l a).words.length 0 (s.Yq.y+s.Yq.m);have hLn:cV s.B' (YP l a).words (YP l a).space (YP l a).line (dZ rs a) (YP l a).words.length 0 (s.Yq.y+s.Yq.m)≠[]:=by
      obtain⟨m,hm⟩:∃m,(YP l a).words.length=m+1:=⟨(YP l a).words.length-1,by omega⟩
      rw[hm,cV,ar (by omega)];simp
     have hte:(s.text rs a (YP l a)).atoms=s.atoms++(cV s.B' (YP l a).words (YP l a).space (YP l a).line (dZ rs a) (YP l a).words.length 0 (s.Yq.y+s.Yq.m)).map (eS a (YP l a).line):=nL a _ _ s;generalize cV s.B' (YP l a).words (YP l a).space (YP l a).line (dZ rs a) (YP l a).words.length 0 (s.Yq.y+s.Yq.m)=L at*;have hL0:=wK.2 hLn;have hmul:(YP l a).line*((YP l a).words.length:Int)<=1099511627776*((YP l a).words.length:Int):=Int.mul_le_mul_of_nonneg_right hl.2 (by omega);refine one _ L.length (by simp only[okN,k2,if_true,Zq9];omega) ZV (by rw[hte,gy,LU]) (λx YM=>?_);rw[hte]at YM;rcases db.1 YM with YM|YM
     .exact(hx x YM).mono (by omega)
     .obtain⟨y,hy,rfl⟩:=gl.1 YM;have:=hLb y hy;refine⟨?_,?_,hl1,hl.2⟩<;>simp only[eS]<;>omega
    .rw[av k2];by_cases k3:(YP l a).kind=3
     .rw[ar k3];refine step _ ((mz hI YE a).more (by omega)) ?_;have hyr:=fV (w:=(YP l a).w) (high:=(YP l a).h) (y:=s.Yq.y+s.Yq.m) (s:=dZ rs a) (λf hf'=>(hf f hf').yB);have hbx:=YE.box (.inl k3);have hh:=YE.h;refine one _ 1 (by simp[okN,k3]) ZV (by simp[WS.mono,WS.put]) (λx YM=>?_);simp only[WS.mono,WS.put]at YM;rcases db.1 YM with YM|YM
      .exact(hx x YM).mono (by omega)
      .simp only[eu]at YM;subst YM;refine⟨?_,?_,?_,?_⟩<;>simp only<;>omega
     .rw[av k3];have k4:(YP l a).kind=4:=by rcases YE.kind with h|h|h|h;exact absurd h k1;exact absurd h k2;exact absurd h k3;exact h
      refine step _ ((kJ hD hI (by omega) YE k4).more (by omega)) ?_;exact one _ 0 (by simp[okN,k4]) ZV (by simp[WS.float]) (λx YM=>(hx x YM).mono (by omega))
  .rw[av L'];obtain rfl:a=e:=by omega
   exact⟨λx YM=>(hx x YM).mono (by omega),λ_=>0,by simp[kV],λi h1 h2=>by omega⟩
def IH(i:Int)(L:List Int)(h:∀x∈L,x≠i):∀k,tG i (List.replicate k i++L)=k
 |0=>by
  cases L with
  |nil=>rfl
  |cons x L=>rw[List.replicate_zero,kW,tG,av (h x (by simp))]
 |k+1=>by rw[List.replicate_succ,List.cons_append,tG,ar rfl,IH i L h k]
def zQ{cnt:Nat->Nat}:∀{n a:Nat} {x:Int},x∈blk cnt a n->∃i:Nat,x=i/\a<=i/\i<a+n
 |0,_,_,h=>by simp[kV]at h
 |n+1,a,x,h=>by
  rw[iB]at h;rcases db.1 h with h|h
  .exact⟨a,(List.mem_replicate.1 h).2,by omega,by omega⟩
  .obtain⟨i,h1,h2,h3⟩:=zQ h;exact⟨i,h1,by omega,by omega⟩
def DG{cnt:Nat->Nat}{of:List Int}:∀(r:List Nd) (i YZ:Nat),of.drop YZ=blk cnt i r.length->YZ<=of.length->(∀j (h:j<r.length),okN r[j] (cnt (i+j))=true)->Ci of r i YZ=true
 |[],i,YZ,h,hl,_=>by
  have:of.length<=YZ:=by
   have:=congrArg List.length h;simp[kV]at this;omega
  simp[Ci];omega
 |x::r,i,YZ,h,hl,ho=>by
  rw[ZR,iB]at h;have ht:mV of YZ i=cnt i:=by
   rw[mV,h];exact IH _ _ (λy hy=>by obtain⟨j,h1,h2,_⟩:=zQ hy;omega) _
  rw[Ci,ht];have h0:=ho 0 (by simp);simp only[List.getElem_cons_zero,Nat.add_zero]at h0;rw[h0,Bool.true_and];have hd:of.drop (YZ+cnt i)=blk cnt (i+1) r.length:=by
   rw[<-List.drop_drop,h,E1 (by simp)];simp
  refine DG r (i+1) _ hd ?_ (λj hj=>?_)
  .have:=congrArg List.length h;simp at this;omega
  .have:=ho (j+1) (by simpa using hj);simp only[List.getElem_cons_succ]at this
   rwa [show i+1+j=i+(j+1) by omega]
structure Ty(l:List Nd)(w:Int):Prop where
 may:sW l ((cq l w).atoms.map (·.node))=true
 nod:∀a∈(cq l w).atoms,0<=a.node/\a.node<l.length
 YZ:∀x∈(cq l w).atoms,AtI (1099511627776*((cst l 0 l.length:Nat):Int)) x
 len:(cq l w).atoms.length<=cst l 0 l.length
 flen:(cq l w).B'.length<=cst l 0 l.length
 flo:∀f∈(cq l w).B',FOk (1099511627776*((cst l 0 l.length:Nat):Int)) f
def AT{l:List Nd}(hb:Zk l=true)(hn:l.length<=2000){w:Int}(h1:1<=w)(h2:w<=1099511627776):Ty l w:=by
 have hD:=wh hb hn h1 h2;have hr:bQ l 0 l.length=true:=by simp only[Zk,Ba]at hb;exact hb.2
 have hI:fP ⟨[],[],0,⟨0,0⟩⟩ 0:=⟨⟨by simp,by simp,by simp,by simp,by simp⟩,by simp,by simp⟩
 have hA:=vi hD l.length 0 l.length ⟨[],[],0,⟨0,0⟩⟩ 0 (by omega) (by omega) (YY _) hr hI (by simp);have hJ:=gv hD l.length 0 l.length ⟨[],[],0,⟨0,0⟩⟩ 0 (by omega) (by omega) (YY _) hr hI;rw[jc]at hA hJ;have ha:(cq l w).atoms=(cS l (gu l w) l.length 0 l.length ⟨[],[],0,⟨0,0⟩⟩).atoms:=rfl;have hf:(cq l w).B'=(cS l (gu l w) l.length 0 l.length ⟨[],[],0,⟨0,0⟩⟩).B'.map (nW (cS l (gu l w) l.length 0 l.length ⟨[],[],0,⟨0,0⟩⟩).atoms.length):=rfl;obtain⟨hat,cnt,hc,hco⟩:=hA;rw[List.map_nil,kW,Nat.sub_zero]at hc;refine⟨?_,λa hm=>?_,by rw[ha];exact hat,by rw[ha];exact hJ.YZ,by rw[hf,de];exact hJ.fl,λf hm=>?_⟩
 .rw[ha,hc];refine DG (cnt:=cnt) l 0 0 (by simpa using hc) (Nat.zero_le _) (λj hj=>?_);have:=hco j (Nat.zero_le _) hj;rw[jC hj]at this
  rwa [jc]
 .have hm':a.node∈blk cnt 0 l.length:=by rw[<-hc,<-ha];exact List.mem_map_of_mem hm
  obtain⟨i,e,_,hi⟩:=zQ hm';omega
 .rw[hf]at hm;obtain⟨g,hg,rfl⟩:=gl.1 hm;have:=hJ.bd.fl g hg;exact⟨this.1,this.2,this.3,this.4,this.5,this.6,this.7,this.8⟩
def wZ:∀(l:List Nd),(∀x∈l,NOk x)->((l.map λn=>4+n.words.length).sum:Nat)<=4*(l.length:Int)+lP l/\∀x∈l,(x.words.length:Int)<=lP l
 |[],_=>by simp[lP]
 |x::l,h=>by
  obtain⟨h1,h2⟩:=wZ l (λy hy=>h y (by simp[hy]));have hx:=h x (by simp);have hp:(x.words.length:Int)<=pof x/\0<=pof x:=by
   unfold pof;by_cases k1:x.kind=1
   .have:=hx.nowords (by omega);simp[k1,this]
   .by_cases k2:x.kind=2
    .simp[k2]
    .have:=hx.nowords k2;simp[k1,k2,this]
  have hp0:0<=lP l:=by
   have:∀l:List Nd,0<=lP l:=by
    intro l
    induction l with
    |nil=>simp[lP]
    |cons y l ih=>
     have:0<=pof y:=by unfold pof;split;omega;split;omega;omega
     simp only[lP];omega
   exact this l
  refine⟨by simp only[dP,List.sum_cons,ZR,lP];omega,λy hy=>?_⟩;rcases cm.1 hy with rfl|hy
  .simp only[lP];omega
  .have:=h2 y hy;simp only[lP];omega
structure Ur(l:List Nd):Prop where
 isb:Zk l=true
 len:l.length<=2000
 words:∀x∈l,x.words.length<=2000
 cst:cst l 0 l.length<=10000
def zN{l:List Nd}(h:iz l=0):Ur l:=by
 unfold iz at h;split at h
 .rename_i hb;split at h
  .cases h
  .rename_i hc;have Ze:l.all Nd.ok=true:=by simp only[Zk,Ba]at hb;exact hb.1
   rw[jA,ar hb,xB l Ze l.length (YY _),ic]at hc;simp only[not_or]at hc;obtain⟨h1,h2⟩:=wZ l (λx hx=>by obtain⟨i,hi,rfl⟩:=List.getElem_of_mem hx;exact gm hb hi);refine⟨hb,by omega,λx hx=>by have:=h2 x hx;omega,?_⟩;have:Vc.cst l 0 l.length=(l.map λn=>4+n.words.length).sum:=by unfold Vc.cst;rw[ic,Ad]
   omega
 .cases h
open Go.Proofs Go.Proofs.Tryz
def ab.NR{P:Program}{n:Nat}{Q:St->Prop}{s:Nat->V}{U K:af}{todo:List It}(l ds:List Nat){e sz:Nat}{v:V}{rows:List V}(hK:aa K U)(ho:aL K U e sz v rows)
 (hs:∀d∈ds,s d=v)(hr:ab P n todo ⟨λi=>if ds.contains i then .sl sz rows else FF l s i,K⟩ Q):ab P n todo ⟨s,U⟩ Q:=by
 refine ab.weaken ⟨hK,λi=>?_⟩ hr;show Wk U K (s i) _;by_cases hi:ds.contains i=true
 .simp only[ar hi];rw[hs i (by simpa using hi)];exact ho.wk (aa.refl K) hK
 .simp only[av hi];unfold FF;split
  .exact Wk.refl hK _
  .exact Wk.undef _
def ofR(l:List Nd)(w:Int):List Int:=(cq l w).atoms.map (·.node)
def br(l:List Nd)(w h:Int):Bk:=⟨l,w,h,(cq l w).atoms,(cq l w).B',(cq l w).Ym,qZ l (ofR l w)⟩
def DQ(n:Int):Prop:=1<=n/\n<=1099511627776
instance (n:Int):Decidable (DQ n):=by unfold DQ;infer_instance
def ew(l:List Nd)(w h:Int):Int:=if¬(DQ w/\DQ h)then 3 else if iz l≠0 then iz l else if(jA l).1.Yg>mulR (iJ l h) 32768 then 2 else 0
def Ev(l:List Nd)(w h:Int):V:=if ew l w h=0 then .rp (bx (br l w h))else .nilp
def fH.JZ{K U:af}{id:Nat}{o:Ob}(hK:K id≠none):∀{l:List Nd} {rows:List V},fH K U l rows->fH K (C' U id o) l rows
 |[],[],_=>trivial
 |_::_,_::_,⟨⟨w,h1,h2⟩,h⟩=>⟨⟨w,h1,h2.ae hK⟩,fH.JZ hK h⟩
 |[],_::_,h=>h.elim
 |_::_,[],h=>h.elim
def De.JZ{K U:af}{id:Nat}{o:Ob}(hK:K id≠none){v:V}{l:List Nd}(h:De K U v l):De K (C' U id o) v l:=by
 obtain⟨rows,ho,hr⟩:=h;exact⟨rows,ho.ae hK,hr.JZ hK⟩
def mA{α:Type}{f:α->V}(h:∀a,(f a).cu=true):∀l:List α,cj (l.map f)=true
 |[]=>rfl
 |a::l=>by simp only[dP,cj,h a,mA h l,Bool.and_self]
def Vg(l:List Int)(U:af):bB U false 1 (.rp (bh l))=some (bh l):=rfl
def vQ(vn:V)(w h:Int)(va vf:V)(ht:Int)(vb:V):Ob:=⟨132,7,[.agg [vn,vI w,vI h,va,vf,vI ht,vb]]⟩
def KV{U C:af}{ib:Nat}{b:Bk}{vn:V}(hs:aa U C)(z:U ib=none)(hr:C ib=some (vQ vn b.w b.h (bp b.atoms) (aH b.Ye) b.Ym (bC b.Ys)))(ho:De (aU U ib) C vn b.nodes):
 ak (.P' [.ptr ib 0 0,vI 0]) C λr Z'=>r=.P' [.rp (bx b),vI 0]/\Z'=U:=by
 have hN:∀id,aU U ib id=none->U id=none:=λid h=>(aF.1 h).2;have n1:cj [bp b.atoms,aH b.Ye,vI b.Ym,bC b.Ys]=true:=by
  have a1:(bp b.atoms).cu=true:=mA (f:=di) (λ_=>rfl) b.atoms;have a2:(aH b.Ye).cu=true:=mA (f:=aK) (λ_=>rfl) b.Ye;have a3:(bC b.Ys).cu=true:=mA (f:=fc) (λ_=>rfl) b.Ys;simp only[cj,a1,a2,a3];rfl
 have hf:Fz C (λid=>U id=none) (.P' [.ptr ib 0 0,vI 0]) (.P' [.rp (bx b),vI 0]):=by
  refine .P' _ _ (.cons _ _ _ _ (.ptr ib 0 _ _ _ hr z rfl (.agg _ _ ?_)) (FzL.same [vI 0] rfl));exact .cons _ _ _ _ (ho.fz hN) (.cons _ _ _ _ (.same _ rfl) (.cons _ _ _ _ (.same _ rfl) (FzL.same _ n1)))
 exact⟨_,U,hs,hf.wk hs (λ_ h=>h),rfl,rfl⟩
def OS(l:List Nd)(hl:dV l)(w h:Int):aJ prog 23 [aI l,vI w,vI h] (.P' [Ev l w h,vI (ew l w h)]):=λU=>by
 refine e23.r (by simp[c23]) ?_;have hs:=aa.refl U;have bad:∀n:Int,ew l w h=n->n≠0->(Ev l w h=.nilp/\ew l w h=n):=λn hn h0=>⟨by rw[Ev,av (by rw[hn];exact h0)],hn⟩
 refine ab.mix 16 ?_;by_cases hw:DQ w
 .have mw:=sZ w;rw[show decide (1<=w/\w<=1099511627776)=true from ZN hw]at mw;apply sR;simp only[go_sem,seval,c23];refine ab.ay rfl rfl rfl (mw _) ?_;apply sR;simp only[go_sem,seval];by_cases hh:DQ h
  .have mh:=sZ h;rw[show decide (1<=h/\h<=1099511627776)=true from ZN hh]at mh;refine ab.ay rfl rfl rfl (mh _) ?_;apply sR;simp only[go_sem,seval];refine ab.ay rfl rfl rfl (DP l hl _) ?_;by_cases hc:iz l=0
   .have q:(iz l≠0)=False:=T' (λh=>h hc);have hck:=DP l hl;rw[hc]at hck q|-;apply sR;simp only[go_sem,seval,q];refine ab.ay rfl rfl rfl (Bu l hl _) ?_;apply sR;simp only[go_sem,seval,Sm.cells];refine ad λi9 Z9 s9 a9 f9=>?_;have z9:=hs.none f9;replace hs:=hs.trans s9;simp only[go_sem,seval,a9];generalize ZA:C' _ i9 _=Y9;replace a9:=(congrFun ZA i9).symm.trans ag;replace hs:=Eq.subst (motive:=aa _) ZA (hs.ax z9);clear ZA;refine Go.bW rfl rfl rfl (JP l hl h) ?_;apply sG;simp only[go_sem,seval];refine Go.bW rfl rfl rfl (Uc (iJ l h) 32768) ?_;have hE:ew l w h=if(jA l).1.Yg>mulR (iJ l h) 32768 then 2 else 0:=by rw[ew,av (λh=>h ⟨hw,hh⟩),av (λh=>h hc)]
    by_cases hlim:(jA l).1.Yg>mulR (iJ l h) 32768
    .have q1:((jA l).1.Yg>mulR (iJ l h) 32768)=True:=Yi hlim;obtain⟨e1,e2⟩:=bad 2 (by rw[hE,ar hlim]) (by decide);rw[e1,e2];apply sG;simp only[go_sem,seval,q1];exact ak.pure hs rfl
    have q1:((jA l).1.Yg>mulR (iJ l h) 32768)=False:=T' hlim;have e2:ew l w h=0:=by rw[hE,av hlim]
    have e1:Ev l w h=.rp (bx (br l w h)):=by rw[Ev,ar e2]
    rw[e1,e2];obtain⟨hisb,hn2,hwo,hcs⟩:=zN hc;have hG:=AT hisb hn2 hw.1 hw.2;have hfl:=Th l hl hisb hn2 (λx hx=>by have:=hwo x hx;omega) (by omega) hck w hw.1 hw.2;apply sG;simp only[go_sem,seval,q1];refine ab.call rfl rfl rfl (NC l hl.1 _) ?_;rintro vn Z10 ⟨hs10,ho10⟩;replace ho10:=ho10.OB hs;replace hs:=hs.trans hs10;obtain⟨cn,sn⟩:=ho10.vc;have hnl:=ho10.len;rw[de]at hnl;apply sR;simp only[go_sem,seval,cn,sn];refine ad λi46 Z46 s46 a46 f46=>?_;have z46:=hs.none f46;replace hs:=hs.trans s46;have ho46:aL (aU U i46) Z46 59 20 vn (l.map jD):=by
     rcases ho10 with h|⟨id,h3,h4,h5⟩
     .exact .inl h
     .exact .inr ⟨id,h3,s46 _ _ h4,aF.2 ⟨λe=>(by rw[e,f46]at h4;cases h4),h5⟩⟩
    have k46:aU U i46 i46≠none:=λh=>(aF.1 h).1 rfl;simp only[go_sem,seval,a46,hnl];refine ab.eY (λst=>aa U st.U/\De (aU U i46) st.U vn l/\st.U i46=some (vQ vn w h .aC .aC 0 .aC)/\st.s 0=aI l/\st.s 1=vI w/\st.s 11=.ptr i46 0 0)
     (λm st=>∃(i:Nat) (rows:List V),i<=l.length/\m=l.length-i/\aa U st.U/\aL (aU U i46) st.U 59 20 vn rows/\rows.length=l.length/\fH (aU U i46) st.U (l.take i) (rows.take i)/\rows.drop i=(l.drop i).map jD/\st.U i46=some (vQ vn w h .aC .aC 0 .aC)/\
       st.s 0=aI l/\st.s 1=vI w/\st.s 11=.ptr i46 0 0/\st.s 51=vI l.length/\st.s 52=vI i) l.length ?_ ?_ ?_
    .exact⟨0,l.map jD,by omega,rfl,hs,ho46,by simp,trivial,by simp,a46,rfl,rfl,rfl,rfl,rfl⟩
    .clear hs ho46 a46 ho10 a9;rintro m ⟨S,C⟩ ⟨i,rows,hi,rfl,hs,ho,hn,hr,hd,hb,t0,t1,t11,t51,t52⟩;simp only at hs ho hr hb t0 t1 t11 t51 t52;refine ab.mix 60 ?_;by_cases L':i<l.length
     .have q:((i:Int)<l.length)=True:=Yi;obtain⟨id,rfl,O',hkid⟩:∃id,vn=.own id 0 rows.length/\C id=some ⟨59,20,rows⟩/\aU U i46 id=none:=by
       rcases ho with⟨_,h0⟩|h
       .rw[h0]at hn;simp at hn;omega
       .exact h
      have hdc:(l.drop i)=l[i]::l.drop (i+1):=ie L';have hw':=hwo _ (Zw L');have Zg:l.take (i+1)=l.take i++[l[i]]:=Zq0 L';have hnd:=λU=>jX l L' U;generalize hxe:l[i]=x at*;have hrow':rows[i]?=some (.agg x.cells):=by
       have:(rows.drop i)[0]?=some (jD x):=by rw[hd,hdc];rfl
       rw[Mh]at this;exact this
      have YF:id≠i46:=(aF.1 hkid).1;have hio:∀X':af,X' id=some ⟨59,20,rows⟩->bo X' 20 (.own id 0 rows.length) (.int .i64 i)=some (.ptr id i 0):=λX' h=>lp h (by omega);have r1:Yr .i64 ((i:Int)+1):=ai;rw[vQ]at hb;apply sR;simp only[go_sem,seval,t51,t52,q,cQ];refine ab.uO (by kernel_rfl) [0,1,2,3,4,5,6,7,8,9,10,11,12,13] [[],[0],[0,1],[0,1,2],[],[],[],[5,6],[5,6,7],[5,6,7,8],[5,6,7,8,9],[0,1,2,3,4,5,6,7,8,9,10],[0,1,2,3,4,5,6,7,8,9,10,11],[0,1,2,3,4,5,6,7,8,9,10,11,12]] [0,2,4,6,8,10,12,14,16,18,20,7,22,24,26] (by kernel_rfl) (by kernel_rfl) ?_;refine RE.ZF (n:=0) [20,7,22,24,26] [0,2,4,6,8,10,12,14,16,18] [⟨(.some 55),(.YO (.t 11)),.none⟩,⟨(.some 56),(.nilCheck (.t 55)),.none⟩,⟨(.some 57),(.YJ .false 0 1 (.t 56)),.none⟩,⟨(.some 58),(.load .false 1 (.t 57)),.none⟩,⟨(.some 59),(.YO (.t 12)),.none⟩,⟨(.some 60),(.YO (.t 0)),.none⟩,⟨(.some 61),(.YO (.t 12)),.none⟩,⟨(.some 62),(.idxA 20 (.t 60) (.t 61)),.none⟩,⟨(.some 63),(.YJ .false 16 1 (.t 62)),.none⟩,⟨(.some 64),(.load .false 1 (.t 63)),.none⟩] rfl rfl ?_;apply sG;simp only[go_sem,seval,t0,t11,hb,hnd,Nd.cells,Vg];refine RE.call rfl rfl rfl rfl rfl (Iv x.words (by omega) _) ?_;rintro wv Z2 ⟨hs2,hw2⟩;simp only at hs2 hw2;have hid2:=hs2 _ _ O';have Zu:=hs2 _ _ hb;obtain⟨cw,sw⟩:=hw2.vc;have hio2:=hio _ hid2;refine RE.chk rfl rfl rfl rfl rfl trivial (by simp only[go_sem,seval,Zu]) ?_;refine RE.ZF (n:=0) [] [22,24,26] [⟨(.some 66),(.idxA 20 (.t 58) (.t 59)),.none⟩,⟨(.some 67),(.YJ .false 16 1 (.t 66)),.none⟩,⟨.none,(.store 1 (.t 67) (.t 65)),.none⟩] rfl rfl ?_;apply sG;simp only[go_sem,seval,hio2,hid2,hrow',Nd.cells,cw,sw];have hsf:aa U (C' Z2 id ⟨59,20,rows.set i (ndW x wv)⟩):=(hs.trans hs2).ax (aF.1 hkid).2;have hk2:∀j,j≠id->∀o,Z2 j=some o->C' Z2 id ⟨59,20,rows.set i (ndW x wv)⟩ j=some o:=λj hj o hjo=>by rw[ae hj];exact hjo
      have h1:=(hr.mono hs2).kept hid2 hk2;have h2:aL (aU U i46) (C' Z2 id ⟨59,20,rows.set i (ndW x wv)⟩) 3 1 wv (x.words.map vI):=by
       rcases hw2 with h|⟨iw,e1,e2,e3⟩
       .exact .inl h
       .have n1:iw≠id:=λe=>by rw[e,hid2]at e2;simp at e2
        refine .inr ⟨iw,e1,by rw[ae n1];exact e2,aF.2 ⟨λe=>(by rw[e,hb]at e3;cases e3),hs.none e3⟩⟩
      have h3:(rows.set i (ndW x wv)).take (i+1)=rows.take i++[ndW x wv]:=by
       rw[Zq0 (by simp;omega),List.take_set_of_le (by omega)];simp
      apply sR;simp only[go_sem,seval,t0,t1,t11,t51,t52,r1];refine⟨_,?_,i+1,rows.set i (ndW x wv),by omega,rfl,hsf,.inr ⟨id,by rw[List.length_set],ag,hkid⟩,by simp[hn],?_,?_,?_,rfl⟩
      .omega
      .rw[h3,Zg];exact h1.app ⟨⟨wv,rfl,h2⟩,trivial⟩
      .rw[List.drop_set_of_lt (by omega)];have:rows.drop (i+1)=(rows.drop i).drop 1:=by simp
       rw[this,hd,hdc];rfl
      .exact(ae YF.symm).trans Zu
     .have q:((i:Int)<l.length)=False:=T';have hie:i=l.length:=by omega
      subst hie;rw[ic,jW (by omega)]at hr;apply sR;simp only[go_sem,seval,t0,t1,t11,t51,t52,q];exact⟨hs,⟨rows,ho,hr⟩,hb⟩
    .clear hs ho46 a46 ho10 a9;rintro⟨S,C⟩ ⟨hs,how,hb,t0,t1,t11⟩;simp only at hs how hb t0 t1 t11;have hla:=ik (cq l w).atoms;have hal:=hG.len;have hbr:=RO l hl hisb (ofR l w) (by rw[ofR,de];omega) (λx hx=>by
      obtain⟨a,ha,rfl⟩:=gl.1 hx;exact hG.nod a ha) hG.may
     have hofe:ofR l w=(cq l w).atoms.map (·.node):=rfl;rw[vQ]at hb;rw[JU]at hfl;refine ab.mix 16 ?_;apply sR;simp only[go_sem,seval,t0,t1,t11];refine ab.ay rfl rfl rfl (hfl _) ?_;apply sR;simp only[go_sem,seval,t11,hb,hla];generalize hq:C' C i46 _=Y0;have hb0:Y0 i46=some (vQ vn w h (bp (cq l w).atoms) (aH (cq l w).B') (cq l w).Ym .aC):=by rw[<-hq];exact ag
     have YT:aa U Y0:=hq▸hs.ax z46;have how0:De (aU U i46) Y0 vn l:=hq▸how.JZ k46;clear hq hs how hb;refine ab.eY (λst=>aa Y0 st.U/\aL Y0 st.U 3 1 (st.s 13) ((ofR l w).map vI)/\st.s 0=aI l/\st.s 11=.ptr i46 0 0)
      (λm st=>∃j:Nat,j<=(cq l w).atoms.length/\m=(cq l w).atoms.length-j/\aa Y0 st.U/\aL Y0 st.U 3 1 (st.s 13) ((((cq l w).atoms.take j).map (·.node)).map vI)/\st.s 0=aI l/\st.s 11=.ptr i46 0 0/\st.s 82=bp (cq l w).atoms/\st.s 83=vI (cq l w).atoms.length/\st.s 84=vI j) (cq l w).atoms.length ?_ ?_ ?_
     .exact⟨0,by omega,rfl,aa.refl _,aL.start,t0,t11,rfl,rfl,rfl⟩
     .clear t0 t1 t11;rintro m ⟨S,C⟩ ⟨j,hj,rfl,hsj,ho,t0,t11,t82,t83,t84⟩;simp only at hsj ho t0 t11 t82 t83 t84;generalize hv13:S 13=v13 at ho;refine ab.mix 85 ?_;by_cases L':j<(cq l w).atoms.length
      .have q:((j:Int)<(cq l w).atoms.length)=True:=Yi;have Yb:=λU=>jf (U:=U) L';have YS:(((cq l w).atoms.take (j+1)).map (·.node)).map vI=(((cq l w).atoms.take j).map (·.node)).map vI++[vI (cq l w).atoms[j].node]:=by
        rw[Zq0 L',gy,gy];rfl
       have hlm:((((cq l w).atoms.take j).map (·.node)).map vI).length=j:=by rw[de,de,ia];omega
       have hat:di (cq l w).atoms[j]=.agg [vI (cq l w).atoms[j].kind,vI (cq l w).atoms[j].node,vI (cq l w).atoms[j].fr,vI (cq l w).atoms[j].to,vI (cq l w).atoms[j].x,vI (cq l w).atoms[j].y,vI (cq l w).atoms[j].w,vI (cq l w).atoms[j].h]:=rfl;generalize (((cq l w).atoms.take j).map (·.node)).map vI=rows at*;generalize (cq l w).atoms[j]=x at*;have r1:Yr .i64 ((j:Int)+1):=ai;have hs:=aa.refl C;apply sR;simp only[go_sem,seval,t82,t83,t84,q,Yb,hat];refine ad λi15 Y15 s15 a15 f15=>?_;have z15:=hs.none f15;replace hs:=hs.trans s15;simp only[go_sem,seval,a15,hv13];generalize hq15:C' _ i15 _=Z15;replace a15:=(congrFun hq15 i15).symm.trans ag;replace hs:=Eq.subst (motive:=aa _) hq15 (hs.ax z15);clear hq15;refine ad λi91 Z91 s91 a91 f91=>?_;obtain⟨Yt,hda,ZI⟩:=ho.dst (hs.trans s91);have Zu:(rows.length+1)*9<=140737488355328:=by omega
       simp only[go_sem,seval,hda,dh a91,Zu];refine eL λi92 Z92 s92 a92 f92=>?_;have k92:=(ZI Y0 (aa.refl _) Z91 (hsj.trans (hs.trans s91))).trans s92;have n92:Y0 i92=none:=(hsj.trans (hs.trans s91)).none f92;simp only[go_sem,seval,t0,t11,t82,t83,t84,r1];refine⟨_,?_,j+1,by omega,rfl,k92,?_,rfl⟩
       .omega
       .rw[YS];exact aL.new (by simp) a92 n92
      .have q:((j:Int)<(cq l w).atoms.length)=False:=T';have hje:j=(cq l w).atoms.length:=by omega
       rw[hje,ic,<-hofe]at ho;apply sR;simp only[go_sem,seval,t0,t11,t83,t84,hv13,q];exact⟨hsj,ho⟩
     .clear t0 t1 t11;rintro⟨S,C⟩ ⟨hsj,ho,t0,t11⟩;simp only at hsj ho t0 t11;refine ab.NR [0,11] [13] hsj ho (by simp) ?_;generalize hS:(λi=>if[13].contains i then V.sl 1 ((ofR l w).map vI)else FF [0,11] S i)=S';have u0:S' 0=aI l:=by rw[<-hS];exact t0
      have u11:S' 11=.ptr i46 0 0:=by rw[<-hS];exact t11
      have u13:S' 13=bh (ofR l w):=by rw[<-hS];rfl
      clear hS t0 t11;refine ab.mix 16 ?_;rw[vQ]at hb0;apply sR;simp only[go_sem,seval,u0,u11,u13];refine ab.ay rfl rfl rfl (hbr _) ?_;apply sR;simp only[go_sem,seval,u11,hb0,j8,j5];exact KV (b:=br l w h) (YT.ax z46) z46 ag (how0.JZ k46)
   .have q:(iz l≠0)=True:=Yi hc;obtain⟨e1,e2⟩:=bad (iz l) (by rw[ew,av (λh=>h ⟨hw,hh⟩),ar hc]) hc;rw[e1,e2];apply sR;simp only[go_sem,seval,q];exact ak.pure hs rfl
  .have mh:=sZ h;rw[show decide (1<=h/\h<=1099511627776)=false from Zz hh]at mh;obtain⟨e1,e2⟩:=bad 3 (by rw[ew,ar (λh=>hh h.2)]) (by decide);rw[e1,e2];refine ab.ay rfl rfl rfl (mh _) ?_;apply sR;simp only[go_sem,seval];exact ak.pure hs rfl
 .have mw:=sZ w;rw[show decide (1<=w/\w<=1099511627776)=false from Zz hw]at mw;obtain⟨e1,e2⟩:=bad 3 (by rw[ew,ar (λh=>hw h.1)]) (by decide);rw[e1,e2];apply sR;simp only[go_sem,seval,c23];refine ab.ay rfl rfl rfl (mw _) ?_;apply sR;simp only[go_sem,seval];exact ak.pure hs rfl
def su{l:List Nd}{w h:Int}(he:ew l w h=0):DQ w/\DQ h/\iz l=0:=by
 unfold ew at he;split at he
 .cases he
 .rename_i h1;split at he
  .rename_i h2;exact absurd he h2
  .rename_i h2;exact⟨Decidable.byContradiction λh=>h1 (λg=>h g.1),Decidable.byContradiction λh=>h1 (λg=>h g.2),Decidable.byContradiction h2⟩
def Hj{l:List Nd}(hl:dV l){w h:Int}(he:ew l w h=0):BkFull (br l w h)/\∀f∈(br l w h).Ye,0<=f.h:=by
 obtain⟨hw,hh,hc⟩:=su he;obtain⟨hisb,hn,hwo,hcs⟩:=zN hc;have hG:=AT hisb hn hw.1 hw.2;have hl1:=hG.len;have hl2:=hG.flen;have ht:∀a∈(cq l w).atoms,-18014398509481984<=a.y/\a.y<=18014398509481984/\0<=a.h/\a.h<=18014398509481984:=λa ha=>by
  have:=hG.YZ a ha;have h0:=this.y0;have h1:=this.y1;have h2:=this.h0;have h3:=this.h1;omega
 refine⟨⟨⟨⟨?_,λa ha=>?_⟩,ht,?_,?_,λf hf=>(hG.flo f hf).ok (by omega),?_⟩,hl,hisb,hh.1,hh.2,hG.nod⟩,λf hf=>(hG.flo f hf).h0⟩
 .show(cq l w).atoms.length<=_;omega
 .have:=ht a ha;omega
 .show(cq l w).atoms.length<=_;omega
 .show(cq l w).B'.length<=_;omega
 .show(qZ l (ofR l w)).length=(cq l w).atoms.length+1;unfold qZ ofR;simp
def eE(b:Bk)(a:Nat):Int:=((b.atoms.drop a).map (·.h)).sum
def vS{b:Bk}{a:Nat}(h:a<b.atoms.length):eE b a=(b.atoms[a]).h+eE b (a+1):=by
 unfold eE;rw[ie h,dP,List.sum_cons]
def rv{b:Bk}(hp:∀a∈b.atoms,1<=a.h)(a:Nat):0<=eE b a:=by
 have key:∀l:List Zq,(∀a∈l,1<=a.h)->0<=(l.map (·.h)).sum:=by
  intro l
  induction l with
  |nil=>intro _;simp
  |cons x l ih=>
   intro h;have h1:=h x (by simp);have h2:=ih (λy hy=>h y (by simp[hy]));simp only[dP,List.sum_cons];omega
 exact key _ λx hx=>hp x (List.mem_of_mem_drop hx)
def BT{b:Bk}(hp:∀a∈b.atoms,1<=a.h)(a:Nat):∀n,eE b (a+n)<=eE b a
 |0=>Int.le_refl _
 |n+1=>by
  have ih:=BT hp a n;by_cases h:a+n<b.atoms.length
  .have h1:=vS h;have h2:=hp _ (Zw h);rw[<-Nat.add_assoc];omega
  .have:eE b (a+(n+1))=eE b (a+n):=by
    unfold eE;rw[List.drop_of_length_le (by omega),List.drop_of_length_le (by omega)]
   omega
def tk{body:Int}(f:U')(r:List U'):(dk body (f::r) 0).2.1.length<(f::r).length:=by
 have key:∀(l:List U') (sh:Int),(dk body l sh).2.1.length<=l.length:=by
  intro l
  induction l with
  |nil=>intro sh;simp[dk]
  |cons g l ih=>
   intro sh;rw[dk];split
   .simp
   .have:=ih (sh+min g.h body);simp only[ZR];omega
 rw[dk,av (by omega)];have:=key r (0+min f.h body);simp only[ZR];omega
def oe{b:Bk}{s:Zm}{to kept shift body:Int}:(dS b.atoms b.Ye s to kept shift body).2.length<=b.Ye.length:=by
 unfold dS;split
 .have h1:=pf (uL b.atoms s kept) shift body (ez b.Ye s to);have h2:(ez b.Ye s to).length<=b.Ye.length:=pd _ _ _;omega
 .simp
inductive kC(b:Bk)(x:Wx):Sta->Prop
 |whole (c:Nat) (fr:Bool) (p:List U') (h1:x.s.atom<c) (h2:c<=b.atoms.length) (h3:p.length<=b.Ye.length):kC b x ⟨⟨c,0,fr⟩,p⟩
 |more (d:Int) (p:List U') (h1:x.s.done<d) (h2:d<(atG b.atoms x.s.atom).h) (h3:p.length<=b.Ye.length):kC b x ⟨⟨x.s.atom,d,false⟩,p⟩
def sq{b:Bk}(hb:BkOk b){x:Wx}(hm:dI b.atoms x.s)(ZX:∀a∈b.atoms,1<=a.h)(hbody:1<=x.body):kC b x (eI b x):=by
 have hrl:dQ b x<=b.atoms.length:=oY;have ZO:=hb.brk;unfold eI;split
 .rename_i M';obtain⟨c,h1,h2,h3⟩:=rL M' (by omega);rw[show ye b x=c from h1,e8];exact .whole c _ _ h2 (by omega) oe
 .unfold vE dU;have hso:qT b.atoms x.s x.body:=⟨hm,hbody⟩
  rw[ar (show qT b.atoms ({ x with kind:=1 }:Wx).s ({ x with kind:=1 }:Wx).body from hso)];obtain⟨⟨h0,h1⟩,h2,h3⟩:=hm;obtain⟨k,hk⟩:∃k:Nat,x.s.atom=k:=⟨x.s.atom.toNat,by omega⟩
  have hkl:k<b.atoms.length:=by omega
  have hp:=ZX _ (Zw hkl);have ha:atG b.atoms x.s.atom=b.atoms[k]:=by rw[hk,aZ hkl]
  rw[ha]at h3;have hph:(fL b.atoms x.s.atom).h=b.atoms[k].h:=by rw[fL,ha]
  unfold jo;have e1:(ft b.atoms x.s x.body).fr=x.s.done:=rfl;have e2:(ft b.atoms x.s x.body).atom=x.s.atom:=rfl;have e3:(ft b.atoms x.s x.body).h=min (b.atoms[k].h-x.s.done) x.body:=by rw[<-hph];rfl
  split
  .rename_i L';have hlt':x.s.done+min (b.atoms[k].h-x.s.done) x.body<(atG b.atoms x.s.atom).h:=by rw[<-e3];exact L'
   have:=kC.more (b:=b) (x:=x) (x.s.done+min (b.atoms[k].h-x.s.done) x.body) (dS b.atoms b.Ye x.s (x.s.atom+1) 0 0 x.body).2 (by omega) hlt' oe;rw[<-e3]at this;exact this
  .have:=kC.whole (b:=b) (x:=x) (k+1) false (dS b.atoms b.Ye x.s (x.s.atom+1) 0 0 x.body).2 (by omega) (by omega) oe;have e4:((k+1:Nat):Int)=x.s.atom+1:=by omega
   rw[e4]at this;exact this
structure SkI(s:WS):Prop where
 pw:s.atoms.Pairwise λa b=>a.y+a.h<=b.y
 q:∀a∈s.atoms,a.y+a.h<=s.Yq.y
def SkI.put{s:WS}(h:SkI s){a:Zq}(h1:s.Yq.y<=a.y)(h2:0<=a.h):SkI (s.put a):=by
 refine⟨?_,λx hx=>?_⟩
 .simp only[WS.put];rw[List.pairwise_append];refine⟨h.pw,by simp,λx hx y hy=>?_⟩;simp only[eu]at hy;subst hy;have:=h.q x hx;omega
 .simp only[WS.put]at hx|-;rcases db.1 hx with hx|hx
  .have:=h.q x hx;omega
  .simp only[eu]at hx;subst hx;omega
def SkI.Yq{s:WS}(h:SkI s){p:Pn}(hp:s.Yq.y<=p.y):SkI { s with Yq:=p }:=⟨h.pw,λa ha=>by have:=h.q a ha;simp only;omega⟩
def Gb{p:Pn}{m d:Int}(h0:0<=p.m)(hd:0<=d):p.y<=(eg p m d).y:=by
 simp only[eg,wT];(repeat' split)<;>omega
def MM{p:Pn}{m d:Int}(h0:0<=p.m)(hd:0<=d):p.y<=(mX p m d).y:=by
 simp only[mX,wT];(repeat' split)<;>(try simp only)<;>omega
def SkI.enter{s:WS}(h:SkI s)(h0:0<=s.Yq.m){t:Sty}(ht:SOk t):SkI (s.enter t):=by
 have hp:=ht.Yp.1;unfold WS.enter;simp only;refine h.Yq ?_;split
 .have hc:s.Yq.y<=(j3 s.Yq (dM (nD t.clear) s.B').1).y/\0<=(j3 s.Yq (dM (nD t.clear) s.B').1).m:=by
   unfold j3;split<;>(try simp only)<;>omega
  exact Int.le_trans hc.1 (Gb hc.2 hp)
 .exact Gb h0 hp
def SkI.leave{s:WS}(h:SkI s)(h0:0<=s.Yq.m){t:Sty}(ht:SOk t):SkI (s.leave t):=h.Yq (MM h0 ht.Yj.1)
def SkI.text{rs:List Rm}{s:WS}{τ:Nat}(h:fP s τ)(hk:SkI s){n:Nd}(hn:NOk n)(a:Nat):SkI (s.text rs a n):=by
 obtain⟨⟨hf,h1,h2,h3,h4⟩,h5,h6⟩:=h;have hl:=hn.line;have key:∀(k i:Nat) (y:Int) (t:WS),t.Yq.y<=y->SkI t->SkI ((cV s.B' n.words n.space n.line (dZ rs a) k i y).foldl (λs x=>s.put (eS a n.line x)) t):=by
  intro k
  induction k with
  |zero=>intro i y t _ ht;exact ht
  |succ k ih=>
   intro i y t hy ht;rw[cV];split
   .rw[j4];have hyr:y<=(pN s.B' n.words n.space n.line i y (dZ rs a)).y:=(fV (λf hf'=>(hf f hf').yB)).1;refine ih _ _ _ ?_ (ht.put (by simp only[eS];omega) hl.1);simp only[WS.put,eS];omega
   .exact ht
 exact key _ _ _ s (by omega) hk
def wb{l:List Nd}{rs:List Rm}(hD:DOk l rs):∀(k a e:Nat) (s:WS) (τ:Nat),e-a<=k->a<=e->e<=l.length->bQ l a e=true->fP s τ->SkI s->SkI (cS l rs k a e s)
 |0,a,e,s,τ,_,hae,_,_,_,h=>h
 |k+1,a,e,s,τ,hk,hae,he,hr,h,hs=>by
  rw[cS];by_cases L':a<e
  .rw[ar L'];obtain⟨h1,h2⟩:=cG he hr (YY a) L';obtain⟨h3,h4⟩:=du he hr L';have YE:NOk (YP l a):=by rw[jC (by omega)];exact gm hD.isb (by omega)
   have step:∀t,(∃D,fP t D)->SkI t->SkI (cS l rs k (a+(YW l a).toNat) e t):=λt ⟨D,ht⟩ hA=>
    wb hD k _ e t D (by omega) (by omega) he h3 ht hA
   have hm:=h.bd.m0;split
   .have hI2:=gv hD k (a+1) (a+(YW l a).toNat) _ _ (by omega) (by omega) (by omega) h4 (eZ h YE.st);have hS2:=wb hD k (a+1) (a+(YW l a).toNat) _ _ (by omega) (by omega) (by omega) h4 (eZ h YE.st) (hs.enter hm YE.st);exact step _ ⟨_,kj hI2 YE.st⟩ (hS2.leave hI2.bd.m0 YE.st)
   .split
    .exact step _ ⟨_,me h YE a⟩ (SkI.text h hs YE a)
    .split
     .refine step _ ⟨_,mz h YE a⟩ ?_;have hyr:=fV (w:=(YP l a).w) (high:=(YP l a).h) (y:=s.Yq.y+s.Yq.m) (s:=dZ rs a) (λf hf'=>(h.bd.fl f hf').yB);exact hs.put (by simp only;omega) YE.h.1
     .have k4:(YP l a).kind=4:=by rename_i g1 g2 g3;rcases YE.kind with h|h|h|h;exact absurd h g1;exact absurd h g2;exact absurd h g3;exact h
      exact step _ ⟨_,kJ hD h (by omega) YE k4⟩ ⟨hs.pw,hs.q⟩
  .rw[av L'];exact hs
def Oa{l:List Nd}(hb:Zk l=true)(hn:l.length<=2000){w:Int}(h1:1<=w)(h2:w<=1099511627776):(cq l w).atoms.Pairwise λa b=>a.y+a.h<=b.y:=by
 have hD:=wh hb hn h1 h2;have hr:bQ l 0 l.length=true:=by simp only[Zk,Ba]at hb;exact hb.2
 have hI:fP ⟨[],[],0,⟨0,0⟩⟩ 0:=⟨⟨by simp,by simp,by simp,by simp,by simp⟩,by simp,by simp⟩
 exact(wb hD l.length 0 l.length ⟨[],[],0,⟨0,0⟩⟩ 0 (by omega) (by omega) (YY _) hr hI ⟨by simp,by simp⟩).pw
def A2{l:List Zq}(h:l.Pairwise λa b=>a.y+a.h<=b.y){i j:Nat}(hij:i<j)(hj:j<l.length):l[i].y+l[i].h<=l[j].y:=List.pairwise_iff_getElem.1 h i j (by omega) hj hij
def tf{p:Nat->Bool}{n:Nat}(hm:∀i j,i<=j->j<n->p i=true->p j=true):∀(f i j:Nat),j-i<=f->i<=j->j<=n->(∀x,x<i->p x=false)->(j<n->p j=true)->
 (∀x,x<lJ p f i j->p x=false)/\(lJ p f i j<n->p (lJ p f i j)=true)/\lJ p f i j<=j
 |0,i,j,hf,hij,_,h1,h2=>by
  obtain rfl:i=j:=by omega
  exact⟨h1,h2,YY _⟩
 |f+1,i,j,hf,hij,hjn,h1,h2=>by
  rw[lJ];split
  .rename_i L';split
   .rename_i hp;obtain⟨g1,g2,g3⟩:=tf hm f i ((i+j)/2) (by omega) (by omega) (by omega) h1 (λ_=>hp);exact⟨g1,g2,by omega⟩
   .rename_i hp;have hp':p ((i+j)/2)=false:=by simpa using hp
    refine tf hm f ((i+j)/2+1) j (by omega) (by omega) hjn (λx hx=>?_) h2;cases YM:p x with
    |false=>rfl
    |true=>rw[hm x ((i+j)/2) (by omega) (by omega) YM]at hp';cases hp'
  .obtain rfl:i=j:=by omega
   exact⟨h1,h2,YY _⟩
def DX{b:Bk}(hk:b.atoms.Pairwise λx y=>x.y+x.h<=y.y)(ZX:∀a∈b.atoms,1<=a.h){s:Zm}(hm:dI b.atoms s)(kept shift body:Int):
 ∃r:Nat,ot b.atoms s kept shift body=r/\s.atom<=r/\r<=b.atoms.length/\(∀k (h:k<b.atoms.length),s.atom<=k->k<r->dH b.atoms s kept shift k+b.atoms[k].h<=body)/\∀h:r<b.atoms.length,dH b.atoms s kept shift r+b.atoms[r].h>body:=by
 have hm0:=hm;obtain⟨⟨h0,h1⟩,h2,h3⟩:=hm;obtain⟨a,ha⟩:∃a:Nat,s.atom=a:=⟨s.atom.toNat,by omega⟩
 have hal:a<b.atoms.length:=by omega
 have hpl:∀k (h:k<b.atoms.length),a<=k->dH b.atoms s kept shift k=b.atoms[k].y-b.atoms[a].y-s.done+kept+shift:=λk h hak=>by
  rw[dH,ar ⟨hm0,by omega,by omega⟩,gH,ar ⟨⟨h0,h1⟩,by omega,by omega⟩,ha,aZ h,aZ hal]
 have hby:∀n (h:a+n<b.atoms.length),fB b.atoms s kept shift body n=decide (b.atoms[a+n].y-b.atoms[a].y-s.done+kept+shift+b.atoms[a+n].h>body):=λn h=>by
  have e:s.atom+(n:Int)=((a+n:Nat):Int):=by omega
  rw[fB,e,hpl _ h (by omega),aZ h]
 have hmono:∀i j,i<=j->j<b.atoms.length-a->fB b.atoms s kept shift body i=true->fB b.atoms s kept shift body j=true:=λi j hij hj hb=>by
  rcases Nat.eq_or_lt_of_le hij with rfl|L'
  .exact hb
  .have hi2:a+i<b.atoms.length:=by omega
   have hj2:a+j<b.atoms.length:=by omega
   rw[hby i hi2]at hb;rw[hby j hj2];have h5:=A2 hk (show a+i<a+j by omega) hj2;have h6:=ZX _ (Zw hj2);have hb':=of_decide_eq_true hb;exact ZN (by omega)
 have hs:=tf hmono (b.atoms.length-a) 0 (b.atoms.length-a) (by omega) (by omega) (YY _) (λx hx=>by omega) (λh=>by omega);have hsr:lJ (fB b.atoms s kept shift body) (b.atoms.length-a) 0 (b.atoms.length-a)=Eg (fB b.atoms s kept shift body) (b.atoms.length-a):=rfl;rw[hsr]at hs;obtain⟨g1,g2,g3⟩:=hs;refine⟨a+Eg (fB b.atoms s kept shift body) (b.atoms.length-a),?_,by omega,by omega,λk h hak hkr=>?_,λh=>?_⟩
 .rw[ot,ar hm0,ha,e8];rfl
 .have hka:a<=k:=by omega
  have:=g1 (k-a) (by omega);rw[hby (k-a) (by omega)]at this;have h5:=of_decide_eq_false this;rw[hpl k h hka];have e:a+(k-a)=k:=by omega
  simp only[e]at h5;omega
 .have:=g2 (by omega);rw[hby _ h]at this;have h5:=of_decide_eq_true this;rw[hpl _ h (by omega)];omega
def nh{l:List Nd}{a:Nat}:∀(k:Nat) (x:Int),x∈gN l a k->iC l x a=true
 |0,_,h=>by simp[gN]at h
 |k+1,x,h=>by
  rw[gN]at h;split at h
  .rename_i hk;rcases cm.1 h with rfl|h
   .exact hk
   .exact nh k x h
  .exact nh k x h
def I6(l:List Nd)(of:List Int)(k:Nat):0<=dg l of k 3/\dg l of k 3<=7:=by
 simp only[dg,KS];cases ln l of k 0<;>cases ln l of k 1<;>cases ln l of k 2<;>simp
def AW:∀(all:List Int),cO all=0\/2<=cO all/\cO all<=4:=by
 have key:∀(all:List Int) (o:Int),(o=0\/2<=o/\o<=4)->(all.foldl lh o=0\/2<=all.foldl lh o/\all.foldl lh o<=4):=by
  intro all
  induction all with
  |nil=>intro o h;exact h
  |cons x all ih=>
   intro o h;rw[j4];refine ih _ ?_;unfold lh nY
   (repeat' split)<;>omega
 exact λall=>key all 0 (.inl rfl)
def LP{l:List Nd}(hb:Zk l=true){of:List Int}(ZY:∀x∈of,0<=x/\x<l.length):xV (qZ l of)=true:=by
 have hlen:(qZ l of).length=of.length+1:=by simp[qZ]
 simp only[xV,Ba,ed,List.mem_range,Zq9];refine⟨λk hk=>?_,by omega⟩;rw[hlen]at hk;have hg:bkG (qZ l of) k=bkR l of k:=by simp[bkG,qZ,hk]
 unfold iI;rw[hg,hlen];refine ZN ?_;have hsame:0<k->k<of.length->of.getD k 0=of.getD (k-1) 0->jJ l of k=0:=λh0 h1 he=>by
  have hk1:of.getD k 0=of[k]:=by simp[h1]
  have hr:=ZY _ (Zw h1);have hh:∀x∈abv l (of.getD k 0).toNat,hAt l of x k=true/\hAt l of x ((k:Int)-1)=true:=λx hx=>by
   rw[hk1]at hx;have L':of[k].toNat<l.length:=by omega
   rw[SM hb L']at hx;have YM:=nh _ _ hx;rw[mN]at YM;have e1:((k:Int)-1).toNat=k-1:=by omega
   have e2:((k:Int)).toNat=k:=by omega
   have e3:(of[k].toNat:Int)=of[k]:=by omega
   rw[e3]at YM;unfold hAt Ap;rw[ar (by omega),ar (by omega),e1,e2,<-he,hk1];exact⟨ZN ⟨YM.2.2.1,YM.2.2.2⟩,ZN ⟨YM.2.2.1,YM.2.2.2⟩⟩
  have e1:((k:Int)-1).toNat=k-1:=by omega
  have e2:((k:Int)).toNat=k:=by omega
  have he1:chR l of ((k:Int)-1) (λb=>!hAt l of b k)=[]:=by
   unfold chR;rw[ar (by omega),e1,<-he,List.filter_eq_nil_iff];intro x hx;rw[(hh x hx).1];simp
  have he2:chR l of k (λb=>!hAt l of b ((k:Int)-1))=[]:=by
   unfold chR;rw[ar (by omega),e2,List.filter_eq_nil_iff];intro x hx;rw[(hh x hx).2];simp
  unfold jJ jB;rw[av (by omega),eh,he1,he2];rfl
 have hend:k=of.length->jJ l of k=0:=λh=>by
  unfold jJ jB;rw[ar h];rfl
 have hfv:=AW (jB l of k);have hbr:=I6 l of k;change jJ l of k=0\/2<=jJ l of k/\jJ l of k<=4 at hfv;unfold qs bkR;simp only[Zq9,decide_eq_false_iff_not];unfold sS sK;by_cases h0:k=0
 .rw[ar h0,ar (show k=0\/k=of.length from .inl h0)];refine⟨λ_=>rfl,λh=>absurd (by omega) h,λh=>absurd (by omega) h,?_,.inl (by split<;>rfl)⟩;rcases hfv with h|h
  .exact .inl h
  .exact .inr ⟨h.1,h.2,by omega,by omega⟩
 .rw[av h0];by_cases h1:k=of.length
  .rw[ar h1,ar (show k=0\/k=of.length from .inr h1)];exact⟨λh=>absurd h (by omega),λ_ _=>rfl,λ_ h=>absurd (by omega) h,.inl (hend h1),.inl (by split<;>rfl)⟩
  .rw[av h1,av (show¬(k=0\/k=of.length) by omega)];by_cases h2:of.getD k 0=of.getD (k-1) 0
   .rw[ar h2];have hf:=hsame (by omega) (by omega) h2;refine⟨λh=>absurd h (by omega),λ_ h=>absurd h (by omega),λ_ _=>.inr rfl,.inl hf,?_⟩;rw[ar hf];rcases Int.lt_or_le 0 (dg l of k 3)with h|h
    .exact .inr ⟨.inr rfl,hf,h,by omega⟩
    .exact .inl (by omega)
   .rw[av h2];refine⟨λh=>absurd h (by omega),λ_ h=>absurd h (by omega),λ_ _=>.inl rfl,?_,?_⟩
    .rcases hfv with h|h
     .exact .inl h
     .exact .inr ⟨h.1,h.2,by omega,by omega⟩
    .by_cases hf:jJ l of k=0
     .rw[ar hf];rcases Int.lt_or_le 0 (dg l of k 3)with h|h
      .exact .inr ⟨.inl rfl,hf,h,by omega⟩
      .exact .inl (by omega)
     .rw[av hf];exact .inl rfl
def inF(top e:Int)(l:List Zi):Prop:=∀f∈l,top<=f.y/\0<=f.h/\f.y+f.h<=e
def AH{top e:Int}{l m:List Zi}(h1:inF top e l)(h2:inF top e m):inF top e (l++m):=λf hf=>(db.1 hf).elim (h1 f) (h2 f)
def Du{l:List Nd}{x:Kp}{a:Int}(h:∀n∈x.YH,1<=(stA l n).head):∀n∈(jO l x a).YH,1<=(stA l n).head:=λn hn=>by
 unfold jO at hn;split at hn
 .exact h n hn
 .rename_i hc;rcases db.1 hn with hn|hn
  .exact h n hn
  .rw[eu.1 hn];omega
def wc{l:List Nd}{L:List Int}{h:Int}:∀m,∀n∈(gq l L h m).YH,1<=(stA l n).head
 |0=>λn hn=>by simp[gq]at hn
 |m+1=>by rw[gq];exact Du (wc m)
def Tk{l:List Nd}{w:Int}:∀(L:List Int),(∀n∈L,1<=(stA l n).head)->0<=(hdK l w L).2/\(∀f∈(hdK l w L).1,0<=f.y/\0<=f.h/\f.y+f.h<=(hdK l w L).2)/\((hdK l w L).1.map (·.h)).sum=(hdK l w L).2:=λL=>by
 suffices key:∀(L:List Int) (p:List Zi×Int),(∀n∈L,1<=(stA l n).head)->0<=p.2->(∀f∈p.1,0<=f.y/\0<=f.h/\f.y+f.h<=p.2)->(p.1.map (·.h)).sum=p.2->
  0<=(L.foldl (hdS l w) p).2/\(∀f∈(L.foldl (hdS l w) p).1,0<=f.y/\0<=f.h/\f.y+f.h<=(L.foldl (hdS l w) p).2)/\((L.foldl (hdS l w) p).1.map (·.h)).sum=(L.foldl (hdS l w) p).2 from
  λh=>key L ([],0) h (Int.le_refl _) (λf hf=>by cases hf) rfl
 intro L
 induction L with
 |nil=>intro p _ h1 h2 h3;exact⟨h1,h2,h3⟩
 |cons a L ih=>
  intro p h h1 h2 h3;have ha:=h a (by simp);refine ih _ (λn hn=>h n (by simp[hn])) ?_ (λf hf=>?_) ?_
  .simp only[hdS];omega
  .simp only[hdS]at hf|-;rcases db.1 hf with hf|hf
   .have:=h2 f hf;omega
   .rw[eu.1 hf];simp only;omega
  .simp only[hdS,gy,List.sum_append,h3,dP,List.map_nil,List.sum_cons,List.sum_nil];omega
def LD{b:Bk}(hb:BkFull b)(s:Zm)(h0:0<=s.atom):0<=(bw b s).high/\1<=(bw b s).body/\(bw b s).high+(bw b s).body=b.h/\inF 0 (bw b s).high (hdK b.nodes b.w (bw b s).YH).1/\((hdK b.nodes b.w (bw b s).YH).1.map (·.h)).sum=(bw b s).high:=by
 have hk:=vm hb s;have hbd:=gT hb s h0;have hh:∀n∈(bw b s).YH,1<=(stA b.nodes n).head:=by
  unfold bw;split
  .intro n hn;cases hn
  .unfold uG;split
   .exact wc _
   .intro n hn;cases hn
 obtain⟨g1,g2,g3⟩:=Tk (l:=b.nodes) (w:=b.w) _ hh;rw[hk.sum]at g2 g3;refine⟨hk.high.1,hbd,?_,g2,g3⟩;have h1:=hb.h1;revert hbd;unfold bw;split
 .intro _;simp
 .unfold uG;split
  .rename_i hc;intro _;obtain⟨_,h3,h4⟩:=hc;generalize (atG b.atoms (min s.atom ((b.atoms.length:Int)-1))).node=a at*;have ha:a.toNat<b.nodes.length:=by omega
   have hrg:∀x∈abv b.nodes a.toNat,∃n:Nat,x=n/\n<b.nodes.length:=λx hx=>by
    obtain⟨n,h1,h2⟩:=qV ha x hx;exact⟨n,h1,by omega⟩
   exact(rC hb.isb hrg (by omega:0<=b.h) (abv b.nodes a.toNat).length (YY _)).2.2.2
  .intro h;exact absurd h (by simp)
def Gk{body:Int}(hb:0<=body):∀(l:List U') (sh:Int),0<=sh->sh<=body->(∀f∈l,0<=f.h)->∀m∈(dk body l sh).1,0<=m.y/\0<=m.h/\m.y+m.h<=body
 |[],sh,_,_,_=>λm hm=>by simp[dk]at hm
 |f::r,sh,h0,h1,hf=>λm hm=>by
  rw[dk]at hm;have:=hf f (by simp);split at hm
  .cases hm
  .rename_i hc;rcases cm.1 hm with rfl|hm
   .simp only;omega
   .exact Gk hb r _ (by omega) (by omega) (λg hg=>hf g (by simp[hg])) m hm
def I1{top shift body:Int}(hsh:0<=shift):∀{L:List U'},(∀f∈L,0<=f.h)->∀m∈(jL top shift body L).1,0<=m.y/\0<=m.h/\m.y+m.h<=body:=by
 suffices key:∀(L:List U') (x:List U'×List U'),(∀f∈L,0<=f.h)->(∀m∈x.1,0<=m.y/\0<=m.h/\m.y+m.h<=body)->
  ∀m∈(L.foldl (λx f=>nq body x f (ee top shift f)) x).1,0<=m.y/\0<=m.h/\m.y+m.h<=body from
  λ{L} h=>key L ([],[]) h (λm hm=>by cases hm)
 intro L
 induction L with
 |nil=>intro x _ h m hm;exact h m hm
 |cons f L ih=>
  intro x hL h;refine ih _ (λg hg=>hL g (by simp[hg])) λm hm=>?_;have hf:=hL f (by simp);simp only[nq]at hm;split at hm
  .exact h m hm
  .rename_i hl;rcases db.1 hm with hm|hm
   .exact h m hm
   .rw[eu.1 hm];unfold pR at hl;have hl':¬(x.2≠[]\/(ee top shift f).y+(ee top shift f).h>body):=λh=>hl (ZN h);simp only[ee]at hl'|-;omega
def GL:∀{l:List U'} {a b:Int} {f:U'},f∈wX l a b->f∈l:=λh=>(sx.1 h).1
def CI{b:Bk}(hfh:∀f∈b.Ye,0<=f.h){s:Zm}{to kept shift body:Int}(hsh:0<=shift):∀m∈(dS b.atoms b.Ye s to kept shift body).1,0<=m.y/\0<=m.h/\m.y+m.h<=body:=by
 unfold dS;split
 .exact I1 hsh λf hf=>hfh f (GL hf)
 .intro m hm;cases hm
def A1{high body:Int}{l:List U'}(h:∀m∈l,0<=m.y/\0<=m.h/\m.y+m.h<=body):inF high (high+body) (l.map (mu high)):=λf hf=>by
 obtain⟨m,hm,rfl⟩:=gl.1 hf;have:=h m hm;simp only[mu];omega
def xj:∀(xs:List Fd) (d:Fd),(fw iM xs d=(d,false)/\∀x∈xs,x.b.forced=0)\/∃L x R,xs=L++x::R/\(∀y∈L,y.b.forced=0)/\x.b.forced≠0/\fw iM xs d=(x,true)
 |[],d=>.inl ⟨rfl,λx h=>(by cases h)⟩
 |a::xs,d=>by
  have stay:∀(l:List Fd) (x:Fd),l.foldl (gi iM) (x,true)=(x,true):=by
   intro l
   induction l with
   |nil=>intro x;rfl
   |cons y l ih=>intro x;rw[j4];exact ih x
  by_cases h:a.b.forced=0
  .have e:fw iM (a::xs) d=fw iM xs d:=by
    unfold fw;rw[j4,gi,iM];simp[h]
   rw[e];rcases xj xs d with⟨h1,h2⟩|⟨L,x,R,h1,h2,h3,h4⟩
   .exact .inl ⟨h1,λx hx=>(cm.1 hx).elim (λe=>e▸h) (h2 x)⟩
   .exact .inr ⟨a::L,x,R,by rw[h1];rfl,λy hy=>(cm.1 hy).elim (λe=>e▸h) (h2 y),h3,h4⟩
  .refine .inr ⟨[],a,xs,rfl,λy hy=>(by cases hy),h,?_⟩;unfold fw;rw[j4,gi,iM];simp only[h,Bool.not_false,ne_eq,not_false_eq_true,decide_true,Bool.and_self,if_true];exact stay xs a
def HU(d:Fd):∀(xs:List Fd) (a:Fd),∃L x R,xs++[a]=L++x::R/\fw jP (xs++[a]) d=(x,true)/\(∀y∈L,x.b.Zy<=y.b.Zy)/\∀y∈R,x.b.Zy<y.b.Zy:=by
 suffices key:∀n (xs:List Fd) (a:Fd),xs.length=n->∃L x R,xs++[a]=L++x::R/\fw jP (xs++[a]) d=(x,true)/\(∀y∈L,x.b.Zy<=y.b.Zy)/\∀y∈R,x.b.Zy<y.b.Zy from
  λxs a=>key _ xs a rfl
 intro n
 induction n with
 |zero=>
  intro xs a h;obtain rfl:=List.length_eq_zero_iff.1 h;exact⟨[],a,[],rfl,by simp[fw,gi,jP],λy h=>(by cases h),λy h=>by cases h⟩
 |succ n ih=>
  intro xs a h;rcases List.eq_nil_or_concat xs with rfl|⟨ys,z,rfl⟩
  .cases h
  .rw[List.concat_eq_append]at h|-;obtain⟨L,x,R,h1,h2,h3,h4⟩:=ih ys z (by simpa using h);rw[vC,h2];unfold gi jP;by_cases hr:a.b.Zy<=x.b.Zy
   .refine⟨ys++[z],a,[],rfl,by simp[hr],λy hy=>?_,λy hy=>by cases hy⟩;rw[h1]at hy;rcases db.1 hy with hy|hy
    .have:=h3 y hy;omega
    .rcases cm.1 hy with rfl|hy
     .exact hr
     .have:=h4 y hy;omega
   .refine⟨L,x,R++[a],by rw[h1];simp,by simp[hr],h3,λy hy=>?_⟩;rcases db.1 hy with hy|hy
    .exact h4 y hy
    .rw[eu.1 hy];omega
def yW{b:List Brk}{fr to:Int}{L R:List Fd}{x:Fd}(h:(btw b fr to).map (oV b)=L++x::R):
 ∃c:Nat,x=oV b c/\max fr 0<=c/\c<max fr 0+xX b fr to/\(∀k:Nat,max fr 0<=k->k<c->oV b k∈L)/\∀k:Nat,c<k->k<max fr 0+xX b fr to->oV b k∈R:=by
 have hlen:=congrArg List.length h;simp only[btw,de,List.length_range',iE,ZR]at hlen;have hget:∀k:Nat,max fr 0<=k->k<max fr 0+xX b fr to->(L++x::R)[k-(max fr 0).toNat]?=some (oV b k):=λk h1 h2=>by
  rw[<-h,btw,ry,List.getElem?_range' (by omega)];simp only[Option.map_some,Nat.one_mul];rw[show(max fr 0).toNat+(k-(max fr 0).toNat)=k by omega]
 refine⟨(max fr 0).toNat+L.length,?_,by omega,by omega,λk h1 h2=>?_,λk h1 h2=>?_⟩
 .have:=hget ((max fr 0).toNat+L.length) (by omega) (by omega);rw[show(max fr 0).toNat+L.length-(max fr 0).toNat=L.length by omega]at this;simpa using this
 .have:=hget k h1 (by omega);rw[EY (by omega)]at this;exact yd this
 .have:=hget k (by omega) (by omega);rw[NQ (by omega),show k-(max fr 0).toNat-L.length=(k-((max fr 0).toNat+L.length)-1)+1 by omega,Cl]at this;exact yd this
def K7{b:List Brk}{i fit:Int}(h:fv b i fit)(hf:fit<=(b.length:Int)-1):
 ∃c:Nat,yn b i fit=c/\i<c/\(c:Int)<=fit/\∀k:Nat,i<k->(k:Int)<=fit->(k<c->(bkG b k).forced=0)/\((bkG b c).forced=0->k≠c->(bkG b k).forced=0/\(bkG b c).Zy<=(bkG b k).Zy/\(c<k->(bkG b k).Zy≠(bkG b c).Zy)):=by
 obtain⟨_,h1,h2,h3⟩:=h;have hn:max (i+1) 0=i+1:=by omega
 have hb:xX b (i+1) fit=(fit-i).toNat:=by unfold xX;omega
 unfold yn mH Kd;rcases xj ((btw b (i+1) fit).map (oV b)) Cy with⟨e,hz⟩|⟨L,x,R,e1,e2,e3,e4⟩
 .rw[e,ar (show Cy.i<0 by decide)];have hz':∀k:Nat,i<k->(k:Int)<=fit->(bkG b k).forced=0:=λk g1 g2=>by
   refine hz (oV b k) (gl.2 ⟨k,?_,rfl⟩);rw[btw,List.mem_range'_1];omega
  have YF:(btw b (i+1) fit).map (oV b)≠[]:=λe=>by
   have:=congrArg List.length e;simp[btw,hb]at this;omega
  rcases List.eq_nil_or_concat ((btw b (i+1) fit).map (oV b))with e|⟨ys,z,e⟩
  .exact absurd e YF
  .rw[List.concat_eq_append]at e;obtain⟨L,x,R,f1,f2,f3,f4⟩:=HU Cy ys z;rw[<-e]at f1 f2;obtain⟨c,rfl,g1,g2,g3,g4⟩:=yW f1;rw[f2];refine⟨c,rfl,by omega,by omega,λk k1 k2=>⟨λ_=>hz' k k1 k2,λ_ hk=>⟨hz' k k1 k2,?_,λL'=>?_⟩⟩⟩
   .rcases Nat.lt_or_gt_of_ne hk with hk|hk
    .exact f3 _ (g3 k (by omega) hk)
    .exact Int.le_of_lt (f4 _ (g4 k hk (by omega)))
   .have:=f4 _ (g4 k L' (by omega));exact λe=>by simp only[oV]at this;omega
 .obtain⟨c,rfl,g1,g2,g3,g4⟩:=yW e1;rw[e4,av (show¬(oV b c).i<0 from λh=>by simp only[oV]at h;omega)];exact⟨c,rfl,by omega,by omega,λk k1 k2=>⟨λhk=>e2 _ (g3 k (by omega) hk),λhc=>absurd hc e3⟩⟩
inductive ve(b:Bk)(s t:Zm)(fs:List Zi)(top body:Int):Prop
 |more (h1:t.atom=s.atom) (h2:fs.length=1) (h3:jR b.atoms s>body) (h4:∀f,fs[0]?=some f->f.h=body) (h5:t.done=s.done+body)
 |whole (c r:Nat) (y:Int) (h1:t=⟨c,0,decide ((bkG b.Ys c).forced≠0)⟩) (h2:s.atom<c) (h3:c<=r) (h4:r<=b.atoms.length) (h5:fs.length+s.atom=c) (h6:∀f,fs[0]?=some f->f.y=top+y)
    (h7:∀k (h:k<b.atoms.length),s.atom<=k->k<r->(if s.atom<k then y+(b.atoms[k].y-(atG b.atoms s.atom).y-s.done)else y)+(if k=s.atom then jR b.atoms s else b.atoms[k].h)<=body)
    (h8:∀(h:r<b.atoms.length),(if s.atom<r then y+(b.atoms[r].y-(atG b.atoms s.atom).y-s.done)else y)+(if r=s.atom then jR b.atoms s else b.atoms[r].h)>body)
    (h9:∀k:Nat,s.atom<k->k<=r->(k<c->(bkG b.Ys k).forced=0)/\((bkG b.Ys c).forced=0->k≠c->(bkG b.Ys k).forced=0/\(bkG b.Ys c).Zy<=(bkG b.Ys k).Zy/\(c<k->(bkG b.Ys k).Zy≠(bkG b.Ys c).Zy)))
structure IB(b:Bk)(x:Wx)(fs:List Zi)(t:Zm):Prop where
 ne:0<fs.length
 fin:inF x.high (x.high+x.body) fs
 fst:∀f,fs[0]?=some f->f.atom=x.s.atom/\f.fr=x.s.done
 cut:ve b x.s t fs x.high x.body
structure fa(b:Bk):Prop extends BkFull b where
 stk:b.atoms.Pairwise λx y=>x.y+x.h<=y.y
 pos:∀a∈b.atoms,1<=a.h
 top:∀a∈b.atoms,0<=a.y
 mayb:xV b.Ys=true
 fh:∀f∈b.Ye,0<=f.h
 fy:∀f∈b.Ye,0<=f.y
def Ep{b:Bk}(hb:fa b)(k:Int):0<=pJ b.atoms k:=by
 unfold pJ;split
 .rename_i h;obtain⟨n,rfl⟩:∃n:Nat,k=n:=⟨k.toNat,by omega⟩
  have hn:n<b.atoms.length:=by omega
  rw[aZ hn];unfold iO;split
  .rename_i h2;have e:(n:Int)-1=((n-1:Nat):Int):=by omega
   rw[e,aZ (by omega)];have:=A2 hb.stk (show n-1<n by omega) hn;omega
  .have:=hb.top _ (Zw hn);omega
 .exact Int.le_refl _
def H3{b:Bk}(hb:fa b){x:Wx}(hm:dI b.atoms x.s)(hx:x.fs=[])
 (hbody:1<=x.body)(hsh:0<=x.shift)(hnf:¬(x.shift>0/\jR b.atoms x.s>x.body-x.shift)):IB b x (dO b x).fs (eI b x).s:=by
 have hk:=hb.stk;have ZX:=hb.pos;have hbk:=hb.mayb;obtain⟨r,hr,hr1,hr2,hr3,hr4⟩:=DX hk ZX hm (dN b x) x.shift x.body;have hm0:=hm;obtain⟨⟨h0,h1⟩,h2,h3⟩:=hm;obtain⟨a,ha⟩:∃a:Nat,x.s.atom=a:=⟨x.s.atom.toNat,by omega⟩
 have hal:a<b.atoms.length:=by omega
 have hag:atG b.atoms x.s.atom=b.atoms[a]:=by rw[ha,aZ hal]
 have hpa:=ZX _ (Zw hal);have ZO:=hb.brk;have hleft:jR b.atoms x.s=b.atoms[a].h-x.s.done:=by rw[jR,ar hm0,hag]
 rw[hag]at h3;have hl0:1<=jR b.atoms x.s:=by rw[hleft];omega
 have hpl:∀kept sh k (h:k<b.atoms.length),a<=k->dH b.atoms x.s kept sh k=b.atoms[k].y-b.atoms[a].y-x.s.done+kept+sh:=λkept sh k h hak=>by
  rw[dH,ar ⟨hm0,by omega,by omega⟩,gH,ar ⟨⟨h0,h1⟩,by omega,by omega⟩,hag,aZ h]
 have hkept:dN b x=0\/0<=dN b x/\x.s.done=0/\dN b x+jR b.atoms x.s<=x.body-x.shift:=by
  unfold dN qS;split
  .rename_i hc;obtain⟨_,_,hd,hg⟩:=hc;rw[hleft];rw[hag]at hg;exact .inr ⟨Ep hb _,hd,hg⟩
  .exact .inl rfl
 have hrX:dQ b x=r:=hr;unfold dO eI;by_cases M':fv b.Ys x.s.atom (dQ b x)
 .rw[ar M',ar M'];obtain⟨c,c1,c2,c3,c4⟩:=K7 M' (by rw[hrX];omega);rw[show ye b x=c from c1,e8];rw[hrX]at c3 c4;have hlen:(cc b { x with kind:=1 } (dN b x) (c-x.s.atom.toNat)).length=c-a:=by
   rw[cc,de,List.length_range,ha,e8]
  have hfs:(wm b { x with kind:=1 } (dN b x) c).fs=cc b { x with kind:=1 } (dN b x) (c-x.s.atom.toNat):=by
   simp only[wm,Wx.put,Wx.add,hx,kW]
  have hat:∀i (h:i<c-a),(cc b { x with kind:=1 } (dN b x) (c-x.s.atom.toNat))[i]?=some (ct x.high (dq b.atoms x.s (dN b x) x.shift ((a+i:Nat):Int))):=λi h=>by
   rw[cc,ry,List.getElem?_range (by rw[ha];omega),Option.map_some,ha];rfl
  have hwh:∀k (h:k<b.atoms.length),a<=k->(dq b.atoms x.s (dN b x) x.shift k).y=dH b.atoms x.s (dN b x) x.shift k+(if k=a then x.s.done else 0)/\(dq b.atoms x.s (dN b x) x.shift k).h=b.atoms[k].h-(if k=a then x.s.done else 0)/\(dq b.atoms x.s (dN b x) x.shift k).atom=k/\(dq b.atoms x.s (dN b x) x.shift k).fr=if k=a then x.s.done else 0:=λk h hak=>by
   rw[dq,ar ⟨hm0,by omega,by omega⟩];by_cases e:k=a
   .rw[ar (by omega),ar e];simp only[Zi.bH,nr,fL,aZ h];exact⟨trivial,trivial,trivial,trivial⟩
   .rw[av (by omega),av e];simp only[nr,fL,aZ h];exact⟨(Int.add_zero _).symm,(Int.sub_zero _).symm,trivial,trivial⟩
  have hfirst:(cc b { x with kind:=1 } (dN b x) (c-x.s.atom.toNat))[0]?=some (ct x.high (dq b.atoms x.s (dN b x) x.shift ((a:Nat):Int))):=hat 0 (by omega);obtain⟨w1,w2,w3,w4⟩:=hwh a hal (YY _);rw[ar rfl]at w1 w2 w4;have hpa0:=hpl (dN b x) x.shift a hal (YY _);have hk0:0<=dN b x:=by rcases hkept with h|h<;>omega
  refine⟨by rw[hfs,hlen];omega,λf hf=>?_,λf hf=>?_,?_⟩
  .rw[hfs]at hf;obtain⟨i,hi⟩:=Fe hf;have hil:i<c-a:=by
    rw[<-hlen];exact(jj.1 hi).1
   rw[hat i hil]at hi;obtain rfl:=Option.some.inj hi;obtain⟨v1,v2,-,-⟩:=hwh (a+i) (by omega) (by omega);have hpl':=hpl (dN b x) x.shift (a+i) (by omega) (by omega);have hfit:=hr3 (a+i) (by omega) (by omega) (by omega);have hph:=ZX _ (Zw (show a+i<b.atoms.length by omega));simp only[ct];rw[v1,v2];rw[hpl']at hfit|-;by_cases e:i=0
   .subst e;simp only[Nat.add_zero,if_true]at hfit|-;omega
   .rw[av (by omega)];have Yy:=A2 hk (show a<a+i by omega) (by omega);omega
  .rw[hfs,hfirst]at hf;obtain rfl:=Option.some.inj hf;simp only[ct];rw[w3,w4];exact⟨ha.symm,rfl⟩
  .refine .whole c r (dN b x+x.shift) rfl c2 (by omega) hr2 (by rw[hfs,hlen];omega) (λf hf=>?_) (λk h h1 h2=>?_) (λh=>?_) (λk h1 h2=>c4 k h1 (by omega))
   .rw[hfs,hfirst]at hf;obtain rfl:=Option.some.inj hf;simp only[ct];rw[w1,hpa0];omega
   .have:=hr3 k h h1 h2;rw[hpl _ _ k h (by omega)]at this;rw[hag];by_cases e:(k:Int)=x.s.atom
    .obtain rfl:k=a:=by omega
     rw[av (by omega),ar e,hleft];omega
    .rw[ar (by omega),av e];omega
   .have:=hr4 h;rw[hpl _ _ r h (by omega)]at this;rw[hag];by_cases e:(r:Int)=x.s.atom
    .obtain rfl:r=a:=by omega
     rw[av (by omega),ar e,hleft];omega
    .rw[ar (by omega),av e];omega
 .rw[av M',av M'];have hra:r=a:=by
   have:¬x.s.atom<dQ b x:=λh=>M' ⟨hbk,h0,by omega,h⟩;omega
  have hgt:=hr4 (by omega);subst hra;rw[hpl _ _ r hal (YY _)]at hgt;have hk0:dN b x=0/\x.shift=0:=by
   rw[hleft]at hkept hnf;rcases hkept with h|h<;>omega
  have hso:qT b.atoms ({ x with kind:=1 }:Wx).s ({ x with kind:=1 }:Wx).body:=⟨hm0,hbody⟩
  have hfs:(xy b { x with kind:=1 }).fs=[ct x.high (kv b.atoms x.s x.body)]:=by
   simp only[xy,Wx.put,Wx.add,hx,kW]
  have hsl:kv b.atoms x.s x.body=⟨b.atoms[r].node,x.s.atom,x.s.done,b.atoms[r].x,0,b.atoms[r].w,x.body⟩:=by
   rw[kv,ar (show qT b.atoms x.s x.body from hso),ft];simp only[Zi.cut,Zi.bH,fL,hag];congr 1;omega
  have hnx:dU b.atoms x.s x.body=⟨x.s.atom,x.s.done+x.body,false⟩:=by
   rw[dU,ar (show qT b.atoms x.s x.body from hso)];rw[kv,ar (show qT b.atoms x.s x.body from hso)]at hsl;rw[hsl];simp only[jo,hag];rw[ar (by omega)]
  rw[hsl]at hfs;refine⟨by rw[hfs];exact Nat.one_pos,λf hf=>?_,λf hf=>?_,.more ?_ (by rw[hfs];rfl) (by rw[hleft];omega) (λf hf=>?_) ?_⟩
  .rw[hfs,eu]at hf;subst hf;simp only[ct];omega
  .rw[hfs]at hf;obtain rfl:=Option.some.inj hf;exact⟨rfl,rfl⟩
  .show(dU b.atoms x.s x.body).atom=_;rw[hnx]
  .rw[hfs]at hf;obtain rfl:=Option.some.inj hf;rfl
  .show(dU b.atoms x.s x.body).done=_;rw[hnx]
def U4(s t:Sta)(n:Int):Prop:=t.s.atom>s.s.atom\/t.s.atom=s.s.atom/\t.s.done>s.s.done\/t.s.atom=s.s.atom/\t.s.done=s.s.done/\(t.bJ.length<s.bJ.length\/t.s.atom=n/\t.s.free=false)
structure LI(b:Bk)(s:Sta)(p:YL)(t:Sta):Prop where
 no:p.no=0
 onw:U4 s t b.atoms.length
 sum:(p.hs.map (·.h)).sum=(bw b s.s).high
 hd:inF 0 (bw b s.s).high p.hs
 fl:inF (bw b s.s).high b.h p.fs
 lo:inF (bw b s.s).high b.h p.ls
 kd:p.kind=1\/p.kind=2
 no':p.kind=2->p.fs=[]
 cut:p.kind=1->dI b.atoms s.s/\0<p.fs.length/\(∀f,p.fs[0]?=some f->f.atom=s.s.atom/\f.fr=s.s.done)/\ve b s.s t.s p.fs (bw b s.s).high (bw b s.s).body
def Jz{α:Type}{p:α->Bool}:∀(l:List α),∀x∈l.takeWhile p,p x=true
 |[],x,h=>by cases h
 |a::l,x,h=>by
  rw[List.takeWhile_cons]at h;split at h
  .rename_i ha;rcases cm.1 h with rfl|h
   .exact ha
   .exact Jz l x h
  .cases h
def LH{b:Bk}(hb:fa b){x:Wx}(hsh:0<=x.shift)(h:inF x.high (x.high+x.body) x.ls):inF x.high (x.high+x.body) (dO b x).ls:=by
 unfold dO;split
 .exact AH h (A1 (CI hb.fh hsh))
 .exact AH h (A1 (CI hb.fh (Int.le_refl _)))
def jv(b:Bk)(x:Wx):(dO b x).hs=x.hs/\(dO b x).kind=1:=by
 unfold dO;split<;>exact⟨rfl,rfl⟩
def iY{b:Bk}(hb:fa b){s:Sta}(he:¬eK b s):LI b s (aO b s).1 (aO b s).2:=by
 have ZK:kX b s:=Decidable.byContradiction λh=>he (.inl h);have hat:0<=s.s.atom:=by rcases ZK.2 with h|h;exact h.1.1;omega
 obtain⟨r1,r2,r3,r4,r5⟩:=LD hb.toBkFull s.s hat;have hpf:∀f∈s.bJ,0<=f.h:=λf hf=>hb.fh f (pC _ _ ZK.1 f hf);have htop:inF (bw b s.s).high ((bw b s.s).high+(bw b s.s).body) ((dk (bw b s.s).body s.bJ 0).1.map (mu (bw b s.s).high)):=A1 (Gk (by omega) _ 0 (Int.le_refl _) (by omega) hpf);have hsh:=(u7 (body:=(bw b s.s).body) s.bJ 0 (Int.le_refl _) (by omega) hpf).2.2;unfold aO;split
 .rename_i h0;obtain⟨h1,h2⟩:=h0;have hn:s.s.atom=0/\s.s.done=0:=by
   rcases ZK.2 with h|h
   .have:=h.1;rw[h1]at this;simp at this;omega
   .rw[h1]at h;simpa using h
  refine⟨rfl,.inr (.inr ⟨?_,?_,.inr ⟨?_,rfl⟩⟩),r5,r4,λf hf=>(by cases hf),?_,.inr rfl,λ_=>rfl,λh=>?_⟩
  .simp[ml,hn]
  .simp[ml,hn]
  .simp[ml,h1]
  .rw[<-r3];refine A1 (high:=(bw b s.s).high) (body:=(bw b s.s).body) λm hm=>?_;have h4:m.y+m.h<=(bw b s.s).body:=of_decide_eq_true (Jz _ m hm);have h5:m∈b.Ye:=(List.takeWhile_sublist _).mem hm;exact⟨hb.fy m h5,hb.fh m h5,h4⟩
  .exact absurd h (show¬((2:Int)=1) by decide)
 .split
  .rename_i hf;refine⟨rfl,?_,r5,r4,λf hf=>(by cases hf),by rw[<-r3];exact htop,.inr rfl,λ_=>rfl,λh=>absurd h (show¬((2:Int)=1) by decide)⟩;refine .inr (.inr ⟨rfl,rfl,?_⟩);cases hp:s.bJ with
   |cons f r=>exact .inl (tk f r)
   |nil=>
    unfold rE at hf;rw[hp]at hf;simp only[dk]at hf;have ha:s.s.atom=b.atoms.length:=by
     rcases hf with h|h|h
     .exact h
     .exact absurd rfl h
     .omega
    exact .inr ⟨ha,by simp[ha]⟩
  .rename_i hf;have hm:dI b.atoms s.s:=ZK.2.resolve_right λh=>hf (.inl h.1);have hfn:=sq (x:=cd b s) hb.toBkOk hm hb.pos r2;have hfg:=H3 hb (x:=cd b s) hm rfl r2 hsh.1 (λh=>hf (.inr (.inr h)));have hls:=LH hb (x:=cd b s) hsh.1 (AH (l:=[]) (λf hf=>(by cases hf)) htop);have hoth:=jv b (cd b s);have xs:(cd b s).s=s.s:=rfl;have xh:(cd b s).high=(bw b s.s).high:=rfl;have xb:(cd b s).body=(bw b s.s).body:=rfl;rw[xh,xb,r3]at hls;obtain⟨f1,f2,f3,f4⟩:=hfg;rw[xh,xb]at f2 f4;rw[r3]at f2;refine⟨rfl,?_,?_,?_,f2,hls,.inl hoth.2,λh=>?_,λ_=>⟨hm,f1,f3,f4⟩⟩
   .generalize eI b (cd b s)=z at hfn;cases hfn with
    |whole c fr p g1 g2 g3=>exact .inl g1
    |more d p g1 g2 g3=>exact .inr (.inl ⟨rfl,g1⟩)
   .show((dO b (cd b s)).hs.map _).sum=_;rw[hoth.1];exact r5
   .show inF _ _ (dO b (cd b s)).hs;rw[hoth.1];exact r4
   .have:(dO b (cd b s)).kind=2:=h;rw[hoth.2]at this;cases this
def gV{l:List Nd}(hl:dV l){w h:Int}(he:ew l w h=0):fa (br l w h):=by
 obtain⟨hw,hh,hc⟩:=su he;obtain⟨hisb,hn,hwo,hcs⟩:=zN hc;have hG:=AT hisb hn hw.1 hw.2;obtain⟨h1,h2⟩:=Hj hl he;refine⟨h1,Oa hisb hn hw.1 hw.2,λa ha=>(hG.YZ a ha).h0,λa ha=>(hG.YZ a ha).y0,?_,h2,λf hf=>(hG.flo f hf).y0⟩;show xV (qZ l (ofR l w))=true;refine LP hisb λx hx=>?_;unfold ofR at hx;obtain⟨a,ha,rfl⟩:=gl.1 hx;exact hG.nod a ha
open Go.Proofs Go.Proofs.Tryz
def tK(b:List Brk)(p:YL)(s:Zm):Int:=
 if p.kind≠1\/s.done>0 then -1 else if(bkG b s.atom.toNat).forced=3 then 0 else if(bkG b s.atom.toNat).forced=4 then 1 else -1
def M6(b:List Brk)(hb:b.length<=1000000)(p:YL)(s:Zm)(h0:0<=s.atom)(h1:s.atom<b.length):aJ prog 59 [bC b,aQ p,aV s] (vI (tK b p s)):=λU=>by
 refine e59.r (by simp[c59]) ?_;have hs:=aa.refl U;obtain⟨no,kd,hh,ff,ll⟩:=p;obtain⟨a,d,fr⟩:=s;obtain⟨k,rfl⟩:∃k:Nat,a=k:=⟨a.toNat,by simp only at h0;omega⟩
 have hk:k<b.length:=by simp only at h1;omega
 have ZD:(aQ ⟨no,kd,hh,ff,ll⟩).cells=[vI no,vI kd,aG hh,aG ff,aG ll]:=rfl;have hpp:(aQ ⟨no,kd,hh,ff,ll⟩).stays=true:=rfl;have hsc:(aV ⟨k,d,fr⟩).cells=[vI k,vI d,.bool fr]:=rfl;have hss:(aV ⟨k,d,fr⟩).stays=true:=rfl;have hbs:=j5 b;have hbc:=j8 b;obtain⟨⟨c,f,r⟩,hf⟩:∃x,b[k]=x:=⟨_,rfl⟩
 have Yb:∀U,bo U 3 (bC b) (.int .i64 k)=some (.rp (.agg [vI c,vI f,vI r])):=λU=>by rw[ta hk,hf,fc]
 have hg:bkG b ((k:Int)).toNat=⟨c,f,r⟩:=by simp[bkG,hk,hf]
 have hR:tK b ⟨no,kd,hh,ff,ll⟩ ⟨k,d,fr⟩=if kd≠1\/d>0 then -1 else if f=3 then 0 else if f=4 then 1 else -1:=by simp only[tK,hg]
 generalize tK b ⟨no,kd,hh,ff,ll⟩ ⟨k,d,fr⟩=R at*;refine ab.mix 6 ?_;apply sR;simp only[go_sem,seval,c59,ZD,hpp];refine ad λi4 Z4 s4 a4 f4=>?_;have z4:=hs.none f4;replace hs:=hs.trans s4;simp only[go_sem,seval,hsc];refine ad λi5 Z5 s5 a5 f5=>?_;have n45:=ao a4 f5;replace a4:=s5 _ _ a4;have z5:=hs.none f5;replace hs:=hs.trans s5;by_cases q1:kd=1
 .have q1':(kd≠1)=False:=by simp[q1]
  by_cases q2:d>0
  .have q2':(d>0)=True:=Yi q2;simp only[go_sem,seval,a4,a5,q1',q2',ZD,hsc];rw[ar (.inr q2)]at hR;exact ak.pure hs (congrArg vI hR.symm)
  .have q2':(d>0)=False:=T' q2;rw[av (λh=>h.elim (λh=>h q1) q2)]at hR;by_cases q3:f=3
   .have q3':(f=3)=True:=Yi q3;simp only[go_sem,seval,a4,a5,q1',q2',q3',Yb,ZD,hsc];rw[ar q3]at hR;exact ak.pure hs (congrArg vI hR.symm)
   .have q3':(f=3)=False:=T' q3;rw[av q3]at hR;by_cases q4:f=4
    .have q4':(f=4)=True:=Yi q4;simp only[go_sem,seval,a4,a5,q1',q2',q3',q4',Yb,ZD,hsc];rw[ar q4]at hR;exact ak.pure hs (congrArg vI hR.symm)
    .have q4':(f=4)=False:=T' q4;simp only[go_sem,seval,a4,a5,q1',q2',q3',q4',Yb,ZD,hsc];rw[av q4]at hR;exact ak.pure hs (congrArg vI hR.symm)
 .have q1':(kd≠1)=True:=Yi q1;simp only[go_sem,seval,a4,q1',ZD];rw[ar (.inl q1)]at hR;exact ak.pure hs (congrArg vI hR.symm)
open Go.Proofs Go.Proofs.Tryz
def AG{Yv i1 i2 e1 e2:Nat}{n:Int}{x:V}{U:af}{Post:Bool->af->Prop}(r1:Yr .i64 (n+1))(h1:U i1=some ⟨e1,1,[vI n]⟩)(h2:U i2=some ⟨e2,1,[.yl Yv]⟩)(YF:i1≠i2)
 (hy:YC prog Yv [x] (C' U i1 ⟨e1,1,[vI (n+1)]⟩) Post):au prog 55 [x,.ptr i1 0 0,.ptr i2 0 0] U λr Z'=>∃b,r=.bool b/\Post b Z':=by
 refine e55.r (by simp[c55]) ?_;refine ab.mix 6 ?_;apply sR;simp only[go_sem,seval,c55,h1,r1,h2,ae YF.symm];refine ab.nv (Post:=Post) rfl rfl rfl hy ?_;intro b Z' hb;apply sR;simp only[go_sem,seval];exact⟨_,Z',aa.refl _,Wk.refl (aa.refl _) _,b,rfl,hb⟩
def htN(x:Nd):Int:=if x.kind=2 then x.line*x.words.length else if x.kind=3 then x.h else 0
def hts(l:List Nd):Nat->Int
 |0=>0
 |i+1=>hts l i+htN (YP l i)
def qi{x:Nd}(h:NOk x):0<=htN x:=by
 have h1:=h.line.1;have h2:=h.h.1;unfold htN;split
 .exact Int.mul_nonneg h1 (by omega)
 .split<;>omega
def Dh{l:List Nd}(hb:Zk l=true){a:Nat}:∀n,a+n<=l.length->hts l a<=hts l (a+n)
 |0,_=>Int.le_refl _
 |n+1,h=>by
  have ih:=Dh (a:=a) hb n (by omega);have h1:NOk (YP l (a+n)):=by rw[jC (show a+n<l.length by omega)];exact gm hb _
  have h2:=qi h1;rw[<-Nat.add_assoc,hts];omega
def htA(l:List Zq):Int:=(l.map (·.h)).sum
def F4(l m:List Zq):htA (l++m)=htA l+htA m:=by unfold htA;rw[gy,List.sum_append]
def AZ{l:List Nd}{rs:List Rm}(hD:DOk l rs):∀(k a e:Nat) (s:WS) (τ:Nat),e-a<=k->a<=e->e<=l.length->bQ l a e=true->fP s τ->htA s.atoms<=hts l a->htA (cS l rs k a e s).atoms<=hts l e
 |0,a,e,s,τ,hk,hae,_,_,_,h=>by
  obtain rfl:a=e:=by omega
  exact h
 |k+1,a,e,s,τ,hk,hae,he,hr,h,hs=>by
  rw[cS];by_cases L':a<e
  .rw[ar L'];obtain⟨h1,h2⟩:=cG he hr (YY a) L';obtain⟨h3,h4⟩:=du he hr L';have YE:NOk (YP l a):=by rw[jC (by omega)];exact gm hD.isb (by omega)
   have step:∀t,(∃D,fP t D)->htA t.atoms<=hts l (a+(YW l a).toNat)->htA (cS l rs k (a+(YW l a).toNat) e t).atoms<=hts l e:=λt ⟨D,ht⟩ hA=>
    AZ hD k _ e t D (by omega) (by omega) he h3 ht hA
   have ZV:htN (YP l a)+htA s.atoms<=hts l (a+1):=by rw[hts];omega
   have one:hts l (a+1)<=hts l (a+(YW l a).toNat):=by
    obtain⟨m,hm⟩:∃m,(YW l a).toNat=1+m:=⟨(YW l a).toNat-1,by omega⟩
    rw[hm,<-Nat.add_assoc];exact Dh hD.isb m (by omega)
   split
   .rename_i k1;have hz:htN (YP l a)=0:=by rw[htN,av (by omega),av (by omega)]
    have hI2:=gv hD k (a+1) (a+(YW l a).toNat) _ _ (by omega) (by omega) (by omega) h4 (eZ h YE.st);have hS2:=AZ hD k (a+1) (a+(YW l a).toNat) _ _ (by omega) (by omega) (by omega) h4 (eZ h YE.st) (show htA s.atoms<=_ by omega);exact step _ ⟨_,kj hI2 YE.st⟩ hS2
   .split
    .rename_i k1 k2;refine step _ ⟨_,me h YE a⟩ (Int.le_trans ?_ one);have hp:=nL a (YP l a).line (cV s.B' (YP l a).words (YP l a).space (YP l a).line (dZ rs a) (YP l a).words.length 0 (s.Yq.y+s.Yq.m)) s;have hlen:=kS s.B' (YP l a).words (YP l a).space (YP l a).line (dZ rs a) (YP l a).words.length 0 (s.Yq.y+s.Yq.m);have e:(s.text rs a (YP l a)).atoms=_:=hp;rw[e,F4];generalize cV s.B' (YP l a).words (YP l a).space (YP l a).line (dZ rs a) (YP l a).words.length 0 (s.Yq.y+s.Yq.m)=L at*;have jT:htA (L.map (eS a (YP l a).line))=(YP l a).line*L.length:=by
      clear e hp hlen
      induction L with
      |nil=>simp[htA]
      |cons x L ih=>
       have:htA ((x::L).map (eS a (YP l a).line))=(YP l a).line+htA (L.map (eS a (YP l a).line)):=rfl;rw[this,ih,ZR,Int.natCast_add,Int.mul_add];omega
     have hle:(YP l a).line*(L.length:Int)<=(YP l a).line*((YP l a).words.length:Int):=Int.mul_le_mul_of_nonneg_left (by omega) YE.line.1;have hz:htN (YP l a)=(YP l a).line*((YP l a).words.length:Int):=by rw[htN,ar k2]
     omega
    .split
     .rename_i k1 k2 k3;refine step _ ⟨_,mz h YE a⟩ (Int.le_trans ?_ one);have hz:htN (YP l a)=(YP l a).h:=by rw[htN,av k2,ar k3]
      have e:(WS.mono l rs s a (YP l a)).atoms=s.atoms++[⟨2,a,0,0,(dJ s.B' (l6 s.B' (YP l a).w (YP l a).h (dZ rs a) (s.Yq.y+s.Yq.m)) (YP l a).h (dZ rs a)).a,l6 s.B' (YP l a).w (YP l a).h (dZ rs a) (s.Yq.y+s.Yq.m),(YP l a).w,(YP l a).h⟩]:=rfl;rw[e,F4];simp only[htA,dP,List.map_nil,List.sum_cons,List.sum_nil];simp only[htA]at ZV;omega
     .have k4:(YP l a).kind=4:=by rename_i g1 g2 g3;rcases YE.kind with h|h|h|h;exact absurd h g1;exact absurd h g2;exact absurd h g3;exact h
      have hz:=qi YE;exact step _ ⟨_,kJ hD h (by omega) YE k4⟩ (show htA s.atoms<=_ by omega)
  .rw[av L'];obtain rfl:a=e:=by omega
   exact hs
def Po{l:List Nd}(hb:Zk l=true)(hn:l.length<=2000){w:Int}(h1:1<=w)(h2:w<=1099511627776):htA (cq l w).atoms<=hts l l.length:=by
 have hD:=wh hb hn h1 h2;have hr:bQ l 0 l.length=true:=by simp only[Zk,Ba]at hb;exact hb.2
 have hI:fP ⟨[],[],0,⟨0,0⟩⟩ 0:=⟨⟨by simp,by simp,by simp,by simp,by simp⟩,by simp,by simp⟩
 exact AZ hD l.length 0 l.length ⟨[],[],0,⟨0,0⟩⟩ 0 (by omega) (by omega) (YY _) hr hI (by simp[htA,hts])
def Dq{l:List Nd}(hb:Zk l=true){s:Sm}(hs:0<=s.Yg/\s.Yg<=1099511627777):∀i,i<=l.length->0<=(gX l s i).Yg/\(gX l s i).Yg<=1099511627777/\min (hts l i) 1099511627777<=(gX l s i).Yg
 |0,_=>⟨hs.1,hs.2,by simp only[hts,gX];omega⟩
 |i+1,hi=>by
  obtain⟨h1,h2,h3⟩:=Dq hb hs i (by omega);have YE:NOk (YP l i):=by rw[jC (by omega)];exact gm hb (by omega)
  have hz:=qi YE;have Yy:=YE.st;rw[gX,hts,Zq6 (by omega)];rw[jC (show i<l.length by omega)]at YE hz Yy|-;simp only;unfold qt;split
  .rename_i k1;have e:htN l[i]=0:=by rw[htN,av (by omega),av (by omega)]
   have g1:=Yy.top.1;have g2:=Yy.YB.1;have g3:=Yy.Yp.1;have g4:=Yy.Yj.1;have g5:=Yy.head.1;simp only[kM];omega
  .split
   .rename_i k1 k2;have e:htN l[i]=l[i].line*l[i].words.length:=by rw[htN,ar k2]
    simp only;rw[uW ⟨h1,h2⟩ YE.line.1];omega
   .rename_i k1 k2;have hh:=YE.h.1;have e:htN l[i]<=l[i].h:=by rw[htN,av k2];split<;>omega
    simp only[kM];omega
def Em{l:List Nd}(hb:Zk l=true)(h:(jA l).1.Yg<=1099511627776):hts l l.length<=(jA l).1.Yg:=by
 unfold jA at h|-;rw[ar hb]at h|-;have:=(Dq hb (s:=⟨0,0,l.length,0⟩) ⟨Int.le_refl _,(by decide:(0:Int)<=1099511627777)⟩ l.length (YY _)).2.2;simp only at h|-;omega
def Gu{cnt:Nat->Nat}:∀{n a:Nat} {x:Int},x∈blk cnt a n->∃i:Nat,x=i/\a<=i/\i<a+n/\0<cnt i
 |0,a,x,h=>by rw[kV]at h;cases h
 |n+1,a,x,h=>by
  rw[iB]at h;rcases db.1 h with h|h
  .obtain⟨h1,rfl⟩:=List.mem_replicate.1 h;exact⟨a,rfl,YY _,by omega,by omega⟩
  .obtain⟨i,h1,h2,h3,h4⟩:=Gu h;exact⟨i,h1,by omega,by omega,h4⟩
def Ir{l:List Nd}(hb:Zk l=true)(hn:l.length<=2000){w:Int}(h1:1<=w)(h2:w<=1099511627776):∀a∈(cq l w).atoms,∃i:Nat,a.node=i/\i<l.length/\((YP l i).kind=2\/(YP l i).kind=3):=λa ha=>by
 have hD:=wh hb hn h1 h2;have hr:bQ l 0 l.length=true:=by simp only[Zk,Ba]at hb;exact hb.2
 have hI:fP ⟨[],[],0,⟨0,0⟩⟩ 0:=⟨⟨by simp,by simp,by simp,by simp,by simp⟩,by simp,by simp⟩
 obtain⟨-,cnt,hc,hco⟩:=vi hD l.length 0 l.length ⟨[],[],0,⟨0,0⟩⟩ 0 (by omega) (by omega) (YY _) hr hI (by simp);have hm:a.node∈(cS l (gu l w) l.length 0 l.length ⟨[],[],0,⟨0,0⟩⟩).atoms.map (·.node):=gl.2 ⟨a,ha,rfl⟩;rw[hc]at hm;simp only[List.map_nil,kW]at hm;obtain⟨i,e,_,h3,h4⟩:=Gu hm;refine⟨i,e,by omega,?_⟩;have:=hco i (Nat.zero_le _) (by omega);unfold okN at this;split at this
 .rename_i k;exact .inl k
 .split at this
  .rename_i k;exact .inr k
  .have:=of_decide_eq_true this;omega
def least_le{l:List Nd}{h:Int}:∀{n j:Nat},j<n->((YP l j).kind=2\/(YP l j).kind=3)->jh l h n<=(zF l j h).body
 |0,j,hj,_=>by omega
 |n+1,j,hj,hk=>by
  rw[jh];by_cases e:j=n
  .subst e;rw[ar hk];omega
  .have:=least_le (l:=l) (h:=h) (show j<n by omega) hk;split<;>omega
def zy{l:List Nd}{h:Int}(hh:1<=h):∀n,1<=jh l h n
 |0=>hh
 |n+1=>by
  have h1:=zy (l:=l) hh n;have h2:1<=(zF l n h).body:=sQ hh _;rw[jh];split<;>omega
def M4{l:List Nd}{h:Int}(hb:Zk l=true)(h1:1<=h)(h2:h<=1099511627776):jN l h=true:=by
 unfold jN;rw[hb];simp[h1,h2]
structure rT(b:Bk)(L:Int):Prop where
 pos:1<=L
 body:∀s:Zm,0<=s.atom->b.atoms≠[]->L<=(bw b s).body
 rest:eE b 0<=L*32768
 na:b.atoms.length<=10000
 nf:b.Ye.length<=10000
def MF{L:Int}(h1:1<=L):mulR L 32768<=L*32768:=by
 have e:dr 32768=32768:=by decide
 have e2:(1099511627776:Int).tdiv (max 32768 (-32768))=33554432:=by decide
 unfold mulR;rw[e,e2];have hc:dr L<=L/\0<=dr L:=by unfold dr;(repeat' split)<;>omega
 split
 .rename_i h;obtain⟨_,h|h⟩:=h
  .split<;>omega
  .exact absurd h (by have:(-1099511627776:Int).tdiv (max 32768 (-32768))=-33554432:=by decide
                      rw[this];omega)
 .have:=hc.1;omega
def wj{l:List Nd}{w h:Int}(he:ew l w h=0):rT (br l w h) (iJ l h):=by
 have he0:=he;obtain⟨hw,hh,hc⟩:=su he;obtain⟨hisb,hn,hwo,hcs⟩:=zN hc;have hG:=AT hisb hn hw.1 hw.2;have hl1:=hG.len;have hl2:=hG.flen;have hm:=M4 hisb hh.1 hh.2;have hL:iJ l h=jh l h l.length:=by rw[iJ,ar hm]
 have hp:1<=iJ l h:=by rw[hL];exact zy hh.1 _
 refine⟨hp,λs h0 YF=>?_,?_,by show(cq l w).atoms.length<=_;omega,by show(cq l w).B'.length<=_;omega⟩
 .unfold bw;rw[av YF];have hlen:0<(br l w h).atoms.length:=wK.2 YF;obtain⟨k,hk⟩:∃k:Nat,min s.atom (((br l w h).atoms.length:Int)-1)=k:=⟨(min s.atom (((br l w h).atoms.length:Int)-1)).toNat,by omega⟩
  have hkl:k<(br l w h).atoms.length:=by omega
  rw[hk,aZ hkl];obtain⟨i,e1,e2,e3⟩:=Ir hisb hn hw.1 hw.2 _ (Zw (show k<(cq l w).atoms.length from hkl));have e4:(br l w h).atoms[k].node=i:=e1;rw[e4,uG,hL];have hm':jN (br l w h).nodes (br l w h).h=true:=hm;rw[ar ⟨hm',by omega,show((i:Nat):Int)<(l.length:Nat) by omega⟩,e8];exact least_le e2 e3
 .have h1:eE (br l w h) 0=htA (cq l w).atoms:=rfl;have h2:=Po hisb hn hw.1 hw.2;have h3:(jA l).1.Yg<=1099511627776:=by
   unfold iz at hc;rw[ar hisb]at hc;split at hc
   .cases hc
   .omega
  have h4:=Em hisb h3;have h5:¬(jA l).1.Yg>mulR (iJ l h) 32768:=λh=>by
   unfold ew at he0;rw[av (λg=>g ⟨hw,hh⟩),av (λg=>g hc),ar h]at he0;cases he0
  have h6:=MF hp;omega
def rG(b:Bk)(L:Int)(s:Sta):Int:=((b.atoms.length:Int)-s.s.atom)+(eE b s.s.atom.toNat-s.s.done)/L
def mu2(b:Bk)(L:Int)(s:Sta):Nat:=(rG b L s).toNat*(2*b.Ye.length+3)+(if s.s.free=true then b.Ye.length+1 else 0)+s.bJ.length
def kC.bJ{b:Bk}{x:Wx}{t:Sta}(h:kC b x t):t.bJ.length<=b.Ye.length:=by
 cases h with
 |whole c fr p h1 h2 h3=>exact h3
 |more d p h1 h2 h3=>exact h3
def CK{b:Bk}(hb:fa b){L:Int}(hL:rT b L){s:Sta}(he:¬eK b s):mu2 b L (aO b s).2<mu2 b L s:=by
 have ZK:kX b s:=Decidable.byContradiction λh=>he (.inl h);have hnot:¬(s.s.atom=b.atoms.length/\s.s.free=false/\s.bJ=[]):=λh=>he (.inr h);have hat:0<=s.s.atom:=by rcases ZK.2 with h|h;exact h.1.1;omega
 have ZX:=hb.pos;have hg:=iY hb he;have hcut:=hg.cut;revert hcut;unfold aO;split
 .rename_i h0;intro _;obtain⟨h1,h2⟩:=h0;have hr:∀a,eE b a=0:=λa=>by unfold eE;rw[h1];simp
  have hd:s.s.done=0/\s.s.atom=0:=by
   rcases ZK.2 with h|h
   .have:=h.1;rw[h1]at this;simp at this;omega
   .rw[h1]at h;simp at h;omega
  have hdl:(b.Ye.dropWhile (kE (bz b s.s .aC).body)).length<=b.Ye.length:=(List.dropWhile_sublist _).length_le;simp only[mu2,rG,ml,hr,h2,hd,h1,if_true];simp;omega
 .split
  .rename_i hf;intro _;unfold mu2 rG;simp only;cases hp:s.bJ with
   |cons f r=>
    have:=tk (body:=(bw b s.s).body) f r;simp only[ZR]at this;cases s.s.free<;>by_cases h:s.s.atom<b.atoms.length<;>simp[h]<;>omega
   |nil=>
    unfold rE at hf;rw[hp]at hf;simp only[dk]at hf;have ha:s.s.atom=b.atoms.length:=by
     rcases hf with h|h|h
     .exact h
     .exact absurd rfl h
     .omega
    have hfr:s.s.free=true:=by
     cases h:s.s.free
     .exact absurd ⟨ha,h,hp⟩ hnot
     .rfl
    simp[dk,ha,hfr]
  .rename_i hf;have hm:dI b.atoms s.s:=ZK.2.resolve_right λh=>hf (.inl h.1);have YF:b.atoms≠[]:=λh=>by have:=hm.1;rw[h]at this;simp at this;omega
   have hbd:=hL.body s.s hat YF;have hL1:=hL.pos;have hpd:=(sq (x:=cd b s) hb.toBkOk hm ZX (gT hb.toBkFull s.s hat)).bJ;intro hcut;have hkind:(nz (dO b (cd b s))).kind=1:=(jv b (cd b s)).2;obtain⟨-,-,-,hcg⟩:=hcut hkind;obtain⟨⟨h0,h1⟩,h2,h3⟩:=hm;obtain⟨k,hk⟩:∃k:Nat,s.s.atom=k:=⟨s.s.atom.toNat,by omega⟩
   have hkl:k<b.atoms.length:=by omega
   have hph:=ZX _ (Zw hkl);have Yy:=vS hkl;have hnn:=rv ZX (k+1);have hlf:jR b.atoms s.s=b.atoms[k].h-s.s.done:=by rw[jR,ar ⟨⟨h0,h1⟩,h2,h3⟩,hk,aZ hkl]
   rw[hk,aZ hkl]at h3;have key:∀t:Sta,t.bJ.length<=b.Ye.length->0<=rG b L t->rG b L t+1<=rG b L s->mu2 b L t<mu2 b L s:=λt hp g1 g2=>by
    unfold mu2;have L':(rG b L t).toNat+1<=(rG b L s).toNat:=by omega
    have hmul:((rG b L t).toNat+1)*(2*b.Ye.length+3)<=(rG b L s).toNat*(2*b.Ye.length+3):=Nat.mul_le_mul_right _ L';rw[Nat.add_mul,Nat.one_mul]at hmul;have:(if t.s.free=true then b.Ye.length+1 else 0)<=b.Ye.length+1:=by split<;>omega
    omega
   refine key _ hpd ?_ ?_
   all_goals
    change ve b s.s (eI b (cd b s)).s _ _ _ at hcg;generalize eI b (cd b s)=z at*;unfold rG;simp only;cases hcg with
    |more q1 q2 q3 q4 q5=>
     rw[q1,q5,hk,e8];rw[hlf]at q3;have e1:0<=(eE b k-(s.s.done+(bw b s.s).body))/L:=Int.ediv_nonneg (by omega) (by omega);have e2:(eE b k-(s.s.done+(bw b s.s).body))/L<=(eE b k-s.s.done-L)/L:=Int.ediv_le_ediv (by omega) (by omega);have e3:(eE b k-s.s.done-L)/L=(eE b k-s.s.done)/L-1:=by
      have:=Int.add_mul_ediv_right (eE b k-s.s.done) (-1) (show L≠0 by omega);rw[show eE b k-s.s.done-L=eE b k-s.s.done+-1*L by omega,this];omega
     omega
    |whole c r y q1 q2 q3 q4 q5 q6 q7 q8 q9=>
     rw[hk]at q2;simp only[q1,hk,e8];have e0:=BT ZX (k+1) (c-(k+1));rw[show k+1+(c-(k+1))=c by omega]at e0;have e1:0<=(eE b c-0)/L:=Int.ediv_nonneg (by have:=rv ZX c;omega) (by omega);have e2:(eE b c-0)/L<=(eE b k-s.s.done)/L:=Int.ediv_le_ediv (by omega) (by omega);omega
def yN{b:Bk}{L:Int}(hL:rT b L):mu2 b L ⟨⟨0,0,true⟩,[]⟩<=1000000000:=by
 have h1:=hL.rest;have h2:=hL.na;have h3:=hL.nf;have h4:=hL.pos;have e:(eE b 0-0)/L<=32768:=by
  have:(eE b 0-0)/L<=(32768*L)/L:=Int.ediv_le_ediv (by omega) (by omega);rw[Int.mul_ediv_cancel _ (by omega)]at this;exact this
 have hw:(rG b L ⟨⟨0,0,true⟩,[]⟩).toNat<=42768:=by
  unfold rG;simp only;have:(0:Int).toNat=0:=rfl;rw[this];omega
 unfold mu2;simp only[if_true,List.length_nil];have:(rG b L ⟨⟨0,0,true⟩,[]⟩).toNat*(2*b.Ye.length+3)<=42768*20003:=Nat.mul_le_mul hw (by omega);omega
open Go.Proofs Go.Proofs.Tryz
def gA(b:Bk)(s:Sta):Int:=tK b.Ys (aO b s).1 s.s
def shK(b:Bk):Nat->Sta->Int->List (Option YL)
 |0,_,_=>[]
 |f+1,s,no=>if eK b s then[]else
  if 0<=gA b s/\(no+1)%2≠gA b s then none::some (aO b s).1::shK b f (aO b s).2 (no+2)else some (aO b s).1::shK b f (aO b s).2 (no+1)
def shV:Option YL->V
 |none=>.iface 76 (.agg [])
 |some p=>.iface 74 (aQ p)
structure ShJ(Yv e2 i2 i4 i6:Nat)(no:Int)(s:Sta)(ZJ U:af):Prop where
 sub:aa ZJ U
 y:U i2=some ⟨e2,1,[.yl Yv]⟩
 n:U i4=some ⟨3,1,[vI no]⟩
 st:U i6=some ⟨45,4,[bI s]⟩
 n2:ZJ i2=none
 n4:ZJ i4=none
 n6:ZJ i6=none
 e24:i2≠i4
 e26:i2≠i6
 e46:i4≠i6
def ShJ.mono{Yv e2 i2 i4 i6:Nat}{no:Int}{s:Sta}{ZJ U C:af}(h:ShJ Yv e2 i2 i4 i6 no s ZJ U)(hs:aa U C):ShJ Yv e2 i2 i4 i6 no s ZJ C:=
 ⟨h.sub.trans hs,hs _ _ h.y,hs _ _ h.n,hs _ _ h.st,h.n2,h.n4,h.n6,h.e24,h.e26,h.e46⟩
def ShJ.given{Yv e2 i2 i4 i6:Nat}{no:Int}{s:Sta}{ZJ U Yx Z':af}(h:ShJ Yv e2 i2 i4 i6 no s ZJ U)(hb:aT ZJ (C' U i4 ⟨3,1,[vI (no+1)]⟩) Yx Z'):ShJ Yv e2 i2 i4 i6 (no+1) s Yx Z':=by
 obtain⟨a1,a2⟩:=hb.2 i2 _ h.n2 (by rw[ae h.e24];exact h.y);obtain⟨b1,b2⟩:=hb.2 i4 _ h.n4 ag;obtain⟨c1,c2⟩:=hb.2 i6 _ h.n6 (by rw[ae h.e46.symm];exact h.st);exact⟨hb.1,a1,b1,c1,a2,b2,c2,h.e24,h.e26,h.e46⟩
def ShJ.next{Yv e2 i2 i4 i6:Nat}{no:Int}{s:Sta}{ZJ U Z10:af}{YU:Nat}{o:Ob}(h:ShJ Yv e2 i2 i4 i6 no s ZJ U)(hs:aa (C' U i6 o) Z10)(hf:C' U i6 o YU=none)(t:Sta):
 ShJ Yv e2 i2 i4 YU no t ZJ (C' Z10 YU ⟨45,4,[bI t]⟩):=by
 have h1:=(h.sub.ax (o:=o) h.n6)
 have y':=hs _ _ ((ae h.e26 (o:=o)).trans h.y);have n':=hs _ _ ((ae h.e46 (o:=o)).trans h.n);have k2:i2≠YU:=λe=>by rw[<-e,ae h.e26,h.y]at hf;cases hf
 have k4:i4≠YU:=λe=>by rw[<-e,ae h.e46,h.n]at hf;cases hf
 have nn:ZJ YU=none:=h1.none hf;exact⟨(h1.trans hs).ax nn,(ae k2).trans y',(ae k4).trans n',ag,h.n2,h.n4,nn,h.e24,k2,k4⟩
def Ie{b:Bk}(hb:fa b){s:Sta}(hp:s.bJ.length<=1000000)(he:¬eK b s):(aO b s).2.bJ.length<=1000000:=by
 have ZK:kX b s:=Decidable.byContradiction λh=>he (.inl h);have hfl:=hb.flen;have hat:0<=s.s.atom:=by rcases ZK.2 with h|h;exact h.1.1;omega
 unfold aO;split
 .have:(b.Ye.dropWhile (kE (bz b s.s .aC).body)).length<=b.Ye.length:=(List.dropWhile_sublist _).length_le;show(b.Ye.dropWhile (kE (bz b s.s .aC).body)).length<=_;omega
 .split
  .show(dk (bw b s.s).body s.bJ 0).2.1.length<=_;cases hpp:s.bJ with
   |cons f r=>have:=tk (body:=(bw b s.s).body) f r;rw[hpp]at hp;simp only[ZR]at this hp;omega
   |nil=>simp[dk]
  .rename_i hf;have hm:dI b.atoms s.s:=ZK.2.resolve_right λh=>hf (.inl h.1);have:=(sq (x:=cd b s) hb.toBkOk hm hb.pos (gT hb.toBkFull s.s hat)).bJ;show(eI b (cd b s)).bJ.length<=_;omega
def yX(b:Bk)(hb:BkFull b):aJ prog 54 [.rp (bx b)] (bC b.Ys):=λU=>
 (HF b hb U).AL λ_ _ h=>h.2.K8 h.1 rfl
def Bg(b:Bk)(hb:fa b){L:Int}(hL:rT b L):Iter prog 53 [.rp (.rp (bx b))] ((shK b 1000000001 ⟨⟨0,0,true⟩,[]⟩ 0).map λx=>[shV x]):=by
 refine⟨e53.c,λYv J Jx Z0 hy hJ=>?_⟩;refine(e53.r (by simp[c53]) ?_).2;have hs:=aa.refl Z0;have hmu:=yN hL;have ZO:=hb.brk;have hal:=hb.len;have hsc:∀s:Sta,(bI s).cells=[vI s.s.atom,vI s.s.done,.bool s.s.free,aH s.bJ]:=λ_=>rfl;have hss:∀s:Sta,(bI s).stays=true:=λ_=>rfl;have ZD:∀p:YL,(aQ p).cells=[vI p.no,vI p.kind,aG p.hs,aG p.fs,aG p.ls]:=λ_=>rfl;have hps:∀p:YL,(aQ p).stays=true:=λ_=>rfl;have ldB:∀U:af,bB U false 1 (.rp (.rp (bx b)))=some (.rp (bx b)):=λU=>rfl;generalize hXS:(shK b 1000000001 ⟨⟨0,0,true⟩,[]⟩ 0).map (λx=>[shV x])=XS at*;refine ab.mix 8 ?_;apply sR;simp only[go_sem,seval,c53];refine ad λi2 Z2 s2 a2 f2=>?_;have z2:=hs.none f2;replace hs:=hs.trans s2;simp only[go_sem,seval,ldB];refine ab.ay rfl rfl rfl (yX b hb.toBkFull _) ?_;apply sR;simp only[go_sem,seval];refine ad λi4 Z4 s4 a4 f4=>?_;have n24:=ao a2 f4;replace a2:=s4 _ _ a2;have z4:=hs.none f4;replace hs:=hs.trans s4;simp only[go_sem,seval,a4];generalize hq4:C' _ i4 _=Y4;replace a4:=(congrFun hq4 i4).symm.trans ag;replace a2:=((congrFun hq4 i2).symm.trans (ae n24)).trans a2;replace hs:=Eq.subst (motive:=aa _) hq4 (hs.ax z4);clear hq4;apply sR;simp only[go_sem,seval];refine ab.ay rfl rfl rfl (Ho b hb.toBkFull _) ?_;apply sR;simp only[go_sem,seval];refine ad λi6 Z6 s6 a6 f6=>?_;have n46:=ao a4 f6;replace a4:=s6 _ _ a4;have n26:=ao a2 f6;replace a2:=s6 _ _ a2;have z6:=hs.none f6;replace hs:=hs.trans s6;simp only[go_sem,seval,a6,hsc,hss];generalize hq6:C' _ i6 _=Y6;replace a6:=(congrFun hq6 i6).symm.trans ag;replace a4:=((congrFun hq6 i4).symm.trans (ae n46)).trans a4;replace a2:=((congrFun hq6 i2).symm.trans (ae n26)).trans a2;replace hs:=Eq.subst (motive:=aa _) hq6 (hs.ax z6);clear hq6;apply sR;simp only[go_sem,seval];have hJ0:ShJ Yv 140 i2 i4 i6 0 ⟨⟨0,0,true⟩,[]⟩ Z0 Y6:=⟨hs,a2,a4,a6,z2,z4,z6,n24,n26,n46⟩
 clear hs a2 a4 a6;generalize Y6=C at*;refine ab.loop (λm st=>∃(s:Sta) (no:Int) (pre:List (List V)) (ZJ:af) (i6':Nat),mu2 b L s<m/\XS=pre++(shK b m s no).map (λx=>[shV x])/\J pre ZJ/\
  ShJ Yv 140 i2 i4 i6' no s ZJ st.U/\st.s 0=.yl Yv/\st.s 1=.rp (.rp (bx b))/\st.s 3=bC b.Ys/\st.s 4=.ptr i4 0 0/\st.s 5=.fn 55 [.ptr i4 0 0,.ptr i2 0 0]/\st.s 6=.ptr i6' 0 0/\
  0<=no/\no+2*m<=2000000002/\s.bJ.length<=1000000) 1000000001 ?_ ?_
 .exact⟨⟨⟨0,0,true⟩,[]⟩,0,[],Z0,i6,by omega,by rw[kW,hXS],hJ,hJ0,rfl,rfl,rfl,rfl,rfl,rfl,by omega,by omega,by simp⟩
 clear hJ0 hJ;rintro m ⟨S,C⟩ ⟨s,no,pre,ZJ,i6,hm,hx,hJj,hJs,t0,t1,t3,t4,t5,t6,hn0,hn1,hp⟩;simp only at hJs t0 t1 t3 t4 t5 t6;obtain⟨f,rfl⟩:∃f,m=f+1:=⟨m-1,by omega⟩
 have r6:=hJs.st;refine ab.mix 8 ?_;apply sR;simp only[go_sem,seval,t1,t6,ldB,r6];refine ab.ay rfl rfl rfl (zL b hb.toBkFull s hp _) ?_;by_cases he:eK b s
 .rw[ZN he];apply sR;simp only[go_sem,seval];rw[shK,ar he,List.map_nil,lO]at hx;subst hx;exact⟨_,ZJ,hJs.sub,Wk.refl hJs.sub _,.inl hJj⟩
 rw[Zz he];apply sR;simp only[go_sem,seval,t1,t6,ldB,r6];refine ab.ay rfl rfl rfl (F2 b hb.toBkFull hb.fh s hp _) ?_;rw[av he];apply sR;simp only[go_sem,seval];have hs:=aa.refl C;refine ad λi7 Z7 s7 a7 f7=>?_;have z7:=hs.none f7;replace hs:=hs.trans s7;simp only[go_sem,seval];refine ad λi8 Z8 s8 a8 f8=>?_;have n78:=ao a7 f8;replace a7:=s8 _ _ a7;have z8:=hs.none f8;replace hs:=hs.trans s8;simp only[go_sem,seval,a7,ZD,hps];generalize hq7:C' _ i7 _=Y7;replace a7:=(congrFun hq7 i7).symm.trans ag;replace a8:=((congrFun hq7 i8).symm.trans (ae n78.symm)).trans a8;replace hs:=Eq.subst (motive:=aa _) hq7 (hs.ax z7);clear hq7;simp only[go_sem,seval,a8,hsc,hss];generalize hq8:C' _ i8 _=Y8;replace a8:=(congrFun hq8 i8).symm.trans ag;replace a7:=((congrFun hq8 i7).symm.trans (ae n78)).trans a7;replace hs:=Eq.subst (motive:=aa _) hq8 (hs.ax z8);clear hq8;have hJ8:=hJs.mono hs;have r6':=hJ8.st;have r4:=hJ8.n;have ZK:kX b s:=Decidable.byContradiction λh=>he (.inl h);have hat:0<=s.s.atom/\s.s.atom<b.Ys.length:=by
  rcases ZK.2 with h|h
  .have:=h.1;omega
  .omega
 simp only[go_sem,seval,t3,t6,r6',a7,ZD,hsc];refine ab.ay rfl rfl rfl (M6 b.Ys (by omega) (aO b s).1 s.s hat.1 hat.2 _) ?_;rw[show tK b.Ys (aO b s).1 s.s=gA b s from rfl];have hmn:=CK hb hL he;have hpn:=Ie hb hp he;have r5:Yr .i64 (no+1):=ai;have m7:ZJ i7=none:=hJs.sub.none z7;have m8:ZJ i8=none:=hJs.sub.none z8;have d47:i7≠i4:=λe=>by have:=hJs.n;rw[<-e,z7]at this;cases this
 have d48:i8≠i4:=λe=>by have:=hJs.n;rw[<-e,z8]at this;cases this
 have htm:(no+1).tmod 2=(no+1)%2:=Int.tmod_eq_emod_of_nonneg (by omega);by_cases hw:0<=gA b s/\(no+1)%2≠gA b s
 .rw[shK,av he,ar hw]at hx;have q1:(gA b s>=0)=True:=Yi hw.1;have q2:((no+1).tmod 2≠gA b s)=True:=Yi (by rw[htm];exact hw.2);generalize gA b s=W at*;apply sR;simp only[go_sem,seval,t4,t5,r4,r5,q1,q2];refine ab.call rfl rfl rfl (AG (x:=.iface 76 (.agg [])) r5 hJ8.n hJ8.y hJ8.e24.symm (hy pre _ _ ZJ _ hx hJj (hJ8.sub.ax hJ8.n4))) ?_;rintro _ Z8b ⟨b',rfl,ZJ8,hbs,Zo⟩;have hJ8b:=hJ8.given hbs;obtain⟨a7b,k7⟩:=hbs.2 i7 _ m7 (by rw[ae d47];exact a7);obtain⟨a8b,k8⟩:=hbs.2 i8 _ m8 (by rw[ae d48];exact a8);have r55:Yr .i64 (no+1+1):=ai;have hlast:XS=(pre++[[shV none]])++[.iface 74 (aQ (aO b s).1)]::(shK b f (aO b s).2 (no+1+1)).map (λx=>[shV x]):=by
   rw[hx,show no+2=no+1+1 by omega];simp[shV]
  rcases Zo with⟨rfl,Zo⟩|⟨rfl,Zo⟩
  .apply sR;simp only[go_sem,seval,t5,a7b,ZD];refine ab.call rfl rfl rfl (AG (x:=.iface 74 (aQ (aO b s).1)) r55 hJ8b.n hJ8b.y hJ8b.e24.symm (hy (pre++[[shV none]]) _ _ ZJ8 _ hlast Zo (hJ8b.sub.ax hJ8b.n4))) ?_;rintro _ Z9 ⟨b',rfl,ZJ9,hbs,Zo⟩;have hJ9:=hJ8b.given hbs;obtain⟨a8',k8⟩:=hbs.2 i8 _ k8 (by rw[ae d48];exact a8b);have r9:=hJ9.st;rcases Zo with⟨rfl,Zo⟩|⟨rfl,Zo⟩
   .apply sR;simp only[go_sem,seval,t6,a8',r9,hsc];refine ad λYU Z10 s10 Zf f10=>?_;simp only[go_sem,seval,Zf];refine⟨f,by omega,(aO b s).2,(no+1)+1,(pre++[[shV none]])++[[shV (some (aO b s).1)]],ZJ9,YU,by omega,?_,Zo,hJ9.next s10 f10 _,?_⟩
    .rw[hlast];simp[shV]
    .simp[t0,t1,t3,t4,t5];exact⟨by omega,by omega,hpn⟩
   .apply sR;simp only[go_sem,seval];refine⟨_,ZJ9,hJ9.sub,Wk.refl hJ9.sub _,.inr ⟨_,?_,Zo⟩⟩;rw[hlast];exact⟨(shK b f (aO b s).2 ((no+1)+1)).map λx=>[shV x],by simp⟩
  .apply sR;simp only[go_sem,seval];refine⟨_,ZJ8,hJ8b.sub,Wk.refl hJ8b.sub _,.inr ⟨_,?_,Zo⟩⟩;rw[hx];exact⟨(some (aO b s).1::shK b f (aO b s).2 (no+2)).map λx=>[shV x],by simp[shV]⟩
 .rw[shK,av he,av hw]at hx;have hq:(gA b s>=0)=False\/(gA b s>=0)=True/\((no+1).tmod 2≠gA b s)=False:=by
   by_cases h:gA b s>=0
   .exact .inr ⟨Yi h,T' (λg=>hw ⟨h,by rw[<-htm];exact g⟩)⟩
   .exact .inl (T' h)
  generalize gA b s=W at*;have hlast:XS=pre++[.iface 74 (aQ (aO b s).1)]::(shK b f (aO b s).2 (no+1)).map (λx=>[shV x]):=hx;rcases hq with q1|⟨q1,q2⟩
  .apply sR;simp only[go_sem,seval,t5,a7,ZD,q1];refine ab.call rfl rfl rfl (AG (x:=.iface 74 (aQ (aO b s).1)) r5 hJ8.n hJ8.y hJ8.e24.symm (hy pre _ _ ZJ _ hlast hJj (hJ8.sub.ax hJ8.n4))) ?_;rintro _ Z9 ⟨b',rfl,ZJ9,hbs,Zo⟩;have hJ9:=hJ8.given hbs;obtain⟨a8',k8⟩:=hbs.2 i8 _ m8 (by rw[ae d48];exact a8);have r9:=hJ9.st;rcases Zo with⟨rfl,Zo⟩|⟨rfl,Zo⟩
   .apply sR;simp only[go_sem,seval,t6,a8',r9,hsc];refine ad λYU Z10 s10 Zf f10=>?_;simp only[go_sem,seval,Zf];refine⟨f,by omega,(aO b s).2,no+1,pre++[[shV (some (aO b s).1)]],ZJ9,YU,by omega,?_,Zo,hJ9.next s10 f10 _,?_⟩
    .rw[hlast];simp[shV]
    .simp[t0,t1,t3,t4,t5];exact⟨by omega,by omega,hpn⟩
   .apply sR;simp only[go_sem,seval];refine⟨_,ZJ9,hJ9.sub,Wk.refl hJ9.sub _,.inr ⟨_,?_,Zo⟩⟩;rw[hlast];exact⟨(shK b f (aO b s).2 (no+1)).map λx=>[shV x],by simp⟩
  .apply sR;simp only[go_sem,seval,t4,t5,r4,r5,a7,ZD,q1,q2];refine ab.call rfl rfl rfl (AG (x:=.iface 74 (aQ (aO b s).1)) r5 hJ8.n hJ8.y hJ8.e24.symm (hy pre _ _ ZJ _ hlast hJj (hJ8.sub.ax hJ8.n4))) ?_;rintro _ Z9 ⟨b',rfl,ZJ9,hbs,Zo⟩;have hJ9:=hJ8.given hbs;obtain⟨a8',k8⟩:=hbs.2 i8 _ m8 (by rw[ae d48];exact a8);have r9:=hJ9.st;rcases Zo with⟨rfl,Zo⟩|⟨rfl,Zo⟩
   .apply sR;simp only[go_sem,seval,t6,a8',r9,hsc];refine ad λYU Z10 s10 Zf f10=>?_;simp only[go_sem,seval,Zf];refine⟨f,by omega,(aO b s).2,no+1,pre++[[shV (some (aO b s).1)]],ZJ9,YU,by omega,?_,Zo,hJ9.next s10 f10 _,?_⟩
    .rw[hlast];simp[shV]
    .simp[t0,t1,t3,t4,t5];exact⟨by omega,by omega,hpn⟩
   .apply sR;simp only[go_sem,seval];refine⟨_,ZJ9,hJ9.sub,Wk.refl hJ9.sub _,.inr ⟨_,?_,Zo⟩⟩;rw[hlast];exact⟨(shK b f (aO b s).2 (no+1)).map λx=>[shV x],by simp⟩
variable {P:Program} {n:Nat}
def Ez{o:Op}{xs:List VX}(h:Yn P n o=.more .oF xs):∃t,o=.alloc t/\nt P t=true:=by
 cases o
 case alloc t=>
  simp only[Yn]at h;split at h
  .cases h
  .split at h
   .rename_i hn;exact⟨t,rfl,hn⟩
   .cases h
 case call c=>
  obtain⟨callee,args,argTypes⟩:=c;cases callee
  case builtin b=>cases b<;>simp only[Yn]at h<;>(repeat' split at h)<;>cases h
  all_goals (simp only[Yn]at h;cases h)
 case unOp op t x=>cases op<;>simp only[Yn]at h<;>cases h
 case makeFunc f a b=>cases f<;>simp only[Yn]at h<;>(repeat' split at h)<;>cases h
 case binOp op t x y yt=>cases op<;>simp only[Yn,bR]at h<;>(repeat' split at h)<;>cases h
 all_goals (simp only[Yn]at h;(repeat' split at h)<;>cases h)
def D9{o:Op}{xs:List VX}(h:Yn P n o=.more .oL xs):∃t x y,o=.store t x y/\nt P t=true/\xs=[cx n x,cx n y]:=by
 cases o
 case store t x y=>
  simp only[Yn]at h;split at h
  .cases h
  .split at h
   .rename_i hn;simp only[Yw.more.injEq,true_and]at h;exact⟨t,x,y,rfl,hn,h.symm⟩
   .cases h
 case call c=>
  obtain⟨callee,args,argTypes⟩:=c;cases callee
  case builtin b=>cases b<;>simp only[Yn]at h<;>(repeat' split at h)<;>cases h
  all_goals (simp only[Yn]at h;cases h)
 case unOp op t x=>cases op<;>simp only[Yn]at h<;>cases h
 case makeFunc f a b=>cases f<;>simp only[Yn]at h<;>(repeat' split at h)<;>cases h
 case binOp op t x y yt=>cases op<;>simp only[Yn,bR]at h<;>(repeat' split at h)<;>cases h
 all_goals (simp only[Yn]at h;(repeat' split at h)<;>cases h)
def ab.oF{st:St}{Q:St->Prop}{k:List It}{i:az}{l:List az}(hw:aP st.s i.g=some true)(ho:i.op=.more .oF [])
 (h:ab P n (.ops l::k) ⟨aN st.s i.dst (.rp (.agg [])),st.U⟩ Q):ab P n (.ops (i::l)::k) st Q:=by
 refine ab.ins (by rw[ho];simp) hw λF hn I a w o all hi hs next Q' Yd=>?_
 subst hn;obtain⟨Yf,hd⟩:=bZ hi;rw[ho]at Yf;obtain⟨t,g1,hn⟩:=Ez Yf;have YD:(execOp a.eval o).run P w=.ok (.value (.pointer (some ⟨w.heap.size,0,none⟩))) (w.alloc (.cells #[] t)):=by
  unfold execOp;rw[g1];simp[Instr.alloc,o9 hn,newVar,newRow,Value.cells]
 unfold Oper.wp;rw[YD];obtain⟨h1,hk⟩:=hs.sat.more (.cells #[] t);refine Yd _ _ _ ⟨I,?_⟩ h;rw[<-hd];exact hs.step h1 (cD.refl I) hk (by simp) (by simp only[E'];exact⟨w.heap.size,0,rfl,by simp,.inl rfl,by simp[bj,aM]⟩)
def ab.oL{st:St}{Q:St->Prop}{k:List It}{i:az}{l:List az}{xa xv:VX}{u:V}(hw:aP st.s i.g=some true)(ho:i.op=.more .oL [xa,xv])(ha:xa.ev st.s=.rp u)(hv:xv.ev st.s=.agg [])
 (h:ab P n (.ops l::k) ⟨aN st.s i.dst (.P' []),st.U⟩ Q):ab P n (.ops (i::l)::k) st Q:=by
 refine ab.ins (by rw[ho];simp) hw λF hn I a w o all hi hs next Q' Yd=>?_
 subst hn;obtain⟨Yf,hd⟩:=bZ hi;rw[ho]at Yf;obtain⟨t,x,y,g1,hn,g2⟩:=D9 Yf;simp only[List.cons.injEq,and_true]at g2;obtain⟨rfl,rfl⟩:=g2;have R1:=bE hs x;have R2:=bE hs y;rw[ha]at R1;rw[hv]at R2;simp only[E']at R1 R2;obtain⟨b,off,e1,_⟩:=R1;obtain⟨Yl,e2,e3,_⟩:=R2;simp only[al]at e3;subst e3;obtain⟨ti,_,hti,hsz,_⟩:=lW hn;have YD:(execOp a.eval o).run P w=.ok .skip w:=by
  unfold execOp;rw[g1];simp[Instr.storeAt,Instr.sureAddr,e1,e2,storeVar,sizeOf,typeInfo,hti,hsz,Value.cells,storeCells]
 unfold Oper.wp;rw[YD];refine Yd _ _ _ ⟨I,?_⟩ h;rw[<-hd];exact hs.pure (by simp[E',al,undef])
open Go.Proofs Go.Proofs.Tryz
def IJ(b:Bk):aJ prog 24 [.rp (bx b)] (.fn 53 [.rp (.rp (bx b))]):=λU=>by
 refine e24.r (by simp[c24]) ?_;refine ab.mix 4 ?_;apply sR;simp only[go_sem,seval,c24];refine ad λid1 Z1 s1 a1 f1=>?_;simp only[go_sem,seval];exact⟨_,U,s1,Wk.fn (vs':=[.rp (.rp (bx b))]) ⟨Wk.ptr s1 a1 f1,trivial⟩,rfl,rfl⟩
def pgN(k:Nat)(x:Option YL):YL:=match x with
 |none=>⟨(k:Int)+1,3,[],[],[]⟩
 |some p=>{ p with no:=(k:Int)+1 }
def uP(L:List (Option YL)):List YL:=(List.range L.length).map λk=>pgN k (L.getD k none)
def KU(L:List (Option YL)):(uP L).length=L.length:=by simp[uP]
def pgV(k:Nat)(x:Option YL):V:=match x with
 |none=>.agg [vI ((k:Int)+1),vI 3,.aC,.aC,.aC]
 |some p=>aQ { p with no:=(k:Int)+1 }
def th(L:List (Option YL)):List V:=(List.range L.length).map λk=>pgV k (L.getD k none)
def Hy(L:List (Option YL))(x:Option YL):th (L++[x])=th L++[pgV L.length x]:=by
 unfold th;rw[iE,List.length_singleton,List.range_succ,gy];congr 1
 .refine List.map_congr_left λk hk=>?_;have:=List.mem_range.1 hk;rw[sH,sH,EY this]
 .simp
def JE(L:List (Option YL)):(th L).length=L.length:=by simp[th]
def vd(b:Bk):∀(f:Nat) (s:Sta) (no:Int),(shK b f s no).length<=2*f
 |0,_,_=>by simp[shK]
 |f+1,s,no=>by
  rw[shK];split
  .simp
  .split
   .have:=vd b f (aO b s).2 (no+2);simp only[ZR];omega
   .have:=vd b f (aO b s).2 (no+1);simp only[ZR];omega
def cb(b:Bk):List YL:=if(b.atoms.length:Int)+b.Ye.length=0 then[⟨1,3,[],[],[]⟩]else uP (shK b 1000000001 ⟨⟨0,0,true⟩,[]⟩ 0)
open Go.Proofs Go.Proofs.Tryz
def aT.Uo{ZJ U Yx Z':af}(h:aT ZJ U Yx Z'){id:Nat}{o:Ob}(hn:U id=none)(hj:Yx id=none):aT ZJ U Yx (C' Z' id o):=
 ⟨h.1.ax hj,λi x h1 h2=>by
  obtain⟨h3,h4⟩:=h.2 i x h1 h2;have:i≠id:=λe=>by rw[e,hn]at h2;cases h2
  simp[Vc.C',this,h3,h4]⟩
def FzL.maps{α:Type}{U:af}{N:Nat->Prop}{f g:α->V}:∀{l:List α},(∀a∈l,Fz U N (f a) (g a))->FzL U N (l.map f) (l.map g)
 |[],_=>.nil
 |a::l,h=>.cons _ _ _ _ (h a (by simp)) (FzL.maps λx hx=>h x (by simp[hx]))
def tD(p:YL):(aQ p).cu=true:=by
 have h:∀l:List Zi,(aG l).cu=true:=λl=>mA (f:=bb) (λ_=>rfl) l;show cj [vI p.no,vI p.kind,aG p.hs,aG p.fs,aG p.ls]=true;simp only[cj,h];rfl
def M7{U:af}{N:Nat->Prop}(L:List (Option YL)):FzL U N (th L) ((uP L).map aQ):=by
 unfold th uP;rw[List.map_map];refine FzL.maps λk _=>?_;simp only[Function.comp];cases L.getD k none with
 |none=>exact .agg _ _ (.cons _ _ _ _ (.same _ rfl) (.cons _ _ _ _ (.same _ rfl) (.cons _ _ _ _ (.nil 7) (.cons _ _ _ _ (.nil 7) (.cons _ _ _ _ (.nil 7) .nil)))))
 |some p=>exact .same _ (tD _)
def aL.Ud{K U:af}{N:Nat->Prop}{e sz:Nat}{v:V}{rows Yc:List V}(h:aL K U e sz v rows)(hN:∀id,K id=none->N id)(hr:FzL U N rows Yc):Fz U N v (.sl sz Yc):=by
 rcases h with⟨rfl,rfl⟩|⟨id,rfl,ho,hk⟩
 .cases hr;exact .nil sz
 .exact .own id 0 rows.length ⟨e,sz,rows⟩ Yc ho (hN id hk) (by simp) (by rw[Ad,ic];exact hr)
def bl(L:List YL):V:=.sl 5 (L.map aQ)
def H6(l:List Nd)(hl:dV l)(w h:Int):
 aJ prog 9 [aI l,vI w,vI h] (if ew l w h=0 then .P' [bl (cb (br l w h)),vI 0]else .P' [.aC,vI (ew l w h)]):=λU=>by
 refine e9.r (by simp[c9]) ?_;have hs:=aa.refl U;refine ab.mix 8 ?_;apply sR;simp only[go_sem,seval,c9];refine ab.ay rfl rfl rfl (OS l hl w h _) ?_;by_cases he:ew l w h=0
 .have hb:=gV hl he;have hL:=wj he;rw[Ev,ar he,ar he,he];generalize br l w h=b at*;generalize iJ l h=L at*;have q1:((0:Int)≠0)=False:=T' (λh=>h rfl);apply sR;simp only[go_sem,seval,q1];refine ad λYU Z10 s10 Zf f10=>?_;have z10:=hs.none f10;replace hs:=hs.trans s10;simp only[go_sem,seval];refine ab.ay rfl rfl rfl (IJ b _) ?_;apply sR;simp only[go_sem,seval];generalize hS:mix 8 _ _=S;have S8:S 8=.rp (bx b):=by rw[<-hS];rfl
  have S10:S 10=.ptr YU 0 0:=by rw[<-hS];rfl
  have S27:S 27=.fn 53 [.rp (.rp (bx b))]:=by rw[<-hS];rfl
  clear hS;have hit:=Bg b hb hL;have hSl:=vd b 1000000001 ⟨⟨0,0,true⟩,[]⟩ 0;have hPR:cb b=if(b.atoms.length:Int)+b.Ye.length=0 then[⟨1,3,[],[],[]⟩]else uP (shK b 1000000001 ⟨⟨0,0,true⟩,[]⟩ 0):=rfl
  generalize cb b=PR at*;generalize shK b 1000000001 ⟨⟨0,0,true⟩,[]⟩ 0=SH at*;refine ab.cE (g:=.t 27) (caps:=[.rp (.rp (bx b))]) S27 hit (λx hx=>?_) [] (λpre ZJ=>∃v,ZJ YU=some ⟨23,1,[v]⟩/\aa U ZJ/\aL (aU U YU) ZJ 37 5 v (th (SH.take pre.length)))
   (λ_ _ _=>False) ?_ ?_ ?_ ?_ ?_
  .obtain⟨t,_,rfl⟩:=gl.1 hx;rfl
  .exact⟨.aC,Zf,s10,by simpa[th]using aL.start⟩
  .rintro pre x post ZJ ZB hxs ⟨v,J10,Js,Jo⟩ G';obtain⟨t,hti,rfl⟩:=rD (f:=shV) hxs;have hpl:pre.length<SH.length:=(jj.1 hti).1;have hlen:(pre++[[shV t]]).length=pre.length+1:=by simp
   have Zg:th (SH.take (pre.length+1))=th (SH.take pre.length)++[pgV pre.length t]:=by
    rw[IL,hti,Option.toList_some,Hy,ia,Nat.min_eq_left (by omega)]
   rw[hlen,Zg];have hnl:(th (SH.take pre.length)).length=pre.length:=by rw[JE,ia];omega
   have hvc:=Jo.vc.1;have hvs:=Jo.vc.2;have hvl:=Jo.len;rw[hnl]at hvl;generalize YS:th (SH.take pre.length)=rows at*;have b10:=G' _ _ J10;generalize hSS:lf S [28] [shV t]=S0;have T10:S0 10=.ptr YU 0 0:=by rw[<-hSS];exact S10
   have T28:S0 28=shV t:=by rw[<-hSS];rfl
   clear hSS;refine ab.mix 12 ?_;apply sR;simp only[go_sem,seval,T28];apply sR;simp only[go_sem,seval];rw[bD];intro i12 f12;have m12:YU≠i12:=ao b10 f12;have r1:Yr .i64 ((pre.length:Int)+1):=ai;have ZD:∀p:YL,(aQ p).cells=[vI p.no,vI p.kind,aG p.hs,aG p.fs,aG p.ls]:=λ_=>rfl;have hfc:∀l:List Zi,(aG l).cells=[aG l]:=λ_=>rfl;have hfs:∀l:List Zi,(aG l).stays=true:=λ_=>rfl;have hps:∀p:YL,(aQ p).stays=true:=λ_=>rfl;have hBs:=(aT.refl G').sF (o:=⟨37,5,[.agg [vI 0,vI 3,.aC,.aC,.aC]]⟩) f12;have y10:C' ZB i12 ⟨37,5,[.agg [vI 0,vI 3,.aC,.aC,.aC]]⟩ YU=some ⟨23,1,[v]⟩:=by rw[ae m12];exact b10
   have a12:C' ZB i12 ⟨37,5,[.agg [vI 0,vI 3,.aC,.aC,.aC]]⟩ i12=some ⟨37,5,[.agg [vI 0,vI 3,.aC,.aC,.aC]]⟩:=ag;have Zu:(rows.length+1)*89<=140737488355328:=by omega
   have k2:aU U YU YU≠none:=λh=>(aF.1 h).1 rfl;have n12:ZJ i12=none:=G'.none f12;cases t with
   |none=>
    simp only[go_sem,seval,shV,I2];generalize C' ZB i12 ⟨37,5,[.agg [vI 0,vI 3,.aC,.aC,.aC]]⟩=X' at*;refine ab.oF rfl rfl ?_;refine ab.oL (u:=.agg []) rfl rfl rfl rfl ?_;apply sR;simp only[go_sem,seval,T10,y10,a12,hvc,hvl,r1,ae m12];rw[bD];intro i45 f45;have y2:C' X' i12 (⟨37,5,[.agg [vI ((pre.length:Int)+1),vI 3,.aC,.aC,.aC]]⟩:Ob) YU=some ⟨23,1,[v]⟩:=by rw[ae m12];exact y10
    have hB2:aT ZJ ZB ZJ (C' X' i12 (⟨37,5,[.agg [vI ((pre.length:Int)+1),vI 3,.aC,.aC,.aC]]⟩:Ob)):=hBs.Uo f12 n12;generalize C' X' i12 (⟨37,5,[.agg [vI ((pre.length:Int)+1),vI 3,.aC,.aC,.aC]]⟩:Ob)=Y2 at*;have hB3:=hB2.sF (o:=(⟨37,5,[.agg [vI ((pre.length:Int)+1),vI 3,.aC,.aC,.aC]]⟩:Ob)) f45;have y3:C' Y2 i45 (⟨37,5,[.agg [vI ((pre.length:Int)+1),vI 3,.aC,.aC,.aC]]⟩:Ob) YU=some ⟨23,1,[v]⟩:=by rw[ae (ao y2 f45)];exact y2
    have a45:C' Y2 i45 (⟨37,5,[.agg [vI ((pre.length:Int)+1),vI 3,.aC,.aC,.aC]]⟩:Ob) i45=some (⟨37,5,[.agg [vI ((pre.length:Int)+1),vI 3,.aC,.aC,.aC]]⟩:Ob):=ag;generalize C' Y2 i45 (⟨37,5,[.agg [vI ((pre.length:Int)+1),vI 3,.aC,.aC,.aC]]⟩:Ob)=τ3 at*;obtain⟨Yt,hda,hdA⟩:=Jo.Hv hB3.1;have dne:∀(i:Nat) (Zx:af),aU U YU i≠none->Vc.bt Zx Yt i=Zx i:=λi Zx hk=>by
     cases Yt with
     |none=>rfl
     |some a=>exact cA (λe=>hk (by rw[e];exact(hdA a rfl).1))
    simp only[go_sem,seval,hda,dh a45,Zu];rw[bD];intro i46 f46;have f46:τ3 i46=none:=f46;have m46:YU≠i46:=ao y3 f46;have f46':Vc.bt τ3 Yt i46=none:=by
     cases Yt with
     |none=>exact f46
     |some a=>simp only[Vc.bt,del];split<;>first|rfl|exact f46
    have y4:C' (Vc.bt τ3 Yt) i46 ⟨37,5,rows++[.agg [vI ((pre.length:Int)+1),vI 3,.aC,.aC,.aC]]⟩ YU=some ⟨23,1,[v]⟩:=by rw[ae m46,dne _ _ k2];exact y3
    have hB9:=((hB3.Hs (e:=Yt) λi h=>(hdA i h).2).new (o:=⟨37,5,rows++[.agg [vI ((pre.length:Int)+1),vI 3,.aC,.aC,.aC]]⟩) f46').set (id:=YU) (o:=⟨23,1,[v]⟩) (o':=⟨23,1,[.own i46 0 (rows.length+1)]⟩) (by rw[ae m46,dne _ _ k2];exact J10);simp only[go_sem,seval,hvc,y4,T10];refine⟨_,hB9,.own i46 0 (rows.length+1),ag,?_,?_⟩
    .refine aa.ax (λi o h=>?_) z10;have h1:=Js _ _ h;rw[ae (ao (hB3.1 _ _ h1) f46),dne _ _ (λhk=>by rw[(aF.1 hk).2]at h;cases h)];exact h1
    .refine aL.new (by simp) (by rw[ae m46.symm,ag];rfl) ?_;rw[aF];refine⟨m46.symm,?_⟩;cases h:U i46 with
     |none=>rfl
     |some o=>rw[hB3.1 _ _ (Js _ _ h)]at f46;cases f46
   |some p=>
    simp only[go_sem,seval,shV,I2];generalize C' ZB i12 ⟨37,5,[.agg [vI 0,vI 3,.aC,.aC,.aC]]⟩=C at*;rw[bD];intro i13 f13;have m13:i12≠i13:=ao a12 f13;have k13:YU≠i13:=ao y10 f13;have hBs:=hBs.sF (o:=⟨74,5,[aQ p]⟩) f13;have y10:C' C i13 ⟨74,5,[aQ p]⟩ YU=some ⟨23,1,[v]⟩:=by rw[ae k13];exact y10
    have a12:C' C i13 ⟨74,5,[aQ p]⟩ i12=some ⟨37,5,[.agg [vI 0,vI 3,.aC,.aC,.aC]]⟩:=by rw[ae m13];exact a12
    have a13:C' C i13 ⟨74,5,[aQ p]⟩ i13=some ⟨74,5,[aQ p]⟩:=ag;simp only[go_sem,seval,ZD,hps];generalize C' C i13 ⟨74,5,[aQ p]⟩=X' at*;simp only[go_sem,seval,T10,y10,a12,hvc,hvl,r1,ae m12];rw[bD];intro i45 f45;have y2:C' X' i12 (⟨37,5,[.agg [vI ((pre.length:Int)+1),vI p.kind,aG p.hs,aG p.fs,aG p.ls]]⟩:Ob) YU=some ⟨23,1,[v]⟩:=by rw[ae m12];exact y10
    have hB2:aT ZJ ZB ZJ (C' X' i12 (⟨37,5,[.agg [vI ((pre.length:Int)+1),vI p.kind,aG p.hs,aG p.fs,aG p.ls]]⟩:Ob)):=hBs.Uo f12 n12;generalize C' X' i12 (⟨37,5,[.agg [vI ((pre.length:Int)+1),vI p.kind,aG p.hs,aG p.fs,aG p.ls]]⟩:Ob)=Y2 at*;have hB3:=hB2.sF (o:=(⟨37,5,[.agg [vI ((pre.length:Int)+1),vI p.kind,aG p.hs,aG p.fs,aG p.ls]]⟩:Ob)) f45;have y3:C' Y2 i45 (⟨37,5,[.agg [vI ((pre.length:Int)+1),vI p.kind,aG p.hs,aG p.fs,aG p.ls]]⟩:Ob) YU=some ⟨23,1,[v]⟩:=by rw[ae (ao y2 f45)];exact y2
    have a45:C' Y2 i45 (⟨37,5,[.agg [vI ((pre.length:Int)+1),vI p.kind,aG p.hs,aG p.fs,aG p.ls]]⟩:Ob) i45=some (⟨37,5,[.agg [vI ((pre.length:Int)+1),vI p.kind,aG p.hs,aG p.fs,aG p.ls]]⟩:Ob):=ag;generalize C' Y2 i45 (⟨37,5,[.agg [vI ((pre.length:Int)+1),vI p.kind,aG p.hs,aG p.fs,aG p.ls]]⟩:Ob)=τ3 at*;obtain⟨Yt,hda,hdA⟩:=Jo.Hv hB3.1;have dne:∀(i:Nat) (Zx:af),aU U YU i≠none->Vc.bt Zx Yt i=Zx i:=λi Zx hk=>by
     cases Yt with
     |none=>rfl
     |some a=>exact cA (λe=>hk (by rw[e];exact(hdA a rfl).1))
    simp only[go_sem,seval,hda,dh a45,Zu];rw[bD];intro i46 f46;have f46:τ3 i46=none:=f46;have m46:YU≠i46:=ao y3 f46;have f46':Vc.bt τ3 Yt i46=none:=by
     cases Yt with
     |none=>exact f46
     |some a=>simp only[Vc.bt,del];split<;>first|rfl|exact f46
    have y4:C' (Vc.bt τ3 Yt) i46 ⟨37,5,rows++[.agg [vI ((pre.length:Int)+1),vI p.kind,aG p.hs,aG p.fs,aG p.ls]]⟩ YU=some ⟨23,1,[v]⟩:=by rw[ae m46,dne _ _ k2];exact y3
    have hB9:=((hB3.Hs (e:=Yt) λi h=>(hdA i h).2).new (o:=⟨37,5,rows++[.agg [vI ((pre.length:Int)+1),vI p.kind,aG p.hs,aG p.fs,aG p.ls]]⟩) f46').set (id:=YU) (o:=⟨23,1,[v]⟩) (o':=⟨23,1,[.own i46 0 (rows.length+1)]⟩) (by rw[ae m46,dne _ _ k2];exact J10);simp only[go_sem,seval,hvc,y4,T10];refine⟨_,hB9,.own i46 0 (rows.length+1),ag,?_,?_⟩
    .refine aa.ax (λi o h=>?_) z10;have h1:=Js _ _ h;rw[ae (ao (hB3.1 _ _ h1) f46),dne _ _ (λhk=>by rw[(aF.1 hk).2]at h;cases h)];exact h1
    .refine aL.new (by simp) (by rw[ae m46.symm,ag];rfl) ?_;rw[aF];refine⟨m46.symm,?_⟩;cases h:U i46 with
     |none=>rfl
     |some o=>rw[hB3.1 _ _ (Js _ _ h)]at f46;cases f46
  .rintro Z' ⟨v,Zf,hs,Jo⟩;rw[de,ic]at Jo;have hvc:=Jo.vc.1;have hvs:=Jo.vc.2;have hla:=ik b.atoms;have hlf:=fZ b.Ye;have hfl:=hb.flen;have hal:=hb.len;have rr:Yr .i64 ((b.atoms.length:Int)+b.Ye.length):=ai;refine ab.mix 12 ?_;apply sR;simp only[go_sem,seval,S8];refine ab.ay rfl rfl rfl (zd b hb.toBkFull _) ?_;apply sR;simp only[go_sem,seval,AX];have hK:aa U Z':=hs;have hs:=aa.refl Z';refine ad λi15 Y15 s15 a15 f15=>?_;have n1015:=ao Zf f15;replace Zf:=s15 _ _ Zf;have z15:=hs.none f15;replace hs:=hs.trans s15;simp only[go_sem,seval,a15];generalize hq15:C' _ i15 _=Z15;replace a15:=(congrFun hq15 i15).symm.trans ag;replace Zf:=((congrFun hq15 YU).symm.trans (ae n1015)).trans Zf;replace hs:=Eq.subst (motive:=aa _) hq15 (hs.ax z15);clear hq15;by_cases hz:(b.atoms.length:Int)+b.Ye.length=0
   .have qz:((b.atoms.length:Int)+b.Ye.length=0)=True:=Yi hz;rw[ar hz]at hPR;simp only[go_sem,seval,a15,hla,hlf,rr,qz];have a10':=Zf;refine ad λi58 Z58 s58 a58 f58=>?_;replace Zf:=s58 _ _ Zf;have z58:=hs.none f58;replace hs:=hs.trans s58;simp only[go_sem,seval,Zf,S10,hvc];rw[hPR];have hs3:=(hK.trans hs).ax (id:=YU) (o:=⟨23,1,[.own i58 0 1]⟩) z10;have m58:YU≠i58:=ao a10' f58;have hf:Fz (C' Z58 YU ⟨23,1,[.own i58 0 1]⟩) (λid=>U id=none) (.P' [.own i58 0 1,vI 0]) (.P' [bl [⟨1,3,[],[],[]⟩],vI 0]):=
     .P' _ _ (.cons _ _ _ _ (.own i58 0 1 ⟨37,5,[.agg [vI 1,vI 3,.aC,.aC,.aC]]⟩ _ ((ae m58.symm).trans a58) (hK.none z58) (by simp) (FzL.one (.agg _ _ (.cons _ _ _ _ (.same _ rfl) (.cons _ _ _ _ (.same _ rfl) (.cons _ _ _ _ (.nil 7) (.cons _ _ _ _ (.nil 7) (.cons _ _ _ _ (.nil 7) .nil)))))))) (FzL.same [vI 0] rfl))
    exact⟨_,U,hs3,hf.wk hs3 (λ_ h=>h),rfl,rfl⟩
   .have qz:((b.atoms.length:Int)+b.Ye.length=0)=False:=T' hz;rw[av hz]at hPR;simp only[go_sem,seval,a15,Zf,S10,hla,hlf,rr,qz,hvc];rw[hPR];have hf:Fz Z15 (λid=>U id=none) (.P' [v,vI 0]) (.P' [bl (uP SH),vI 0]):=
     .P' _ _ (.cons _ _ _ _ ((Jo.mono hs).Ud (λid h=>(aF.1 h).2) (M7 SH)) (FzL.same [vI 0] rfl))
    exact⟨_,U,hK.trans hs,hf.wk (hK.trans hs) (λ_ h=>h),rfl,rfl⟩
  .intro id h;cases h
  .rintro pre Z' _ ⟨⟩
 .have q1:(ew l w h≠0)=True:=Yi he;rw[av he];apply sR;simp only[go_sem,seval,q1];exact ak.pure hs rfl
def goP(l:List Zq):Int->Int->List Zi->Option (Int×Int)
 |a,d,[]=>some (a,d)
 |a,d,x::r=>
  if(0<=a/\a<l.length)/\x.atom=a/\x.node=(atG l a).node/\x.fr=d/\1<=x.h/\x.w=(atG l a).w/\x.x=(atG l a).x/\d+x.h<=(atG l a).h then
   (if d+x.h=(atG l a).h then goP l (a+1) 0 r else if r=[]then some (a,d+x.h)else none)
  else none
def C8{b:Bk}(hb:fa b)(F:Int->Zi)(hF:∀k (h:k<b.atoms.length),F k=⟨b.atoms[k].node,k,0,b.atoms[k].x,(F k).y,b.atoms[k].w,b.atoms[k].h⟩):
 ∀(m k:Nat),k+m<=b.atoms.length->goP b.atoms k 0 ((List.range m).map λi:Nat=>F ((k:Int)+i))=some (((k+m:Nat):Int),0)
 |0,k,_=>by simp[goP]
 |m+1,k,h=>by
  have hk:k<b.atoms.length:=by omega
  have hp:=hb.pos _ (Zw hk);rw[List.range_succ_eq_map,dP,List.map_map];have e:=hF k hk;have e0:F ((k:Int)+((0:Nat):Int))=F k:=by simp
  have ih:=C8 hb F hF m (k+1) (by omega);rw[e0,goP,aZ hk,e];simp only;rw[ar ⟨⟨by omega,by omega⟩,trivial,trivial,trivial,hp,trivial,trivial,by omega⟩,ar (by omega)];have e1:((k:Int)+1)=((k+1:Nat):Int):=by omega
  have e2:((λi:Nat=>F ((k:Int)+i))∘Nat.succ)=λi:Nat=>F (((k+1:Nat):Int)+i):=by
   funext i;simp only[Function.comp];congr 1;omega
  rw[e1,e2,ih];congr 2;omega
def C7{b:Bk}(hb:fa b){s:Zm}(hm:dI b.atoms s){kept shift high:Int}{c:Nat}(h1:s.atom<c)(h2:c<=b.atoms.length):
 goP b.atoms s.atom s.done ((List.range (c-s.atom.toNat)).map λi:Nat=>ct high (dq b.atoms s kept shift (s.atom+(i:Nat))))=some ((c:Int),0):=by
 have hm0:=hm;obtain⟨⟨h3,h4⟩,h5,h6⟩:=hm;obtain⟨a,ha⟩:∃a:Nat,s.atom=a:=⟨s.atom.toNat,by omega⟩
 have hal:a<b.atoms.length:=by omega
 rw[ha,aZ hal]at h6;have hp:=hb.pos _ (Zw hal);obtain⟨m,hmm⟩:∃m,c-s.atom.toNat=m+1:=⟨c-s.atom.toNat-1,by omega⟩
 rw[hmm,List.range_succ_eq_map,dP,List.map_map];have e0:ct high (dq b.atoms s kept shift (s.atom+((0:Nat):Int)))=⟨b.atoms[a].node,a,s.done,b.atoms[a].x,dH b.atoms s kept shift a+s.done+high,b.atoms[a].w,b.atoms[a].h-s.done⟩:=by
  have:s.atom+((0:Nat):Int)=a:=by omega
  rw[this,dq,ar ⟨hm0,by omega,by omega⟩,ar (by omega)];simp only[ct,Zi.bH,nr,fL,aZ hal]
 let F:Int->Zi:=λk=>if k=s.atom then⟨b.atoms[a].node,k,0,b.atoms[a].x,0,b.atoms[a].w,b.atoms[a].h⟩else if s.atom<k then ct high (dq b.atoms s kept shift k)else⟨(atG b.atoms k).node,k,0,(atG b.atoms k).x,0,(atG b.atoms k).w,(atG b.atoms k).h⟩
 have hF:∀k (h:k<b.atoms.length),F k=⟨b.atoms[k].node,k,0,b.atoms[k].x,(F k).y,b.atoms[k].w,b.atoms[k].h⟩:=λk h=>by
  by_cases e:(k:Int)=s.atom
  .obtain rfl:k=a:=by omega
   simp only[F,ar e]
  .by_cases e2:s.atom<k
   .simp only[F,av e,ar e2];rw[dq,ar ⟨hm0,by omega,by omega⟩,av e];simp only[ct,nr,fL,aZ h]
   .simp only[F,av e,av e2,aZ h]
 have hr:=C8 hb F hF m (a+1) (by omega);rw[e0,goP,ha,aZ hal];simp only;rw[ar ⟨⟨by omega,by omega⟩,trivial,trivial,trivial,by omega,trivial,trivial,by omega⟩,ar (by omega)];have e1:((a:Int)+1)=((a+1:Nat):Int):=by omega
 have e2:(List.range m).map ((λi:Nat=>ct high (dq b.atoms s kept shift ((a:Int)+(i:Nat))))∘Nat.succ)=(List.range m).map λi:Nat=>F (((a+1:Nat):Int)+i):=by
  refine List.map_congr_left λi _=>?_;have:((a:Int)+((Nat.succ i:Nat):Int))=((a+1:Nat):Int)+i:=by omega
  simp only[Function.comp,this];simp only[F];rw[av (by omega),ar (by omega)]
 rw[e1,e2,hr];congr 2;omega
def xA{b:Bk}(hb:fa b){s:Sta}(he:¬eK b s):goP b.atoms s.s.atom s.s.done (aO b s).1.fs=some ((aO b s).2.s.atom,(aO b s).2.s.done):=by
 have ZK:kX b s:=Decidable.byContradiction λh=>he (.inl h);have hat:0<=s.s.atom:=by rcases ZK.2 with h|h;exact h.1.1;omega
 have hg:=iY hb he;revert hg;unfold aO;split
 .rename_i h0;intro _;have hn:s.s.atom=0/\s.s.done=0:=by
   rcases ZK.2 with h|h
   .have:=h.1;rw[h0.1]at this;simp at this;omega
   .rw[h0.1]at h;simpa using h
  show goP b.atoms s.s.atom s.s.done []=_;rw[goP,hn.1,hn.2];rfl
 .split
  .intro _;rfl
  .rename_i hf;intro hg;have hm:dI b.atoms s.s:=ZK.2.resolve_right λh=>hf (.inl h.1);have hkind:(nz (dO b (cd b s))).kind=1:=(jv b (cd b s)).2;obtain⟨-,g1,g2,hcg⟩:=hg.cut hkind;change goP b.atoms s.s.atom s.s.done (dO b (cd b s)).fs=some ((eI b (cd b s)).s.atom,(eI b (cd b s)).s.done);change ve b s.s (eI b (cd b s)).s (dO b (cd b s)).fs _ _ at hcg;have hrl:dQ b (cd b s)<=b.atoms.length:=oY;have ZO:=hb.brk;unfold dO eI at hcg|-;by_cases M':fv b.Ys (cd b s).s.atom (dQ b (cd b s))
   .rw[ar M',ar M'];obtain⟨c,c1,c2,c3⟩:=rL M' (by omega);rw[show ye b (cd b s)=c from c1,e8];have c2':s.s.atom<c:=c2;exact C7 hb hm c2' (by omega)
   .rw[av M',av M']at hcg|-;have hso:qT b.atoms s.s (bw b s.s).body:=⟨hm,gT hb.toBkFull s.s hat⟩
    obtain⟨⟨h3,h4⟩,h5,h6⟩:=hm;obtain⟨a,ha⟩:∃a:Nat,s.s.atom=a:=⟨s.s.atom.toNat,by omega⟩
    have hal:a<b.atoms.length:=by omega
    have hp:=hb.pos _ (Zw hal);have hbd:=gT hb.toBkFull s.s hat;have hag:atG b.atoms s.s.atom=b.atoms[a]:=by rw[ha,aZ hal]
    show goP b.atoms s.s.atom s.s.done [ct (bw b s.s).high (kv b.atoms s.s (bw b s.s).body)]=some ((dU b.atoms s.s (bw b s.s).body).atom,(dU b.atoms s.s (bw b s.s).body).done);rw[kv,ar hso,dU,ar hso,ft,jo];simp only[goP,ct,Zi.cut,Zi.bH,fL,hag];rw[hag]at h6;rw[ar ⟨⟨h3,h4⟩,trivial,trivial,trivial,by omega,trivial,trivial,by omega⟩];by_cases e:s.s.done+min (b.atoms[a].h-s.s.done) (bw b s.s).body=b.atoms[a].h
    .have L':¬(s.s.done+min (b.atoms[a].h-s.s.done) (bw b s.s).body<b.atoms[a].h):=by omega
     rw[ar e,av L']
    .have L':s.s.done+min (b.atoms[a].h-s.s.done) (bw b s.s).body<b.atoms[a].h:=by omega
     rw[av e,ar L'];simp
def Bh{x:U'}:∀(p:List U') (i k:Nat),nF x p i=((i+k:Nat):Int)->p[k]?=some x
 |[],i,k,h=>by simp[nF]at h;omega
 |q::p,i,k,h=>by
  rw[nF]at h;split at h
  .rename_i e;obtain rfl:k=0:=by omega
   simp[e]
  .rcases ru x p (i+1)with h2|⟨m,h2,_⟩
   .rw[h2]at h;omega
   .have hk:k=m+1:=by rw[h2]at h;omega
    subst hk;rw[Cl];exact Bh p (i+1) m h2
def Cs{Ye:List U'}:∀(p:List U') (YZ:Nat),pX Ye p YZ=true->p.Sublist (Ye.drop YZ)
 |[],YZ,_=>List.nil_sublist _
 |x::r,YZ,h=>by
  rw[pX]at h;split at h
  .cases h
  .rename_i hk;rcases ru x (Ye.drop YZ) 0 with e|⟨k,e,hk2⟩
   .exact absurd (by rw[e];decide) hk
   .rw[e,jc,e8]at h;have hx:=Bh _ 0 k e;obtain⟨hl,hg⟩:=jj.1 hx;have hr:=Cs r _ h;have e1:Ye.drop YZ=(Ye.drop YZ).take k++x::(Ye.drop YZ).drop (k+1):=by
     conv=>lhs;rw[<-uQ k (Ye.drop YZ)]
     rw[ie hl,hg]
    rw[e1,List.drop_drop,show YZ+(k+1)=YZ+k+1 by omega];exact(List.Sublist.cons_cons x hr).trans (List.sublist_append_right _ _)
structure AkI(s:WS):Prop where
 pw:s.B'.Pairwise λf g=>f.anchor<=g.anchor
 q:∀f∈s.B',f.anchor<=s.atoms.length
def AkI.more{s t:WS}(h:AkI s)(hf:t.B'=s.B')(ha:s.atoms.length<=t.atoms.length):AkI t:=⟨by rw[hf];exact h.pw,λf hf'=>by rw[hf]at hf';have:=h.q f hf';omega⟩
def G8(fs:List U')(f:U')(y:Int)(s:ZC):∃g,sX fs f y s=fs++[g]/\g.anchor=f.anchor:=⟨_,rfl,by unfold ji;(repeat' split)<;>rfl⟩
def AkI.put{s:WS}(h:AkI s)(a:Zq):AkI (s.put a):=h.more rfl (by simp[WS.put])
def AkI.text{rs:List Rm}{s:WS}(h:AkI s)(a:Nat)(n:Nd):AkI (s.text rs a n):=by
 unfold WS.text;generalize cV _ _ _ _ _ _ _ _=L
 induction L generalizing s with
 |nil=>exact h
 |cons x L ih=>exact ih (h.put _)
def AkI.float{rs:List Rm}{s:WS}(h:AkI s)(a:Nat)(n:Nd):AkI (s.float rs a n):=by
 obtain⟨g,e,ha⟩:=G8 s.B' ⟨a,n.side,s.atoms.length,0,0,n.w,n.h⟩ (s.Yq.y+s.Yq.m) (dZ rs a);have e':(s.float rs a n).B'=s.B'++[g]:=e;refine⟨?_,λf hf=>?_⟩
 .rw[e',List.pairwise_append];refine⟨h.pw,by simp,λf hf y hy=>?_⟩;rw[eu.1 hy,ha];exact h.q f hf
 .rw[e']at hf;rcases db.1 hf with hf|hf
  .exact h.q f hf
  .rw[eu.1 hf,ha];exact Int.le_refl _
def lU{l:List Nd}{rs:List Rm}:∀(k a e:Nat) (s:WS),AkI s->AkI (cS l rs k a e s)
 |0,a,e,s,h=>h
 |k+1,a,e,s,h=>by
  rw[cS];split
  .split
   .exact lU k _ _ _ ((lU k _ _ (s.enter (YP l a).st) (h.more rfl (YY _))).more rfl (YY _))
   .split
    .exact lU k _ _ _ (h.text _ _)
    .split
     .exact lU k _ _ _ (h.put _)
     .exact lU k _ _ _ (h.float _ _)
  .exact h
def Nn(l:List Nd)(w:Int):((cq l w).B'.Pairwise λf g=>f.anchor<=g.anchor)/\∀f∈(cq l w).B',0<=f.anchor/\(0<(cq l w).atoms.length->f.anchor<(cq l w).atoms.length):=by
 have h:=lU (l:=l) (rs:=gu l w) l.length 0 l.length ⟨[],[],0,⟨0,0⟩⟩ ⟨by simp,by simp⟩;have e1:(cq l w).atoms=(cS l (gu l w) l.length 0 l.length ⟨[],[],0,⟨0,0⟩⟩).atoms:=rfl;have e2:(cq l w).B'=(cS l (gu l w) l.length 0 l.length ⟨[],[],0,⟨0,0⟩⟩).B'.map (nW (cS l (gu l w) l.length 0 l.length ⟨[],[],0,⟨0,0⟩⟩).atoms.length):=rfl;rw[e1,e2];generalize cS l (gu l w) l.length 0 l.length ⟨[],[],0,⟨0,0⟩⟩=s at*;refine⟨?_,λf hf=>?_⟩
 .rw[List.pairwise_map];refine h.pw.imp λhab=>?_;simp only[nW];omega
 .obtain⟨g,hg,rfl⟩:=gl.1 hf;simp only[nW];omega
def DM{top shift body:Int}(L:List U'):∃j,j<=L.length/\(jL top shift body L).1=(L.take j).map (ee top shift)/\(jL top shift body L).2=L.drop j:=by
 suffices key:∀(L A:List U') (x:List U'×List U'),(∃j,j<=A.length/\x.1=(A.take j).map (ee top shift)/\x.2=A.drop j)->
  ∃j,j<=(A++L).length/\(L.foldl (λx f=>nq body x f (ee top shift f)) x).1=((A++L).take j).map (ee top shift)/\(L.foldl (λx f=>nq body x f (ee top shift f)) x).2=(A++L).drop j from by
  have h:=key L [] ([],[]) ⟨0,by simp,by simp,by simp⟩;rw[kW]at h;exact h
 intro L
 induction L with
 |nil=>intro A x h;simpa using h
 |cons f L ih=>
  intro A x ⟨j,h1,h2,h3⟩;rw[j4,show A++f::L=(A++[f])++L by simp];refine ih _ _ ?_;simp only[nq];by_cases hl:pR x.2 (ee top shift f) body=true
  .rw[ar hl,ar hl];refine⟨j,by simp;omega,?_,?_⟩
   .rw[h2,MJ h1]
   .rw[h3,E1 h1]
  .rw[av hl,av hl];have hx:x.2=[]:=Decidable.byContradiction λhn=>hl (by unfold pR;exact ZN (.inl hn));have hj:j=A.length:=by
    rw[h3]at hx;have:=congrArg List.length hx;simp at this;omega
   subst hj;refine⟨A.length+1,by simp,?_,?_⟩
   .rw[h2,jW (YY _),jW (by simp),gy,List.map_singleton]
   .rw[h3];simp
def xJ{body:Int}:∀(l:List U') (sh:Int),∃j,j<=l.length/\(dk body l sh).2.1=l.drop j/\(dk body l sh).1.length=j/\∀i f m,i<j->l[i]?=some f->(dk body l sh).1[i]?=some m->m.node=f.node/\m.x=f.x/\m.w=f.w/\m.h<=f.h
 |[],sh=>⟨0,by simp,by simp[dk],by simp[dk],λi f m h=>by omega⟩
 |g::r,sh=>by
  rw[dk];split
  .exact⟨0,by simp,by simp,by simp,λi f m h=>by omega⟩
  .obtain⟨j,h1,h2,h3,h4⟩:=xJ (body:=body) r (sh+min g.h body);refine⟨j+1,by simp only[ZR];omega,by simpa using h2,by simp only[ZR,h3],λi f m hi hf hm=>?_⟩;cases i with
   |zero=>
    simp only[Qj,aB]at hf hm;subst hf;subst hm;exact⟨rfl,rfl,rfl,by simp only;omega⟩
   |succ i=>
    rw[Cl]at hf hm;exact h4 i f m (by omega) hf hm
def gx(L:List U')(B:Int):Nat:=(L.filter λf=>decide (f.anchor<B)).length
def tu{B:Int}{L:List U'}(h:∀g∈L,B<=g.anchor):(L.filter λf=>decide (f.anchor<B))=[]:=by
 rw[List.filter_eq_nil_iff];intro g hg;have:=h g hg;simp;omega
def zI{B:Int}:∀{L:List U'},(L.Pairwise λf g=>f.anchor<=g.anchor)->(L.filter λf=>decide (f.anchor<B))=L.take (gx L B)
 |[],_=>rfl
 |x::L,h=>by
  have hp:=List.pairwise_cons.1 h;unfold gx;by_cases e:x.anchor<B
  .have ih:=zI (B:=B) hp.2;unfold gx at ih;rw[List.filter_cons_of_pos (by simpa using e),ZR,pK,<-ih]
  .have hn:((x::L).filter λf=>decide (f.anchor<B))=[]:=tu λg hg=>by
    rcases cm.1 hg with rfl|hg
    .omega
    .have:=hp.1 g hg;omega
   rw[hn];rfl
def tY{fr to:Int}(hft:fr<=to):∀{L:List U'},(L.Pairwise λf g=>f.anchor<=g.anchor)->wX L fr to=(L.take (gx L to)).drop (gx L fr)
 |[],_=>by simp[wX]
 |x::L,h=>by
  have hp:=List.pairwise_cons.1 h;have ih:=tY hft hp.2;unfold wX pZ at ih|-;by_cases e:x.anchor<fr
  .have h1:rz fr to x=true:=by unfold rz;exact ZN (.inl e)
   have c1:gx (x::L) fr=gx L fr+1:=by unfold gx;rw[List.filter_cons_of_pos (by simpa using e),ZR]
   have c2:gx (x::L) to=gx L to+1:=by unfold gx;rw[List.filter_cons_of_pos (by simp;omega),ZR]
   rw[List.filter_cons_of_neg (by simp[h1]),c1,c2,pK,Lf,ih]
  .have hge:∀g∈x::L,fr<=g.anchor:=λg hg=>by
    rcases cm.1 hg with rfl|hg
    .omega
    .have:=hp.1 g hg;omega
   have c1:gx (x::L) fr=0:=by unfold gx;rw[tu hge];rfl
   rw[c1,Ad,<-zI h];refine List.filter_congr λg hg=>?_;have:=hge g hg;unfold rz;by_cases e2:g.anchor<to
   .rw[ZN e2,Zz (show¬(g.anchor<fr\/g.anchor>=to) by omega)];rfl
   .rw[Zz e2,ZN (show g.anchor<fr\/g.anchor>=to by omega)];rfl
def Hp{L:List U'}{a b:Int}(h:a<=b):gx L a<=gx L b:=by
 unfold gx
 induction L with
 |nil=>simp
 |cons x L ih=>
  by_cases e:x.anchor<a
  .rw[List.filter_cons_of_pos (by simpa using e),List.filter_cons_of_pos (by simp;omega)];simp only[ZR];omega
  .rw[List.filter_cons_of_neg (by simpa using e)];by_cases e2:x.anchor<b
   .rw[List.filter_cons_of_pos (by simpa using e2)];simp only[ZR];omega
   .rw[List.filter_cons_of_neg (by simpa using e2)];exact ih
def FE(L:List U')(B:Int):gx L B<=L.length:=List.length_filter_le _ _
def fU(s:Zm):Int:=if s.done>0 then s.atom+1 else s.atom
def calls(b:Bk)(s:Zm):Nat:=if b.atoms=[]then(if s.free=true then 0 else b.Ye.length)else gx b.Ye (fU s)
structure oP(b:Bk)(ls:List Zi)(m j:Nat):Prop where
 len:ls.length=j
 fit:∀i x f,ls[i]?=some x->b.Ye[m+i]?=some f->x.node=f.node/\x.atom=-1/\x.x=f.x/\x.w=f.w/\x.h<=f.h
def BO(b:Bk)(s:Zm):calls b s<=b.Ye.length:=by
 unfold calls;split
 .split<;>omega
 .exact FE _ _
def oP.app{b:Bk}{l1 l2:List Zi}{m j k:Nat}(h1:oP b l1 m j)(h2:oP b l2 (m+j) k):oP b (l1++l2) m (j+k):=by
 refine⟨by rw[iE,h1.len,h2.len],λi x f hx hf=>?_⟩;by_cases h:i<j
 .rw[EY (by rw[h1.len];exact h)]at hx;exact h1.fit i x f hx hf
 .rw[NQ (by rw[h1.len];omega),h1.len]at hx;exact h2.fit (i-j) x f hx (by rw[show m+j+(i-j)=m+i by omega];exact hf)
def CA{L:List U'}{τ m i:Nat}{f:U'}(h:((L.take τ).drop m)[i]?=some f):L[m+i]?=some f:=by
 rw[Mh,List.getElem?_take]at h;split at h
 .exact h
 .cases h
def Nc{b:Bk}{body high:Int}{τ m:Nat}{p:List U'}(hp:p=(b.Ye.take τ).drop m)(hC:τ<=b.Ye.length)(hm:m<=τ):∃j,m+j<=τ/\(dk body p 0).2.1=(b.Ye.take τ).drop (m+j)/\oP b ((dk body p 0).1.map (mu high)) m j:=by
 obtain⟨j,h1,h2,h3,h4⟩:=xJ (body:=body) p 0;have hl:p.length=τ-m:=by rw[hp,rW,ia];omega
 refine⟨j,by omega,by rw[h2,hp,List.drop_drop],by rw[de,h3],λi x f hx hf=>?_⟩;rw[ry,Zq8]at hx;obtain⟨mv,e1,rfl⟩:=hx;have hi:i<j:=by rw[<-h3];exact(jj.1 e1).1
 obtain⟨g,hg⟩:∃g,p[i]?=some g:=⟨p[i],Zq6 (by omega)⟩
 have hg':=hg;rw[hp]at hg';have:=CA hg';rw[this]at hf;obtain rfl:=Option.some.inj hf;obtain⟨g1,g2,g3,g4⟩:=h4 i _ mv hi hg e1;exact⟨g1,rfl,g2,g3,g4⟩
def JJ{b:Bk}(ha:b.Ye.Pairwise λf g=>f.anchor<=g.anchor){s:Zm}(hm:dI b.atoms s){to kept shift body high:Int}(hto:fU s<=to):
 ∃j,gx b.Ye (fU s)+j<=gx b.Ye to/\(dS b.atoms b.Ye s to kept shift body).2=(b.Ye.take (gx b.Ye to)).drop (gx b.Ye (fU s)+j)/\oP b ((dS b.atoms b.Ye s to kept shift body).1.map (mu high)) (gx b.Ye (fU s)) j:=by
 have hc:ez b.Ye s to=(b.Ye.take (gx b.Ye to)).drop (gx b.Ye (fU s)):=tY hto ha;have h1:=Hp (L:=b.Ye) hto;have h2:=FE b.Ye to;unfold dS;rw[ar hm];obtain⟨j,g1,g2,g3⟩:=DM (top:=uL b.atoms s kept) (shift:=shift) (body:=body) (ez b.Ye s to);have hl:(ez b.Ye s to).length=gx b.Ye to-gx b.Ye (fU s):=by rw[hc,rW,ia];omega
 refine⟨j,by omega,by rw[g3,hc,List.drop_drop],by rw[g2];simp;omega,λi x f hx hf=>?_⟩;rw[g2,List.map_map,ry,Zq8]at hx;obtain⟨g,e1,rfl⟩:=hx;rw[List.getElem?_take]at e1;split at e1
 .rw[hc]at e1;have:=CA e1;rw[this]at hf;obtain rfl:=Option.some.inj hf;exact⟨rfl,rfl,rfl,rfl,Int.le_refl _⟩
 .cases e1
def Dk{b:Bk}(hb:fa b)(ha:b.Ye.Pairwise λf g=>f.anchor<=g.anchor){s:Sta}(he:¬eK b s){m:Nat}(hm:m<=calls b s.s)(hp:s.bJ=(b.Ye.take (calls b s.s)).drop m):
 ∃j,m+j<=calls b (aO b s).2.s/\(aO b s).2.bJ=(b.Ye.take (calls b (aO b s).2.s)).drop (m+j)/\oP b (aO b s).1.ls m j:=by
 have ZK:kX b s:=Decidable.byContradiction λh=>he (.inl h);have hg:=iY hb he;have hcut:=hg.cut;obtain⟨j0,t1,t2,t3⟩:=Nc (body:=(bw b s.s).body) (high:=(bw b s.s).high) hp (BO b s.s) hm;revert hcut;unfold aO;split
 .rename_i h0;intro _;obtain⟨h1,h2⟩:=h0;have hc0:calls b s.s=0:=by rw[calls,ar h1,ar h2]
  have hc1:calls b (ml b (bz b s.s .aC)).s=b.Ye.length:=by rw[calls,ar h1];rfl
  rw[hc0]at hm;obtain rfl:m=0:=by omega
  have hle:(b.Ye.takeWhile (kE (bz b s.s .aC).body)).length<=b.Ye.length:=(List.takeWhile_sublist _).length_le;have hsp:b.Ye.takeWhile (kE (bz b s.s .aC).body)++b.Ye.dropWhile (kE (bz b s.s .aC).body)=b.Ye:=List.takeWhile_append_dropWhile;refine⟨(b.Ye.takeWhile (kE (bz b s.s .aC).body)).length,by show _<=calls b (ml b (bz b s.s .aC)).s;rw[hc1];omega,?_,?_⟩
  .show b.Ye.dropWhile _=(b.Ye.take (calls b (ml b (bz b s.s .aC)).s)).drop _;rw[hc1,ic,jc]
   conv=>rhs;rw[<-hsp]
   rw[E1 (by simp[hsp]),List.drop_of_length_le (by simp[hsp])];simp
  .show oP b ([]++(b.Ye.takeWhile (kE (bz b s.s .aC).body)).map (mu (bz b s.s .aC).high)) 0 _;rw[kW];refine⟨by simp,λi x f hx hf=>?_⟩;rw[ry,Zq8]at hx;obtain⟨g,e1,rfl⟩:=hx;have:b.Ye[i]?=some g:=by
    rw[<-hsp,EY (jj.1 e1).1];exact e1
   rw[jc,this]at hf;obtain rfl:=Option.some.inj hf;exact⟨rfl,rfl,rfl,rfl,Int.le_refl _⟩
 .rename_i hn0;split
  .intro _;have hcs:calls b (⟨s.s.atom,s.s.done,s.s.free&&decide (s.s.atom<b.atoms.length)⟩:Zm)=calls b s.s:=by
    unfold calls;split
    .rename_i h1;have:¬s.s.free=true:=λh=>hn0 ⟨h1,h⟩;simp[this]
    .rfl
   refine⟨j0,?_,?_,?_⟩
   .show m+j0<=calls b (⟨s.s.atom,s.s.done,s.s.free&&decide (s.s.atom<b.atoms.length)⟩:Zm);rw[hcs];exact t1
   .show(dk (bw b s.s).body s.bJ 0).2.1=(b.Ye.take (calls b (⟨s.s.atom,s.s.done,s.s.free&&decide (s.s.atom<b.atoms.length)⟩:Zm))).drop _;rw[hcs];exact t2
   .exact t3
  .rename_i hf;intro hcut;have hfm:dI b.atoms s.s:=ZK.2.resolve_right λh=>hf (.inl h.1);have YF:b.atoms≠[]:=λh=>by have:=hfm.1;rw[h]at this;simp at this;omega
   have hC:calls b s.s=gx b.Ye (fU s.s):=by rw[calls,av YF]
   have hleft:(dk (bw b s.s).body s.bJ 0).2.1=[]:=Decidable.byContradiction λh=>hf (.inr (.inl h));have hCl:=BO b s.s;have hmj:m+j0=gx b.Ye (fU s.s):=by
    rw[hleft]at t2;have:=congrArg List.length t2;simp only[List.length_nil,rW,ia]at this;omega
   have hrl:dQ b (cd b s)<=b.atoms.length:=oY;have ZO:=hb.brk;have hbody:=gT hb.toBkFull s.s hfm.1.1;have key:∀(to kept shift body:Int) (t:Zm),fU s.s<=to->fU t=to->∀(hls:List Zi) (hpd:List U'),hls=(cd b s).ls++(dS b.atoms b.Ye s.s to kept shift body).1.map (mu (bw b s.s).high)->hpd=(dS b.atoms b.Ye s.s to kept shift body).2->
    ∃j,m+j<=calls b t/\hpd=(b.Ye.take (calls b t)).drop (m+j)/\oP b hls m j:=λto kept shift body t g1 g2 hls hpd g3 g4=>by
    obtain⟨j1,u1,u2,u3⟩:=JJ ha hfm (kept:=kept) (shift:=shift) (body:=body) (high:=(bw b s.s).high) g1;have hct:calls b t=gx b.Ye to:=by rw[calls,av YF,g2]
    rw[<-hmj]at u1 u2 u3;refine⟨j0+j1,by rw[hct];omega,by rw[g4,u2,hct,Nat.add_assoc],?_⟩;rw[g3];exact oP.app t3 u3
   show∃j,m+j<=calls b (eI b (cd b s)).s/\(eI b (cd b s)).bJ=(b.Ye.take (calls b (eI b (cd b s)).s)).drop (m+j)/\oP b (dO b (cd b s)).ls m j;have hcb:fU s.s<=s.s.atom+1:=by unfold fU;split<;>omega
   unfold dO eI;by_cases M':fv b.Ys (cd b s).s.atom (dQ b (cd b s))
   .rw[ar M',ar M'];obtain⟨c,c1,c2,c3⟩:=rL M' (by omega);rw[show ye b (cd b s)=c from c1,e8];have c2':s.s.atom<c:=c2;exact key c (dN b (cd b s)) (cd b s).shift (cd b s).body _ (by omega) (by show fU ⟨c,0,_⟩=c;rfl) _ _ rfl rfl
   .rw[av M',av M'];have hso:qT b.atoms s.s (bw b s.s).body:=⟨hfm,hbody⟩
    refine key (s.s.atom+1) 0 0 (cd b s).body _ hcb ?_ _ _ rfl rfl;show fU (dU b.atoms s.s (bw b s.s).body)=_;rw[dU,ar hso,jo];obtain⟨⟨h3,h4⟩,h5,h6⟩:=hfm;split
    .rename_i L';simp only[ft,Zi.cut,Zi.bH,fL]at L'|-;unfold fU;simp only;rw[ar];obtain⟨k,hk⟩:∃k:Nat,s.s.atom=k:=⟨s.s.atom.toNat,by omega⟩
     have hp:=hb.pos _ (Zw (show k<b.atoms.length by omega));rw[hk,aZ (show k<b.atoms.length by omega)]at h6 L'|-;omega
    .rfl
def Ji(L:List (Option YL))(i:Nat):(uP L)[i]?=(L[i]?).map (pgN i):=by
 unfold uP;rw[ry];by_cases h:i<L.length
 .rw[List.getElem?_range h,Zq6 h];simp[h]
 .rw[qY (by simpa using h),qY (by omega)];rfl
structure NdI(s:WS)(a:Nat):Prop where
 pw:s.B'.Pairwise λf g=>f.node<g.node
 q:∀f∈s.B',f.node<a
def NdI.more{s t:WS}{a b:Nat}(h:NdI s a)(hf:t.B'=s.B')(ha:a<=b):NdI t b:=⟨by rw[hf];exact h.pw,λf hf'=>by rw[hf]at hf';have:=h.q f hf';omega⟩
def G1(fs:List U')(f:U')(y:Int)(s:ZC):∃g,sX fs f y s=fs++[g]/\g.node=f.node:=⟨_,rfl,by unfold ji;(repeat' split)<;>rfl⟩
def Cj{rs:List Rm}(s:WS)(a:Nat)(n:Nd):(s.text rs a n).B'=s.B':=by
 unfold WS.text;generalize cV _ _ _ _ _ _ _ _=L
 induction L generalizing s with
 |nil=>rfl
 |cons x L ih=>exact ih (s.put _)
def NdI.float{rs:List Rm}{s:WS}{a b:Nat}(h:NdI s a)(n:Nd)(hab:a<b):NdI (s.float rs a n) b:=by
 obtain⟨g,e,ha⟩:=G1 s.B' ⟨a,n.side,s.atoms.length,0,0,n.w,n.h⟩ (s.Yq.y+s.Yq.m) (dZ rs a);have e':(s.float rs a n).B'=s.B'++[g]:=e;have ha':g.node=(a:Int):=ha;refine⟨?_,λf hf=>?_⟩
 .rw[e',List.pairwise_append];refine⟨h.pw,by simp,λf hf y hy=>?_⟩;rw[eu.1 hy,ha'];exact h.q f hf
 .rw[e']at hf;rcases db.1 hf with hf|hf
  .have:=h.q f hf;omega
  .rw[eu.1 hf,ha'];omega
def lX{l:List Nd}{rs:List Rm}:∀(k a e:Nat) (s:WS),e<=l.length->bQ l a e=true->a<=e->NdI s a->NdI (cS l rs k a e s) e
 |0,a,e,s,_,_,hae,h=>h.more rfl hae
 |k+1,a,e,s,he,hr,hae,h=>by
  rw[cS];split
  .rename_i L';obtain⟨h1,h2⟩:=cG he hr (YY a) L';obtain⟨h3,h4⟩:=du he hr L';have h5:a+(YW l a).toNat<=e:=by omega
   have h6:a+1<=a+(YW l a).toNat:=by omega
   split
   .exact lX k _ _ _ he h3 h5 ((lX k _ _ (s.enter (YP l a).st) (by omega) h4 h6 (h.more rfl (by omega))).more rfl (YY _))
   .split
    .exact lX k _ _ _ he h3 h5 (h.more (Cj _ _ _) (by omega))
    .split
     .exact lX k _ _ _ he h3 h5 (h.more rfl (by omega))
     .exact lX k _ _ _ he h3 h5 (h.float _ (by omega))
  .exact h.more rfl hae
def MA{l:List Nd}(hb:Zk l=true)(w:Int):(cq l w).B'.Pairwise λf g=>f.node<g.node:=by
 have hr:bQ l 0 l.length=true:=by simp only[Zk,Ba]at hb;exact hb.2
 have h:=lX (l:=l) (rs:=gu l w) l.length 0 l.length ⟨[],[],0,⟨0,0⟩⟩ (YY _) hr (Nat.zero_le _) ⟨by simp,by simp⟩;have e2:(cq l w).B'=(cS l (gu l w) l.length 0 l.length ⟨[],[],0,⟨0,0⟩⟩).B'.map (nW (cS l (gu l w) l.length 0 l.length ⟨[],[],0,⟨0,0⟩⟩).atoms.length):=rfl;rw[e2,List.pairwise_map];exact h.pw.imp λhab=>hab
structure ZP where
 last:Zi
 parts:Nat
 B':Nat
 shown:Int->Nat
def ZP.nil:ZP:=⟨⟨0,0,0,0,0,0,0⟩,0,0,λ_=>0⟩
def eG(t:ZP)(p:YL):ZP:=⟨p.fs.getLast?.getD t.last,t.parts+p.fs.length,t.B'+(if p.kind=2 then 1 else 0),λn=>t.shown n+(p.ls.filter λf=>decide (f.node=n)).length⟩
def ny(n:Int):Prop:=n< -1152921504606846976\/n>1152921504606846976
instance (n:Int):Decidable (ny n):=by unfold ny;infer_instance
def gQ(b:Bk)(t:ZP):Option Zm:=
 if t.parts=0 then some ⟨0,0,decide ((b.atoms.length:Int)>0\/t.B'=0)⟩
 else if t.last.atom<0\/t.last.atom>=b.atoms.length\/ny t.last.fr\/ny t.last.h then none
 else if t.last.fr+t.last.h<(atG b.atoms t.last.atom).h then(if t.last.fr+t.last.h>0 then some ⟨t.last.atom,t.last.fr+t.last.h,false⟩else none)
 else some ⟨t.last.atom+1,0,decide (t.last.atom+1<b.atoms.length/\(bkG b.Ys (t.last.atom+1).toNat).forced≠0)⟩
def iD(b:Bk)(f:U')(s:Zm):Bool:=if(b.atoms.length:Int)=0 then !s.free else decide (f.anchor<s.atom\/f.anchor=s.atom/\s.done>0)
def stateT(b:Bk)(t:ZP):Option Sta:=(gQ b t).map λs=>⟨s,b.Ye.filter λf=>iD b f s&&decide (t.shown f.node=0)⟩
def lS(b:Bk)(p:YL)(s:Zm)(no:Int):Prop:=p.kind=1/\¬s.done>0/\((bkG b.Ys s.atom.toNat).forced=3/\no%2=1\/(bkG b.Ys s.atom.toNat).forced=4/\no%2=0)
instance (b:Bk) (p:YL) (s:Zm) (no:Int):Decidable (lS b p s no):=by unfold lS;infer_instance
def dD(b:Bk)(t:ZP)(no:Int):Option YL:=
 if(b.atoms.length:Int)+b.Ye.length=0 then(if no=1 then some ⟨no,3,[],[],[]⟩else none)
 else match stateT b t with
 |none=>none
 |some s=>if eK b s then none else if lS b (aO b s).1 s.s no then some ⟨no,3,[],[],[]⟩else some { (aO b s).1 with no:=no }
def BZ{l:List Zq}:∀{fs:List Zi} {a d a' d':Int} {f:Zi},goP l a d fs=some (a',d')->fs.getLast?=some f->0<=d->
 (0<=f.atom/\f.atom<l.length)/\0<=f.fr/\1<=f.h/\f.fr+f.h<=(atG l f.atom).h/\(if f.fr+f.h=(atG l f.atom).h then a'=f.atom+1/\d'=0 else a'=f.atom/\d'=f.fr+f.h)
 |[],_,_,_,_,_,_,h,_=>by simp at h
 |x::r,a,d,a',d',f,hg,hl,hd=>by
  rw[goP]at hg;split at hg
  .rename_i hx;obtain⟨h1,h2,h3,h4,h5,h6,h7,h8⟩:=hx;cases r with
   |nil=>
    simp only[List.getLast?_singleton,aB]at hl;subst hl;rw[h2,h4];refine⟨h1,hd,h5,h8,?_⟩;split at hg
    .rename_i he;rw[ar he];simp only[goP,aB,Prod.mk.injEq]at hg;omega
    .rename_i he;rw[av he];simp only[if_true,aB,Prod.mk.injEq]at hg;omega
   |cons y r=>
    rw[List.getLast?_cons_cons]at hl;split at hg
    .exact BZ hg hl (Int.le_refl _)
    .simp at hg
  .cases hg
structure Told(b:Bk)(t:ZP)(s:Sta)(m:Nat):Prop where
 st:gQ b t=some s.s
 sh:∀i f,b.Ye[i]?=some f->(t.shown f.node=0↔m<=i)
 le:m<=calls b s.s
 pe:s.bJ=(b.Ye.take (calls b s.s)).drop m
 n0:b.atoms=[]->t.parts=0/\s.s.atom=0/\s.s.done=0
def tN{α:Type}{p:α->Bool}:∀{L:List α} {m:Nat},(∀i f,L[i]?=some f->(p f=true↔m<=i))->L.filter p=L.drop m
 |[],m,_=>by simp
 |x::L,0,h=>by
  rw[Ad,List.filter_eq_self];intro a ha;obtain⟨i,hi⟩:=Fe ha;exact(h i a hi).2 (Nat.zero_le i)
 |x::L,m+1,h=>by
  have h0:¬(p x=true):=λe=>by have:=(h 0 x rfl).1 e;omega
  rw[List.filter_cons_of_neg h0,Lf];exact tN λi f hf=>by rw[h (i+1) f hf];omega
def Cc{b:Bk}(ha:b.Ye.Pairwise λf g=>f.anchor<=g.anchor)(s:Zm):(b.Ye.filter λf=>iD b f s)=b.Ye.take (calls b s):=by
 unfold calls iD;by_cases h0:b.atoms=[]
 .rw[ar h0];simp only[h0,List.length_nil,Int.ofNat_zero,if_true];cases s.free<;>simp
 .rw[av h0];have hp:=wK.2 h0;rw[<-zI ha];refine List.filter_congr λf _=>?_;rw[av (by omega)];unfold fU;rw[decide_eq_decide];split<;>omega
def wI{b:Bk}(ha:b.Ye.Pairwise λf g=>f.anchor<=g.anchor){t:ZP}{s:Sta}{m:Nat}(h:Told b t s m):stateT b t=some s:=by
 unfold stateT;rw[h.st,Option.map_some];have h1:(b.Ye.filter λf=>iD b f s.s&&decide (t.shown f.node=0))=(b.Ye.take (calls b s.s)).drop m:=by
  have h2:(b.Ye.filter λf=>iD b f s.s&&decide (t.shown f.node=0))=(b.Ye.filter λf=>iD b f s.s).filter λf=>decide (t.shown f.node=0):=by
   rw[List.filter_filter];exact List.filter_congr λf _=>Bool.and_comm _ _
  rw[h2,Cc ha];refine tN λi f hf=>?_;rw[List.getElem?_take]at hf;split at hf
  .rw[Zq9];exact h.sh i f hf
  .cases hf
 rw[h1,<-h.pe]
def HJ{b:Bk}{s:Sta}(h:(aO b s).1.kind=1)(hd:(aO b s).2.s.done>0):(aO b s).2.s.free=false:=by
 revert h hd;unfold aO;split
 .intro _ _;rfl
 .split
  .intro h _;simp[nz]at h
  .intro _;unfold eI;split
   .intro h;simp[Ah]at h
   .intro _;simp only[vE,dU,jo]
    (repeat' split)<;>rfl
def Eo{b:Bk}(hb:fa b)(hz:(bkG b.Ys b.atoms.length).forced=0){t:ZP}{s:Sta}(he:¬eK b s)(n0:b.atoms=[]->t.parts=0/\s.s.atom=0/\s.s.done=0)(Yy:gQ b t=some s.s)(no:Int):
 gQ b (eG t { (aO b s).1 with no:=no })=some (aO b s).2.s:=by
 have hg:=iY hb he;have hpp:=xA hb he;rcases hg.kd with k|k
 .obtain⟨hm,h1,h2,hc⟩:=hg.cut k;have hfr:=HJ k;generalize aO b s=x at*;obtain⟨p,u⟩:=x;simp only at*;obtain⟨f,hf⟩:∃f,p.fs.getLast?=some f:=by
   cases hl:p.fs with
   |nil=>rw[hl]at h1;simp at h1
   |cons a r=>exact⟨_,List.getLast?_cons⟩
  obtain⟨g1,g2,g3,g4,g5⟩:=BZ hpp hf hm.2.1;have hH:(atG b.atoms f.atom).h<=18014398509481984:=by
   obtain⟨k',ZU⟩:∃k':Nat,f.atom=k':=⟨f.atom.toNat,by omega⟩
   have hkl:k'<b.atoms.length:=by omega
   rw[ZU,aZ hkl];exact(hb.tight _ (Zw hkl)).2.2.2
  have e1:(eG t { p with no:=no }).parts=t.parts+p.fs.length:=rfl;have e2:(eG t { p with no:=no }).last=f:=by
   show p.fs.getLast?.getD t.last=f;rw[hf];rfl
  unfold gQ;rw[e1,e2,av (by omega),av (by unfold ny;omega)];obtain⟨⟨ua,ud,uf⟩,up⟩:=u;simp only at*;by_cases hq:f.fr+f.h=(atG b.atoms f.atom).h
  .rw[ar hq]at g5;obtain⟨rfl,rfl⟩:=g5;rw[av (by omega)];cases hc with
   |more q1 q2 q3 q4 q5=>
    cases hl:p.fs with
    |nil=>rw[hl]at h1;simp at h1
    |cons a r=>
     have hr:r=[]:=by rw[hl]at q2;simpa using q2
     subst hr;rw[hl]at hf;simp only[List.getLast?_singleton,aB]at hf;subst hf;have:=q4 a (by rw[hl];rfl);have:=hm.2.1;simp only at q5;omega
   |whole c r y q1 q2 q3 q4 q5 q6 q7 q8 q9=>
    simp only[Zm.mk.injEq]at q1;obtain⟨qa,-,qf⟩:=q1;rw[qf];congr 2;rw[decide_eq_decide,show(f.atom+1).toNat=c by omega];constructor
    .exact λh=>h.2
    .intro h;refine⟨?_,h⟩;rcases Nat.lt_or_ge c b.atoms.length with h'|h'
     .omega
     .have:c=b.atoms.length:=by omega
      rw[this]at h;exact absurd hz h
  .rw[av hq]at g5;obtain⟨rfl,rfl⟩:=g5;rw[ar (by omega),ar (by omega),hfr (by omega)]
 .have YE:=hg.no' k;have e1:(eG t { (aO b s).1 with no:=no }).parts=t.parts:=by show t.parts+(aO b s).1.fs.length=_;rw[YE];rfl
  have e2:(eG t { (aO b s).1 with no:=no }).last=t.last:=by show(aO b s).1.fs.getLast?.getD t.last=_;rw[YE];rfl
  have e3:(eG t { (aO b s).1 with no:=no }).B'=t.B'+1:=by show t.B'+(if(aO b s).1.kind=2 then 1 else 0)=_;rw[ar k]
  have hst':=Yy;unfold gQ at Yy|-;rw[e1,e2,e3];have hu:(b.atoms=[]/\(aO b s).2.s=⟨0,0,false⟩)\/(aO b s).2.s=⟨s.s.atom,s.s.done,s.s.free&&decide (s.s.atom<b.atoms.length)⟩:=by
   unfold aO at k|-;split
   .rename_i h0;exact .inl ⟨h0.1,rfl⟩
   .rename_i h0;rw[av h0]at k;split
    .exact .inr rfl
    .rename_i hf;rw[av hf]at k;have hk:=(jv b (cd b s)).2;have:(dO b (cd b s)).kind=2:=k;rw[hk]at this;cases this
  clear e1 e2 e3;rcases hu with⟨h0,hu⟩|hu
  .rw[ar (n0 h0).1,h0,hu];simp
  .rw[hu];by_cases hp:t.parts=0
   .rw[ar hp]at Yy|-;simp only[aB]at Yy;rw[<-Yy];simp only[<-Bool.decide_and];congr 2;rw[decide_eq_decide];omega
   .rw[av hp]at Yy|-;split at Yy
    .cases Yy
    .rename_i hq;rw[av hq];split at Yy
     .rename_i hr;rw[ar hr];split at Yy
      .rename_i hr';rw[ar hr'];simp only[aB]at Yy;rw[<-Yy];simp
      .cases Yy
     .rename_i hr;rw[av hr];simp only[aB]at Yy;rw[<-Yy];simp only[<-Bool.decide_and];congr 2;rw[decide_eq_decide];exact⟨λh=>⟨h,h.1⟩,λh=>h.1⟩
def Od{L:List U'}(hn:L.Pairwise λf g=>f.node<g.node){i j:Nat}{f g:U'}(hi:L[i]?=some f)(hj:L[j]?=some g)(h:f.node=g.node):i=j:=by
 obtain⟨h1,h2⟩:=jj.1 hi;obtain⟨h3,h4⟩:=jj.1 hj;have hp:=List.pairwise_iff_getElem.1 hn;rcases Nat.lt_trichotomy i j with hl|hl|hl
 .have:=hp i j h1 h3 hl;rw[h2,h4]at this;omega
 .exact hl
 .have:=hp j i h3 h1 hl;rw[h2,h4]at this;omega
def Ii{b:Bk}(hb:fa b)(hz:(bkG b.Ys b.atoms.length).forced=0)(ha:b.Ye.Pairwise λf g=>f.anchor<=g.anchor)(hn:b.Ye.Pairwise λf g=>f.node<g.node){t:ZP}{s:Sta}{m:Nat}(h:Told b t s m)(he:¬eK b s)(no:Int):
 ∃j,Told b (eG t { (aO b s).1 with no:=no }) (aO b s).2 (m+j):=by
 obtain⟨j,g1,g2,g3⟩:=Dk hb ha he h.le h.pe;have Yy:=Eo hb hz he h.n0 h.st no;refine⟨j,Yy,λi f hf=>?_,g1,g2,λh0=>?_⟩
 .have hi:=(jj.1 hf).1;have e:(eG t { (aO b s).1 with no:=no }).shown f.node=t.shown f.node+((aO b s).1.ls.filter λx=>decide (x.node=f.node)).length:=rfl;rw[e];have hs:=h.sh i f hf;constructor
  .intro h1;have h2:t.shown f.node=0:=by omega
   have h3:=hs.1 h2;refine Nat.le_of_not_lt λL'=>?_;have hil:i-m<(aO b s).1.ls.length:=by rw[g3.len];omega
   have hx:=g3.fit (i-m) _ f (Zq6 hil) (by rw[show m+(i-m)=i by omega];exact hf);have hmem:(aO b s).1.ls[i-m]∈(aO b s).1.ls.filter λx=>decide (x.node=f.node):=sx.2 ⟨Zw hil,by simpa using hx.1⟩;have:=List.length_pos_of_mem hmem;omega
  .intro h1;have h2:t.shown f.node=0:=hs.2 (by omega);have h3:((aO b s).1.ls.filter λx=>decide (x.node=f.node))=[]:=by
    rw[List.filter_eq_nil_iff];intro x hx hxe;obtain⟨k,hk⟩:=Fe hx;have hkl:=(jj.1 hk).1;rw[g3.len]at hkl;have hml:m+k<b.Ye.length:=by omega
    have:=g3.fit k x _ hk (Zq6 hml);have hq:(b.Ye[m+k]).node=f.node:=by rw[<-this.1];simpa using hxe
    have:=Od hn (Zq6 hml) hf hq;omega
   rw[h2,h3];rfl
 .obtain⟨z1,z2,z3⟩:=h.n0 h0;have hg:=iY hb he;have hfs:(aO b s).1.fs=[]:=by
   rcases hg.kd with k|k
   .have:=(hg.cut k).1.1;rw[h0]at this;simp at this;omega
   .exact hg.no' k
  have hpp:=xA hb he;rw[hfs]at hpp;simp only[goP,aB,Prod.mk.injEq]at hpp;refine⟨?_,by omega,by omega⟩;show t.parts+(aO b s).1.fs.length=0;rw[hfs,z1];rfl
def Fi{b:Bk}{t:ZP}{s:Sta}{m:Nat}(h:Told b t s m)(no:Int):Told b (eG t ⟨no,3,[],[],[]⟩) s m:=by
 have e:eG t ⟨no,3,[],[],[]⟩=t:=by
  unfold eG;simp
 rw[e];exact h
def jF:Nat->List (Option YL)->List YL
 |_,[]=>[]
 |k,x::r=>pgN k x::jF (k+1) r
def BG:∀(L:List (Option YL)) (k i:Nat),(jF k L)[i]?=(L[i]?).map (pgN (k+i))
 |[],k,i=>by simp[jF]
 |x::r,k,0=>by simp[jF]
 |x::r,k,i+1=>by
  rw[jF,Cl,Cl,BG r (k+1) i,show k+1+i=k+(i+1) by omega]
def yI(L:List (Option YL)):jF 0 L=uP L:=by
 refine List.ext_getElem? λi=>?_;rw[BG,Ji,jc]
def bN(t:ZP)(P:List YL)(i:Nat):ZP:=(P.take i).foldl eG t
def so{b:Bk}{s:Sta}(no:Int):lS b (aO b s).1 s.s no↔0<=gA b s/\no%2≠gA b s:=by
 unfold lS gA tK;split
 .constructor
  .intro h;omega
  .intro h;omega
 .split
  .omega
  .split
   .omega
   .constructor
    .intro h;omega
    .intro h;omega
def qj{b:Bk}(h0:¬((b.atoms.length:Int)+b.Ye.length=0))(ha:b.Ye.Pairwise λf g=>f.anchor<=g.anchor){t:ZP}{s:Sta}{m:Nat}(h:Told b t s m)(no:Int):
 dD b t no=if eK b s then none else if lS b (aO b s).1 s.s no then some ⟨no,3,[],[],[]⟩else some { (aO b s).1 with no:=no }:=by
 unfold dD;rw[av h0,wI ha h]
def Dd{b:Bk}(hb:fa b){L:Int}(hL:rT b L)(hz:(bkG b.Ys b.atoms.length).forced=0)(h0:¬((b.atoms.length:Int)+b.Ye.length=0))(ha:b.Ye.Pairwise λf g=>f.anchor<=g.anchor)(hn:b.Ye.Pairwise λf g=>f.node<g.node):
 ∀(f:Nat) (s:Sta) (k:Nat) (t:ZP) (m:Nat),Told b t s m->mu2 b L s<f->∀i,i<=(shK b f s k).length->dD b (bN t (jF k (shK b f s k)) i) ((k:Int)+i+1)=(jF k (shK b f s k))[i]?/\∃s' m',Told b (bN t (jF k (shK b f s k)) i) s' m'
 |0,s,k,t,m,_,h,_,_=>by omega
 |f+1,s,k,t,m,ht,h,i,hi=>by
  rw[shK]at hi|-;by_cases he:eK b s
  .rw[ar he]at hi|-;have hi0:i=0:=by simpa using hi
   subst hi0;have e:bN t (jF k []) 0=t:=rfl;rw[e];refine⟨?_,s,m,ht⟩;rw[qj h0 ha ht,ar he];rfl
  .rw[av he]at hi|-;have YF:=CK hb hL he;have one:∀(k':Nat) (t':ZP) (m':Nat),Told b t' s m'->¬lS b (aO b s).1 s.s ((k':Int)+1)->∀i,i<=(some (aO b s).1::shK b f (aO b s).2 ((k':Int)+1)).length->
    dD b (bN t' (jF k' (some (aO b s).1::shK b f (aO b s).2 ((k':Int)+1))) i) ((k':Int)+i+1)=(jF k' (some (aO b s).1::shK b f (aO b s).2 ((k':Int)+1)))[i]?/\
    ∃s' m'',Told b (bN t' (jF k' (some (aO b s).1::shK b f (aO b s).2 ((k':Int)+1))) i) s' m'':=by
    intro k' t' m' ht' hsd i hi;cases i with
    |zero=>
     refine⟨?_,s,m',ht'⟩;have e:bN t' (jF k' (some (aO b s).1::shK b f (aO b s).2 ((k':Int)+1))) 0=t':=rfl;rw[e,qj h0 ha ht',av he,Int.ofNat_zero,Int.add_zero,av hsd];rfl
    |succ i=>
     obtain⟨j,hj⟩:=Ii hb hz ha hn ht' he ((k':Int)+1);have e:bN t' (jF k' (some (aO b s).1::shK b f (aO b s).2 ((k':Int)+1))) (i+1)=bN (eG t' { (aO b s).1 with no:=(k':Int)+1 }) (jF (k'+1) (shK b f (aO b s).2 ((k':Int)+1))) i:=rfl;have e2:(jF k' (some (aO b s).1::shK b f (aO b s).2 ((k':Int)+1)))[i+1]?=(jF (k'+1) (shK b f (aO b s).2 ((k':Int)+1)))[i]?:=by rw[jF,Cl]
     rw[e,e2];have:=Dd hb hL hz h0 ha hn f (aO b s).2 (k'+1) _ _ hj (by omega) i (by simp at hi;rw[show((k'+1:Nat):Int)=(k':Int)+1 by omega];omega);rw[show((k'+1:Nat):Int)=(k':Int)+1 by omega]at this;rw[show(k':Int)+((i+1:Nat):Int)+1=(k':Int)+1+i+1 by omega];exact this
   by_cases hw:0<=gA b s/\((k:Int)+1)%2≠gA b s
   .rw[ar hw]at hi|-;have hsd:=(so (b:=b) (s:=s) ((k:Int)+1)).2 hw;cases i with
    |zero=>
     refine⟨?_,s,m,ht⟩;have e:∀P,bN t (jF k P) 0=t:=λP=>rfl;rw[e,qj h0 ha ht,av he,Int.ofNat_zero,Int.add_zero,ar hsd];rfl
    |succ i=>
     have hk2:(k:Int)+2=((k+1:Nat):Int)+1:=by omega
     rw[hk2]at hi|-;have e:∀P,bN t (jF k (none::P)) (i+1)=bN (eG t ⟨(k:Int)+1,3,[],[],[]⟩) (jF (k+1) P) i:=λP=>rfl;have e2:∀P,(jF k (none::P))[i+1]?=(jF (k+1) P)[i]?:=λP=>by rw[jF,Cl]
     rw[e,e2];have hsd2:¬lS b (aO b s).1 s.s (((k+1:Nat):Int)+1):=by
      rw[so];have:gA b s=0\/gA b s=1:=by
       unfold gA tK at hw|-;split at hw
       .omega
       .rename_i hc;rw[av hc];split
        .omega
        .split
         .omega
         .rename_i h3 h4;rw[av h3,av h4]at hw;omega
      omega
     have:=one (k+1) _ m (Fi ht ((k:Int)+1)) hsd2 i (by simp at hi|-;omega);rw[show(k:Int)+((i+1:Nat):Int)+1=((k+1:Nat):Int)+i+1 by omega];exact this
   .rw[av hw]at hi|-;exact one k t m ht (λhs=>hw ((so _).1 hs)) i hi
def lY{l:List Nd}(hl:dV l){w h:Int}(he:ew l w h=0)(i:Nat)(hi:i<=(cb (br l w h)).length):
 dD (br l w h) (bN .nil (cb (br l w h)) i) ((i:Int)+1)=(cb (br l w h))[i]?/\(stateT (br l w h) (bN .nil (cb (br l w h)) i)).isSome=true:=by
 have hb:=gV hl he;have hL:=wj he;obtain⟨g1,g2⟩:=Nn l w;have hn:(br l w h).Ye.Pairwise λf g=>f.node<g.node:=MA hb.isb w;have hz:(bkG (br l w h).Ys (br l w h).atoms.length).forced=0:=by
  have h1:(br l w h).Ys=qZ l (ofR l w):=rfl;have h2:(br l w h).atoms.length=(ofR l w).length:=by unfold ofR br;simp
  rw[h1,h2];unfold bkG qZ;rw[sH,ry,List.getElem?_range (by omega)];simp[bkR,jJ,jB,cO]
 have ha:(br l w h).Ye.Pairwise λf g=>f.anchor<=g.anchor:=g1;have h0a:∀f∈(br l w h).Ye,0<=f.anchor:=λf hf=>(g2 f hf).1;clear g1 g2;generalize br l w h=b at*;unfold cb at hi|-;by_cases h0:(b.atoms.length:Int)+b.Ye.length=0
 .rw[ar h0]at hi|-;simp only[List.length_singleton]at hi;have Yy:∀t:ZP,t.parts=0->(stateT b t).isSome=true:=λt ht=>by
   unfold stateT gQ;rw[ar ht];rfl
  rcases Nat.lt_or_ge i 1 with h1|h1
  .have:i=0:=by omega
   subst this;refine⟨?_,Yy _ rfl⟩;unfold dD;rw[ar h0];rfl
  .have:i=1:=by omega
   subst this;refine⟨?_,Yy _ rfl⟩;unfold dD;rw[ar h0];rfl
 .rw[av h0,<-yI]at hi|-;have hc:calls b (⟨0,0,true⟩:Zm)=0:=by
   unfold calls;split
   .rfl
   .show gx b.Ye 0=0;unfold gx;rw[tu h0a];rfl
  have ht:Told b .nil ⟨⟨0,0,true⟩,[]⟩ 0:=by
   refine⟨?_,λi f _=>by simp[ZP.nil],Nat.zero_le _,?_,λ_=>⟨rfl,rfl,rfl⟩⟩
   .unfold gQ;simp[ZP.nil]
   .show[]=(b.Ye.take (calls b (⟨0,0,true⟩:Zm))).drop 0;rw[hc];rfl
  have hil:i<=(shK b 1000000001 ⟨⟨0,0,true⟩,[]⟩ 0).length:=by
   rw[yI,KU]at hi;exact hi
  obtain⟨q1,s',m',q2⟩:=Dd hb hL hz h0 ha hn 1000000001 ⟨⟨0,0,true⟩,[]⟩ 0 .nil 0 ht (by have:=yN hL;omega) i hil;refine⟨?_,by
   have:=wI ha q2;simp only[Int.ofNat_zero]at this|-;rw[this];rfl⟩
  rw[show((0:Nat):Int)+i+1=(i:Int)+1 by omega]at q1;exact q1
instance:DecidableEq YL:=λa b=>decidable_of_iff (a.no=b.no/\a.kind=b.kind/\a.hs=b.hs/\a.fs=b.fs/\a.ls=b.ls) (by cases a;cases b;simp)
def uR(f:Zi):Int×Int×Int×Int:=(f.node,f.atom,f.fr,f.h)
def eC(j p:YL):Int:=
 if p.no≠j.no then 1
 else if¬(j.kind≠3\/p.kind=3)then 2
 else if¬(p.kind=j.kind/\(j.kind≠3\/¬((p.hs.length:Int)+p.fs.length+p.ls.length>0)))then 3
 else if p.hs≠j.hs then 4
 else if p.fs.map uR≠j.fs.map uR then 5
 else if p.fs≠j.fs then 6
 else if p.ls.map (·.node)≠j.ls.map (·.node)then 7
 else if p.ls≠j.ls then 8 else 0
def xd(j p:YL):0<=eC j p/\eC j p<=8:=by
 unfold eC
 (repeat' split)<;>omega
def tv{j p:YL}(hj:j.kind=3->j.hs=[]/\j.fs=[]/\j.ls=[]):eC j p=0↔j=p:=by
 constructor
 .intro h;unfold eC at h;split at h
  .cases h
  .rename_i h1;split at h
   .cases h
   .split at h
    .cases h
    .rename_i h3;split at h
     .cases h
     .rename_i h4;split at h
      .cases h
      .split at h
       .cases h
       .rename_i h6;split at h
        .cases h
        .split at h
         .cases h
         .rename_i h8;simp only[Decidable.not_not]at h1 h3 h4 h6 h8;cases j;cases p;simp only at*;simp[h1,h3.1,h4,h6,h8]
 .rintro rfl;have h3:j.kind=j.kind/\(j.kind≠3\/¬((j.hs.length:Int)+j.fs.length+j.ls.length>0)):=by
   refine⟨rfl,?_⟩;by_cases h:j.kind=3
   .obtain⟨a,b,c⟩:=hj h;exact .inr (by rw[a,b,c];simp)
   .exact .inl h
  unfold eC;rw[av (by simp),av (by simpa using h2),av (by rw[Decidable.not_not];exact h3),av (by simp),av (by simp),av (by simp),av (by simp),av (by simp)]
def eF:List YL->List YL->Nat->Int×Int
 |[],[],_=>(0,0)
 |_::_,[],i=>((i:Int)+1,9)
 |[],_::_,i=>((i:Int)+1,9)
 |a::R,p::r,i=>if a=p then eF R r (i+1)else((i:Int)+1,eC a p)
def Cg{b:Bk}(hb:fa b){t:ZP}{no:Int}{p:YL}(h:dD b t no=some p)(hk:p.kind=3):p.hs=[]/\p.fs=[]/\p.ls=[]:=by
 unfold dD at h;split at h
 .split at h
  .simp only[aB]at h;subst h;exact⟨rfl,rfl,rfl⟩
  .cases h
 .split at h
  .cases h
  .split at h
   .cases h
   .rename_i he;split at h
    .simp only[aB]at h;subst h;exact⟨rfl,rfl,rfl⟩
    .simp only[aB]at h;subst h;have:=(iY hb he).kd;simp only at hk;omega
def sJ{t:ZP}{P:List YL}{i:Nat}{p:YL}(h:P[i]?=some p):bN t P (i+1)=eG (bN t P i) p:=by
 unfold bN;rw[List.take_succ,h,Option.toList_some,xQ];rfl
def sy:∀(R r:List YL) (i:Nat),(∀a∈R,a.kind=3->a.hs=[]/\a.fs=[]/\a.ls=[])->(eF R r i=(0,0)↔r=R)
 |[],[],_,_=>by simp[eF]
 |_::_,[],i,_=>by simp[eF]
 |[],_::_,i,_=>by simp[eF]
 |a::R,p::r,i,h=>by
  rw[eF];split
  .rename_i e;rw[sy R r (i+1) λx hx=>h x (by simp[hx]),e];simp
  .rename_i e;simp only[Prod.mk.injEq,List.cons.injEq];constructor
   .intro h;omega
   .intro h;exact absurd h.1.symm e
def iV:List YL->List YL->Nat
 |a::R,p::r=>if a=p then iV R r+1 else 0
 |_,_=>0
def zb:∀(R r:List YL) (i:Nat),(∀a∈R,a.kind=3->a.hs=[]/\a.fs=[]/\a.ls=[])->r≠R->
 (eF R r i).1=(i:Int)+iV R r+1/\((eF R r i).2=9↔iV R r>=r.length\/iV R r>=R.length)/\1<=(eF R r i).2/\(eF R r i).2<=9
 |[],[],_,_,h=>absurd rfl h
 |_::_,[],i,_,_=>by simp[eF,iV]
 |[],_::_,i,_,_=>by simp[eF,iV]
 |a::R,p::r,i,h,YF=>by
  rw[eF,iV];split
  .rename_i e;obtain⟨h1,h2,h3⟩:=zb R r (i+1) (λx hx=>h x (by simp[hx])) (λh=>YF (by rw[e,h]));refine⟨by rw[h1];omega,?_,h3⟩;rw[h2];simp
  .rename_i e;have hz:=tv (p:=p) (h a (by simp));have hr:=xd a p;have:eC a p≠0:=λh=>e (hz.1 h);simp only[ZR];refine⟨by omega,⟨λh=>by omega,λh=>by omega⟩,by omega,by omega⟩
def tJ{l:List Nd}(hl:dV l){w h:Int}(he:ew l w h=0):∀a∈cb (br l w h),a.kind=3->a.hs=[]/\a.fs=[]/\a.ls=[]:=λa ha hk=>by
 obtain⟨i,hi⟩:=Fe ha;have:=(lY hl he i (by have:=(jj.1 hi).1;omega)).1;exact Cg (gV hl he) (this.trans hi) hk
open Go.Proofs Go.Proofs.Tryz
def Nl(sz:Nat)(ks:List Nat):Yh:=⟨26,(.seq (.reg false [⟨(some 4),(.YO (.c (.bool false))),none⟩]) (.seq (.seq (.reg false [⟨(some 6),(.YO (.t 0)),none⟩,⟨(some 7),(.len false (.t 6)),none⟩,⟨(some 8),(.YO (.t 1)),none⟩,⟨(some 9),(.len false (.t 8)),none⟩,⟨(some 10),(.bin .neq (.t 7) (.t 9)),none⟩]) (.cond (.t 10) (.seq (.reg false [⟨(some 4),(.YO (.c (.bool false))),none⟩]) .ret) .skip)) (.seq (.seq (.reg false [⟨(some 11),(.YO (.t 0)),none⟩,⟨(some 12),(.len false (.t 11)),none⟩,⟨(some 13),(.YO (.c (.int .i64 0))),none⟩]) (.block 0 (.loop (.seq (.reg false [⟨(some 14),(.bin .lss (.t 13) (.t 12)),none⟩]) (.seq (.cond (.t 14) .skip (.exit 0)) (.seq (.block 1 (.seq (.reg false [⟨(some 15),(.YO (.t 13)),none⟩,⟨(some 5),(.YO (.t 15)),none⟩]) (.seq (.reg true [⟨(some 16),(.YO (.t 0)),none⟩,⟨(some 17),(.YO (.t 5)),none⟩,⟨(some 18),(.idxA sz (.t 16) (.t 17)),none⟩,⟨(some 19),(.load true sz (.t 18)),none⟩,⟨(some 20),(.YO (.t 1)),none⟩,⟨(some 21),(.YO (.t 5)),none⟩,⟨(some 22),(.idxA sz (.t 20) (.t 21)),none⟩,⟨(some 23),(.load true sz (.t 22)),none⟩,⟨(some 24),(.eqS true ks (.t 19) (.t 23)),none⟩]) (.cond (.t 24) (.seq (.reg false [⟨(some 4),(.YO (.c (.bool false))),none⟩]) .ret) .skip)))) (.reg false [⟨(some 25),(.bin .add (.t 13) (.c (.int .i64 1))),none⟩,⟨(some 13),(.YO (.t 25)),none⟩]))))))) (.seq (.reg false [⟨(some 4),(.YO (.c (.bool true))),none⟩]) .ret)))),[(.tmp (.t 4))]⟩
def Sc{P:Program}{f:FuncId}{fn:Func}(hf:P.funcs[f]?=some fn){sz:Nat}{ks:List Nat}(hc:cfn P fn=some (Nl sz ks))(hk:bV P f=true){α:Type}[DecidableEq α](enc:α->V)
 (he:∀a b,sM true ks (enc a) (enc b)=some (.bool (decide (a≠b))))(hl:∀U a,bB U true sz (.rp (enc a))=some (enc a))(xs ys:List α)(hx:xs.length<=1000000000000000):
 aJ P f [.sl sz (xs.map enc),.sl sz (ys.map enc)] (.bool (decide (xs=ys))):=λU=>by
 refine au.jU hf hc hk (by simp[Nl]) ?_;refine ab.mix 6 ?_;have n1:cU false (.sl sz (xs.map enc))=some (.int .i64 xs.length):=by simp[cU]
 have n2:cU false (.sl sz (ys.map enc))=some (.int .i64 ys.length):=by simp[cU]
 by_cases hlen:xs.length=ys.length
 .have q:((xs.length:Int)≠ys.length)=False:=T';apply sR;simp only[go_sem,seval,Nl,n1,n2,q];refine ab.loop (λm st=>∃j,j<=xs.length/\m=xs.length-j/\xs.take j=ys.take j/\st.s 0=.sl sz (xs.map enc)/\st.s 1=.sl sz (ys.map enc)/\st.s 12=.int .i64 xs.length/\st.s 13=.int .i64 j/\st.U=U) xs.length ⟨0,by omega,rfl,rfl,rfl,rfl,rfl,rfl,rfl⟩ ?_;rintro m ⟨S,Z'⟩ ⟨j,hj,rfl,ht,t0,t1,t12,t13,YK⟩;simp only at t0 t1 t12 t13 YK;subst YK;refine ab.mix 6 ?_;by_cases L':j<xs.length
  .have q1:((j:Int)<xs.length)=True:=Yi;have hlt2:j<ys.length:=by omega
   have i1:∀U,bo U sz (.sl sz (xs.map enc)) (.int .i64 j)=some (.rp (enc xs[j])):=λU=>by simp[bo,L']
   have i2:∀U,bo U sz (.sl sz (ys.map enc)) (.int .i64 j)=some (.rp (enc ys[j])):=λU=>by simp[bo,hlt2]
   have hee:=he xs[j] ys[j];have tx:=Zq0 L';have ty:=Zq0 hlt2;by_cases hq:xs[j]=ys[j]
   .rw[show decide (xs[j]≠ys[j])=false by simpa using hq]at hee;apply sR;simp only[BB,seval,aX,eN,aE,dX,jm,Orc.nothing,t0,t1,t12,t13,q1,i1,i2,hl,hee];exact⟨ai,_,by omega,j+1,by omega,rfl,by rw[tx,ty,ht,hq],by simp⟩
   .rw[show decide (xs[j]≠ys[j])=true by simpa using hq]at hee;apply sR;simp only[BB,seval,aX,eN,aE,dX,jm,Orc.nothing,t0,t1,t12,t13,q1,i1,i2,hl,hee];refine ak.same ?_;have:¬xs=ys:=λh=>hq (by simp only[h]);rw[Zz this]
  .have q1:((j:Int)<xs.length)=False:=T';apply sR;simp only[go_sem,seval,t12,t13,q1];refine ak.same ?_;rw[jW (by omega),jW (by omega)]at ht;rw[ZN ht]
 .have q:((xs.length:Int)≠ys.length)=True:=Yi;apply sR;simp only[go_sem,seval,Nl,n1,n2,q];refine ak.same ?_;rw[Zz λh=>hlen (by rw[h])]
open Go.Proofs Go.Proofs.Tryz
section
variable {P:Program} {n:Nat} {st:St} {Q:St->Prop} {k:List It}
def JN{o:Op}{x y:VX}(h:Yn P n o=.bin .sub x y):∃t x0 y0 yt,o=.binOp .sub t x0 y0 yt/\cx n x0=x/\cx n y0=y:=by
 cases o
 case binOp op' t x0 y0 yt=>
  simp only[Yn,bR]at h
  repeat' split at h
  all_goals first
   |(simp only[Yw.bin.injEq]at h;obtain⟨rfl,h2,h3⟩:=h;exact⟨t,x0,y0,yt,rfl,h2,h3⟩)
   |cases h
   |(cases op'<;>cases h)
 case call c=>
  obtain⟨callee,args,argTypes⟩:=c;cases callee
  case builtin b=>cases b<;>simp only[Yn]at h<;>(repeat' split at h)<;>cases h
  all_goals (simp only[Yn]at h;cases h)
 case unOp op t x=>cases op<;>simp only[Yn]at h<;>cases h
 case makeFunc f a b=>cases f<;>simp only[Yn]at h<;>(repeat' split at h)<;>cases h
 all_goals (simp only[Yn]at h;(repeat' split at h)<;>cases h)
def ab.Ux{i:az}{l:List az}{x y:VX}{kk:IntKind}{a b:Int}(hw:aP st.s i.g=some true)(ho:i.op=.bin .sub x y)(hx:x.ev st.s=.int kk a)(hy:y.ev st.s=.int kk b)
 (h:ab P n (.ops l::k) ⟨aN st.s i.dst (.int kk (kk.wrap (a-b))),st.U⟩ Q):ab P n (.ops (i::l)::k) st Q:=by
 refine ab.ins (by rw[ho];simp) hw λF hn I act w o all hi hs next Q' Yd=>?_
 subst hn;obtain⟨Yf,hd⟩:=bZ hi;rw[ho]at Yf;obtain⟨t,x0,y0,yt,g1,rfl,rfl⟩:=JN Yf;have ex:act.eval x0=.int kk a:=by
  have:=bE hs x0;rw[hx]at this;simpa[E']using this
 have ey:act.eval y0=.int kk b:=by
  have:=bE hs y0;rw[hy]at this;simpa[E']using this
 have YD:(execOp act.eval o).run P w=.ok (.value (.int kk (kk.wrap (a-b)))) w:=by
  unfold execOp;rw[g1];simp[ex,ey,eqGuard,binOp,Op.intArith]
 unfold Oper.wp;rw[YD];refine Yd _ _ _ ⟨I,?_⟩ h;have:=hs.pure (d:=o.dst) (v:=.int kk (kk.wrap (a-b))) (x:=.int kk (kk.wrap (a-b))) (by simp[E']);rw[<-hd];exact this
end
def A5(h:Int):Prop:=-9223372036854775808<=h/\h<=9223372036854775807
def Ni(x:Int):A5 (IntKind.i64.wrap x):=by unfold A5;rw[IntKind.wrap_i64];omega
def Lq(x B:Int)(hB:0<=B):0<=(if B<if 0>x then 0 else x then B else if 0>x then 0 else x)/\(if B<if 0>x then 0 else x then B else if 0>x then 0 else x)<=B:=by
 by_cases h:0>x
 .simp only[ar h];split<;>omega
 .simp only[av h];split<;>omega
open Go.Proofs Go.Proofs.Tryz
def jn(l:List Zi):cU false (aG l)=some (.int .i64 l.length):=by simp[aG,cU]
def uX{U:af}{l:List Zi}{i:Nat}(h:i<l.length):bo U 7 (aG l) (.int .i64 i)=some (.rp (bb l[i])):=by simp[aG,bo,h,bb]
open Go.Proofs Go.Proofs.Tryz
def jt(l:List YL):cU false (bl l)=some (.int .i64 l.length):=by simp[bl,cU]
def oS{U:af}{l:List YL}{i:Nat}(h:i<l.length):bo U 5 (bl l) (.int .i64 i)=some (.rp (aQ l[i])):=by simp[bl,bo,h,aQ]
def US(U:af)(l:List Zi):bB U false 1 (.rp (aG l))=some (aG l):=rfl
open Go.Proofs Go.Proofs.Tryz
def df(s:Sta):(bI s).cells=[vI s.s.atom,vI s.s.done,.bool s.s.free,aH s.bJ]:=rfl
def gw(s:Sta):(bI s).stays=true:=rfl
def N5(s:Zm):V.agg [vI s.atom,vI s.done,.bool s.free]=aV s:=rfl
def dx(s:Zm):(aV s).cells=[vI s.atom,vI s.done,.bool s.free]:=rfl
def xG(s:Zm):(aV s).stays=true:=rfl
def uK{α:Type}(p:α->α->Bool):List α->List α->Bool
 |[],[]=>true
 |x::l,y::m=>p x y&&uK p l m
 |_,_=>false
def CD{α:Type}{p:α->α->Bool}:∀{l m:List α},l.length≠m.length->uK p l m=false
 |[],[],h=>absurd rfl h
 |x::l,y::m,h=>by rw[uK,CD (by simpa using h),Bool.and_false]
 |[],_::_,_=>rfl
 |_::_,[],_=>rfl
end Go.Vc
