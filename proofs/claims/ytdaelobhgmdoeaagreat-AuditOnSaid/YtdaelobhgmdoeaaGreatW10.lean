/- Part 10 of the library of this proof. -/
import Derived.Test.YtdaelobhgmdoeaaGreatW9
set_option linter.all false
set_option maxHeartbeats 8000000
set_option maxRecDepth 100000
namespace Go.Vc
open Go.Proofs Go.Proofs.Tryz
def bf.lt:bf->bf
 |.seq a _=>a
 |c=>c
def bf.bd:bf->bf
 |.block _ a=>a
 |c=>c
structure BkFull(b:Bk):Prop extends BkOk b where
 u7:dU b.nodes
 isb:Zd b.nodes=true
 h1:1<=b.h
 h2:b.h<=1099511627776
 nod:∀a∈b.atoms,0<=a.node/\a.node<b.nodes.length
def bw(b:Bk)(s:Zf):Kp:=if b.atoms=[]then⟨[],0,b.h⟩else uu b.nodes (atG b.atoms (min s.atom ((b.atoms.length:Int)-1))).node b.h
def hdS(l:List Nd)(w:Int)(p:List Zh×Int)(a:Int):List Zh×Int:=(p.1++[⟨a,-1,0,0,p.2,w,(stA l a).head⟩],p.2+(stA l a).head)
def hdK(l:List Nd)(w:Int)(L:List Int):List Zh×Int:=L.foldl (hdS l w) ([],0)
def B4(l:List Nd)(w:Int)(L:List Int)(a:Int):hdK l w (L++[a])=hdS l w (hdK l w L) a:=by
 unfold hdK;rw[wG];rfl
def Ft(l:List Nd)(w:Int):∀(L:List Int),(hdK l w L).1.length=L.length:=by
 have key:∀(L:List Int) (p:List Zh×Int),(L.foldl (hdS l w) p).1.length=p.1.length+L.length:=by
  intro L
  induction L with
  |nil=>intro p;rfl
  |cons a L ih=>intro p;rw[j5,ih];simp[hdS];omega
 intro L;have:=key L ([],0);simpa[hdK]using this
def FM(l:List Nd)(w:Int)(L:List Int)(h:∀a∈L,0<=(stA l a).head)(j:Nat):0<=(hdK l w (L.take j)).2/\(hdK l w (L.take j)).2<=(hdK l w L).2:=by
 have key:∀(L:List Int),(∀a∈L,0<=(stA l a).head)->∀(p:List Zh×Int),p.2<=(L.foldl (hdS l w) p).2:=by
  intro L
  induction L with
  |nil=>intro _ p;exact Int.le_refl _
  |cons a L ih=>
   intro h p;rw[j5];have h1:=ih (λx hx=>h x (by simp[hx])) (hdS l w p a);have h2:=h a (by simp);simp only[hdS]at h1|-;omega
 refine⟨key (L.take j) (λa ha=>h a (pz ha)) ([],0),?_⟩;have e:hdK l w L=(L.drop j).foldl (hdS l w) (hdK l w (L.take j)):=by
  rw[hdK,hdK,<-wG,sZ]
 rw[e];exact key _ (λa ha=>h a (List.mem_of_mem_drop ha)) _
def vR{l:List Nd}{L:List Int}{h:Int}:∀m,m<=L.length->∀a∈(gy l L h m).Yz,a∈L
 |0,_,a,ha=>by simp[gy]at ha
 |m+1,hm,a,ha=>by
  rw[gy,jJ]at ha;split at ha
  .exact vR m (by omega) a ha
  .simp only[dc,er]at ha;rcases ha with ha|ha
   .exact vR m (by omega) a ha
   .rw[ha];have H':L.length-1-m<L.length:=by omega
    have hg:L.getD (L.length-1-m) 0=L[L.length-1-m]:=by simp[H']
    rw[hg];exact Zr H'
def sx{l:List Nd}{L:List Int}{h w:Int}:∀m,(hdK l w (gy l L h m).Yz).2=(gy l L h m).high
 |0=>rfl
 |m+1=>by
  rw[gy,jJ];split
  .exact sx m
  .simp only[B4,hdS];rw[sx m]
structure Xo(b:Bk)(k:Kp):Prop where
 len:k.Yz.length<=1000000
 mem:∀a∈k.Yz,∃n:Nat,a=n/\n<b.nodes.length
 sum:(hdK b.nodes b.w k.Yz).2=k.high
 high:0<=k.high/\k.high<=1099511627776
 body:0<=k.body/\k.body<=1099511627776
def uQ{b:Bk}(hb:BkFull b)(s:Zf):Xo b (bw b s):=by
 have h1:=hb.h1;have h2:=hb.h2;have hn:b.nodes.length<=100000:=by have:=hb.u7.1;omega
 unfold bw;split
 .exact⟨by simp,by simp,rfl,by simp,by simp;omega⟩
 .unfold uu;split
  .rename_i hc;obtain⟨_,h3,h4⟩:=hc;generalize (atG b.atoms (min s.atom ((b.atoms.length:Int)-1))).node=a at*;have ha:a.toNat<b.nodes.length:=by omega
   have hrg:∀x∈abv b.nodes a.toNat,∃n:Nat,x=n/\n<b.nodes.length:=λx hx=>by
    obtain⟨n,h1,h2⟩:=ru ha x hx;exact⟨n,h1,by omega⟩
   have hi:=qI hb.isb hrg (by omega:0<=b.h) (abv b.nodes a.toNat).length (YQ _);have hl:(abv b.nodes a.toNat).length<=b.nodes.length+1:=jv _ _ _;unfold Ai;exact⟨by omega,λx hx=>hrg x (vR _ (YQ _) x hx),sx _,by omega,by omega⟩
  .exact⟨by simp,by simp,rfl,by simp,by simp⟩
def bD(b:Bk)(s:Zf)(hv:V):Wx:=⟨hv,(bw b s).high,(bw b s).body,s,0,(hdK b.nodes b.w (bw b s).Yz).1,[],[],0⟩
def Kg(b:Bk)(hb:BkFull b)(s:Zf)(YL:0<=s.atom)(U:af):
 au prog 115 [.rp (bC b),aV s] U λr Z'=>∃i1 vh hv,r=.ptr i1 0 0/\WxJ b U i1 (bD b s hv) Z' vh .aC .aC:=by
 refine VT.r (by simp[GG]) ?_;have hs:=aa.refl U;have hbk:bC b=.agg [aH b.nodes,vI b.w,vI b.h,br b.atoms,aG b.X8,vI b.Yg,bE b.Ym]:=rfl;have hsc:(aV s).cells=[vI s.atom,vI s.done,.bool s.free]:=rfl;have hss:(aV s).stays=true:=rfl;have hln:=iB b.atoms;have hlen:=hb.len;refine ab.mix 11 ?_;apply sR;simp only[go_sem,seval,GG,hsc,hss];refine ad λi3 Z3 s3 a3 f3=>?_;have z3:=hs.none f3;replace hs:=hs.trans s3;rw[aV]at a3;simp only[go_sem,seval,a3,hbk];refine aW λi19 Z19 s19 a19 f19=>?_;have n319:=ao a3 f19;replace a3:=s19 _ _ a3;have z19:=hs.none f19;replace hs:=hs.trans s19;have hr:=uQ hb s;unfold bD;have hJ0:∀(hv:V) (k:Kp) (J:af),J i19=some (cZ b ⟨hv,k.high,k.body,s,0,[],[],[],0⟩ .aC .aC .aC)->aa U J->WxJ b U i19 ⟨hv,k.high,k.body,s,0,[],[],[],0⟩ J .aC .aC .aC:=λhv k J h h2=>
  ⟨h,aL.start,aL.start,aL.start,dD.aC _,dD.aC _,dD.aC _,h2,z19⟩
 have fin:∀(S:Nat->V) (J:af) (hv:V),cW false hv=some (.int .i64 (bw b s).Yz.length)->(∀(j:Nat) (h:j<(bw b s).Yz.length) (U:af),bo U 1 hv (.int .i64 j)=some (.rp (vI (bw b s).Yz[j])))->
  J i19=some (cZ b ⟨hv,(bw b s).high,(bw b s).body,s,0,[],[],[],0⟩ .aC .aC .aC)->aa U J->S 0=.rp (bC b)->S 5=.ptr i19 0 0->S 7=vI 0->S 57=hv->S 58=vI (bw b s).Yz.length->S 59=vI 0->
  ab prog 96 [It.code GG.code.rt.rt.rt.rt.lt.rt.bd,It.inBlock 0,It.code GG.code.rt.rt.rt.rt.rt] ⟨S,J⟩ λst=>Ret [.tmp (.t 4)] st λr Z'=>∃i1 vh hv,r=.ptr i1 0 0/\WxJ b U i1 ⟨hv,(bw b s).high,(bw b s).body,s,0,(hdK b.nodes b.w (bw b s).Yz).1,[],[],0⟩ Z' vh .aC .aC:=by
  intro S J hv hlL hix h19 hsZ t0 t5 t7 t57 t58 t59;have hJ:=hJ0 _ _ _ h19 hsZ;clear hJ0 h19 hsZ hs a3 a19;generalize bw b s=k at*;obtain⟨L,high,body⟩:=k;obtain⟨r1,r2,r3,⟨r4,r5⟩,_⟩:=hr;simp only at r1 r2 r3 r4 r5 hJ hlL hix t58|-;have hh0:∀a∈L,0<=(stA b.nodes a).head:=λa ha=>by
   obtain⟨n,rfl,hn⟩:=r2 a ha;rw[jQ hn];exact(gi hb.isb hn).st.head.1
  have a19:=hJ.row;rw[cZ]at a19;refine ab.mix 60 ?_;simp only[GG,bf.rt,bf.lt,bf.bd];refine ab.loop (λm st=>∃(j:Nat) (vh:V),j<=L.length/\m=L.length-j/\WxJ b U i19 ⟨hv,high,body,s,0,(hdK b.nodes b.w (L.take j)).1,[],[],0⟩ st.U vh .aC .aC/\st.s 0=.rp (bC b)/\st.s 5=.ptr i19 0 0/\st.s 7=vI (hdK b.nodes b.w (L.take j)).2/\st.s 57=hv/\st.s 58=vI L.length/\st.s 59=vI j) L.length ?_ ?_
  .exact⟨0,.aC,by omega,rfl,hJ,t0,t5,t7,t57,t58,t59⟩
  .clear hJ a19 t0 t5 t7 t57 t58 t59;rintro m ⟨S,J⟩ ⟨j,vh,hj,rfl,hJ,t0,t5,t7,t57,t58,t59⟩;simp only at hJ t0 t5 t7 t57 t58 t59;refine ab.mix 60 ?_;by_cases H':j<L.length
   .have q:((j:Int)<L.length)=True:=Yd;obtain⟨n,hn,hnl⟩:=r2 _ (Zr H');have X2:=hix j H';have hnd:=λU=>jX b.nodes hnl U;have j4:=FM b.nodes b.w L hh0 j;have hsum1:=FM b.nodes b.w L hh0 (j+1);have hlk:=Ft b.nodes b.w (L.take j);have hlt2:(L.take j).length=j:=by rw[fY];omega
    have Zb:L.take (j+1)=L.take j++[(n:Int)]:=by rw[Zq0 H',hn]
    have hstep:hdK b.nodes b.w (L.take (j+1))=hdS b.nodes b.w (hdK b.nodes b.w (L.take j)) n:=by rw[Zb,B4]
    rw[r3]at j4 hsum1;rw[hstep]at hsum1;rw[hn]at X2;generalize hdK b.nodes b.w (L.take j)=X at*;obtain⟨F,y⟩:=X;simp only[hdS,jQ hnl]at j4 hsum1 hlk hJ t7 hstep;have q1:Yl .i64 (y+b.nodes[n].st.head):=ai;have q2:Yl .i64 ((j:Int)+1):=ai;have a19:=hJ.row;rw[cZ]at a19;obtain⟨cv,sv⟩:=hJ.oh.vc;generalize b.nodes[n]=nd at*;apply sR;simp only[go_sem,seval,t0,t5,t7,t57,t58,t59,q,X2,hnd,Nd.cells,a19,hbk,Ua];refine aW λi86 Z86 s86 a86 f86=>?_;have hJ5:=hJ.mono s86;obtain⟨Yn,ZV,hgr⟩:=zu hJ5.sub hJ5.no hJ5.row hJ5.oh;have hfl:(F.map bb).length<=1000000:=by rw[cL];omega
    generalize hrw:F.map bb=rows at*;have Zl:(rows.length+1)*57<=140737488355328:=by omega
    simp only[go_sem,seval,ZV,cT a86,Zl];refine kQ λi87 Z87 s87 a87 f87=>?_;obtain⟨b1,hg⟩:=hgr Z87 i87 _ s87 a87 f87;rw[cZ]at b1;obtain⟨g1,g2,g3⟩:=hg (cZ b ⟨hv,high,body,s,0,F++[⟨n,-1,0,0,y,b.w,nd.st.head⟩],[],[],0⟩ (.own i87 0 (rows.length+1)) .aC .aC);simp only[go_sem,seval,b1,t0,t5,t7,t57,t58,t59,q1,q2];refine⟨_,?_,j+1,.own i87 0 (rows.length+1),by omega,rfl,?_,rfl,?_,rfl⟩
    .omega
    .rw[hstep];rw[gZ]at g2;refine⟨ag,?_,aL.start,aL.start,(dD.aC _).symm,(dD.aC _).symm,dD.aC _,g1,hJ.no⟩;show aL _ _ _ _ _ ((F++[_]).map bb);rw[gl,hrw];exact g2
    .rw[hstep]
   .have q:((j:Int)<L.length)=False:=T';have hje:j=L.length:=by omega
    rw[hje,hU]at hJ;apply sR;simp only[go_sem,seval,t5,t58,t59,q];exact⟨_,_,aa.refl _,Wk.refl (aa.refl _) _,i19,vh,hv,rfl,hJ⟩
 by_cases he:b.atoms=[]
 .have q:((b.atoms.length:Int)>0)=False:=by rw[he];simp
  have hre:bw b s=⟨[],0,b.h⟩:=ar he;simp only[go_sem,seval,a19,kg,hln,q];rw[hre]at fin|-;rw[<-hbk]at a19;refine fin _ _ .aC rfl (λj h=>by simp at h) a19 hs ?_ ?_ ?_ ?_ ?_ ?_<;>rfl
 .have hl0:0<b.atoms.length:=wH.2 he;have q:((b.atoms.length:Int)>0)=True:=Yd;have r1:Yl .i64 ((b.atoms.length:Int)-1):=ai;obtain⟨k,hk⟩:∃k:Nat,min s.atom ((b.atoms.length:Int)-1)=k:=⟨(min s.atom ((b.atoms.length:Int)-1)).toNat,by omega⟩
  have hkl:k<b.atoms.length:=by omega
  have X2:=λU=>jg (U:=U) hkl;have hre:bw b s=uu b.nodes b.atoms[k].node b.h:=by rw[bw,av he,hk,aZ hkl]
  have hc:=TB b.nodes hb.u7 b.atoms[k].node b.h;rw[<-hre]at hc;simp only[go_sem,seval,kg,hln,q,cP];refine ab.uA (by kernel_rfl) [0,1,2,3,4,5,6,7,8,9,10,11,12,13,14,15,16,17,18,19,20,21,22,23,24,25] [[],[],[1],[1,2],[1,2,3],[],[5],[5,6],[5,6,7],[5,6,7,8],[],[10],[],[12],[10,11,12,13],[5,6,7,8,9,10,11,12,13,14],[5,6,7,8,9,10,11,12,13,14,15],[5,6,7,8,9,10,11,12,13,14,15,16],[],[18],[18,19],[18,19,20],[1,2,3,4,5,6,7,8,9,10,11,12,13,14,15,16,17,18,19,20,21],[0,1,2,3,4,5,6,7,8,9,10,11,12,13,14,15,16,17,18,19,20,21,22],[0,1,2,3,4,5,6,7,8,9,10,11,12,13,14,15,16,17,18,19,20,21,22,23],[0,1,2,3,4,5,6,7,8,9,10,11,12,13,14,15,16,17,18,19,20,21,22,23,24]] [0,2,4,6,8,10,12,14,16,18,20,22,24,26,28,30,32,34,36,38,40,42,44,46,48,50] (by kernel_rfl) (by kernel_rfl) ?_;refine RE.Zy (n:=0) [44,46,48,50] [0,2,4,6,8,10,12,14,16,18,20,22,24,26,28,30,32,34,36,38,40,42] [⟨(.some 28),(.YH (.t 5)),.none⟩,⟨(.some 29),(.YH (.t 0)),.none⟩,⟨(.some 30),(.nilCheck (.t 29)),.none⟩,⟨(.some 31),(.YB .false 0 1 (.t 30)),.none⟩,⟨(.some 32),(.load .false 1 (.t 31)),.none⟩,⟨(.some 33),(.YH (.t 0)),.none⟩,⟨(.some 34),(.nilCheck (.t 33)),.none⟩,⟨(.some 35),(.YB .true 3 3 (.t 34)),.none⟩,⟨(.some 36),(.YB .false 0 1 (.t 35)),.none⟩,⟨(.some 37),(.load .false 1 (.t 36)),.none⟩,⟨(.some 38),(.YB .false 0 1 (.t 3)),.none⟩,⟨(.some 39),(.load .false 1 (.t 38)),.none⟩,⟨(.some 40),(.YH (.t 6)),.none⟩,⟨(.some 41),(.bin .sub (.t 40) (.c (.int .i64 1))),.none⟩,⟨(.some 42),(.minmax .false (.t 39) (.t 41)),.none⟩,⟨(.some 43),(.idxA 8 (.t 37) (.t 42)),.none⟩,⟨(.some 44),(.YB .false 1 1 (.t 43)),.none⟩,⟨(.some 45),(.load .false 1 (.t 44)),.none⟩,⟨(.some 46),(.YH (.t 0)),.none⟩,⟨(.some 47),(.nilCheck (.t 46)),.none⟩,⟨(.some 48),(.YB .false 2 1 (.t 47)),.none⟩,⟨(.some 49),(.load .false 1 (.t 48)),.none⟩] rfl rfl ?_;apply sG;simp only[go_sem,seval,a3,kg,Ua,r1,gF,hk,X2,dh];rw[xH]at hc;refine RE.ay rfl rfl rfl rfl rfl (hc _) ?_;refine RE.Zy (n:=0) [] [46,48,50] [⟨(.some 51),(.nilCheck (.t 28)),.none⟩,⟨(.some 52),(.YB .true 0 3 (.t 51)),.none⟩,⟨.none,(.store 3 (.t 52) (.t 50)),.none⟩] rfl rfl ?_;apply sG;simp only[go_sem,seval,a19];have hlL:=fo (bw b s).Yz;apply sR;simp only[go_sem,seval,hlL];rw[<-hbk];refine fin _ _ (bl (bw b s).Yz) hlL (λj h U=>iQ h) ag (hs.ax z19) ?_ ?_ ?_ ?_ ?_ ?_<;>rfl
open Go.Proofs Go.Proofs.Tryz
def bkE(b:Bk):bC b=.agg [aH b.nodes,vI b.w,vI b.h,br b.atoms,aG b.X8,vI b.Yg,bE b.Ym]:=rfl
def uN(b:Bk)(hb:1<=b.h):aJ prog 60 [.rp (bC b)] (.bool false):=λU=>by
 refine e60.r (by simp[c60]) ?_;have q:(b.h=0)=False:=T';refine ab.mix 3 ?_;apply sR;simp only[go_sem,seval,c60,bkE,q,Gm];exact ak.same rfl
def HJ(b:Bk)(hb:BkFull b)(U:af):au prog 54 [.rp (bC b)] U λr Z'=>aa U Z'/\aL U Z' 168 3 r (b.Ym.map e8):=by
 refine e54.r (by simp[c54]) ?_;have h1:=hb.brk;have h2:=hb.len;refine ab.mix 3 ?_;apply sR;simp only[go_sem,seval,c54];refine ab.ay rfl rfl rfl (uN b hb.h1 _) ?_;apply sR;simp only[go_sem,seval,bkE,IX];refine ab.call rfl rfl rfl (vg func113 (Ub.b.trans rfl) Ub.c (b.Ym.map e8) (by simp;omega) _) ?_;rintro r Z' ⟨hs,ho⟩;apply sR;simp only[go_sem,seval];exact⟨_,_,aa.refl _,Wk.refl (aa.refl _) _,hs,ho⟩
def AS(b:Bk):V:=.agg [br b.atoms,aG b.X8,vI b.Yg]
def y8(b:Bk)(hb:BkFull b):aJ prog 25 [.rp (bC b)] (AS b):=λU=>by
 refine e25.r (by simp[c25]) ?_;have hs:=aa.refl U;have h2:=hb.len;have h3:=hb.flen;refine ab.mix 4 ?_;apply sR;simp only[go_sem,seval,c25];refine ad λi2 Z2 s2 a2 f2=>?_;have z2:=hs.none f2;replace hs:=hs.trans s2;simp only[go_sem,seval];refine ab.ay rfl rfl rfl (uN b hb.h1 _) ?_;apply sR;simp only[go_sem,seval,bkE];refine ad λi3 Z3 s3 a3 f3=>?_;have n23:=ao a2 f3;replace a2:=s3 _ _ a2;have z3:=hs.none f3;replace hs:=hs.trans s3;simp only[go_sem,seval,a3];generalize hq3:C' _ i3 _=X3;replace a3:=(congrFun hq3 i3).symm.trans ag;replace a2:=((congrFun hq3 i2).symm.trans (ae n23)).trans a2;replace hs:=Eq.subst (motive:=aa _) hq3 (hs.ax z3);clear hq3;refine Go.cm rfl rfl rfl (J1 b.atoms (by omega)) ?_;apply sG;simp only[go_sem,seval,a3];refine Go.cm rfl rfl rfl (Bx b.X8 (by omega)) ?_;apply sG;simp only[go_sem,seval,a3,a2,cE,dH,iz,dF,ae n23];exact ak.pure ((hs.ax z3).ax z2) rfl
def GM(b:Bk)(hb:BkFull b):aJ prog 56 [.rp (bC b)] (bF ⟨⟨0,0,true⟩,[]⟩):=λU=>by
 refine e56.r (by simp[c56]) ?_;have hs:=aa.refl U;refine ab.mix 4 ?_;apply sR;simp only[go_sem,seval,c56];refine ad λi2 Z2 s2 a2 f2=>?_;have z2:=hs.none f2;replace hs:=hs.trans s2;simp only[go_sem,seval];refine ab.ay rfl rfl rfl (uN b hb.h1 _) ?_;apply sR;simp only[go_sem,seval,a2];refine⟨_,U,hs.ax z2,Wk.agg (vs':=[vI 0,vI 0,.bool true,aG []]) ⟨Wk.refl (hs.ax z2) _,Wk.refl (hs.ax z2) _,Wk.refl (hs.ax z2) _,Wk.aC 7,trivial⟩,rfl,rfl⟩
def qQ(a:U'):∀(p:List U') (i:Nat),nt a p i=-1\/∃k:Nat,nt a p i=((i+k:Nat):Int)/\k<p.length
 |[],_=>.inl rfl
 |q::r,i=>by
  rw[nt];split
  .exact .inr ⟨0,rfl,by simp⟩
  .rcases qQ a r (i+1)with h|⟨k,h1,h2⟩
   .exact .inl h
   .exact .inr ⟨k+1,by rw[h1];congr 1;omega,by simp;omega⟩
def pE(X8:List U'):List U'->Nat->Bool
 |[],_=>true
 |x::r,YT=>if nt x (X8.drop YT) 0<0 then false else pE X8 r (YT+(nt x (X8.drop YT) 0).toNat+1)
def kz(b:Bk)(s:ZY):Prop:=pE b.X8 s.bJ 0=true/\(dG b.atoms s.s\/s.s.atom=b.atoms.length/\s.s.done=0)
instance (b:Bk) (s:ZY):Decidable (kz b s):=by unfold kz;infer_instance
def M4(b:Bk)(hb:BkFull b)(s:ZY)(hp:s.bJ.length<=1000000):aJ prog 114 [.rp (bC b),bF s] (.bool (decide (kz b s))):=λU=>by
 refine Wg.r (by simp[QB]) ?_;have hs:=aa.refl U;have h3:=hb.flen;have hlp:=fX s.bJ;have hla:=iB b.atoms;refine ab.mix 13 ?_;apply sR;simp only[go_sem,seval,QB,bF];refine ad λi3 Z3 s3 a3 f3=>?_;replace hs:=hs.trans s3;simp only[go_sem,seval,a3,hlp];refine ab.loop (λm st=>∃(j YT:Nat),j<=s.bJ.length/\m=s.bJ.length-j/\YT<=b.X8.length/\pE b.X8 s.bJ 0=pE b.X8 (s.bJ.drop j) YT/\aa U st.U/\st.U i3=some ⟨45,4,[.agg [vI s.s.atom,vI s.s.done,.bool s.s.free,aG s.bJ]]⟩/\st.s 0=.rp (bC b)/\st.s 3=.ptr i3 0 0/\st.s 5=vI YT/\st.s 10=aG s.bJ/\st.s 11=vI s.bJ.length/\st.s 12=vI j) s.bJ.length ?_ ?_
 .exact⟨0,0,by omega,rfl,by omega,rfl,hs,a3,rfl,rfl,rfl,rfl,rfl,rfl⟩
 .clear hs a3;rintro m ⟨S,J⟩ ⟨j,YT,hj,rfl,hat,heq,hs,a3,t0,t3,t5,t10,t11,t12⟩;simp only at hs a3 t0 t3 t5 t10 t11 t12;refine ab.mix 13 ?_;by_cases H':j<s.bJ.length
  .have q:((j:Int)<s.bJ.length)=True:=Yd;have X2:=λU=>j2 (U:=U) H';have hfl:aK s.bJ[j]=.agg [vI s.bJ[j].node,vI s.bJ[j].side,vI s.bJ[j].anchor,vI s.bJ[j].x,vI s.bJ[j].y,vI s.bJ[j].w,vI s.bJ[j].h]:=rfl;have hd:s.bJ.drop j=s.bJ[j]::s.bJ.drop (j+1):=ia H';rw[hd,pE]at heq;have hsl:=sO hat;generalize s.bJ[j]=f at*;have hic:=JL (b.X8.drop YT) (by rw[qF];omega) f;rw[hfl]at hic;have r1:Yl .i64 ((j:Int)+1):=ai;apply sR;simp only[go_sem,seval,t10,t11,t12,q,X2,hfl];refine ad λi7 Z7 s7 a7 f7=>?_;have n37:=ao a3 f7;replace a3:=s7 _ _ a3;have z7:=hs.none f7;replace hs:=hs.trans s7;simp only[BB,seval,aX,ez,aE,l4,cQ,la,gj,fk,gX,V.cells,V.stays,a7,bkE,Gd,t0,t5,hsl];generalize hq7:C' _ i7 _=Y7;replace a7:=(congrFun hq7 i7).symm.trans ag;replace a3:=((congrFun hq7 i3).symm.trans (ae n37)).trans a3;replace hs:=Eq.subst (motive:=aa _) hq7 (hs.ax z7);clear hq7;refine Go.cm rfl rfl rfl hic ?_;have hln:(b.X8.drop YT).length=b.X8.length-YT:=qF;rcases qQ f (b.X8.drop YT) 0 with h|⟨k,h,hk⟩
   .rw[h]at heq|-;rw[ar (by omega)]at heq;have hf:decide (kz b s)=false:=Zu λhm=>by rw[kz,heq]at hm;cases hm.1
    apply sG;simp only[go_sem,seval];rw[hf];exact ak.pure hs rfl
   .rw[h,gY]at heq|-;rw[av (by omega),eX]at heq;have q1:((k:Int)<0)=False:=T';have r2:Yl .i64 ((k:Int)+1):=ai;have r3:Yl .i64 ((YT:Int)+(k+1)):=ai;apply sG;simp only[go_sem,seval,t0,t3,t5,t10,t11,t12,q1,r1,r2,r3];refine⟨_,?_,j+1,YT+k+1,by omega,rfl,by omega,heq,hs,a3,rfl,?_,rfl⟩
    .omega
    .show V.int _ _=V.int _ _;congr 1
  .have q:((j:Int)<s.bJ.length)=False:=T';have hje:j=s.bJ.length:=by omega
   rw[hje,x5,pE]at heq;have hmc:=sF b.atoms s.s;rw[aV]at hmc;apply sR;simp only[go_sem,seval,t0,t3,t11,t12,q,a3,bkE,kg];refine Go.cm rfl rfl rfl hmc ?_;have fin:∀v:Bool,decide (kz b s)=v->ak (.bool v) J λr Z'=>r=.bool (decide (kz b s))/\Z'=U:=λv h=>by rw[h];exact ak.pure hs rfl
   by_cases hm:dG b.atoms s.s
   .have f:=fin true (ZG ⟨heq,.inl hm⟩);rw[ZG hm];generalize decide (kz b s)=B at*;apply sG;simp only[go_sem,seval];exact f
   rw[Zu hm];by_cases ha:s.s.atom=b.atoms.length
   .by_cases hd:s.s.done=0
    .have f:=fin true (ZG ⟨heq,.inr ⟨ha,hd⟩⟩);generalize decide (kz b s)=B at*;have q1:(s.s.atom=(b.atoms.length:Int))=True:=Yd ha;have q2:(s.s.done=0)=True:=Yd hd;apply sG;simp only[go_sem,seval,t0,t3,a3,bkE,kg,hla,q1,q2];exact f
    .have f:=fin false (Zu λh=>by rcases h.2 with h|h;exact hm h;exact hd h.2)
     generalize decide (kz b s)=B at*;have q1:(s.s.atom=(b.atoms.length:Int))=True:=Yd ha;have q2:(s.s.done=0)=False:=T' hd;apply sG;simp only[go_sem,seval,t0,t3,a3,bkE,kg,hla,q1,q2];exact f
   .have f:=fin false (Zu λh=>by rcases h.2 with h|h;exact hm h;exact ha h.1)
    generalize decide (kz b s)=B at*;have q1:(s.s.atom=(b.atoms.length:Int))=False:=T' ha;apply sG;simp only[go_sem,seval,t0,t3,a3,bkE,kg,hla,q1];exact f
def eH(b:Bk)(s:ZY):Prop:=¬kz b s\/s.s.atom=b.atoms.length/\s.s.free=false/\s.bJ=[]
instance (b:Bk) (s:ZY):Decidable (eH b s):=by unfold eH;infer_instance
def zU(b:Bk)(hb:BkFull b)(s:ZY)(hp:s.bJ.length<=1000000):aJ prog 57 [.rp (bC b),bF s] (.bool (decide (eH b s))):=λU=>by
 refine e57.r (by simp[c57]) ?_;have hs:=aa.refl U;have hlp:=fX s.bJ;have hla:=iB b.atoms;have hmc:=M4 b hb s hp;rw[bF]at hmc;refine ab.mix 5 ?_;apply sR;simp only[go_sem,seval,c57,bF];refine ad λi3 Z3 s3 a3 f3=>?_;have z3:=hs.none f3;replace hs:=hs.trans s3;simp only[go_sem,seval];refine ab.ay rfl rfl rfl (uN b hb.h1 _) ?_;apply sR;simp only[go_sem,seval,a3];refine ab.ay rfl rfl rfl (hmc _) ?_;have fin:∀v:Bool,decide (eH b s)=v->ak (.bool v) Z3 λr Z'=>r=.bool (decide (eH b s))/\Z'=U:=λv h=>by rw[h];exact ak.pure hs rfl
 by_cases hm:kz b s
 .rw[ZG hm];by_cases ha:s.s.atom=b.atoms.length
  .have q1:(s.s.atom=(b.atoms.length:Int))=True:=Yd ha;by_cases hf:s.s.free=true
   .have f:=fin false (Zu λh=>by rcases h with h|h;exact h hm;rw[hf]at h;cases h.2.1)
    generalize decide (eH b s)=B at*;rw[hf]at a3;apply sR;simp only[go_sem,seval,a3,bkE,kg,hla,q1];exact f
   .have hf':s.s.free=false:=by simpa using hf
    by_cases hn:s.bJ=[]
    .have f:=fin true (ZG (.inr ⟨ha,hf',hn⟩));generalize decide (eH b s)=B at*;have q2:((s.bJ.length:Int)=0)=True:=Yd (by rw[hn];rfl);rw[hf']at a3;apply sR;simp only[go_sem,seval,a3,bkE,kg,hla,q1,hlp,q2];exact f
    .have f:=fin false (Zu λh=>by rcases h with h|h;exact h hm;exact hn h.2.2)
     generalize decide (eH b s)=B at*;have q2:((s.bJ.length:Int)=0)=False:=T' (by have:=wH.2 hn;omega);rw[hf']at a3;apply sR;simp only[go_sem,seval,a3,bkE,kg,hla,q1,hlp,q2];exact f
  .have f:=fin false (Zu λh=>by rcases h with h|h;exact h hm;exact ha h.1)
   generalize decide (eH b s)=B at*;have q1:(s.s.atom=(b.atoms.length:Int))=False:=T' ha;apply sR;simp only[go_sem,seval,a3,bkE,kg,hla,q1];exact f
 .rw[Zu hm];have f:=fin true (ZG (.inl hm));generalize decide (eH b s)=B at*;apply sR;simp only[go_sem,seval];exact f
open Go.Proofs Go.Proofs.Tryz
structure YG where
 (no kind:Int)
 (hs fs ls:List Zh)
def aI(l:List Zh):V:=.sl 7 (l.map bb)
def aM(p:YG):V:=.agg [vI p.no,vI p.kind,aI p.hs,aI p.fs,aI p.ls]
def uW{s:Nat->V}{U:af}{a1 a2:Bool}{n1 n2 d e t:Nat}{Post:V->af->Prop}:
 Ret [.cell a1 n1 (.t d),.cell a2 n2 (.t e),.tmp (.t t)] ⟨s,U⟩ Post=di (bB U a1 n1 (s d)) λv=>di (bB U a2 n2 (s e)) λw=>ak (.P' [v,w,s t]) U Post:=by
 unfold Ret ak nY;simp only[ej,gm,VX.ev];cases bB U a1 n1 (s d)<;>cases bB U a2 n2 (s e)<;>simp[di]
def uU{body:Int}:∀(l:List U') (sh:Int),0<=sh->sh<=body->(∀f∈l,0<=f.h)->(dk body l sh).1.length<=l.length/\(∀m∈(dk body l sh).1,0<=m.y/\m.y<=body)/\0<=(dk body l sh).2.2/\(dk body l sh).2.2<=body
 |[],sh,h0,h1,_=>by simp[dk];omega
 |f::r,sh,h0,h1,hh=>by
  rw[dk];have hf:=hh f (by simp);split
  .simp;omega
  .rename_i hc;obtain⟨g1,g2,g3,g4⟩:=uU (body:=body) r (sh+min f.h body) (by omega) (by omega) (λg hg=>hh g (by simp[hg]));refine⟨by simp;omega,λm hm=>?_,g3,g4⟩;rcases cg.1 hm with rfl|hm
   .simp only;omega
   .exact g2 m hm
def Fc{l:List Nd}{x:Kp}{a:Int}(h:1<=x.body):1<=(jJ l x a).body:=by
 unfold jJ;split
 .exact h
 .simp only;omega
def sP{l:List Nd}{L:List Int}{h:Int}(hh:1<=h):∀m,1<=(gy l L h m).body
 |0=>hh
 |m+1=>Fc (sP hh m)
def gT{b:Bk}(hb:BkFull b)(s:Zf)(h0:0<=s.atom):1<=(bw b s).body:=by
 have h1:=hb.h1;unfold bw;split
 .exact h1
 .rename_i he;have hl0:0<b.atoms.length:=wH.2 he;obtain⟨k,hk⟩:∃k:Nat,min s.atom ((b.atoms.length:Int)-1)=k:=⟨(min s.atom ((b.atoms.length:Int)-1)).toNat,by omega⟩
  have hkl:k<b.atoms.length:=by omega
  have hn:=hb.nod _ (Zr hkl);rw[hk,aZ hkl];have hm:jK b.nodes b.h=true:=by simp[jK,hb.isb,hb.h1,hb.h2]
  unfold uu;rw[ar ⟨hm,hn⟩];exact sP h1 _
def oW{X8:List U'}:∀(p:List U') (YT:Nat),pE X8 p YT=true->∀f∈p,f∈X8
 |[],_,_,f,hf=>by cases hf
 |x::r,YT,h,f,hf=>by
  rw[pE]at h;split at h
  .cases h
  .rename_i hk;rcases cg.1 hf with rfl|hf
   .have key:∀(l:List U') (i:Nat),¬nt f l i<0->f∈l:=by
     intro l
     induction l with
     |nil=>intro i h;simp[nt]at h
     |cons q l ih=>
      intro i h;rw[nt]at h;split at h
      .rename_i e;simp[e]
      .exact List.mem_cons_of_mem _ (ih _ h)
    exact List.mem_of_mem_drop (key _ _ hk)
   .exact oW r _ h f hf
def nk(x:Wx):YG:=⟨0,x.kind,x.hs,x.fs,x.ls⟩
def cb(b:Bk)(s:ZY):Wx:={ (({ bD b s.s .aC with shift:=(dk (bw b s.s).body s.bJ 0).2.2 }:Wx).put (dk (bw b s.s).body s.bJ 0).1)with kind:=0 }
def rP(b:Bk)(s:ZY):Prop:=s.s.atom=b.atoms.length\/(dk (bw b s.s).body s.bJ 0).2.1≠[]\/(dk (bw b s.s).body s.bJ 0).2.2>0/\jO b.atoms s.s>(bw b s.s).body-(dk (bw b s.s).body s.bJ 0).2.2
instance (b:Bk) (s:ZY):Decidable (rP b s):=by unfold rP;infer_instance
def aP(b:Bk)(s:ZY):YG×ZY:=
 if b.atoms=[]/\s.s.free=true then(nk (y7 b (bD b s.s .aC)),me b (bD b s.s .aC))
 else if rP b s then(nk { cb b s with kind:=2 },⟨⟨s.s.atom,s.s.done,s.s.free&&decide (s.s.atom<b.atoms.length)⟩,(dk (bw b s.s).body s.bJ 0).2.1⟩)
 else(nk (dM b (cb b s)),eG b (cb b s))
def tm(b:Bk)(x:Wx)(h:V):nk (dM b { x with Yz:=h })=nk (dM b x)/\eG b { x with Yz:=h }=eG b x:=by
 unfold dM eG;by_cases hc:fv b.Ym x.s.atom (dQ b x)
 .rw[ar (show fv b.Ym ({ x with Yz:=h }:Wx).s.atom (dQ b { x with Yz:=h })from hc),ar (show fv b.Ym ({ x with Yz:=h }:Wx).s.atom (dQ b { x with Yz:=h })from hc),ar hc,ar hc];exact⟨rfl,rfl⟩
 .rw[av (show¬fv b.Ym ({ x with Yz:=h }:Wx).s.atom (dQ b { x with Yz:=h })from hc),av (show¬fv b.Ym ({ x with Yz:=h }:Wx).s.atom (dQ b { x with Yz:=h })from hc),av hc,av hc];exact⟨rfl,rfl⟩
def WxJ.ax{b:Bk}{K:af}{ix:Nat}{x:Wx}{U:af}{vh vf vl:V}(h:WxJ b K ix x U vh vf vl){i:Nat}{o:Ob}(hi:K i=some o)(o':Ob):WxJ b (C' K i o') ix x (C' U i o') vh vf vl:=by
 have hn:ix≠i:=λe=>by have:=h.no;subst e;rw[this]at hi;cases hi
 have key:∀{v rows},aL (aU K ix) U 63 7 v rows->aL (aU (C' K i o') ix) (C' U i o') 63 7 v rows:=λhv=>by
  rcases hv with h|⟨a,e,h3,h4⟩
  .exact .inl h
  .have hk:=(aF.1 h4).2;have ha:a≠i:=λe=>by subst e;rw[hk]at hi;cases hi
   exact .inr ⟨a,e,(Vc.ae ha).trans h3,aF.2 ⟨(aF.1 h4).1,(Vc.ae ha).trans hk⟩⟩
 refine⟨(Vc.ae hn).trans h.row,key h.oh,key h.of,key h.ol,h.hf,h.hl,h.fl,λa q ha=>?_,(Vc.ae hn).trans h.no⟩;by_cases e:a=i
 .subst e;rw[Vc.ag]at ha|-;exact ha
 .rw[Vc.ae e]at ha|-;exact h.sub _ _ ha
def WxJ.ret{b:Bk}{K Z0:af}{ix:Nat}{x:Wx}{U:af}{vh vf vl:V}(h:WxJ b K ix x U vh vf vl)(h0:aa Z0 K)(S:V)(e:Int):
 ak (.P' [.agg [vI 0,vI x.kind,vh,vf,vl],S,vI e]) U λr Z'=>r=.P' [aM (nk x),S,vI e]/\Z'=Z0:=by
 have hs:=h0.trans h.sub;have hK:aa Z0 (aU K ix):=λi o hh=>by
  rw[aU,av (λe=>by rw[e]at hh;have:=h0 _ _ hh;rw[h.no]at this;cases this)];exact h0 _ _ hh
 exact⟨_,Z0,hs,Wk.P' (vs':=[aM (nk x),S,vI e]) ⟨Wk.agg (vs':=[vI 0,vI x.kind,aI x.hs,aI x.fs,aI x.ls]) ⟨Wk.refl hs _,Wk.refl hs _,h.oh.wk hK hs,h.of.wk hK hs,h.ol.wk hK hs,trivial⟩,Wk.refl hs _,Wk.refl hs _,trivial⟩,rfl,rfl⟩
def Fs(b:Bk)(hb:BkFull b)(hfh:∀f∈b.X8,0<=f.h)(s:ZY)(hp:s.bJ.length<=1000000):
 aJ prog 58 [.rp (bC b),bF s] (if eH b s then .P' [aM ⟨0,0,[],[],[]⟩,bF ⟨⟨0,0,false⟩,[]⟩,vI 4]else .P' [aM (aP b s).1,bF (aP b s).2,vI 0]):=λU=>by
 refine e58.r (by simp[c58]) ?_;have hs:=aa.refl U;have h2:=hb.len;have hla:=iB b.atoms;have hec:=zU b hb s hp;rw[bF]at hec;refine ab.mix 12 ?_;apply sR;simp only[go_sem,seval,c58,bF];refine ad λi3 Z3 s3 a3 f3=>?_;replace hs:=hs.trans s3;simp only[go_sem,seval];refine ad λi4 Z4 s4 a4 f4=>?_;replace a3:=s4 _ _ a3;have z4:=hs.none f4;replace hs:=hs.trans s4;simp only[go_sem,seval];refine ad λi5 Z5 s5 a5 f5=>?_;have n35:=ao a3 f5;replace a3:=s5 _ _ a3;have n45:=ao a4 f5;replace a4:=s5 _ _ a4;have z5:=hs.none f5;replace hs:=hs.trans s5;simp only[go_sem,seval,a3];refine ab.ay rfl rfl rfl (hec _) ?_;by_cases hm:eH b s
 .rw[ar hm,ZG hm];have n54:=n45.symm;apply sR;simp only[go_sem,seval,a4,a5,ae n45,ae n54,uW];have Ye:=(hs.ax (o:=⟨37,5,[.agg [vI 0,vI 0,.aC,.aC,.aC]]⟩) z4).ax (o:=⟨45,4,[.agg [vI 0,vI 0,.bool false,.aC]]⟩) z5;exact⟨_,U,Ye,Wk.P' (vs':=[aM ⟨0,0,[],[],[]⟩,bF ⟨⟨0,0,false⟩,[]⟩,vI 4]) ⟨Wk.agg (vs':=[vI 0,vI 0,aI [],aI [],aI []]) ⟨Wk.refl Ye _,Wk.refl Ye _,Wk.aC 7,Wk.aC 7,Wk.aC 7,trivial⟩,Wk.agg (vs':=[vI 0,vI 0,.bool false,aG []]) ⟨Wk.refl Ye _,Wk.refl Ye _,Wk.refl Ye _,Wk.aC 7,trivial⟩,Wk.refl Ye _,trivial⟩,rfl,rfl⟩
 .rw[av hm,Zu hm];have ZC:kz b s:=Decidable.byContradiction λh=>hm (.inl h);have hat:0<=s.s.atom:=by rcases ZC.2 with h|h;exact h.1.1;omega
  have hph:∀f∈s.bJ,0<=f.h:=λf hf=>hfh f (oW _ _ ZC.1 f hf);have hro:=uQ hb s.s;have hr1:=gT hb s.s hat;have hbc:=Kg b hb s.s hat Z5;rw[aV]at hbc;apply sR;simp only[go_sem,seval,a3,bkE,kg];refine ab.call rfl rfl rfl hbc ?_;rintro r Z6 ⟨i1,vh,hv,rfl,hJ⟩;have c3:=hJ.sub _ _ a3;have xs:(bD b s.s hv).s=s.s:=rfl;have xb:(bD b s.s hv).body=(bw b s.s).body:=rfl;have xh:(bD b s.s hv).high=(bw b s.s).high:=rfl;have xl:(bD b s.s hv).ls=[]:=rfl;have xf:(bD b s.s hv).fs=[]:=rfl;have xk:(bD b s.s hv).kind=0:=rfl;have hs5:aa U Z5:=hs;by_cases h0:b.atoms=[]/\s.s.free=true
  .obtain⟨h01,h02⟩:=h0;have q1:((b.atoms.length:Int)=0)=True:=Yd (by rw[h01];rfl);rw[aP,ar ⟨h01,h02⟩];have hlc:=J9 b hb.toBkOk (bD b s.s hv) (by rw[xl];simp) (by rw[xh];have:=hro.high;omega) hJ;have e1:nk (y7 b (bD b s.s .aC))=nk (y7 b (bD b s.s hv)):=rfl;have e2:me b (bD b s.s .aC)=me b (bD b s.s hv):=rfl;rw[e1,e2];generalize y7 b (bD b s.s hv)=X at*;generalize me b (bD b s.s hv)=Z at*;rw[h02]at c3;apply sR;simp only[go_sem,seval,q1,hla,c3];refine ab.call rfl rfl rfl hlc ?_;rintro r Z7 ⟨vl',rfl,hJ7⟩;have d5:=hJ7.sub _ _ a5;apply sR;simp only[go_sem,seval,d5,bF,cP];have hJ8:=hJ7.ax a5 ⟨45,4,[.agg [vI Z.s.atom,vI Z.s.done,.bool Z.s.free,aG Z.bJ]]⟩;generalize hq8:C' Z7 i5 _=Y8 at*;have b1:=hJ8.row;rw[cZ]at b1;have b5:=hJ8.sub _ _ ag;have b4:=hJ8.sub i4 _ ((ae n45).trans a4);obtain⟨ch,sh⟩:=hJ8.oh.vc;obtain⟨cf,sf⟩:=hJ8.of.vc;obtain⟨cl,sl⟩:=hJ8.ol.vc;have n54:=n45.symm;refine ab.uA (by kernel_rfl) [0,1,2,3,4,5,6,7] [[],[0],[0,1],[0,1,2],[],[0,1,2,3],[0,1,2,3,4,5],[0,1,2,3,4,5,6]] [0,2,4,6,8,10,9,12,14] (by kernel_rfl) (by kernel_rfl) ?_;refine RE.Zy (n:=0) [9,12,14] [0,2,4,6,8,10] [⟨(.some 36),(.YH (.t 8)),.none⟩,⟨(.some 37),(.nilCheck (.t 36)),.none⟩,⟨(.some 38),(.YB .true 7 5 (.t 37)),.none⟩,⟨(.some 39),(.load .true 5 (.t 38)),.none⟩,⟨(.some 40),(.load .true 4 (.t 5)),.none⟩,⟨.none,(.store 5 (.t 4) (.t 39)),.none⟩] rfl rfl ?_;apply sG;simp only[go_sem,seval,b1,b4,b5];refine RE.chk rfl rfl rfl rfl rfl trivial (by simp only[go_sem,seval,b5,ae n54]) ?_;refine RE.Zy (n:=0) [] [12,14] [⟨.none,(.store 4 (.t 5) (.t 40)),.none⟩,⟨(.some 6),(.YH (.c (.int .i64 0))),.none⟩] rfl rfl ?_;apply sG;simp only[go_sem,seval,b5,ae n54];apply sR;simp only[go_sem,seval,uW,ae n45];exact((hJ8.ax ((ae n45).trans a4) _).ax ((ae n54).trans ag) _).ret (((hs5.ax z5).ax z4).ax z5) _ _
  .have hpr:aP b s=if rP b s then(nk { cb b s with kind:=2 },⟨⟨s.s.atom,s.s.done,s.s.free&&decide (s.s.atom<b.atoms.length)⟩,(dk (bw b s.s).body s.bJ 0).2.1⟩)else(nk (dM b (cb b s)),eG b (cb b s)):=by rw[aP,av h0]
   have htc:=Su s.bJ hp (bw b s.s).body hr1 (by have:=hro.body;omega) hph;obtain⟨g1,g2,g3,g4⟩:=uU (body:=(bw b s.s).body) s.bJ 0 (Int.le_refl _) (by omega) hph;have hlc:=NU b.atoms hb.YT s.s (by
    rcases ZC.2 with h|h
    .have:=zA hb.toBkOk h;omega
    .omega)
   rw[aV]at hlc;have b1:=hJ.row;simp only[cZ,bD]at b1;have hfw:=L9 b hb.toBkOk;have hX:∀x:Wx,x=({ bD b s.s hv with shift:=(dk (bw b s.s).body s.bJ 0).2.2 }:Wx).put (dk (bw b s.s).body s.bJ 0).1->nk { x with kind:=2 }=nk { cb b s with kind:=2 }/\nk (dM b x)=nk (dM b (cb b s))/\eG b x=eG b (cb b s):=λx hx=>by
    subst hx;exact⟨rfl,(tm b (cb b s) hv).1,(tm b (cb b s) hv).2⟩
   have hp1:rP b s->aP b s=_:=λh=>hpr.trans (ar h);have hp2:¬rP b s->aP b s=_:=λh=>hpr.trans (av h);clear hpr;unfold rP at hp1 hp2;generalize cb b s=TX at*;generalize dk (bw b s.s).body s.bJ 0=T at*;obtain⟨put,left,sh'⟩:=T;simp only at htc g1 g2 g3 g4 hX hp1 hp2;have hll:=fX left;have hq:(((b.atoms.length:Int)=0)=True/\s.s.free=false)\/(((b.atoms.length:Int)=0)=False/\True):=by
    by_cases he:b.atoms=[]
    .exact .inl ⟨Yd (by rw[he];rfl),by
      cases hfr:s.s.free
      .rfl
      .exact absurd ⟨he,hfr⟩ h0⟩
    .exact .inr ⟨T' (by have:=wH.2 he;omega),trivial⟩
   rcases hq with⟨q,hf⟩|⟨q,hf⟩
   all_goals
    apply sR;simp only[go_sem,seval,q,hf,hla,c3,b1,bkE];refine Go.cm rfl rfl rfl htc ?_;apply sG;simp only[go_sem,seval,b1];generalize hq7:C' Z6 i1 _=Y7;have hJ7:WxJ b Z5 i1 { bD b s.s hv with shift:=sh' } Y7 vh .aC .aC:=by
     rw[<-hq7];exact hJ.set _ rfl rfl rfl
    refine ab.call rfl rfl rfl (px b put (by omega) { bD b s.s hv with shift:=sh' } (by simp[bD]) (λf hf=>by
     have:=g2 f hf;have:=hro.high;have:=hro.body;exact ai (by show _<=f.y+(bw b s.s).high;omega) (by show f.y+(bw b s.s).high<=_;omega)) hJ7) ?_
    rintro-Z8 ⟨vl',hJ8⟩;obtain⟨x1,x2,x3⟩:=hX _ rfl;have c3:=hJ8.sub _ _ a3;have d5:=hJ8.sub _ _ a5;have b1:=hJ8.row;have ys:(Wx.put { bD b s.s hv with shift:=sh' } put).s=s.s:=rfl;have yb:(Wx.put { bD b s.s hv with shift:=sh' } put).body=(bw b s.s).body:=rfl;have yh:(Wx.put { bD b s.s hv with shift:=sh' } put).high=(bw b s.s).high:=rfl;have yw:(Wx.put { bD b s.s hv with shift:=sh' } put).shift=sh':=rfl;have yf:(Wx.put { bD b s.s hv with shift:=sh' } put).fs.length<=1000000:=by simp[Wx.put,bD]
    have yl:(Wx.put { bD b s.s hv with shift:=sh' } put).ls.length<=1000000:=by simp[Wx.put,bD];omega
    generalize Wx.put { bD b s.s hv with shift:=sh' } put=Y at*;rw[cZ]at b1;have n15:i1≠i5:=λe=>by have:=hJ8.no;rw[e,a5]at this;cases this
    have n51:=n15.symm;have n54:=n45.symm;have r1:Yl .i64 ((bw b s.s).body-sh'):=ai (by omega) (by have:=hro.body;omega);rw[<-yb]at r1 hp1 hp2;by_cases hfull:s.s.atom=b.atoms.length\/left≠[]\/sh'>0/\jO b.atoms s.s>Y.body-sh'
    .rw[hp1 hfull,<-x1];have hw:((s.s.atom=(b.atoms.length:Int))=True/\True/\True/\True)\/((s.s.atom=(b.atoms.length:Int))=False/\((left.length:Int)>0)=True/\True/\True)\/
      ((s.s.atom=(b.atoms.length:Int))=False/\((left.length:Int)>0)=False/\(sh'>0)=True/\(jO b.atoms s.s>Y.body-sh')=True):=by
      by_cases hA:s.s.atom=b.atoms.length
      .exact .inl ⟨Yd hA,trivial,trivial,trivial⟩
      by_cases hB:left=[]
      .obtain⟨hC,hD⟩:=(hfull.resolve_left hA).resolve_left (λh=>h hB);exact .inr (.inr ⟨T' hA,T' (by rw[hB];simp),Yd hC,Yd hD⟩)
      .exact .inr (.inl ⟨T' hA,Yd (by have:=wH.2 hB;omega),trivial,trivial⟩)
     obtain⟨VAL,hV⟩:∃VAL:Bool,VAL=(s.s.free&&decide (s.s.atom<b.atoms.length)):=⟨_,rfl⟩
     have n13:i3≠i1:=λe=>by have:=hJ8.no;rw[<-e,a3]at this;cases this
     cases hfr:s.s.free
     all_goals
      simp only[hfr,Bool.false_and,Bool.true_and]at hV;rw[hfr]at hlc;rcases hw with⟨qA,qB,qC,qD⟩|⟨qA,qB,qC,qD⟩|⟨qA,qB,qC,qD⟩
      all_goals
       apply sR;simp only[go_sem,seval,c3,d5,b1,hla,hll,qA,qB,qC,bkE,hfr,ae n51,ae n13,ae n35,cP,dH,dF]
       try
        refine Go.cm rfl rfl rfl hlc ?_;apply sG;simp only[go_sem,seval,c3,d5,b1,r1,qD,hla,bkE,hfr,ae n51,ae n13,ae n35,cP,dH,dF]
       generalize hq8:C' (C' Z8 i1 _) i5 _=Y8;have hJ8:WxJ b (C' Z5 i5 ⟨45,4,[.agg [vI s.s.atom,vI s.s.done,.bool VAL,aG left]]⟩) i1 { Y with kind:=2 } Y8 vh .aC vl':=by
        rw[<-hq8,hV];exact(hJ8.set { Y with kind:=2 } rfl rfl rfl).ax a5 _
       clear hq8;have b1:=hJ8.row;rw[cZ]at b1;have b5:=hJ8.sub _ _ ag;rw[hV]at b5;have b4:=hJ8.sub i4 _ ((ae n45).trans a4);obtain⟨ch,sh⟩:=hJ8.oh.vc;obtain⟨cf,sf⟩:=hJ8.of.vc;obtain⟨cl,sl⟩:=hJ8.ol.vc;refine ab.uA (by kernel_rfl) [0,1,2,3,4,5,6,7] [[],[0],[0,1],[0,1,2],[],[0,1,2,3],[0,1,2,3,4,5],[0,1,2,3,4,5,6]] [0,2,4,6,8,10,9,12,14] (by kernel_rfl) (by kernel_rfl) ?_;refine RE.Zy (n:=0) [9,12,14] [0,2,4,6,8,10] [⟨(.some 110),(.YH (.t 8)),.none⟩,⟨(.some 111),(.nilCheck (.t 110)),.none⟩,⟨(.some 112),(.YB .true 7 5 (.t 111)),.none⟩,⟨(.some 113),(.load .true 5 (.t 112)),.none⟩,⟨(.some 114),(.load .true 4 (.t 5)),.none⟩,⟨.none,(.store 5 (.t 4) (.t 113)),.none⟩] rfl rfl ?_;apply sG;simp only[go_sem,seval,b1,b4,b5];refine RE.chk rfl rfl rfl rfl rfl trivial (by simp only[go_sem,seval,b5,ae n54]) ?_;refine RE.Zy (n:=0) [] [12,14] [⟨.none,(.store 4 (.t 5) (.t 114)),.none⟩,⟨(.some 6),(.YH (.c (.int .i64 0))),.none⟩] rfl rfl ?_;apply sG;simp only[go_sem,seval,b5,ae n54];apply sR;simp only[go_sem,seval,uW,ae n45];exact((hJ8.ax ((ae n45).trans a4) _).ax ((ae n54).trans ag) _).ret (((hs5.ax z5).ax z4).ax z5) _ _
    .rw[hp2 hfull,<-x2,<-x3];have hA:¬s.s.atom=b.atoms.length:=λh=>hfull (.inl h);have hm':dG b.atoms s.s:=ZC.2.resolve_right λh=>hA h.1;have hw:((s.s.atom=(b.atoms.length:Int))=False/\((left.length:Int)>0)=False/\(sh'>0)=False/\True)\/((s.s.atom=(b.atoms.length:Int))=False/\((left.length:Int)>0)=False/\(sh'>0)=True/\(jO b.atoms s.s>Y.body-sh')=False):=by
      have hB:left=[]:=Decidable.byContradiction λh=>hfull (.inr (.inl h));have hB':((left.length:Int)>0)=False:=T' (by rw[hB];simp);by_cases hC:sh'>0
      .exact .inr ⟨T' hA,hB',Yd hC,T' λh=>hfull (.inr (.inr ⟨hC,h⟩))⟩
      .exact .inl ⟨T' hA,hB',T' hC,trivial⟩
     have hwf:=hfw Y (by rw[ys];exact hm') yf yl (by rw[yh];have:=hro.high;omega) (by rw[yb];have:=hro.body;omega) (by rw[yw];have:=hro.body;omega) hJ8;generalize dM b Y=X at*;generalize eG b Y=Z at*;rcases hw with⟨qA,qB,qC,qD⟩|⟨qA,qB,qC,qD⟩
     all_goals
      apply sR;simp only[go_sem,seval,c3,hla,qA,hll,qB,qC]
      try
       refine Go.cm rfl rfl rfl hlc ?_;apply sG;simp only[go_sem,seval,b1,r1,qD]
      refine ab.call rfl rfl rfl hwf ?_;rintro-Z9 ⟨vf',vl'',rfl,hJ9⟩;have e5:=hJ9.sub _ _ a5;apply sR;simp only[go_sem,seval,e5,bF,cP];have hJ8:=hJ9.ax a5 ⟨45,4,[.agg [vI Z.s.atom,vI Z.s.done,.bool Z.s.free,aG Z.bJ]]⟩;generalize hq8:C' Z9 i5 _=Y8 at*;have b1:=hJ8.row;rw[cZ]at b1;have b5:=hJ8.sub _ _ ag;have b4:=hJ8.sub i4 _ ((ae n45).trans a4);obtain⟨ch,sh⟩:=hJ8.oh.vc;obtain⟨cf,sf⟩:=hJ8.of.vc;obtain⟨cl,sl⟩:=hJ8.ol.vc;refine ab.uA (by kernel_rfl) [0,1,2,3,4,5,6,7] [[],[0],[0,1],[0,1,2],[],[0,1,2,3],[0,1,2,3,4,5],[0,1,2,3,4,5,6]] [0,2,4,6,8,10,9,12,14] (by kernel_rfl) (by kernel_rfl) ?_;refine RE.Zy (n:=0) [9,12,14] [0,2,4,6,8,10] [⟨(.some 117),(.YH (.t 8)),.none⟩,⟨(.some 118),(.nilCheck (.t 117)),.none⟩,⟨(.some 119),(.YB .true 7 5 (.t 118)),.none⟩,⟨(.some 120),(.load .true 5 (.t 119)),.none⟩,⟨(.some 121),(.load .true 4 (.t 5)),.none⟩,⟨.none,(.store 5 (.t 4) (.t 120)),.none⟩] rfl rfl ?_;apply sG;simp only[go_sem,seval,b1,b4,b5];refine RE.chk rfl rfl rfl rfl rfl trivial (by simp only[go_sem,seval,b5,ae n54]) ?_;refine RE.Zy (n:=0) [] [12,14] [⟨.none,(.store 4 (.t 5) (.t 121)),.none⟩,⟨(.some 6),(.YH (.c (.int .i64 0))),.none⟩] rfl rfl ?_;apply sG;simp only[go_sem,seval,b5,ae n54];apply sR;simp only[go_sem,seval,uW,ae n45];exact((hJ8.ax ((ae n45).trans a4) _).ax ((ae n54).trans ag) _).ret (((hs5.ax z5).ax z4).ax z5) _ _
def blk(cnt:Nat->Nat)(a n:Nat):List Int:=(List.range' a n).flatMap λi=>List.replicate (cnt i) (i:Int)
def kJ(cnt:Nat->Nat)(a:Nat):blk cnt a 0=[]:=rfl
def ik(cnt:Nat->Nat)(a n:Nat):blk cnt a (n+1)=List.replicate (cnt a) (a:Int)++blk cnt (a+1) n:=by
 simp[blk,List.range'_succ]
def oQ{f g:Nat->Nat}:∀(n a:Nat),(∀i,a<=i->i<a+n->f i=g i)->blk f a n=blk g a n
 |0,_,_=>rfl
 |n+1,a,h=>by
  rw[ik,ik,h a (YQ a) (by omega),oQ n (a+1) (λi h1 h2=>h i (by omega) (by omega))]
def Dn(cnt:Nat->Nat):∀(n a m:Nat),blk cnt a (n+m)=blk cnt a n++blk cnt (a+n) m
 |0,a,m=>by simp[kJ]
 |n+1,a,m=>by
  rw[show n+1+m=(n+m)+1 by omega,ik,ik,Dn cnt n (a+1) m,lz,show a+1+n=a+(n+1) by omega]
def NF(f g:Nat->Nat)(a n m:Nat):blk f a n++blk g (a+n) m=blk (λi=>if i<a+n then f i else g i) a (n+m):=by
 rw[Dn];congr 1
 .exact oQ n a λi h1 h2=>by simp[h2]
 .exact oQ m (a+n) λi h1 h2=>by simp[show¬i<a+n by omega]
structure AtI(C:Int)(x:Zj):Prop where
 y0:0<=x.y
 y1:x.y<=C
 h0:1<=x.h
 h1:x.h<=1099511627776
def AtI.mono{B C:Int}{x:Zj}(h:AtI B x)(hB:B<=C):AtI C x:=⟨h.y0,Int.le_trans h.y1 hB,h.h0,h.h1⟩
def nH(a:Nat)(h:Int):∀(L:List Ln) (s:WS),(iG a h s L).atoms=s.atoms++L.map (eM a h)
 |[],s=>by simp[iG]
 |x::L,s=>by
  have:=nH a h L (s.put (eM a h x));simp only[iG,j5]at this|-;rw[this];simp[WS.put]
def MR(a:Nat)(h:Int)(L:List Ln):(L.map (eM a h)).map (·.node)=List.replicate L.length (a:Int):=by
 rw[List.map_map]
 induction L with
 |nil=>rfl
 |cons x L ih=>rw[dS,ih];rfl
def GR{l:List Nd}{a e:Nat}(he:e<=l.length)(h:bQ l a e=true)(hae:a<e)(hk:(YJ l a).kind≠1):YO l a<=1:=by
 have ha:a<l.length:=by omega
 rw[jD ha]at hk;rw[bQ,dif_pos hae]at h;simp only[Zq6 ha]at h;split at h
 .simp only[Ba,kS,Zq9]at h;have:=h.1.1.resolve_left hk;simp only[YO,Zq6 ha,Option.map_some,Option.getD_some];omega
 .cases h
structure B2(l:List Nd)(s t:WS)(a e C:Nat):Prop where
 YT:∀x∈t.atoms,AtI (1099511627776*(C:Int)) x
 nodes:∃cnt,t.atoms.map (·.node)=s.atoms.map (·.node)++blk cnt a (e-a)/\∀i,a<=i->i<e->okN (YJ l i) (cnt i)=true
def B2.join{l:List Nd}{s t u:WS}{a m e C D:Nat}(h1:a<=m)(h2:m<=e)(hA:B2 l s t a m C)(hB:B2 l t u m e D):B2 l s u a e D:=by
 obtain⟨_,f,hf,hfo⟩:=hA;obtain⟨hat,g,hg,hgo⟩:=hB;refine⟨hat,λi=>if i<m then f i else g i,?_,λi h3 h4=>?_⟩
 .rw[hg,hf,lz];congr 1;obtain⟨n,rfl⟩:∃n,m=a+n:=⟨m-a,by omega⟩
  obtain⟨k,rfl⟩:∃k,e=a+n+k:=⟨e-(a+n),by omega⟩
  rw[show a+n-a=n by omega,show a+n+k-(a+n)=k by omega,show a+n+k-a=n+k by omega,NF]
 .simp only;split
  .exact hfo i h3 (by omega)
  .exact hgo i (by omega) h4
def uV{l:List Nd}{rs:List Rm}(hD:DOk l rs):∀(k a e:Nat) (s:WS) (C:Nat),e-a<=k->a<=e->e<=l.length->bQ l a e=true->fL s C->(∀x∈s.atoms,AtI (1099511627776*(C:Int)) x)->B2 l s (cS l rs k a e s) a e (C+cst l a e)
 |0,a,e,s,C,hk,hae,_,_,h,hx=>by
  obtain rfl:a=e:=by omega
  refine⟨λx YD=>(hx x YD).mono (by omega),λ_=>0,by simp[cS,kJ],λi h1 h2=>by omega⟩
 |k+1,a,e,s,C,hk,hae,he,hr,h,hx=>by
  rw[cS];by_cases H':a<e
  .rw[ar H'];obtain⟨h1,h2⟩:=cF he hr (YQ a) H';obtain⟨h3,h4⟩:=dq he hr H';have Yx:NOk (YJ l a):=by rw[jD (by omega)];exact gi hD.isb (by omega)
   have hc1:cst l a e=cst l a (a+(YO l a).toNat)+cst l (a+(YO l a).toNat) e:=mj (by omega) (by omega) he;have hc2:cst l a (a+(YO l a).toNat)=4+(YJ l a).words.length+cst l (a+1) (a+(YO l a).toNat):=xJ (by omega) (by omega);have step:∀t,fL t (C+cst l a (a+(YO l a).toNat))->B2 l s t a (a+(YO l a).toNat) (C+cst l a (a+(YO l a).toNat))->B2 l s (cS l rs k (a+(YO l a).toNat) e t) a e (C+cst l a e):=λt ht hA=>by
    rw[hc1,<-Nat.add_assoc];exact hA.join (by omega) (by omega) (uV hD k _ e t _ (by omega) (by omega) he h3 ht hA.YT)
   have one:∀(t:WS) (n:Nat),okN (YJ l a) n=true->(YO l a).toNat=1->t.atoms.map (·.node)=s.atoms.map (·.node)++List.replicate n (a:Int)->(∀x∈t.atoms,AtI (1099511627776*((C+cst l a (a+(YO l a).toNat):Nat):Int)) x)->B2 l s t a (a+(YO l a).toNat) (C+cst l a (a+(YO l a).toNat)):=λt n hn ZM hm hat=>by
    refine⟨hat,λ_=>n,?_,λi h5 h6=>?_⟩
    .rw[hm,ZM,show a+1-a=1 by omega,ik,kJ,lH]
    .obtain rfl:i=a:=by omega
     exact hn
   obtain⟨⟨hf,p1,p2,p3,p4⟩,p5,p6⟩:=h;have hI:fL s C:=⟨⟨hf,p1,p2,p3,p4⟩,p5,p6⟩
   by_cases k1:(YJ l a).kind=1
   .rw[ar k1];have hI2:=gv hD k (a+1) (a+(YO l a).toNat) _ _ (by omega) (by omega) (by omega) h4 (eN hI Yx.st);have hA2:=uV hD k (a+1) (a+(YO l a).toNat) (s.enter (YJ l a).st) (C+2) (by omega) (by omega) (by omega) h4 (eN hI Yx.st) (λx YD=>(hx x YD).mono (by omega));refine step _ ((ky hI2 Yx.st).more (by omega)) ?_;obtain⟨hat,cnt,hc,hco⟩:=hA2;refine⟨λx YD=>(hat x YD).mono (by omega),λi=>if i=a then 0 else cnt i,?_,λi h5 h6=>?_⟩
    .have e1:(s.enter (YJ l a).st).atoms=s.atoms:=rfl;rw[e1]at hc;show(cS l rs k (a+1) (a+(YO l a).toNat) (s.enter (YJ l a).st)).atoms.map (·.node)=_;rw[hc];congr 1;obtain⟨m,hm⟩:∃m,(YO l a).toNat=m+1:=⟨(YO l a).toNat-1,by omega⟩
     rw[hm,show a+(m+1)-(a+1)=m by omega,show a+(m+1)-a=m+1 by omega,ik];simp only[if_true,List.replicate_zero,kA];exact oQ m (a+1) λi h5 h6=>by simp[show i≠a by omega]
    .simp only;split
     .rename_i e;subst e;simp[okN,k1]
     .exact hco i (by omega) h6
   .rw[av k1];have ZM:(YO l a).toNat=1:=by
     have:=GR he hr H' k1;omega
    by_cases k2:(YJ l a).kind=2
    .rw[ar k2];refine step _ ((mr hI Yx a).more (by omega)) ?_;have hl:=Yx.line;obtain⟨hw0,hl1⟩:=Yx.text k2;have hLl:=kT s.B' (YJ l a).words (YJ l a).space (YJ l a).line (dY rs a) (YJ l a).words.length 0 (s.Yk.y+s.Yk.m);have hLb:=jW (ws:=(YJ l a).words) (space:=(YJ l a).space) (s:=dY rs a) (λf hf'=>(hf f hf').yB) hl.1 (YJ l a).words.length 0 (s.Yk.y+s.Yk.m);have hLn:cV s.B' (YJ l a).words (YJ l a).space (YJ l a).line (dY rs a) (YJ l a).words.length 0 (s.Yk.y+s.Yk.m)≠[]:=by
      obtain⟨m,hm⟩:∃m,(YJ l a).words.length=m+1:=⟨(YJ l a).words.length-1,by omega⟩
      rw[hm,cV,ar (by omega)];simp
     have hte:(s.text rs a (YJ l a)).atoms=s.atoms++(cV s.B' (YJ l a).words (YJ l a).space (YJ l a).line (dY rs a) (YJ l a).words.length 0 (s.Yk.y+s.Yk.m)).map (eM a (YJ l a).line):=nH a _ _ s;generalize cV s.B' (YJ l a).words (YJ l a).space (YJ l a).line (dY rs a) (YJ l a).words.length 0 (s.Yk.y+s.Yk.m)=L at*;have hL0:=wH.2 hLn;have hmul:(YJ l a).line*((YJ l a).words.length:Int)<=1099511627776*((YJ l a).words.length:Int):=Int.mul_le_mul_of_nonneg_right hl.2 (by omega);refine one _ L.length (by simp only[okN,k2,if_true,Zq9];omega) ZM (by rw[hte,gl,MR]) (λx YD=>?_);rw[hte]at YD;rcases dc.1 YD with YD|YD
     .exact(hx x YD).mono (by omega)
     .obtain⟨y,hy,rfl⟩:=gg.1 YD;have:=hLb y hy;refine⟨?_,?_,hl1,hl.2⟩<;>simp only[eM]<;>omega
    .rw[av k2];by_cases k3:(YJ l a).kind=3
     .rw[ar k3];refine step _ ((lU hI Yx a).more (by omega)) ?_;have hyr:=fI (w:=(YJ l a).w) (high:=(YJ l a).h) (y:=s.Yk.y+s.Yk.m) (s:=dY rs a) (λf hf'=>(hf f hf').yB);have hbx:=Yx.box (.inl k3);have hh:=Yx.h;refine one _ 1 (by simp[okN,k3]) ZM (by simp[WS.mono,WS.put]) (λx YD=>?_);simp only[WS.mono,WS.put]at YD;rcases dc.1 YD with YD|YD
      .exact(hx x YD).mono (by omega)
      .simp only[er]at YD;subst YD;refine⟨?_,?_,?_,?_⟩<;>simp only<;>omega
     .rw[av k3];have k4:(YJ l a).kind=4:=by rcases Yx.kind with h|h|h|h;exact absurd h k1;exact absurd h k2;exact absurd h k3;exact h
      refine step _ ((kG hD hI (by omega) Yx k4).more (by omega)) ?_;exact one _ 0 (by simp[okN,k4]) ZM (by simp[WS.float]) (λx YD=>(hx x YD).mono (by omega))
  .rw[av H'];obtain rfl:a=e:=by omega
   exact⟨λx YD=>(hx x YD).mono (by omega),λ_=>0,by simp[kJ],λi h1 h2=>by omega⟩
def Lq(i:Int)(L:List Int)(h:∀x∈L,x≠i):∀k,tG i (List.replicate k i++L)=k
 |0=>by
  cases L with
  |nil=>rfl
  |cons x L=>rw[List.replicate_zero,kA,tG,av (h x (by simp))]
 |k+1=>by rw[List.replicate_succ,List.cons_append,tG,ar rfl,Lq i L h k]
def Au{cnt:Nat->Nat}:∀{n a:Nat} {x:Int},x∈blk cnt a n->∃i:Nat,x=i/\a<=i/\i<a+n
 |0,_,_,h=>by simp[kJ]at h
 |n+1,a,x,h=>by
  rw[ik]at h;rcases dc.1 h with h|h
  .exact⟨a,(List.mem_replicate.1 h).2,by omega,by omega⟩
  .obtain⟨i,h1,h2,h3⟩:=Au h;exact⟨i,h1,by omega,by omega⟩
def CJ{cnt:Nat->Nat}{of:List Int}:∀(r:List Nd) (i YT:Nat),of.drop YT=blk cnt i r.length->YT<=of.length->(∀j (h:j<r.length),okN r[j] (cnt (i+j))=true)->B0 of r i YT=true
 |[],i,YT,h,hl,_=>by
  have:of.length<=YT:=by
   have:=congrArg List.length h;simp[kJ]at this;omega
  simp[B0];omega
 |x::r,i,YT,h,hl,ho=>by
  rw[ZK,ik]at h;have ht:mF of YT i=cnt i:=by
   rw[mF,h];exact Lq _ _ (λy hy=>by obtain⟨j,h1,h2,_⟩:=Au hy;omega) _
  rw[B0,ht];have h0:=ho 0 (by simp);simp only[List.getElem_cons_zero,Nat.add_zero]at h0;rw[h0,Bool.true_and];have hd:of.drop (YT+cnt i)=blk cnt (i+1) r.length:=by
   rw[<-List.drop_drop,h,Eu (by simp)];simp
  refine CJ r (i+1) _ hd ?_ (λj hj=>?_)
  .have:=congrArg List.length h;simp at this;omega
  .have:=ho (j+1) (by simpa using hj);simp only[List.getElem_cons_succ]at this
   rwa [show i+1+j=i+(j+1) by omega]
structure Tw(l:List Nd)(w:Int):Prop where
 may:rZ l ((cp l w).atoms.map (·.node))=true
 nod:∀a∈(cp l w).atoms,0<=a.node/\a.node<l.length
 YT:∀x∈(cp l w).atoms,AtI (1099511627776*((cst l 0 l.length:Nat):Int)) x
 len:(cp l w).atoms.length<=cst l 0 l.length
 flen:(cp l w).B'.length<=cst l 0 l.length
 flo:∀f∈(cp l w).B',FOk (1099511627776*((cst l 0 l.length:Nat):Int)) f
def AJ{l:List Nd}(hb:Zd l=true)(hn:l.length<=2000){w:Int}(h1:1<=w)(h2:w<=1099511627776):Tw l w:=by
 have hD:=xc hb hn h1 h2;have hr:bQ l 0 l.length=true:=by simp only[Zd,Ba]at hb;exact hb.2
 have hI:fL ⟨[],[],0,⟨0,0⟩⟩ 0:=⟨⟨by simp,by simp,by simp,by simp,by simp⟩,by simp,by simp⟩
 have hA:=uV hD l.length 0 l.length ⟨[],[],0,⟨0,0⟩⟩ 0 (by omega) (by omega) (YQ _) hr hI (by simp);have hJ:=gv hD l.length 0 l.length ⟨[],[],0,⟨0,0⟩⟩ 0 (by omega) (by omega) (YQ _) hr hI;rw[gY]at hA hJ;have ha:(cp l w).atoms=(cS l (gz l w) l.length 0 l.length ⟨[],[],0,⟨0,0⟩⟩).atoms:=rfl;have hf:(cp l w).B'=(cS l (gz l w) l.length 0 l.length ⟨[],[],0,⟨0,0⟩⟩).B'.map (oH (cS l (gz l w) l.length 0 l.length ⟨[],[],0,⟨0,0⟩⟩).atoms.length):=rfl;obtain⟨hat,cnt,hc,hco⟩:=hA;rw[List.map_nil,kA,Nat.sub_zero]at hc;refine⟨?_,λa hm=>?_,by rw[ha];exact hat,by rw[ha];exact hJ.YT,by rw[hf,cL];exact hJ.fl,λf hm=>?_⟩
 .rw[ha,hc];refine CJ (cnt:=cnt) l 0 0 (by simpa using hc) (Nat.zero_le _) (λj hj=>?_);have:=hco j (Nat.zero_le _) hj;rw[jD hj]at this
  rwa [gY]
 .have hm':a.node∈blk cnt 0 l.length:=by rw[<-hc,<-ha];exact List.mem_map_of_mem hm
  obtain⟨i,e,_,hi⟩:=Au hm';omega
 .rw[hf]at hm;obtain⟨g,hg,rfl⟩:=gg.1 hm;have:=hJ.bd.fl g hg;exact⟨this.1,this.2,this.3,this.4,this.5,this.6,this.7,this.8⟩
def wV:∀(l:List Nd),(∀x∈l,NOk x)->((l.map λn=>4+n.words.length).sum:Nat)<=4*(l.length:Int)+lF l/\∀x∈l,(x.words.length:Int)<=lF l
 |[],_=>by simp[lF]
 |x::l,h=>by
  obtain⟨h1,h2⟩:=wV l (λy hy=>h y (by simp[hy]));have hx:=h x (by simp);have hp:(x.words.length:Int)<=pof x/\0<=pof x:=by
   unfold pof;by_cases k1:x.kind=1
   .have:=hx.nowords (by omega);simp[k1,this]
   .by_cases k2:x.kind=2
    .simp[k2]
    .have:=hx.nowords k2;simp[k1,k2,this]
  have hp0:0<=lF l:=by
   have:∀l:List Nd,0<=lF l:=by
    intro l
    induction l with
    |nil=>simp[lF]
    |cons y l ih=>
     have:0<=pof y:=by unfold pof;split;omega;split;omega;omega
     simp only[lF];omega
   exact this l
  refine⟨by simp only[dS,List.sum_cons,ZK,lF];omega,λy hy=>?_⟩;rcases cg.1 hy with rfl|hy
  .simp only[lF];omega
  .have:=h2 y hy;simp only[lF];omega
structure Tp(l:List Nd):Prop where
 isb:Zd l=true
 len:l.length<=2000
 words:∀x∈l,x.words.length<=2000
 cst:cst l 0 l.length<=10000
def Av{l:List Nd}(h:iu l=0):Tp l:=by
 unfold iu at h;split at h
 .rename_i hb;split at h
  .cases h
  .rename_i hc;have YU:l.all Nd.ok=true:=by simp only[Zd,Ba]at hb;exact hb.1
   rw[jr,ar hb,xI l YU l.length (YQ _),hU]at hc;simp only[not_or]at hc;obtain⟨h1,h2⟩:=wV l (λx hx=>by obtain⟨i,hi,rfl⟩:=List.getElem_of_mem hx;exact gi hb hi);refine⟨hb,by omega,λx hx=>by have:=h2 x hx;omega,?_⟩;have:Vc.cst l 0 l.length=(l.map λn=>4+n.words.length).sum:=by unfold Vc.cst;rw[hU,yq]
   omega
 .cases h
open Go.Proofs Go.Proofs.Tryz
def ab.Np{P:Program}{n:Nat}{Q:St->Prop}{s:Nat->V}{U K:af}{todo:List It}(l ds:List Nat){e sz:Nat}{v:V}{rows:List V}(hK:aa K U)(ho:aL K U e sz v rows)
 (hs:∀d∈ds,s d=v)(hr:ab P n todo ⟨λi=>if ds.contains i then .sl sz rows else yX l s i,K⟩ Q):ab P n todo ⟨s,U⟩ Q:=by
 refine ab.weaken ⟨hK,λi=>?_⟩ hr;show Wk U K (s i) _;by_cases hi:ds.contains i=true
 .simp only[ar hi];rw[hs i (by simpa using hi)];exact ho.wk (aa.refl K) hK
 .simp only[av hi];unfold yX;split
  .exact Wk.refl hK _
  .exact Wk.undef _
def ofR(l:List Nd)(w:Int):List Int:=(cp l w).atoms.map (·.node)
def aY(l:List Nd)(w h:Int):Bk:=⟨l,w,h,(cp l w).atoms,(cp l w).B',(cp l w).Yg,ry l (ofR l w)⟩
def Cx(n:Int):Prop:=1<=n/\n<=1099511627776
instance (n:Int):Decidable (Cx n):=by unfold Cx;infer_instance
def eu(l:List Nd)(w h:Int):Int:=if¬(Cx w/\Cx h)then 3 else if iu l≠0 then iu l else if(jr l).1.Ya>mulR (iE l h) 32768 then 2 else 0
def Ey(l:List Nd)(w h:Int):V:=if eu l w h=0 then .rp (bC (aY l w h))else .nilp
def fN.Ip{K U:af}{id:Nat}{o:Ob}(hK:K id≠none):∀{l:List Nd} {rows:List V},fN K U l rows->fN K (C' U id o) l rows
 |[],[],_=>trivial
 |_::_,_::_,⟨⟨w,h1,h2⟩,h⟩=>⟨⟨w,h1,h2.ae hK⟩,fN.Ip hK h⟩
 |[],_::_,h=>h.elim
 |_::_,[],h=>h.elim
def DJ.Ip{K U:af}{id:Nat}{o:Ob}(hK:K id≠none){v:V}{l:List Nd}(h:DJ K U v l):DJ K (C' U id o) v l:=by
 obtain⟨rows,ho,hr⟩:=h;exact⟨rows,ho.ae hK,hr.Ip hK⟩
def mu{α:Type}{f:α->V}(h:∀a,(f a).ct=true):∀l:List α,cd (l.map f)=true
 |[]=>rfl
 |a::l=>by simp only[dS,cd,h a,mu h l,Bool.and_self]
def Xs(l:List Int)(U:af):bB U false 1 (.rp (bl l))=some (bl l):=rfl
def xA(vn:V)(w h:Int)(va vf:V)(ht:Int)(vb:V):Ob:=⟨132,7,[.agg [vn,vI w,vI h,va,vf,vI ht,vb]]⟩
def Jw{U J:af}{ib:Nat}{b:Bk}{vn:V}(hs:aa U J)(z:U ib=none)(hr:J ib=some (xA vn b.w b.h (br b.atoms) (aG b.X8) b.Yg (bE b.Ym)))(ho:DJ (aU U ib) J vn b.nodes):
 ak (.P' [.ptr ib 0 0,vI 0]) J λr Z'=>r=.P' [.rp (bC b),vI 0]/\Z'=U:=by
 have hN:∀id,aU U ib id=none->U id=none:=λid h=>(aF.1 h).2;have n1:cd [br b.atoms,aG b.X8,vI b.Yg,bE b.Ym]=true:=by
  have a1:(br b.atoms).ct=true:=mu (f:=dh) (λ_=>rfl) b.atoms;have a2:(aG b.X8).ct=true:=mu (f:=aK) (λ_=>rfl) b.X8;have a3:(bE b.Ym).ct=true:=mu (f:=e8) (λ_=>rfl) b.Ym;simp only[cd,a1,a2,a3];rfl
 have hf:Fz J (λid=>U id=none) (.P' [.ptr ib 0 0,vI 0]) (.P' [.rp (bC b),vI 0]):=by
  refine .P' _ _ (.cons _ _ _ _ (.ptr ib 0 _ _ _ hr z rfl (.agg _ _ ?_)) (FzL.same [vI 0] rfl));exact .cons _ _ _ _ (ho.fz hN) (.cons _ _ _ _ (.same _ rfl) (.cons _ _ _ _ (.same _ rfl) (FzL.same _ n1)))
 exact⟨_,U,hs,hf.wk hs (λ_ h=>h),rfl,rfl⟩
def N4(l:List Nd)(hl:dU l)(w h:Int):aJ prog 23 [aH l,vI w,vI h] (.P' [Ey l w h,vI (eu l w h)]):=λU=>by
 refine e23.r (by simp[c23]) ?_;have hs:=aa.refl U;have bad:∀n:Int,eu l w h=n->n≠0->(Ey l w h=.nilp/\eu l w h=n):=λn hn h0=>⟨by rw[Ey,av (by rw[hn];exact h0)],hn⟩
 refine ab.mix 16 ?_;by_cases hw:Cx w
 .have mw:=si w;rw[show decide (1<=w/\w<=1099511627776)=true from ZG hw]at mw;apply sR;simp only[go_sem,seval,c23];refine ab.ay rfl rfl rfl (mw _) ?_;apply sR;simp only[go_sem,seval];by_cases hh:Cx h
  .have mh:=si h;rw[show decide (1<=h/\h<=1099511627776)=true from ZG hh]at mh;refine ab.ay rfl rfl rfl (mh _) ?_;apply sR;simp only[go_sem,seval];refine ab.ay rfl rfl rfl (DN l hl _) ?_;by_cases hc:iu l=0
   .have q:(iu l≠0)=False:=T' (λh=>h hc);have hck:=DN l hl;rw[hc]at hck q|-;apply sR;simp only[go_sem,seval,q];refine ab.ay rfl rfl rfl (CN l hl _) ?_;apply sR;simp only[go_sem,seval,Sm.cells];refine ad λi9 Z9 s9 a9 f9=>?_;have z9:=hs.none f9;replace hs:=hs.trans s9;simp only[go_sem,seval,a9];generalize Zs:C' _ i9 _=Y9;replace a9:=(congrFun Zs i9).symm.trans ag;replace hs:=Eq.subst (motive:=aa _) Zs (hs.ax z9);clear Zs;refine Go.cm rfl rfl rfl (I4 l hl h) ?_;apply sG;simp only[go_sem,seval];refine Go.cm rfl rfl rfl (Uh (iE l h) 32768) ?_;have hE:eu l w h=if(jr l).1.Ya>mulR (iE l h) 32768 then 2 else 0:=by rw[eu,av (λh=>h ⟨hw,hh⟩),av (λh=>h hc)]
    by_cases hlim:(jr l).1.Ya>mulR (iE l h) 32768
    .have q1:((jr l).1.Ya>mulR (iE l h) 32768)=True:=Yd hlim;obtain⟨e1,e2⟩:=bad 2 (by rw[hE,ar hlim]) (by decide);rw[e1,e2];apply sG;simp only[go_sem,seval,q1];exact ak.pure hs rfl
    have q1:((jr l).1.Ya>mulR (iE l h) 32768)=False:=T' hlim;have e2:eu l w h=0:=by rw[hE,av hlim]
    have e1:Ey l w h=.rp (bC (aY l w h)):=by rw[Ey,ar e2]
    rw[e1,e2];obtain⟨hisb,hn2,hwo,hcs⟩:=Av hc;have hG:=AJ hisb hn2 hw.1 hw.2;have hfl:=QK l hl hisb hn2 (λx hx=>by have:=hwo x hx;omega) (by omega) hck w hw.1 hw.2;apply sG;simp only[go_sem,seval,q1];refine ab.call rfl rfl rfl (Na l hl.1 _) ?_;rintro vn Z10 ⟨hs10,ho10⟩;replace ho10:=ho10.N7 hs;replace hs:=hs.trans hs10;obtain⟨cn,sn⟩:=ho10.vc;have hnl:=ho10.len;rw[cL]at hnl;apply sR;simp only[go_sem,seval,cn,sn];refine ad λi46 Z46 s46 a46 f46=>?_;have z46:=hs.none f46;replace hs:=hs.trans s46;have ho46:aL (aU U i46) Z46 59 20 vn (l.map jE):=by
     rcases ho10 with h|⟨id,h3,h4,h5⟩
     .exact .inl h
     .exact .inr ⟨id,h3,s46 _ _ h4,aF.2 ⟨λe=>(by rw[e,f46]at h4;cases h4),h5⟩⟩
    have k46:aU U i46 i46≠none:=λh=>(aF.1 h).1 rfl;simp only[go_sem,seval,a46,hnl];refine ab.fj (λst=>aa U st.U/\DJ (aU U i46) st.U vn l/\st.U i46=some (xA vn w h .aC .aC 0 .aC)/\st.s 0=aH l/\st.s 1=vI w/\st.s 11=.ptr i46 0 0)
     (λm st=>∃(i:Nat) (rows:List V),i<=l.length/\m=l.length-i/\aa U st.U/\aL (aU U i46) st.U 59 20 vn rows/\rows.length=l.length/\fN (aU U i46) st.U (l.take i) (rows.take i)/\rows.drop i=(l.drop i).map jE/\st.U i46=some (xA vn w h .aC .aC 0 .aC)/\
       st.s 0=aH l/\st.s 1=vI w/\st.s 11=.ptr i46 0 0/\st.s 51=vI l.length/\st.s 52=vI i) l.length ?_ ?_ ?_
    .exact⟨0,l.map jE,by omega,rfl,hs,ho46,by simp,trivial,by simp,a46,rfl,rfl,rfl,rfl,rfl⟩
    .clear hs ho46 a46 ho10 a9;rintro m ⟨S,J⟩ ⟨i,rows,hi,rfl,hs,ho,hn,hr,hd,hb,t0,t1,t11,t51,t52⟩;simp only at hs ho hr hb t0 t1 t11 t51 t52;refine ab.mix 60 ?_;by_cases H':i<l.length
     .have q:((i:Int)<l.length)=True:=Yd;obtain⟨id,rfl,O',hkid⟩:∃id,vn=.own id 0 rows.length/\J id=some ⟨59,20,rows⟩/\aU U i46 id=none:=by
       rcases ho with⟨_,h0⟩|h
       .rw[h0]at hn;simp at hn;omega
       .exact h
      have hdc:(l.drop i)=l[i]::l.drop (i+1):=ia H';have hw':=hwo _ (Zr H');have Zb:l.take (i+1)=l.take i++[l[i]]:=Zq0 H';have hnd:=λU=>jX l H' U;generalize hxe:l[i]=x at*;have hrow':rows[i]?=some (.agg x.cells):=by
       have:(rows.drop i)[0]?=some (jE x):=by rw[hd,hdc];rfl
       rw[L5]at this;exact this
      have YA:id≠i46:=(aF.1 hkid).1;have hio:∀X':af,X' id=some ⟨59,20,rows⟩->bo X' 20 (.own id 0 rows.length) (.int .i64 i)=some (.ptr id i 0):=λX' h=>lg h (by omega);have r1:Yl .i64 ((i:Int)+1):=ai;rw[xA]at hb;apply sR;simp only[go_sem,seval,t51,t52,q,cP];refine ab.uA (by kernel_rfl) [0,1,2,3,4,5,6,7,8,9,10,11,12,13] [[],[0],[0,1],[0,1,2],[],[],[],[5,6],[5,6,7],[5,6,7,8],[5,6,7,8,9],[0,1,2,3,4,5,6,7,8,9,10],[0,1,2,3,4,5,6,7,8,9,10,11],[0,1,2,3,4,5,6,7,8,9,10,11,12]] [0,2,4,6,8,10,12,14,16,18,20,7,22,24,26] (by kernel_rfl) (by kernel_rfl) ?_;refine RE.Zy (n:=0) [20,7,22,24,26] [0,2,4,6,8,10,12,14,16,18] [⟨(.some 55),(.YH (.t 11)),.none⟩,⟨(.some 56),(.nilCheck (.t 55)),.none⟩,⟨(.some 57),(.YB .false 0 1 (.t 56)),.none⟩,⟨(.some 58),(.load .false 1 (.t 57)),.none⟩,⟨(.some 59),(.YH (.t 12)),.none⟩,⟨(.some 60),(.YH (.t 0)),.none⟩,⟨(.some 61),(.YH (.t 12)),.none⟩,⟨(.some 62),(.idxA 20 (.t 60) (.t 61)),.none⟩,⟨(.some 63),(.YB .false 16 1 (.t 62)),.none⟩,⟨(.some 64),(.load .false 1 (.t 63)),.none⟩] rfl rfl ?_;apply sG;simp only[go_sem,seval,t0,t11,hb,hnd,Nd.cells,Xs];refine RE.call rfl rfl rfl rfl rfl (ID x.words (by omega) _) ?_;rintro wv Z2 ⟨hs2,hw2⟩;simp only at hs2 hw2;have hid2:=hs2 _ _ O';have Zl:=hs2 _ _ hb;obtain⟨cw,sw⟩:=hw2.vc;have hio2:=hio _ hid2;refine RE.chk rfl rfl rfl rfl rfl trivial (by simp only[go_sem,seval,Zl]) ?_;refine RE.Zy (n:=0) [] [22,24,26] [⟨(.some 66),(.idxA 20 (.t 58) (.t 59)),.none⟩,⟨(.some 67),(.YB .false 16 1 (.t 66)),.none⟩,⟨.none,(.store 1 (.t 67) (.t 65)),.none⟩] rfl rfl ?_;apply sG;simp only[go_sem,seval,hio2,hid2,hrow',Nd.cells,cw,sw];have hsf:aa U (C' Z2 id ⟨59,20,rows.set i (ndW x wv)⟩):=(hs.trans hs2).ax (aF.1 hkid).2;have hk2:∀j,j≠id->∀o,Z2 j=some o->C' Z2 id ⟨59,20,rows.set i (ndW x wv)⟩ j=some o:=λj hj o hjo=>by rw[ae hj];exact hjo
      have h1:=(hr.mono hs2).kept hid2 hk2;have h2:aL (aU U i46) (C' Z2 id ⟨59,20,rows.set i (ndW x wv)⟩) 3 1 wv (x.words.map vI):=by
       rcases hw2 with h|⟨iw,e1,e2,e3⟩
       .exact .inl h
       .have n1:iw≠id:=λe=>by rw[e,hid2]at e2;simp at e2
        refine .inr ⟨iw,e1,by rw[ae n1];exact e2,aF.2 ⟨λe=>(by rw[e,hb]at e3;cases e3),hs.none e3⟩⟩
      have h3:(rows.set i (ndW x wv)).take (i+1)=rows.take i++[ndW x wv]:=by
       rw[Zq0 (by simp;omega),List.take_set_of_le (by omega)];simp
      apply sR;simp only[go_sem,seval,t0,t1,t11,t51,t52,r1];refine⟨_,?_,i+1,rows.set i (ndW x wv),by omega,rfl,hsf,.inr ⟨id,by rw[List.length_set],ag,hkid⟩,by simp[hn],?_,?_,?_,rfl⟩
      .omega
      .rw[h3,Zb];exact h1.app ⟨⟨wv,rfl,h2⟩,trivial⟩
      .rw[List.drop_set_of_lt (by omega)];have:rows.drop (i+1)=(rows.drop i).drop 1:=by simp
       rw[this,hd,hdc];rfl
      .exact(ae YA.symm).trans Zl
     .have q:((i:Int)<l.length)=False:=T';have hie:i=l.length:=by omega
      subst hie;rw[hU,jj (by omega)]at hr;apply sR;simp only[go_sem,seval,t0,t1,t11,t51,t52,q];exact⟨hs,⟨rows,ho,hr⟩,hb⟩
    .clear hs ho46 a46 ho10 a9;rintro⟨S,J⟩ ⟨hs,how,hb,t0,t1,t11⟩;simp only at hs how hb t0 t1 t11;have hla:=iB (cp l w).atoms;have hal:=hG.len;have hbr:=QS l hl hisb (ofR l w) (by rw[ofR,cL];omega) (λx hx=>by
      obtain⟨a,ha,rfl⟩:=gg.1 hx;exact hG.nod a ha) hG.may
     have hofe:ofR l w=(cp l w).atoms.map (·.node):=rfl;rw[xA]at hb;rw[Ik]at hfl;refine ab.mix 16 ?_;apply sR;simp only[go_sem,seval,t0,t1,t11];refine ab.ay rfl rfl rfl (hfl _) ?_;apply sR;simp only[go_sem,seval,t11,hb,hla];generalize hq:C' J i46 _=Y0;have hb0:Y0 i46=some (xA vn w h (br (cp l w).atoms) (aG (cp l w).B') (cp l w).Yg .aC):=by rw[<-hq];exact ag
     have YL:aa U Y0:=hq▸hs.ax z46;have how0:DJ (aU U i46) Y0 vn l:=hq▸how.Ip k46;clear hq hs how hb;refine ab.fj (λst=>aa Y0 st.U/\aL Y0 st.U 3 1 (st.s 13) ((ofR l w).map vI)/\st.s 0=aH l/\st.s 11=.ptr i46 0 0)
      (λm st=>∃j:Nat,j<=(cp l w).atoms.length/\m=(cp l w).atoms.length-j/\aa Y0 st.U/\aL Y0 st.U 3 1 (st.s 13) ((((cp l w).atoms.take j).map (·.node)).map vI)/\st.s 0=aH l/\st.s 11=.ptr i46 0 0/\st.s 82=br (cp l w).atoms/\st.s 83=vI (cp l w).atoms.length/\st.s 84=vI j) (cp l w).atoms.length ?_ ?_ ?_
     .exact⟨0,by omega,rfl,aa.refl _,aL.start,t0,t11,rfl,rfl,rfl⟩
     .clear t0 t1 t11;rintro m ⟨S,J⟩ ⟨j,hj,rfl,hsj,ho,t0,t11,t82,t83,t84⟩;simp only at hsj ho t0 t11 t82 t83 t84;generalize hv13:S 13=v13 at ho;refine ab.mix 85 ?_;by_cases H':j<(cp l w).atoms.length
      .have q:((j:Int)<(cp l w).atoms.length)=True:=Yd;have X2:=λU=>jg (U:=U) H';have YK:(((cp l w).atoms.take (j+1)).map (·.node)).map vI=(((cp l w).atoms.take j).map (·.node)).map vI++[vI (cp l w).atoms[j].node]:=by
        rw[Zq0 H',gl,gl];rfl
       have hlm:((((cp l w).atoms.take j).map (·.node)).map vI).length=j:=by rw[cL,cL,fY];omega
       have hat:dh (cp l w).atoms[j]=.agg [vI (cp l w).atoms[j].kind,vI (cp l w).atoms[j].node,vI (cp l w).atoms[j].fr,vI (cp l w).atoms[j].to,vI (cp l w).atoms[j].x,vI (cp l w).atoms[j].y,vI (cp l w).atoms[j].w,vI (cp l w).atoms[j].h]:=rfl;generalize (((cp l w).atoms.take j).map (·.node)).map vI=rows at*;generalize (cp l w).atoms[j]=x at*;have r1:Yl .i64 ((j:Int)+1):=ai;have hs:=aa.refl J;apply sR;simp only[go_sem,seval,t82,t83,t84,q,X2,hat];refine ad λi15 Y15 s15 a15 f15=>?_;have z15:=hs.none f15;replace hs:=hs.trans s15;simp only[go_sem,seval,a15,hv13];generalize ZX:C' _ i15 _=Z15;replace a15:=(congrFun ZX i15).symm.trans ag;replace hs:=Eq.subst (motive:=aa _) ZX (hs.ax z15);clear ZX;refine ad λi91 Z91 s91 a91 f91=>?_;obtain⟨Yn,ZV,Zk⟩:=ho.dst (hs.trans s91);have Zl:(rows.length+1)*9<=140737488355328:=by omega
       simp only[go_sem,seval,ZV,cT a91,Zl];refine cO λi92 Z92 s92 a92 f92=>?_;have k92:=(Zk Y0 (aa.refl _) Z91 (hsj.trans (hs.trans s91))).trans s92;have n92:Y0 i92=none:=(hsj.trans (hs.trans s91)).none f92;simp only[go_sem,seval,t0,t11,t82,t83,t84,r1];refine⟨_,?_,j+1,by omega,rfl,k92,?_,rfl⟩
       .omega
       .rw[YK];exact aL.new (by simp) a92 n92
      .have q:((j:Int)<(cp l w).atoms.length)=False:=T';have hje:j=(cp l w).atoms.length:=by omega
       rw[hje,hU,<-hofe]at ho;apply sR;simp only[go_sem,seval,t0,t11,t83,t84,hv13,q];exact⟨hsj,ho⟩
     .clear t0 t1 t11;rintro⟨S,J⟩ ⟨hsj,ho,t0,t11⟩;simp only at hsj ho t0 t11;refine ab.Np [0,11] [13] hsj ho (by simp) ?_;generalize hS:(λi=>if[13].contains i then V.sl 1 ((ofR l w).map vI)else yX [0,11] S i)=S';have u0:S' 0=aH l:=by rw[<-hS];exact t0
      have u11:S' 11=.ptr i46 0 0:=by rw[<-hS];exact t11
      have u13:S' 13=bl (ofR l w):=by rw[<-hS];rfl
      clear hS t0 t11;refine ab.mix 16 ?_;rw[xA]at hb0;apply sR;simp only[go_sem,seval,u0,u11,u13];refine ab.ay rfl rfl rfl (hbr _) ?_;apply sR;simp only[go_sem,seval,u11,hb0,mM,mQ];exact Jw (b:=aY l w h) (YL.ax z46) z46 ag (how0.Ip k46)
   .have q:(iu l≠0)=True:=Yd hc;obtain⟨e1,e2⟩:=bad (iu l) (by rw[eu,av (λh=>h ⟨hw,hh⟩),ar hc]) hc;rw[e1,e2];apply sR;simp only[go_sem,seval,q];exact ak.pure hs rfl
  .have mh:=si h;rw[show decide (1<=h/\h<=1099511627776)=false from Zu hh]at mh;obtain⟨e1,e2⟩:=bad 3 (by rw[eu,ar (λh=>hh h.2)]) (by decide);rw[e1,e2];refine ab.ay rfl rfl rfl (mh _) ?_;apply sR;simp only[go_sem,seval];exact ak.pure hs rfl
 .have mw:=si w;rw[show decide (1<=w/\w<=1099511627776)=false from Zu hw]at mw;obtain⟨e1,e2⟩:=bad 3 (by rw[eu,ar (λh=>hw h.1)]) (by decide);rw[e1,e2];apply sR;simp only[go_sem,seval,c23];refine ab.ay rfl rfl rfl (mw _) ?_;apply sR;simp only[go_sem,seval];exact ak.pure hs rfl
def sE{l:List Nd}{w h:Int}(he:eu l w h=0):Cx w/\Cx h/\iu l=0:=by
 unfold eu at he;split at he
 .cases he
 .rename_i h1;split at he
  .rename_i h2;exact absurd he h2
  .rename_i h2;exact⟨Decidable.byContradiction λh=>h1 (λg=>h g.1),Decidable.byContradiction λh=>h1 (λg=>h g.2),Decidable.byContradiction h2⟩
def G0{l:List Nd}(hl:dU l){w h:Int}(he:eu l w h=0):BkFull (aY l w h)/\∀f∈(aY l w h).X8,0<=f.h:=by
 obtain⟨hw,hh,hc⟩:=sE he;obtain⟨hisb,hn,hwo,hcs⟩:=Av hc;have hG:=AJ hisb hn hw.1 hw.2;have hl1:=hG.len;have hl2:=hG.flen;have ht:∀a∈(cp l w).atoms,-18014398509481984<=a.y/\a.y<=18014398509481984/\0<=a.h/\a.h<=18014398509481984:=λa ha=>by
  have:=hG.YT a ha;have h0:=this.y0;have h1:=this.y1;have h2:=this.h0;have h3:=this.h1;omega
 refine⟨⟨⟨⟨?_,λa ha=>?_⟩,ht,?_,?_,λf hf=>(hG.flo f hf).ok (by omega),?_⟩,hl,hisb,hh.1,hh.2,hG.nod⟩,λf hf=>(hG.flo f hf).h0⟩
 .show(cp l w).atoms.length<=_;omega
 .have:=ht a ha;omega
 .show(cp l w).atoms.length<=_;omega
 .show(cp l w).B'.length<=_;omega
 .show(ry l (ofR l w)).length=(cp l w).atoms.length+1;unfold ry ofR;simp
def eI(b:Bk)(a:Nat):Int:=((b.atoms.drop a).map (·.h)).sum
def vZ{b:Bk}{a:Nat}(h:a<b.atoms.length):eI b a=(b.atoms[a]).h+eI b (a+1):=by
 unfold eI;rw[ia h,dS,List.sum_cons]
def qS{b:Bk}(hp:∀a∈b.atoms,1<=a.h)(a:Nat):0<=eI b a:=by
 have key:∀l:List Zj,(∀a∈l,1<=a.h)->0<=(l.map (·.h)).sum:=by
  intro l
  induction l with
  |nil=>intro _;simp
  |cons x l ih=>
   intro h;have h1:=h x (by simp);have h2:=ih (λy hy=>h y (by simp[hy]));simp only[dS,List.sum_cons];omega
 exact key _ λx hx=>hp x (List.mem_of_mem_drop hx)
def DQ{b:Bk}(hp:∀a∈b.atoms,1<=a.h)(a:Nat):∀n,eI b (a+n)<=eI b a
 |0=>Int.le_refl _
 |n+1=>by
  have ih:=DQ hp a n;by_cases h:a+n<b.atoms.length
  .have h1:=vZ h;have h2:=hp _ (Zr h);rw[<-Nat.add_assoc];omega
  .have:eI b (a+(n+1))=eI b (a+n):=by
    unfold eI;rw[List.drop_of_length_le (by omega),List.drop_of_length_le (by omega)]
   omega
def sW{body:Int}(f:U')(r:List U'):(dk body (f::r) 0).2.1.length<(f::r).length:=by
 have key:∀(l:List U') (sh:Int),(dk body l sh).2.1.length<=l.length:=by
  intro l
  induction l with
  |nil=>intro sh;simp[dk]
  |cons g l ih=>
   intro sh;rw[dk];split
   .simp
   .have:=ih (sh+min g.h body);simp only[ZK];omega
 rw[dk,av (by omega)];have:=key r (0+min f.h body);simp only[ZK];omega
def n9{b:Bk}{s:Zf}{to kept shift body:Int}:(dO b.atoms b.X8 s to kept shift body).2.length<=b.X8.length:=by
 unfold dO;split
 .have h1:=pn (uB b.atoms s kept) shift body (eC b.X8 s to);have h2:(eC b.X8 s to).length<=b.X8.length:=oO _ _ _;omega
 .simp
inductive kv(b:Bk)(x:Wx):ZY->Prop
 |whole (c:Nat) (fr:Bool) (p:List U') (h1:x.s.atom<c) (h2:c<=b.atoms.length) (h3:p.length<=b.X8.length):kv b x ⟨⟨c,0,fr⟩,p⟩
 |more (d:Int) (p:List U') (h1:x.s.done<d) (h2:d<(atG b.atoms x.s.atom).h) (h3:p.length<=b.X8.length):kv b x ⟨⟨x.s.atom,d,false⟩,p⟩
def sc{b:Bk}(hb:BkOk b){x:Wx}(hm:dG b.atoms x.s)(ZP:∀a∈b.atoms,1<=a.h)(hbody:1<=x.body):kv b x (eG b x):=by
 have hrl:dQ b x<=b.atoms.length:=oT;have ZE:=hb.brk;unfold eG;split
 .rename_i M';obtain⟨c,h1,h2,h3⟩:=qZ M' (by omega);rw[show yc b x=c from h1,eX];exact .whole c _ _ h2 (by omega) n9
 .unfold wP dT;have hso:rz b.atoms x.s x.body:=⟨hm,hbody⟩
  rw[ar (show rz b.atoms ({ x with kind:=1 }:Wx).s ({ x with kind:=1 }:Wx).body from hso)];obtain⟨⟨h0,h1⟩,h2,h3⟩:=hm;obtain⟨k,hk⟩:∃k:Nat,x.s.atom=k:=⟨x.s.atom.toNat,by omega⟩
  have hkl:k<b.atoms.length:=by omega
  have hp:=ZP _ (Zr hkl);have ha:atG b.atoms x.s.atom=b.atoms[k]:=by rw[hk,aZ hkl]
  rw[ha]at h3;have hph:(fM b.atoms x.s.atom).h=b.atoms[k].h:=by rw[fM,ha]
  unfold jn;have e1:(fi b.atoms x.s x.body).fr=x.s.done:=rfl;have e2:(fi b.atoms x.s x.body).atom=x.s.atom:=rfl;have e3:(fi b.atoms x.s x.body).h=min (b.atoms[k].h-x.s.done) x.body:=by rw[<-hph];rfl
  split
  .rename_i H';have hlt':x.s.done+min (b.atoms[k].h-x.s.done) x.body<(atG b.atoms x.s.atom).h:=by rw[<-e3];exact H'
   have:=kv.more (b:=b) (x:=x) (x.s.done+min (b.atoms[k].h-x.s.done) x.body) (dO b.atoms b.X8 x.s (x.s.atom+1) 0 0 x.body).2 (by omega) hlt' n9;rw[<-e3]at this;exact this
  .have:=kv.whole (b:=b) (x:=x) (k+1) false (dO b.atoms b.X8 x.s (x.s.atom+1) 0 0 x.body).2 (by omega) (by omega) n9;have e4:((k+1:Nat):Int)=x.s.atom+1:=by omega
   rw[e4]at this;exact this
structure SkI(s:WS):Prop where
 pw:s.atoms.Pairwise λa b=>a.y+a.h<=b.y
 q:∀a∈s.atoms,a.y+a.h<=s.Yk.y
def SkI.put{s:WS}(h:SkI s){a:Zj}(h1:s.Yk.y<=a.y)(h2:0<=a.h):SkI (s.put a):=by
 refine⟨?_,λx hx=>?_⟩
 .simp only[WS.put];rw[List.pairwise_append];refine⟨h.pw,by simp,λx hx y hy=>?_⟩;simp only[er]at hy;subst hy;have:=h.q x hx;omega
 .simp only[WS.put]at hx|-;rcases dc.1 hx with hx|hx
  .have:=h.q x hx;omega
  .simp only[er]at hx;subst hx;omega
def SkI.Yk{s:WS}(h:SkI s){p:Pn}(hp:s.Yk.y<=p.y):SkI { s with Yk:=p }:=⟨h.pw,λa ha=>by have:=h.q a ha;simp only;omega⟩
def Fp{p:Pn}{m d:Int}(h0:0<=p.m)(hd:0<=d):p.y<=(eg p m d).y:=by
 simp only[eg,vW];(repeat' split)<;>omega
def NH{p:Pn}{m d:Int}(h0:0<=p.m)(hd:0<=d):p.y<=(mA p m d).y:=by
 simp only[mA,vW];(repeat' split)<;>(try simp only)<;>omega
def SkI.enter{s:WS}(h:SkI s)(h0:0<=s.Yk.m){t:Sty}(ht:SOk t):SkI (s.enter t):=by
 have hp:=ht.Yj.1;unfold WS.enter;simp only;refine h.Yk ?_;split
 .have hc:s.Yk.y<=(jY s.Yk (dP (nr t.clear) s.B').1).y/\0<=(jY s.Yk (dP (nr t.clear) s.B').1).m:=by
   unfold jY;split<;>(try simp only)<;>omega
  exact Int.le_trans hc.1 (Fp hc.2 hp)
 .exact Fp h0 hp
def SkI.leave{s:WS}(h:SkI s)(h0:0<=s.Yk.m){t:Sty}(ht:SOk t):SkI (s.leave t):=h.Yk (NH h0 ht.Yc.1)
def SkI.text{rs:List Rm}{s:WS}{C:Nat}(h:fL s C)(hk:SkI s){n:Nd}(hn:NOk n)(a:Nat):SkI (s.text rs a n):=by
 obtain⟨⟨hf,h1,h2,h3,h4⟩,h5,h6⟩:=h;have hl:=hn.line;have key:∀(k i:Nat) (y:Int) (t:WS),t.Yk.y<=y->SkI t->SkI ((cV s.B' n.words n.space n.line (dY rs a) k i y).foldl (λs x=>s.put (eM a n.line x)) t):=by
  intro k
  induction k with
  |zero=>intro i y t _ ht;exact ht
  |succ k ih=>
   intro i y t hy ht;rw[cV];split
   .rw[j5];have hyr:y<=(pF s.B' n.words n.space n.line i y (dY rs a)).y:=(fI (λf hf'=>(hf f hf').yB)).1;refine ih _ _ _ ?_ (ht.put (by simp only[eM];omega) hl.1);simp only[WS.put,eM];omega
   .exact ht
 exact key _ _ _ s (by omega) hk
def wI{l:List Nd}{rs:List Rm}(hD:DOk l rs):∀(k a e:Nat) (s:WS) (C:Nat),e-a<=k->a<=e->e<=l.length->bQ l a e=true->fL s C->SkI s->SkI (cS l rs k a e s)
 |0,a,e,s,C,_,hae,_,_,_,h=>h
 |k+1,a,e,s,C,hk,hae,he,hr,h,hs=>by
  rw[cS];by_cases H':a<e
  .rw[ar H'];obtain⟨h1,h2⟩:=cF he hr (YQ a) H';obtain⟨h3,h4⟩:=dq he hr H';have Yx:NOk (YJ l a):=by rw[jD (by omega)];exact gi hD.isb (by omega)
   have step:∀t,(∃D,fL t D)->SkI t->SkI (cS l rs k (a+(YO l a).toNat) e t):=λt ⟨D,ht⟩ hA=>
    wI hD k _ e t D (by omega) (by omega) he h3 ht hA
   have hm:=h.bd.m0;split
   .have hI2:=gv hD k (a+1) (a+(YO l a).toNat) _ _ (by omega) (by omega) (by omega) h4 (eN h Yx.st);have hS2:=wI hD k (a+1) (a+(YO l a).toNat) _ _ (by omega) (by omega) (by omega) h4 (eN h Yx.st) (hs.enter hm Yx.st);exact step _ ⟨_,ky hI2 Yx.st⟩ (hS2.leave hI2.bd.m0 Yx.st)
   .split
    .exact step _ ⟨_,mr h Yx a⟩ (SkI.text h hs Yx a)
    .split
     .refine step _ ⟨_,lU h Yx a⟩ ?_;have hyr:=fI (w:=(YJ l a).w) (high:=(YJ l a).h) (y:=s.Yk.y+s.Yk.m) (s:=dY rs a) (λf hf'=>(h.bd.fl f hf').yB);exact hs.put (by simp only;omega) Yx.h.1
     .have k4:(YJ l a).kind=4:=by rename_i g1 g2 g3;rcases Yx.kind with h|h|h|h;exact absurd h g1;exact absurd h g2;exact absurd h g3;exact h
      exact step _ ⟨_,kG hD h (by omega) Yx k4⟩ ⟨hs.pw,hs.q⟩
  .rw[av H'];exact hs
def LD{l:List Nd}(hb:Zd l=true)(hn:l.length<=2000){w:Int}(h1:1<=w)(h2:w<=1099511627776):(cp l w).atoms.Pairwise λa b=>a.y+a.h<=b.y:=by
 have hD:=xc hb hn h1 h2;have hr:bQ l 0 l.length=true:=by simp only[Zd,Ba]at hb;exact hb.2
 have hI:fL ⟨[],[],0,⟨0,0⟩⟩ 0:=⟨⟨by simp,by simp,by simp,by simp,by simp⟩,by simp,by simp⟩
 exact(wI hD l.length 0 l.length ⟨[],[],0,⟨0,0⟩⟩ 0 (by omega) (by omega) (YQ _) hr hI ⟨by simp,by simp⟩).pw
def zD{l:List Zj}(h:l.Pairwise λa b=>a.y+a.h<=b.y){i j:Nat}(hij:i<j)(hj:j<l.length):l[i].y+l[i].h<=l[j].y:=List.pairwise_iff_getElem.1 h i j (by omega) hj hij
def sQ{p:Nat->Bool}{n:Nat}(hm:∀i j,i<=j->j<n->p i=true->p j=true):∀(f i j:Nat),j-i<=f->i<=j->j<=n->(∀x,x<i->p x=false)->(j<n->p j=true)->
 (∀x,x<lL p f i j->p x=false)/\(lL p f i j<n->p (lL p f i j)=true)/\lL p f i j<=j
 |0,i,j,hf,hij,_,h1,h2=>by
  obtain rfl:i=j:=by omega
  exact⟨h1,h2,YQ _⟩
 |f+1,i,j,hf,hij,hjn,h1,h2=>by
  rw[lL];split
  .rename_i H';split
   .rename_i hp;obtain⟨g1,g2,g3⟩:=sQ hm f i ((i+j)/2) (by omega) (by omega) (by omega) h1 (λ_=>hp);exact⟨g1,g2,by omega⟩
   .rename_i hp;have hp':p ((i+j)/2)=false:=by simpa using hp
    refine sQ hm f ((i+j)/2+1) j (by omega) (by omega) hjn (λx hx=>?_) h2;cases YD:p x with
    |false=>rfl
    |true=>rw[hm x ((i+j)/2) (by omega) (by omega) YD]at hp';cases hp'
  .obtain rfl:i=j:=by omega
   exact⟨h1,h2,YQ _⟩
def Eh{b:Bk}(hk:b.atoms.Pairwise λx y=>x.y+x.h<=y.y)(ZP:∀a∈b.atoms,1<=a.h){s:Zf}(hm:dG b.atoms s)(kept shift body:Int):
 ∃r:Nat,nM b.atoms s kept shift body=r/\s.atom<=r/\r<=b.atoms.length/\(∀k (h:k<b.atoms.length),s.atom<=k->k<r->dC b.atoms s kept shift k+b.atoms[k].h<=body)/\∀h:r<b.atoms.length,dC b.atoms s kept shift r+b.atoms[r].h>body:=by
 have hm0:=hm;obtain⟨⟨h0,h1⟩,h2,h3⟩:=hm;obtain⟨a,ha⟩:∃a:Nat,s.atom=a:=⟨s.atom.toNat,by omega⟩
 have hal:a<b.atoms.length:=by omega
 have hpl:∀k (h:k<b.atoms.length),a<=k->dC b.atoms s kept shift k=b.atoms[k].y-b.atoms[a].y-s.done+kept+shift:=λk h hak=>by
  rw[dC,ar ⟨hm0,by omega,by omega⟩,gG,ar ⟨⟨h0,h1⟩,by omega,by omega⟩,ha,aZ h,aZ hal]
 have hby:∀n (h:a+n<b.atoms.length),ft b.atoms s kept shift body n=decide (b.atoms[a+n].y-b.atoms[a].y-s.done+kept+shift+b.atoms[a+n].h>body):=λn h=>by
  have e:s.atom+(n:Int)=((a+n:Nat):Int):=by omega
  rw[ft,e,hpl _ h (by omega),aZ h]
 have hmono:∀i j,i<=j->j<b.atoms.length-a->ft b.atoms s kept shift body i=true->ft b.atoms s kept shift body j=true:=λi j hij hj hb=>by
  rcases Nat.eq_or_lt_of_le hij with rfl|H'
  .exact hb
  .have hi2:a+i<b.atoms.length:=by omega
   have hj2:a+j<b.atoms.length:=by omega
   rw[hby i hi2]at hb;rw[hby j hj2];have h5:=zD hk (show a+i<a+j by omega) hj2;have h6:=ZP _ (Zr hj2);have hb':=of_decide_eq_true hb;exact ZG (by omega)
 have hs:=sQ hmono (b.atoms.length-a) 0 (b.atoms.length-a) (by omega) (by omega) (YQ _) (λx hx=>by omega) (λh=>by omega);have hsr:lL (ft b.atoms s kept shift body) (b.atoms.length-a) 0 (b.atoms.length-a)=E5 (ft b.atoms s kept shift body) (b.atoms.length-a):=rfl;rw[hsr]at hs;obtain⟨g1,g2,g3⟩:=hs;refine⟨a+E5 (ft b.atoms s kept shift body) (b.atoms.length-a),?_,by omega,by omega,λk h hak hkr=>?_,λh=>?_⟩
 .rw[nM,ar hm0,ha,eX];rfl
 .have hka:a<=k:=by omega
  have:=g1 (k-a) (by omega);rw[hby (k-a) (by omega)]at this;have h5:=of_decide_eq_false this;rw[hpl k h hka];have e:a+(k-a)=k:=by omega
  simp only[e]at h5;omega
 .have:=g2 (by omega);rw[hby _ h]at this;have h5:=of_decide_eq_true this;rw[hpl _ h (by omega)];omega
def mJ{l:List Nd}{a:Nat}:∀(k:Nat) (x:Int),x∈gO l a k->ie l x a=true
 |0,_,h=>by simp[gO]at h
 |k+1,x,h=>by
  rw[gO]at h;split at h
  .rename_i hk;rcases cg.1 h with rfl|h
   .exact hk
   .exact mJ k x h
  .exact mJ k x h
def IF(l:List Nd)(of:List Int)(k:Nat):0<=dj l of k 3/\dj l of k 3<=7:=by
 simp only[dj,I2];cases lp l of k 0<;>cases lp l of k 1<;>cases lp l of k 2<;>simp
def AP:∀(all:List Int),cN all=0\/2<=cN all/\cN all<=4:=by
 have key:∀(all:List Int) (o:Int),(o=0\/2<=o/\o<=4)->(all.foldl lu o=0\/2<=all.foldl lu o/\all.foldl lu o<=4):=by
  intro all
  induction all with
  |nil=>intro o h;exact h
  |cons x all ih=>
   intro o h;rw[j5];refine ih _ ?_;unfold lu oF
   (repeat' split)<;>omega
 exact λall=>key all 0 (.inl rfl)
def MC{l:List Nd}(hb:Zd l=true){of:List Int}(ZR:∀x∈of,0<=x/\x<l.length):xV (ry l of)=true:=by
 have hlen:(ry l of).length=of.length+1:=by simp[ry]
 simp only[xV,Ba,dX,List.mem_range,Zq9];refine⟨λk hk=>?_,by omega⟩;rw[hlen]at hk;have hg:bkG (ry l of) k=bkR l of k:=by simp[bkG,ry,hk]
 unfold iq;rw[hg,hlen];refine ZG ?_;have ZZ:0<k->k<of.length->of.getD k 0=of.getD (k-1) 0->jB l of k=0:=λh0 h1 he=>by
  have hk1:of.getD k 0=of[k]:=by simp[h1]
  have hr:=ZR _ (Zr h1);have hh:∀x∈abv l (of.getD k 0).toNat,hAt l of x k=true/\hAt l of x ((k:Int)-1)=true:=λx hx=>by
   rw[hk1]at hx;have H':of[k].toNat<l.length:=by omega
   rw[SJ hb H']at hx;have YD:=mJ _ _ hx;rw[mG]at YD;have e1:((k:Int)-1).toNat=k-1:=by omega
   have e2:((k:Int)).toNat=k:=by omega
   have e3:(of[k].toNat:Int)=of[k]:=by omega
   rw[e3]at YD;unfold hAt zY;rw[ar (by omega),ar (by omega),e1,e2,<-he,hk1];exact⟨ZG ⟨YD.2.2.1,YD.2.2.2⟩,ZG ⟨YD.2.2.1,YD.2.2.2⟩⟩
  have e1:((k:Int)-1).toNat=k-1:=by omega
  have e2:((k:Int)).toNat=k:=by omega
  have he1:chR l of ((k:Int)-1) (λb=>!hAt l of b k)=[]:=by
   unfold chR;rw[ar (by omega),e1,<-he,List.filter_eq_nil_iff];intro x hx;rw[(hh x hx).1];simp
  have he2:chR l of k (λb=>!hAt l of b ((k:Int)-1))=[]:=by
   unfold chR;rw[ar (by omega),e2,List.filter_eq_nil_iff];intro x hx;rw[(hh x hx).2];simp
  unfold jB jC;rw[av (by omega),ed,he1,he2];rfl
 have hend:k=of.length->jB l of k=0:=λh=>by
  unfold jB jC;rw[ar h];rfl
 have hfv:=AP (jC l of k);have hbr:=IF l of k;change jB l of k=0\/2<=jB l of k/\jB l of k<=4 at hfv;unfold qo bkR;simp only[Zq9,decide_eq_false_iff_not];unfold rS sI;by_cases h0:k=0
 .rw[ar h0,ar (show k=0\/k=of.length from .inl h0)];refine⟨λ_=>rfl,λh=>absurd (by omega) h,λh=>absurd (by omega) h,?_,.inl (by split<;>rfl)⟩;rcases hfv with h|h
  .exact .inl h
  .exact .inr ⟨h.1,h.2,by omega,by omega⟩
 .rw[av h0];by_cases h1:k=of.length
  .rw[ar h1,ar (show k=0\/k=of.length from .inr h1)];exact⟨λh=>absurd h (by omega),λ_ _=>rfl,λ_ h=>absurd (by omega) h,.inl (hend h1),.inl (by split<;>rfl)⟩
  .rw[av h1,av (show¬(k=0\/k=of.length) by omega)];by_cases h2:of.getD k 0=of.getD (k-1) 0
   .rw[ar h2];have hf:=ZZ (by omega) (by omega) h2;refine⟨λh=>absurd h (by omega),λ_ h=>absurd h (by omega),λ_ _=>.inr rfl,.inl hf,?_⟩;rw[ar hf];rcases Int.lt_or_le 0 (dj l of k 3)with h|h
    .exact .inr ⟨.inr rfl,hf,h,by omega⟩
    .exact .inl (by omega)
   .rw[av h2];refine⟨λh=>absurd h (by omega),λ_ h=>absurd h (by omega),λ_ _=>.inl rfl,?_,?_⟩
    .rcases hfv with h|h
     .exact .inl h
     .exact .inr ⟨h.1,h.2,by omega,by omega⟩
    .by_cases hf:jB l of k=0
     .rw[ar hf];rcases Int.lt_or_le 0 (dj l of k 3)with h|h
      .exact .inr ⟨.inl rfl,hf,h,by omega⟩
      .exact .inl (by omega)
     .rw[av hf];exact .inl rfl
def inF(top e:Int)(l:List Zh):Prop:=∀f∈l,top<=f.y/\0<=f.h/\f.y+f.h<=e
def AL{top e:Int}{l m:List Zh}(h1:inF top e l)(h2:inF top e m):inF top e (l++m):=λf hf=>(dc.1 hf).elim (h1 f) (h2 f)
def Cs{l:List Nd}{x:Kp}{a:Int}(h:∀n∈x.Yz,1<=(stA l n).head):∀n∈(jJ l x a).Yz,1<=(stA l n).head:=λn hn=>by
 unfold jJ at hn;split at hn
 .exact h n hn
 .rename_i hc;rcases dc.1 hn with hn|hn
  .exact h n hn
  .rw[er.1 hn];omega
def xM{l:List Nd}{L:List Int}{h:Int}:∀m,∀n∈(gy l L h m).Yz,1<=(stA l n).head
 |0=>λn hn=>by simp[gy]at hn
 |m+1=>by rw[gy];exact Cs (xM m)
def PO{l:List Nd}{w:Int}:∀(L:List Int),(∀n∈L,1<=(stA l n).head)->0<=(hdK l w L).2/\(∀f∈(hdK l w L).1,0<=f.y/\0<=f.h/\f.y+f.h<=(hdK l w L).2)/\((hdK l w L).1.map (·.h)).sum=(hdK l w L).2:=λL=>by
 suffices key:∀(L:List Int) (p:List Zh×Int),(∀n∈L,1<=(stA l n).head)->0<=p.2->(∀f∈p.1,0<=f.y/\0<=f.h/\f.y+f.h<=p.2)->(p.1.map (·.h)).sum=p.2->
  0<=(L.foldl (hdS l w) p).2/\(∀f∈(L.foldl (hdS l w) p).1,0<=f.y/\0<=f.h/\f.y+f.h<=(L.foldl (hdS l w) p).2)/\((L.foldl (hdS l w) p).1.map (·.h)).sum=(L.foldl (hdS l w) p).2 from
  λh=>key L ([],0) h (Int.le_refl _) (λf hf=>by cases hf) rfl
 intro L
 induction L with
 |nil=>intro p _ h1 h2 h3;exact⟨h1,h2,h3⟩
 |cons a L ih=>
  intro p h h1 h2 h3;have ha:=h a (by simp);refine ih _ (λn hn=>h n (by simp[hn])) ?_ (λf hf=>?_) ?_
  .simp only[hdS];omega
  .simp only[hdS]at hf|-;rcases dc.1 hf with hf|hf
   .have:=h2 f hf;omega
   .rw[er.1 hf];simp only;omega
  .simp only[hdS,gl,List.sum_append,h3,dS,List.map_nil,List.sum_cons,List.sum_nil];omega
def Jz{b:Bk}(hb:BkFull b)(s:Zf)(h0:0<=s.atom):0<=(bw b s).high/\1<=(bw b s).body/\(bw b s).high+(bw b s).body=b.h/\inF 0 (bw b s).high (hdK b.nodes b.w (bw b s).Yz).1/\((hdK b.nodes b.w (bw b s).Yz).1.map (·.h)).sum=(bw b s).high:=by
 have hk:=uQ hb s;have hbd:=gT hb s h0;have hh:∀n∈(bw b s).Yz,1<=(stA b.nodes n).head:=by
  unfold bw;split
  .intro n hn;cases hn
  .unfold uu;split
   .exact xM _
   .intro n hn;cases hn
 obtain⟨g1,g2,g3⟩:=PO (l:=b.nodes) (w:=b.w) _ hh;rw[hk.sum]at g2 g3;refine⟨hk.high.1,hbd,?_,g2,g3⟩;have h1:=hb.h1;revert hbd;unfold bw;split
 .intro _;simp
 .unfold uu;split
  .rename_i hc;intro _;obtain⟨_,h3,h4⟩:=hc;generalize (atG b.atoms (min s.atom ((b.atoms.length:Int)-1))).node=a at*;have ha:a.toNat<b.nodes.length:=by omega
   have hrg:∀x∈abv b.nodes a.toNat,∃n:Nat,x=n/\n<b.nodes.length:=λx hx=>by
    obtain⟨n,h1,h2⟩:=ru ha x hx;exact⟨n,h1,by omega⟩
   exact(qI hb.isb hrg (by omega:0<=b.h) (abv b.nodes a.toNat).length (YQ _)).2.2.2
  .intro h;exact absurd h (by simp)
def FX{body:Int}(hb:0<=body):∀(l:List U') (sh:Int),0<=sh->sh<=body->(∀f∈l,0<=f.h)->∀m∈(dk body l sh).1,0<=m.y/\0<=m.h/\m.y+m.h<=body
 |[],sh,_,_,_=>λm hm=>by simp[dk]at hm
 |f::r,sh,h0,h1,hf=>λm hm=>by
  rw[dk]at hm;have:=hf f (by simp);split at hm
  .cases hm
  .rename_i hc;rcases cg.1 hm with rfl|hm
   .simp only;omega
   .exact FX hb r _ (by omega) (by omega) (λg hg=>hf g (by simp[hg])) m hm
def Lh{top shift body:Int}(hsh:0<=shift):∀{L:List U'},(∀f∈L,0<=f.h)->∀m∈(jN top shift body L).1,0<=m.y/\0<=m.h/\m.y+m.h<=body:=by
 suffices key:∀(L:List U') (x:List U'×List U'),(∀f∈L,0<=f.h)->(∀m∈x.1,0<=m.y/\0<=m.h/\m.y+m.h<=body)->
  ∀m∈(L.foldl (λx f=>ng body x f (dZ top shift f)) x).1,0<=m.y/\0<=m.h/\m.y+m.h<=body from
  λ{L} h=>key L ([],[]) h (λm hm=>by cases hm)
 intro L
 induction L with
 |nil=>intro x _ h m hm;exact h m hm
 |cons f L ih=>
  intro x hL h;refine ih _ (λg hg=>hL g (by simp[hg])) λm hm=>?_;have hf:=hL f (by simp);simp only[ng]at hm;split at hm
  .exact h m hm
  .rename_i hl;rcases dc.1 hm with hm|hm
   .exact h m hm
   .rw[er.1 hm];unfold pI at hl;have hl':¬(x.2≠[]\/(dZ top shift f).y+(dZ top shift f).h>body):=λh=>hl (ZG h);simp only[dZ]at hl'|-;omega
def HG:∀{l:List U'} {a b:Int} {f:U'},f∈wF l a b->f∈l:=λh=>(rR.1 h).1
def B9{b:Bk}(hfh:∀f∈b.X8,0<=f.h){s:Zf}{to kept shift body:Int}(hsh:0<=shift):∀m∈(dO b.atoms b.X8 s to kept shift body).1,0<=m.y/\0<=m.h/\m.y+m.h<=body:=by
 unfold dO;split
 .exact Lh hsh λf hf=>hfh f (HG hf)
 .intro m hm;cases hm
def Ae{high body:Int}{l:List U'}(h:∀m∈l,0<=m.y/\0<=m.h/\m.y+m.h<=body):inF high (high+body) (l.map (l7 high)):=λf hf=>by
 obtain⟨m,hm,rfl⟩:=gg.1 hf;have:=h m hm;simp only[l7];omega
def wm:∀(xs:List Fd) (d:Fd),(fq iC xs d=(d,false)/\∀x∈xs,x.b.forced=0)\/∃L x R,xs=L++x::R/\(∀y∈L,y.b.forced=0)/\x.b.forced≠0/\fq iC xs d=(x,true)
 |[],d=>.inl ⟨rfl,λx h=>(by cases h)⟩
 |a::xs,d=>by
  have stay:∀(l:List Fd) (x:Fd),l.foldl (gb iC) (x,true)=(x,true):=by
   intro l
   induction l with
   |nil=>intro x;rfl
   |cons y l ih=>intro x;rw[j5];exact ih x
  by_cases h:a.b.forced=0
  .have e:fq iC (a::xs) d=fq iC xs d:=by
    unfold fq;rw[j5,gb,iC];simp[h]
   rw[e];rcases wm xs d with⟨h1,h2⟩|⟨L,x,R,h1,h2,h3,h4⟩
   .exact .inl ⟨h1,λx hx=>(cg.1 hx).elim (λe=>e▸h) (h2 x)⟩
   .exact .inr ⟨a::L,x,R,by rw[h1];rfl,λy hy=>(cg.1 hy).elim (λe=>e▸h) (h2 y),h3,h4⟩
  .refine .inr ⟨[],a,xs,rfl,λy hy=>(by cases hy),h,?_⟩;unfold fq;rw[j5,gb,iC];simp only[h,Bool.not_false,ne_eq,not_false_eq_true,decide_true,Bool.and_self,if_true];exact stay xs a
def Ho(d:Fd):∀(xs:List Fd) (a:Fd),∃L x R,xs++[a]=L++x::R/\fq jM (xs++[a]) d=(x,true)/\(∀y∈L,x.b.Zq<=y.b.Zq)/\∀y∈R,x.b.Zq<y.b.Zq:=by
 suffices key:∀n (xs:List Fd) (a:Fd),xs.length=n->∃L x R,xs++[a]=L++x::R/\fq jM (xs++[a]) d=(x,true)/\(∀y∈L,x.b.Zq<=y.b.Zq)/\∀y∈R,x.b.Zq<y.b.Zq from
  λxs a=>key _ xs a rfl
 intro n
 induction n with
 |zero=>
  intro xs a h;obtain rfl:=List.length_eq_zero_iff.1 h;exact⟨[],a,[],rfl,by simp[fq,gb,jM],λy h=>(by cases h),λy h=>by cases h⟩
 |succ n ih=>
  intro xs a h;rcases List.eq_nil_or_concat xs with rfl|⟨ys,z,rfl⟩
  .cases h
  .rw[List.concat_eq_append]at h|-;obtain⟨L,x,R,h1,h2,h3,h4⟩:=ih ys z (by simpa using h);rw[wo,h2];unfold gb jM;by_cases hr:a.b.Zq<=x.b.Zq
   .refine⟨ys++[z],a,[],rfl,by simp[hr],λy hy=>?_,λy hy=>by cases hy⟩;rw[h1]at hy;rcases dc.1 hy with hy|hy
    .have:=h3 y hy;omega
    .rcases cg.1 hy with rfl|hy
     .exact hr
     .have:=h4 y hy;omega
   .refine⟨L,x,R++[a],by rw[h1];simp,by simp[hr],h3,λy hy=>?_⟩;rcases dc.1 hy with hy|hy
    .exact h4 y hy
    .rw[er.1 hy];omega
def yW{b:List Brk}{fr to:Int}{L R:List Fd}{x:Fd}(h:(btw b fr to).map (oe b)=L++x::R):
 ∃c:Nat,x=oe b c/\max fr 0<=c/\c<max fr 0+xS b fr to/\(∀k:Nat,max fr 0<=k->k<c->oe b k∈L)/\∀k:Nat,c<k->k<max fr 0+xS b fr to->oe b k∈R:=by
 have hlen:=congrArg List.length h;simp only[btw,cL,List.length_range',gZ,ZK]at hlen;have hget:∀k:Nat,max fr 0<=k->k<max fr 0+xS b fr to->(L++x::R)[k-(max fr 0).toNat]?=some (oe b k):=λk h1 h2=>by
  rw[<-h,btw,qJ,List.getElem?_range' (by omega)];simp only[Option.map_some,Nat.one_mul];rw[show(max fr 0).toNat+(k-(max fr 0).toNat)=k by omega]
 refine⟨(max fr 0).toNat+L.length,?_,by omega,by omega,λk h1 h2=>?_,λk h1 h2=>?_⟩
 .have:=hget ((max fr 0).toNat+L.length) (by omega) (by omega);rw[show(max fr 0).toNat+L.length-(max fr 0).toNat=L.length by omega]at this;simpa using this
 .have:=hget k h1 (by omega);rw[Ez (by omega)]at this;exact vM this
 .have:=hget k (by omega) (by omega);rw[LG (by omega),show k-(max fr 0).toNat-L.length=(k-((max fr 0).toNat+L.length)-1)+1 by omega,By]at this;exact vM this
def JC{b:List Brk}{i fit:Int}(h:fv b i fit)(hf:fit<=(b.length:Int)-1):
 ∃c:Nat,ye b i fit=c/\i<c/\(c:Int)<=fit/\∀k:Nat,i<k->(k:Int)<=fit->(k<c->(bkG b k).forced=0)/\((bkG b c).forced=0->k≠c->(bkG b k).forced=0/\(bkG b c).Zq<=(bkG b k).Zq/\(c<k->(bkG b k).Zq≠(bkG b c).Zq)):=by
 obtain⟨_,h1,h2,h3⟩:=h;have hn:max (i+1) 0=i+1:=by omega
 have hb:xS b (i+1) fit=(fit-i).toNat:=by unfold xS;omega
 unfold ye mV K7;rcases wm ((btw b (i+1) fit).map (oe b)) CZ with⟨e,hz⟩|⟨L,x,R,e1,e2,e3,e4⟩
 .rw[e,ar (show CZ.i<0 by decide)];have hz':∀k:Nat,i<k->(k:Int)<=fit->(bkG b k).forced=0:=λk g1 g2=>by
   refine hz (oe b k) (gg.2 ⟨k,?_,rfl⟩);rw[btw,List.mem_range'_1];omega
  have YA:(btw b (i+1) fit).map (oe b)≠[]:=λe=>by
   have:=congrArg List.length e;simp[btw,hb]at this;omega
  rcases List.eq_nil_or_concat ((btw b (i+1) fit).map (oe b))with e|⟨ys,z,e⟩
  .exact absurd e YA
  .rw[List.concat_eq_append]at e;obtain⟨L,x,R,f1,f2,f3,f4⟩:=Ho CZ ys z;rw[<-e]at f1 f2;obtain⟨c,rfl,g1,g2,g3,g4⟩:=yW f1;rw[f2];refine⟨c,rfl,by omega,by omega,λk k1 k2=>⟨λ_=>hz' k k1 k2,λ_ hk=>⟨hz' k k1 k2,?_,λH'=>?_⟩⟩⟩
   .rcases Nat.lt_or_gt_of_ne hk with hk|hk
    .exact f3 _ (g3 k (by omega) hk)
    .exact Int.le_of_lt (f4 _ (g4 k hk (by omega)))
   .have:=f4 _ (g4 k H' (by omega));exact λe=>by simp only[oe]at this;omega
 .obtain⟨c,rfl,g1,g2,g3,g4⟩:=yW e1;rw[e4,av (show¬(oe b c).i<0 from λh=>by simp only[oe]at h;omega)];exact⟨c,rfl,by omega,by omega,λk k1 k2=>⟨λhk=>e2 _ (g3 k (by omega) hk),λhc=>absurd hc e3⟩⟩
inductive uR(b:Bk)(s t:Zf)(fs:List Zh)(top body:Int):Prop
 |more (h1:t.atom=s.atom) (h2:fs.length=1) (h3:jO b.atoms s>body) (h4:∀f,fs[0]?=some f->f.h=body) (h5:t.done=s.done+body)
 |whole (c r:Nat) (y:Int) (h1:t=⟨c,0,decide ((bkG b.Ym c).forced≠0)⟩) (h2:s.atom<c) (h3:c<=r) (h4:r<=b.atoms.length) (h5:fs.length+s.atom=c) (h6:∀f,fs[0]?=some f->f.y=top+y)
    (h7:∀k (h:k<b.atoms.length),s.atom<=k->k<r->(if s.atom<k then y+(b.atoms[k].y-(atG b.atoms s.atom).y-s.done)else y)+(if k=s.atom then jO b.atoms s else b.atoms[k].h)<=body)
    (h8:∀(h:r<b.atoms.length),(if s.atom<r then y+(b.atoms[r].y-(atG b.atoms s.atom).y-s.done)else y)+(if r=s.atom then jO b.atoms s else b.atoms[r].h)>body)
    (h9:∀k:Nat,s.atom<k->k<=r->(k<c->(bkG b.Ym k).forced=0)/\((bkG b.Ym c).forced=0->k≠c->(bkG b.Ym k).forced=0/\(bkG b.Ym c).Zq<=(bkG b.Ym k).Zq/\(c<k->(bkG b.Ym k).Zq≠(bkG b.Ym c).Zq)))
structure Jp(b:Bk)(x:Wx)(fs:List Zh)(t:Zf):Prop where
 ne:0<fs.length
 fin:inF x.high (x.high+x.body) fs
 fst:∀f,fs[0]?=some f->f.atom=x.s.atom/\f.fr=x.s.done
 cut:uR b x.s t fs x.high x.body
structure eT(b:Bk):Prop extends BkFull b where
 stk:b.atoms.Pairwise λx y=>x.y+x.h<=y.y
 pos:∀a∈b.atoms,1<=a.h
 top:∀a∈b.atoms,0<=a.y
 mayb:xV b.Ym=true
 fh:∀f∈b.X8,0<=f.h
 fy:∀f∈b.X8,0<=f.y
def DZ{b:Bk}(hb:eT b)(k:Int):0<=pB b.atoms k:=by
 unfold pB;split
 .rename_i h;obtain⟨n,rfl⟩:∃n:Nat,k=n:=⟨k.toNat,by omega⟩
  have hn:n<b.atoms.length:=by omega
  rw[aZ hn];unfold iH;split
  .rename_i h2;have e:(n:Int)-1=((n-1:Nat):Int):=by omega
   rw[e,aZ (by omega)];have:=zD hb.stk (show n-1<n by omega) hn;omega
  .have:=hb.top _ (Zr hn);omega
 .exact Int.le_refl _
def H8{b:Bk}(hb:eT b){x:Wx}(hm:dG b.atoms x.s)(hx:x.fs=[])
 (hbody:1<=x.body)(hsh:0<=x.shift)(hnf:¬(x.shift>0/\jO b.atoms x.s>x.body-x.shift)):Jp b x (dM b x).fs (eG b x).s:=by
 have hk:=hb.stk;have ZP:=hb.pos;have hbk:=hb.mayb;obtain⟨r,hr,hr1,hr2,hr3,hr4⟩:=Eh hk ZP hm (dN b x) x.shift x.body;have hm0:=hm;obtain⟨⟨h0,h1⟩,h2,h3⟩:=hm;obtain⟨a,ha⟩:∃a:Nat,x.s.atom=a:=⟨x.s.atom.toNat,by omega⟩
 have hal:a<b.atoms.length:=by omega
 have hag:atG b.atoms x.s.atom=b.atoms[a]:=by rw[ha,aZ hal]
 have hpa:=ZP _ (Zr hal);have ZE:=hb.brk;have hleft:jO b.atoms x.s=b.atoms[a].h-x.s.done:=by rw[jO,ar hm0,hag]
 rw[hag]at h3;have hl0:1<=jO b.atoms x.s:=by rw[hleft];omega
 have hpl:∀kept sh k (h:k<b.atoms.length),a<=k->dC b.atoms x.s kept sh k=b.atoms[k].y-b.atoms[a].y-x.s.done+kept+sh:=λkept sh k h hak=>by
  rw[dC,ar ⟨hm0,by omega,by omega⟩,gG,ar ⟨⟨h0,h1⟩,by omega,by omega⟩,hag,aZ h]
 have hkept:dN b x=0\/0<=dN b x/\x.s.done=0/\dN b x+jO b.atoms x.s<=x.body-x.shift:=by
  unfold dN rN;split
  .rename_i hc;obtain⟨_,_,hd,hg⟩:=hc;rw[hleft];rw[hag]at hg;exact .inr ⟨DZ hb _,hd,hg⟩
  .exact .inl rfl
 have hrX:dQ b x=r:=hr;unfold dM eG;by_cases M':fv b.Ym x.s.atom (dQ b x)
 .rw[ar M',ar M'];obtain⟨c,c1,c2,c3,c4⟩:=JC M' (by rw[hrX];omega);rw[show yc b x=c from c1,eX];rw[hrX]at c3 c4;have hlen:(bX b { x with kind:=1 } (dN b x) (c-x.s.atom.toNat)).length=c-a:=by
   rw[bX,cL,List.length_range,ha,eX]
  have hfs:(wz b { x with kind:=1 } (dN b x) c).fs=bX b { x with kind:=1 } (dN b x) (c-x.s.atom.toNat):=by
   simp only[wz,Wx.put,Wx.add,hx,kA]
  have hat:∀i (h:i<c-a),(bX b { x with kind:=1 } (dN b x) (c-x.s.atom.toNat))[i]?=some (cq x.high (dp b.atoms x.s (dN b x) x.shift ((a+i:Nat):Int))):=λi h=>by
   rw[bX,qJ,List.getElem?_range (by rw[ha];omega),Option.map_some,ha];rfl
  have hwh:∀k (h:k<b.atoms.length),a<=k->(dp b.atoms x.s (dN b x) x.shift k).y=dC b.atoms x.s (dN b x) x.shift k+(if k=a then x.s.done else 0)/\(dp b.atoms x.s (dN b x) x.shift k).h=b.atoms[k].h-(if k=a then x.s.done else 0)/\(dp b.atoms x.s (dN b x) x.shift k).atom=k/\(dp b.atoms x.s (dN b x) x.shift k).fr=if k=a then x.s.done else 0:=λk h hak=>by
   rw[dp,ar ⟨hm0,by omega,by omega⟩];by_cases e:k=a
   .rw[ar (by omega),ar e];simp only[Zh.bK,mZ,fM,aZ h];exact⟨trivial,trivial,trivial,trivial⟩
   .rw[av (by omega),av e];simp only[mZ,fM,aZ h];exact⟨(Int.add_zero _).symm,(Int.sub_zero _).symm,trivial,trivial⟩
  have hfirst:(bX b { x with kind:=1 } (dN b x) (c-x.s.atom.toNat))[0]?=some (cq x.high (dp b.atoms x.s (dN b x) x.shift ((a:Nat):Int))):=hat 0 (by omega);obtain⟨w1,w2,w3,w4⟩:=hwh a hal (YQ _);rw[ar rfl]at w1 w2 w4;have hpa0:=hpl (dN b x) x.shift a hal (YQ _);have hk0:0<=dN b x:=by rcases hkept with h|h<;>omega
  refine⟨by rw[hfs,hlen];omega,λf hf=>?_,λf hf=>?_,?_⟩
  .rw[hfs]at hf;obtain⟨i,hi⟩:=ET hf;have hil:i<c-a:=by
    rw[<-hlen];exact(iT.1 hi).1
   rw[hat i hil]at hi;obtain rfl:=Option.some.inj hi;obtain⟨v1,v2,-,-⟩:=hwh (a+i) (by omega) (by omega);have hpl':=hpl (dN b x) x.shift (a+i) (by omega) (by omega);have hfit:=hr3 (a+i) (by omega) (by omega) (by omega);have hph:=ZP _ (Zr (show a+i<b.atoms.length by omega));simp only[cq];rw[v1,v2];rw[hpl']at hfit|-;by_cases e:i=0
   .subst e;simp only[Nat.add_zero,if_true]at hfit|-;omega
   .rw[av (by omega)];have Ys:=zD hk (show a<a+i by omega) (by omega);omega
  .rw[hfs,hfirst]at hf;obtain rfl:=Option.some.inj hf;simp only[cq];rw[w3,w4];exact⟨ha.symm,rfl⟩
  .refine .whole c r (dN b x+x.shift) rfl c2 (by omega) hr2 (by rw[hfs,hlen];omega) (λf hf=>?_) (λk h h1 h2=>?_) (λh=>?_) (λk h1 h2=>c4 k h1 (by omega))
   .rw[hfs,hfirst]at hf;obtain rfl:=Option.some.inj hf;simp only[cq];rw[w1,hpa0];omega
   .have:=hr3 k h h1 h2;rw[hpl _ _ k h (by omega)]at this;rw[hag];by_cases e:(k:Int)=x.s.atom
    .obtain rfl:k=a:=by omega
     rw[av (by omega),ar e,hleft];omega
    .rw[ar (by omega),av e];omega
   .have:=hr4 h;rw[hpl _ _ r h (by omega)]at this;rw[hag];by_cases e:(r:Int)=x.s.atom
    .obtain rfl:r=a:=by omega
     rw[av (by omega),ar e,hleft];omega
    .rw[ar (by omega),av e];omega
 .rw[av M',av M'];have hra:r=a:=by
   have:¬x.s.atom<dQ b x:=λh=>M' ⟨hbk,h0,by omega,h⟩;omega
  have hgt:=hr4 (by omega);subst hra;rw[hpl _ _ r hal (YQ _)]at hgt;have hk0:dN b x=0/\x.shift=0:=by
   rw[hleft]at hkept hnf;rcases hkept with h|h<;>omega
  have hso:rz b.atoms ({ x with kind:=1 }:Wx).s ({ x with kind:=1 }:Wx).body:=⟨hm0,hbody⟩
  have hfs:(vJ b { x with kind:=1 }).fs=[cq x.high (kK b.atoms x.s x.body)]:=by
   simp only[vJ,Wx.put,Wx.add,hx,kA]
  have hsl:kK b.atoms x.s x.body=⟨b.atoms[r].node,x.s.atom,x.s.done,b.atoms[r].x,0,b.atoms[r].w,x.body⟩:=by
   rw[kK,ar (show rz b.atoms x.s x.body from hso),fi];simp only[Zh.cut,Zh.bK,fM,hag];congr 1;omega
  have hnx:dT b.atoms x.s x.body=⟨x.s.atom,x.s.done+x.body,false⟩:=by
   rw[dT,ar (show rz b.atoms x.s x.body from hso)];rw[kK,ar (show rz b.atoms x.s x.body from hso)]at hsl;rw[hsl];simp only[jn,hag];rw[ar (by omega)]
  rw[hsl]at hfs;refine⟨by rw[hfs];exact Nat.one_pos,λf hf=>?_,λf hf=>?_,.more ?_ (by rw[hfs];rfl) (by rw[hleft];omega) (λf hf=>?_) ?_⟩
  .rw[hfs,er]at hf;subst hf;simp only[cq];omega
  .rw[hfs]at hf;obtain rfl:=Option.some.inj hf;exact⟨rfl,rfl⟩
  .show(dT b.atoms x.s x.body).atom=_;rw[hnx]
  .rw[hfs]at hf;obtain rfl:=Option.some.inj hf;rfl
  .show(dT b.atoms x.s x.body).done=_;rw[hnx]
def V2(s t:ZY)(n:Int):Prop:=t.s.atom>s.s.atom\/t.s.atom=s.s.atom/\t.s.done>s.s.done\/t.s.atom=s.s.atom/\t.s.done=s.s.done/\(t.bJ.length<s.bJ.length\/t.s.atom=n/\t.s.free=false)
structure Ll(b:Bk)(s:ZY)(p:YG)(t:ZY):Prop where
 no:p.no=0
 onw:V2 s t b.atoms.length
 sum:(p.hs.map (·.h)).sum=(bw b s.s).high
 hd:inF 0 (bw b s.s).high p.hs
 fl:inF (bw b s.s).high b.h p.fs
 lo:inF (bw b s.s).high b.h p.ls
 kd:p.kind=1\/p.kind=2
 no':p.kind=2->p.fs=[]
 cut:p.kind=1->dG b.atoms s.s/\0<p.fs.length/\(∀f,p.fs[0]?=some f->f.atom=s.s.atom/\f.fr=s.s.done)/\uR b s.s t.s p.fs (bw b s.s).high (bw b s.s).body
def IW{α:Type}{p:α->Bool}:∀(l:List α),∀x∈l.takeWhile p,p x=true
 |[],x,h=>by cases h
 |a::l,x,h=>by
  rw[List.takeWhile_cons]at h;split at h
  .rename_i ha;rcases cg.1 h with rfl|h
   .exact ha
   .exact IW l x h
  .cases h
def KL{b:Bk}(hb:eT b){x:Wx}(hsh:0<=x.shift)(h:inF x.high (x.high+x.body) x.ls):inF x.high (x.high+x.body) (dM b x).ls:=by
 unfold dM;split
 .exact AL h (Ae (B9 hb.fh hsh))
 .exact AL h (Ae (B9 hb.fh (Int.le_refl _)))
def jA(b:Bk)(x:Wx):(dM b x).hs=x.hs/\(dM b x).kind=1:=by
 unfold dM;split<;>exact⟨rfl,rfl⟩
def jd{b:Bk}(hb:eT b){s:ZY}(he:¬eH b s):Ll b s (aP b s).1 (aP b s).2:=by
 have ZC:kz b s:=Decidable.byContradiction λh=>he (.inl h);have hat:0<=s.s.atom:=by rcases ZC.2 with h|h;exact h.1.1;omega
 obtain⟨r1,r2,r3,r4,r5⟩:=Jz hb.toBkFull s.s hat;have hpf:∀f∈s.bJ,0<=f.h:=λf hf=>hb.fh f (oW _ _ ZC.1 f hf);have htop:inF (bw b s.s).high ((bw b s.s).high+(bw b s.s).body) ((dk (bw b s.s).body s.bJ 0).1.map (l7 (bw b s.s).high)):=Ae (FX (by omega) _ 0 (Int.le_refl _) (by omega) hpf);have hsh:=(uU (body:=(bw b s.s).body) s.bJ 0 (Int.le_refl _) (by omega) hpf).2.2;unfold aP;split
 .rename_i h0;obtain⟨h1,h2⟩:=h0;have hn:s.s.atom=0/\s.s.done=0:=by
   rcases ZC.2 with h|h
   .have:=h.1;rw[h1]at this;simp at this;omega
   .rw[h1]at h;simpa using h
  refine⟨rfl,.inr (.inr ⟨?_,?_,.inr ⟨?_,rfl⟩⟩),r5,r4,λf hf=>(by cases hf),?_,.inr rfl,λ_=>rfl,λh=>?_⟩
  .simp[me,hn]
  .simp[me,hn]
  .simp[me,h1]
  .rw[<-r3];refine Ae (high:=(bw b s.s).high) (body:=(bw b s.s).body) λm hm=>?_;have h4:m.y+m.h<=(bw b s.s).body:=of_decide_eq_true (IW _ m hm);have h5:m∈b.X8:=(List.takeWhile_sublist _).mem hm;exact⟨hb.fy m h5,hb.fh m h5,h4⟩
  .exact absurd h (show¬((2:Int)=1) by decide)
 .split
  .rename_i hf;refine⟨rfl,?_,r5,r4,λf hf=>(by cases hf),by rw[<-r3];exact htop,.inr rfl,λ_=>rfl,λh=>absurd h (show¬((2:Int)=1) by decide)⟩;refine .inr (.inr ⟨rfl,rfl,?_⟩);cases hp:s.bJ with
   |cons f r=>exact .inl (sW f r)
   |nil=>
    unfold rP at hf;rw[hp]at hf;simp only[dk]at hf;have ha:s.s.atom=b.atoms.length:=by
     rcases hf with h|h|h
     .exact h
     .exact absurd rfl h
     .omega
    exact .inr ⟨ha,by simp[ha]⟩
  .rename_i hf;have hm:dG b.atoms s.s:=ZC.2.resolve_right λh=>hf (.inl h.1);have hfn:=sc (x:=cb b s) hb.toBkOk hm hb.pos r2;have hfg:=H8 hb (x:=cb b s) hm rfl r2 hsh.1 (λh=>hf (.inr (.inr h)));have hls:=KL hb (x:=cb b s) hsh.1 (AL (l:=[]) (λf hf=>(by cases hf)) htop);have hoth:=jA b (cb b s);have xs:(cb b s).s=s.s:=rfl;have xh:(cb b s).high=(bw b s.s).high:=rfl;have xb:(cb b s).body=(bw b s.s).body:=rfl;rw[xh,xb,r3]at hls;obtain⟨f1,f2,f3,f4⟩:=hfg;rw[xh,xb]at f2 f4;rw[r3]at f2;refine⟨rfl,?_,?_,?_,f2,hls,.inl hoth.2,λh=>?_,λ_=>⟨hm,f1,f3,f4⟩⟩
   .generalize eG b (cb b s)=z at hfn;cases hfn with
    |whole c fr p g1 g2 g3=>exact .inl g1
    |more d p g1 g2 g3=>exact .inr (.inl ⟨rfl,g1⟩)
   .show((dM b (cb b s)).hs.map _).sum=_;rw[hoth.1];exact r5
   .show inF _ _ (dM b (cb b s)).hs;rw[hoth.1];exact r4
   .have:(dM b (cb b s)).kind=2:=h;rw[hoth.2]at this;cases this
def gU{l:List Nd}(hl:dU l){w h:Int}(he:eu l w h=0):eT (aY l w h):=by
 obtain⟨hw,hh,hc⟩:=sE he;obtain⟨hisb,hn,hwo,hcs⟩:=Av hc;have hG:=AJ hisb hn hw.1 hw.2;obtain⟨h1,h2⟩:=G0 hl he;refine⟨h1,LD hisb hn hw.1 hw.2,λa ha=>(hG.YT a ha).h0,λa ha=>(hG.YT a ha).y0,?_,h2,λf hf=>(hG.flo f hf).y0⟩;show xV (ry l (ofR l w))=true;refine MC hisb λx hx=>?_;unfold ofR at hx;obtain⟨a,ha,rfl⟩:=gg.1 hx;exact hG.nod a ha
open Go.Proofs Go.Proofs.Tryz
def uq(b:List Brk)(p:YG)(s:Zf):Int:=
 if p.kind≠1\/s.done>0 then -1 else if(bkG b s.atom.toNat).forced=3 then 0 else if(bkG b s.atom.toNat).forced=4 then 1 else -1
def NQ(b:List Brk)(hb:b.length<=1000000)(p:YG)(s:Zf)(h0:0<=s.atom)(h1:s.atom<b.length):aJ prog 59 [bE b,aM p,aV s] (vI (uq b p s)):=λU=>by
 refine e59.r (by simp[c59]) ?_;have hs:=aa.refl U;obtain⟨no,kd,hh,ff,ll⟩:=p;obtain⟨a,d,fr⟩:=s;obtain⟨k,rfl⟩:∃k:Nat,a=k:=⟨a.toNat,by simp only at h0;omega⟩
 have hk:k<b.length:=by simp only at h1;omega
 have Zw:(aM ⟨no,kd,hh,ff,ll⟩).cells=[vI no,vI kd,aI hh,aI ff,aI ll]:=rfl;have hpp:(aM ⟨no,kd,hh,ff,ll⟩).stays=true:=rfl;have hsc:(aV ⟨k,d,fr⟩).cells=[vI k,vI d,.bool fr]:=rfl;obtain⟨⟨c,f,r⟩,hf⟩:∃x,b[k]=x:=⟨_,rfl⟩
 have X2:∀U,bo U 3 (bE b) (.int .i64 k)=some (.rp (.agg [vI c,vI f,vI r])):=λU=>by rw[rV hk,hf,e8]
 have hg:bkG b ((k:Int)).toNat=⟨c,f,r⟩:=by simp[bkG,hk,hf]
 have hR:uq b ⟨no,kd,hh,ff,ll⟩ ⟨k,d,fr⟩=if kd≠1\/d>0 then -1 else if f=3 then 0 else if f=4 then 1 else -1:=by simp only[uq,hg]
 generalize uq b ⟨no,kd,hh,ff,ll⟩ ⟨k,d,fr⟩=R at*;refine ab.mix 6 ?_;apply sR;simp only[go_sem,seval,c59,Zw,hpp];refine ad λi4 Z4 s4 a4 f4=>?_;have z4:=hs.none f4;replace hs:=hs.trans s4;simp only[go_sem,seval,hsc];refine ad λi5 Z5 s5 a5 f5=>?_;have n45:=ao a4 f5;replace a4:=s5 _ _ a4;have z5:=hs.none f5;replace hs:=hs.trans s5;by_cases q1:kd=1
 .have q1':(kd≠1)=False:=by simp[q1]
  by_cases q2:d>0
  .have q2':(d>0)=True:=Yd q2;simp only[go_sem,seval,a4,a5,q1',q2',Zw,hsc];rw[ar (.inr q2)]at hR;exact ak.pure hs (congrArg vI hR.symm)
  .have q2':(d>0)=False:=T' q2;rw[av (λh=>h.elim (λh=>h q1) q2)]at hR;by_cases q3:f=3
   .have q3':(f=3)=True:=Yd q3;simp only[go_sem,seval,a4,a5,q1',q2',q3',X2,Zw,hsc];rw[ar q3]at hR;exact ak.pure hs (congrArg vI hR.symm)
   .have q3':(f=3)=False:=T' q3;rw[av q3]at hR;by_cases q4:f=4
    .have q4':(f=4)=True:=Yd q4;simp only[go_sem,seval,a4,a5,q1',q2',q3',q4',X2,Zw,hsc];rw[ar q4]at hR;exact ak.pure hs (congrArg vI hR.symm)
    .have q4':(f=4)=False:=T' q4;simp only[go_sem,seval,a4,a5,q1',q2',q3',q4',X2,Zw,hsc];rw[av q4]at hR;exact ak.pure hs (congrArg vI hR.symm)
 .have q1':(kd≠1)=True:=Yd q1;simp only[go_sem,seval,a4,q1',Zw];rw[ar (.inl q1)]at hR;exact ak.pure hs (congrArg vI hR.symm)
open Go.Proofs Go.Proofs.Tryz
def zQ{Yp i1 i2 e1 e2:Nat}{n:Int}{x:V}{U:af}{Post:Bool->af->Prop}(r1:Yl .i64 (n+1))(h1:U i1=some ⟨e1,1,[vI n]⟩)(h2:U i2=some ⟨e2,1,[.yl Yp]⟩)(YA:i1≠i2)
 (hy:YC prog Yp [x] (C' U i1 ⟨e1,1,[vI (n+1)]⟩) Post):au prog 55 [x,.ptr i1 0 0,.ptr i2 0 0] U λr Z'=>∃b,r=.bool b/\Post b Z':=by
 refine e55.r (by simp[c55]) ?_;refine ab.mix 6 ?_;apply sR;simp only[go_sem,seval,c55,h1,r1,h2,ae YA.symm];refine ab.nb (Post:=Post) rfl rfl rfl hy ?_;intro b Z' hb;apply sR;simp only[go_sem,seval];exact⟨_,Z',aa.refl _,Wk.refl (aa.refl _) _,b,rfl,hb⟩
def htN(x:Nd):Int:=if x.kind=2 then x.line*x.words.length else if x.kind=3 then x.h else 0
def hts(l:List Nd):Nat->Int
 |0=>0
 |i+1=>hts l i+htN (YJ l i)
def qg{x:Nd}(h:NOk x):0<=htN x:=by
 have h1:=h.line.1;have h2:=h.h.1;unfold htN;split
 .exact Int.mul_nonneg h1 (by omega)
 .split<;>omega
def Dw{l:List Nd}(hb:Zd l=true){a:Nat}:∀n,a+n<=l.length->hts l a<=hts l (a+n)
 |0,_=>Int.le_refl _
 |n+1,h=>by
  have ih:=Dw (a:=a) hb n (by omega);have h1:NOk (YJ l (a+n)):=by rw[jD (show a+n<l.length by omega)];exact gi hb _
  have h2:=qg h1;rw[<-Nat.add_assoc,hts];omega
def htA(l:List Zj):Int:=(l.map (·.h)).sum
def Gl(l m:List Zj):htA (l++m)=htA l+htA m:=by unfold htA;rw[gl,List.sum_append]
def Ao{l:List Nd}{rs:List Rm}(hD:DOk l rs):∀(k a e:Nat) (s:WS) (C:Nat),e-a<=k->a<=e->e<=l.length->bQ l a e=true->fL s C->htA s.atoms<=hts l a->htA (cS l rs k a e s).atoms<=hts l e
 |0,a,e,s,C,hk,hae,_,_,_,h=>by
  obtain rfl:a=e:=by omega
  exact h
 |k+1,a,e,s,C,hk,hae,he,hr,h,hs=>by
  rw[cS];by_cases H':a<e
  .rw[ar H'];obtain⟨h1,h2⟩:=cF he hr (YQ a) H';obtain⟨h3,h4⟩:=dq he hr H';have Yx:NOk (YJ l a):=by rw[jD (by omega)];exact gi hD.isb (by omega)
   have step:∀t,(∃D,fL t D)->htA t.atoms<=hts l (a+(YO l a).toNat)->htA (cS l rs k (a+(YO l a).toNat) e t).atoms<=hts l e:=λt ⟨D,ht⟩ hA=>
    Ao hD k _ e t D (by omega) (by omega) he h3 ht hA
   have ZM:htN (YJ l a)+htA s.atoms<=hts l (a+1):=by rw[hts];omega
   have one:hts l (a+1)<=hts l (a+(YO l a).toNat):=by
    obtain⟨m,hm⟩:∃m,(YO l a).toNat=1+m:=⟨(YO l a).toNat-1,by omega⟩
    rw[hm,<-Nat.add_assoc];exact Dw hD.isb m (by omega)
   split
   .rename_i k1;have hz:htN (YJ l a)=0:=by rw[htN,av (by omega),av (by omega)]
    have hI2:=gv hD k (a+1) (a+(YO l a).toNat) _ _ (by omega) (by omega) (by omega) h4 (eN h Yx.st);have hS2:=Ao hD k (a+1) (a+(YO l a).toNat) _ _ (by omega) (by omega) (by omega) h4 (eN h Yx.st) (show htA s.atoms<=_ by omega);exact step _ ⟨_,ky hI2 Yx.st⟩ hS2
   .split
    .rename_i k1 k2;refine step _ ⟨_,mr h Yx a⟩ (Int.le_trans ?_ one);have hp:=nH a (YJ l a).line (cV s.B' (YJ l a).words (YJ l a).space (YJ l a).line (dY rs a) (YJ l a).words.length 0 (s.Yk.y+s.Yk.m)) s;have hlen:=kT s.B' (YJ l a).words (YJ l a).space (YJ l a).line (dY rs a) (YJ l a).words.length 0 (s.Yk.y+s.Yk.m);have e:(s.text rs a (YJ l a)).atoms=_:=hp;rw[e,Gl];generalize cV s.B' (YJ l a).words (YJ l a).space (YJ l a).line (dY rs a) (YJ l a).words.length 0 (s.Yk.y+s.Yk.m)=L at*;have j4:htA (L.map (eM a (YJ l a).line))=(YJ l a).line*L.length:=by
      clear e hp hlen
      induction L with
      |nil=>simp[htA]
      |cons x L ih=>
       have:htA ((x::L).map (eM a (YJ l a).line))=(YJ l a).line+htA (L.map (eM a (YJ l a).line)):=rfl;rw[this,ih,ZK,Int.natCast_add,Int.mul_add];omega
     have hle:(YJ l a).line*(L.length:Int)<=(YJ l a).line*((YJ l a).words.length:Int):=Int.mul_le_mul_of_nonneg_left (by omega) Yx.line.1;have hz:htN (YJ l a)=(YJ l a).line*((YJ l a).words.length:Int):=by rw[htN,ar k2]
     omega
    .split
     .rename_i k1 k2 k3;refine step _ ⟨_,lU h Yx a⟩ (Int.le_trans ?_ one);have hz:htN (YJ l a)=(YJ l a).h:=by rw[htN,av k2,ar k3]
      have e:(WS.mono l rs s a (YJ l a)).atoms=s.atoms++[⟨2,a,0,0,(dJ s.B' (lY s.B' (YJ l a).w (YJ l a).h (dY rs a) (s.Yk.y+s.Yk.m)) (YJ l a).h (dY rs a)).a,lY s.B' (YJ l a).w (YJ l a).h (dY rs a) (s.Yk.y+s.Yk.m),(YJ l a).w,(YJ l a).h⟩]:=rfl;rw[e,Gl];simp only[htA,dS,List.map_nil,List.sum_cons,List.sum_nil];simp only[htA]at ZM;omega
     .have k4:(YJ l a).kind=4:=by rename_i g1 g2 g3;rcases Yx.kind with h|h|h|h;exact absurd h g1;exact absurd h g2;exact absurd h g3;exact h
      have hz:=qg Yx;exact step _ ⟨_,kG hD h (by omega) Yx k4⟩ (show htA s.atoms<=_ by omega)
  .rw[av H'];obtain rfl:a=e:=by omega
   exact hs
def Rf{l:List Nd}(hb:Zd l=true)(hn:l.length<=2000){w:Int}(h1:1<=w)(h2:w<=1099511627776):htA (cp l w).atoms<=hts l l.length:=by
 have hD:=xc hb hn h1 h2;have hr:bQ l 0 l.length=true:=by simp only[Zd,Ba]at hb;exact hb.2
 have hI:fL ⟨[],[],0,⟨0,0⟩⟩ 0:=⟨⟨by simp,by simp,by simp,by simp,by simp⟩,by simp,by simp⟩
 exact Ao hD l.length 0 l.length ⟨[],[],0,⟨0,0⟩⟩ 0 (by omega) (by omega) (YQ _) hr hI (by simp[htA,hts])
def B3{l:List Nd}(hb:Zd l=true){s:Sm}(hs:0<=s.Ya/\s.Ya<=1099511627777):∀i,i<=l.length->0<=(gQ l s i).Ya/\(gQ l s i).Ya<=1099511627777/\min (hts l i) 1099511627777<=(gQ l s i).Ya
 |0,_=>⟨hs.1,hs.2,by simp only[hts,gQ];omega⟩
 |i+1,hi=>by
  obtain⟨h1,h2,h3⟩:=B3 hb hs i (by omega);have Yx:NOk (YJ l i):=by rw[jD (by omega)];exact gi hb (by omega)
  have hz:=qg Yx;have Ys:=Yx.st;rw[gQ,hts,Zq6 (by omega)];rw[jD (show i<l.length by omega)]at Yx hz Ys|-;simp only;unfold qp;split
  .rename_i k1;have e:htN l[i]=0:=by rw[htN,av (by omega),av (by omega)]
   have g1:=Ys.top.1;have g2:=Ys.Yv.1;have g3:=Ys.Yj.1;have g4:=Ys.Yc.1;have g5:=Ys.head.1;simp only[kM];omega
  .split
   .rename_i k1 k2;have e:htN l[i]=l[i].line*l[i].words.length:=by rw[htN,ar k2]
    simp only;rw[u5 ⟨h1,h2⟩ Yx.line.1];omega
   .rename_i k1 k2;have hh:=Yx.h.1;have e:htN l[i]<=l[i].h:=by rw[htN,av k2];split<;>omega
    simp only[kM];omega
def E0{l:List Nd}(hb:Zd l=true)(h:(jr l).1.Ya<=1099511627776):hts l l.length<=(jr l).1.Ya:=by
 unfold jr at h|-;rw[ar hb]at h|-;have:=(B3 hb (s:=⟨0,0,l.length,0⟩) ⟨Int.le_refl _,(by decide:(0:Int)<=1099511627777)⟩ l.length (YQ _)).2.2;simp only at h|-;omega
def FL{cnt:Nat->Nat}:∀{n a:Nat} {x:Int},x∈blk cnt a n->∃i:Nat,x=i/\a<=i/\i<a+n/\0<cnt i
 |0,a,x,h=>by rw[kJ]at h;cases h
 |n+1,a,x,h=>by
  rw[ik]at h;rcases dc.1 h with h|h
  .obtain⟨h1,rfl⟩:=List.mem_replicate.1 h;exact⟨a,rfl,YQ _,by omega,by omega⟩
  .obtain⟨i,h1,h2,h3,h4⟩:=FL h;exact⟨i,h1,by omega,by omega,h4⟩
def Ky{l:List Nd}(hb:Zd l=true)(hn:l.length<=2000){w:Int}(h1:1<=w)(h2:w<=1099511627776):∀a∈(cp l w).atoms,∃i:Nat,a.node=i/\i<l.length/\((YJ l i).kind=2\/(YJ l i).kind=3):=λa ha=>by
 have hD:=xc hb hn h1 h2;have hr:bQ l 0 l.length=true:=by simp only[Zd,Ba]at hb;exact hb.2
 have hI:fL ⟨[],[],0,⟨0,0⟩⟩ 0:=⟨⟨by simp,by simp,by simp,by simp,by simp⟩,by simp,by simp⟩
 obtain⟨-,cnt,hc,hco⟩:=uV hD l.length 0 l.length ⟨[],[],0,⟨0,0⟩⟩ 0 (by omega) (by omega) (YQ _) hr hI (by simp);have hm:a.node∈(cS l (gz l w) l.length 0 l.length ⟨[],[],0,⟨0,0⟩⟩).atoms.map (·.node):=gg.2 ⟨a,ha,rfl⟩;rw[hc]at hm;simp only[List.map_nil,kA]at hm;obtain⟨i,e,_,h3,h4⟩:=FL hm;refine⟨i,e,by omega,?_⟩;have:=hco i (Nat.zero_le _) (by omega);unfold okN at this;split at this
 .rename_i k;exact .inl k
 .split at this
  .rename_i k;exact .inr k
  .have:=of_decide_eq_true this;omega
def least_le{l:List Nd}{h:Int}:∀{n j:Nat},j<n->((YJ l j).kind=2\/(YJ l j).kind=3)->je l h n<=(Ai l j h).body
 |0,j,hj,_=>by omega
 |n+1,j,hj,hk=>by
  rw[je];by_cases e:j=n
  .subst e;rw[ar hk];omega
  .have:=least_le (l:=l) (h:=h) (show j<n by omega) hk;split<;>omega
def zl{l:List Nd}{h:Int}(hh:1<=h):∀n,1<=je l h n
 |0=>hh
 |n+1=>by
  have h1:=zl (l:=l) hh n;have h2:1<=(Ai l n h).body:=sP hh _;rw[je];split<;>omega
def NX{l:List Nd}{h:Int}(hb:Zd l=true)(h1:1<=h)(h2:h<=1099511627776):jK l h=true:=by
 unfold jK;rw[hb];simp[h1,h2]
structure rK(b:Bk)(L:Int):Prop where
 pos:1<=L
 body:∀s:Zf,0<=s.atom->b.atoms≠[]->L<=(bw b s).body
 rest:eI b 0<=L*32768
 na:b.atoms.length<=10000
 nf:b.X8.length<=10000
def LW{L:Int}(h1:1<=L):mulR L 32768<=L*32768:=by
 have e:dt 32768=32768:=by decide
 have e2:(1099511627776:Int).tdiv (max 32768 (-32768))=33554432:=by decide
 unfold mulR;rw[e,e2];have hc:dt L<=L/\0<=dt L:=by unfold dt;(repeat' split)<;>omega
 split
 .rename_i h;obtain⟨_,h|h⟩:=h
  .split<;>omega
  .exact absurd h (by have:(-1099511627776:Int).tdiv (max 32768 (-32768))=-33554432:=by decide
                      rw[this];omega)
 .have:=hc.1;omega
def wM{l:List Nd}{w h:Int}(he:eu l w h=0):rK (aY l w h) (iE l h):=by
 have he0:=he;obtain⟨hw,hh,hc⟩:=sE he;obtain⟨hisb,hn,hwo,hcs⟩:=Av hc;have hG:=AJ hisb hn hw.1 hw.2;have hl1:=hG.len;have hl2:=hG.flen;have hm:=NX hisb hh.1 hh.2;have hL:iE l h=je l h l.length:=by rw[iE,ar hm]
 have hp:1<=iE l h:=by rw[hL];exact zl hh.1 _
 refine⟨hp,λs h0 YA=>?_,?_,by show(cp l w).atoms.length<=_;omega,by show(cp l w).B'.length<=_;omega⟩
 .unfold bw;rw[av YA];have hlen:0<(aY l w h).atoms.length:=wH.2 YA;obtain⟨k,hk⟩:∃k:Nat,min s.atom (((aY l w h).atoms.length:Int)-1)=k:=⟨(min s.atom (((aY l w h).atoms.length:Int)-1)).toNat,by omega⟩
  have hkl:k<(aY l w h).atoms.length:=by omega
  rw[hk,aZ hkl];obtain⟨i,e1,e2,e3⟩:=Ky hisb hn hw.1 hw.2 _ (Zr (show k<(cp l w).atoms.length from hkl));have e4:(aY l w h).atoms[k].node=i:=e1;rw[e4,uu,hL];have hm':jK (aY l w h).nodes (aY l w h).h=true:=hm;rw[ar ⟨hm',by omega,show((i:Nat):Int)<(l.length:Nat) by omega⟩,eX];exact least_le e2 e3
 .have h1:eI (aY l w h) 0=htA (cp l w).atoms:=rfl;have h2:=Rf hisb hn hw.1 hw.2;have h3:(jr l).1.Ya<=1099511627776:=by
   unfold iu at hc;rw[ar hisb]at hc;split at hc
   .cases hc
   .omega
  have h4:=E0 hisb h3;have h5:¬(jr l).1.Ya>mulR (iE l h) 32768:=λh=>by
   unfold eu at he0;rw[av (λg=>g ⟨hw,hh⟩),av (λg=>g hc),ar h]at he0;cases he0
  have h6:=LW hp;omega
def rf(b:Bk)(L:Int)(s:ZY):Int:=((b.atoms.length:Int)-s.s.atom)+(eI b s.s.atom.toNat-s.s.done)/L
def mu2(b:Bk)(L:Int)(s:ZY):Nat:=(rf b L s).toNat*(2*b.X8.length+3)+(if s.s.free=true then b.X8.length+1 else 0)+s.bJ.length
def kv.bJ{b:Bk}{x:Wx}{t:ZY}(h:kv b x t):t.bJ.length<=b.X8.length:=by
 cases h with
 |whole c fr p h1 h2 h3=>exact h3
 |more d p h1 h2 h3=>exact h3
def Bc{b:Bk}(hb:eT b){L:Int}(hL:rK b L){s:ZY}(he:¬eH b s):mu2 b L (aP b s).2<mu2 b L s:=by
 have ZC:kz b s:=Decidable.byContradiction λh=>he (.inl h);have hnot:¬(s.s.atom=b.atoms.length/\s.s.free=false/\s.bJ=[]):=λh=>he (.inr h);have hat:0<=s.s.atom:=by rcases ZC.2 with h|h;exact h.1.1;omega
 have ZP:=hb.pos;have hg:=jd hb he;have hcut:=hg.cut;revert hcut;unfold aP;split
 .rename_i h0;intro _;obtain⟨h1,h2⟩:=h0;have hr:∀a,eI b a=0:=λa=>by unfold eI;rw[h1];simp
  have hd:s.s.done=0/\s.s.atom=0:=by
   rcases ZC.2 with h|h
   .have:=h.1;rw[h1]at this;simp at this;omega
   .rw[h1]at h;simp at h;omega
  have hdl:(b.X8.dropWhile (kU (bD b s.s .aC).body)).length<=b.X8.length:=(List.dropWhile_sublist _).length_le;simp only[mu2,rf,me,hr,h2,hd,h1,if_true];simp;omega
 .split
  .rename_i hf;intro _;unfold mu2 rf;simp only;cases hp:s.bJ with
   |cons f r=>
    have:=sW (body:=(bw b s.s).body) f r;simp only[ZK]at this;cases s.s.free<;>by_cases h:s.s.atom<b.atoms.length<;>simp[h]<;>omega
   |nil=>
    unfold rP at hf;rw[hp]at hf;simp only[dk]at hf;have ha:s.s.atom=b.atoms.length:=by
     rcases hf with h|h|h
     .exact h
     .exact absurd rfl h
     .omega
    have hfr:s.s.free=true:=by
     cases h:s.s.free
     .exact absurd ⟨ha,h,hp⟩ hnot
     .rfl
    simp[dk,ha,hfr]
  .rename_i hf;have hm:dG b.atoms s.s:=ZC.2.resolve_right λh=>hf (.inl h.1);have YA:b.atoms≠[]:=λh=>by have:=hm.1;rw[h]at this;simp at this;omega
   have hbd:=hL.body s.s hat YA;have hL1:=hL.pos;have hpd:=(sc (x:=cb b s) hb.toBkOk hm ZP (gT hb.toBkFull s.s hat)).bJ;intro hcut;have hkind:(nk (dM b (cb b s))).kind=1:=(jA b (cb b s)).2;obtain⟨-,-,-,hcg⟩:=hcut hkind;obtain⟨⟨h0,h1⟩,h2,h3⟩:=hm;obtain⟨k,hk⟩:∃k:Nat,s.s.atom=k:=⟨s.s.atom.toNat,by omega⟩
   have hkl:k<b.atoms.length:=by omega
   have hph:=ZP _ (Zr hkl);have Ys:=vZ hkl;have hnn:=qS ZP (k+1);have hlf:jO b.atoms s.s=b.atoms[k].h-s.s.done:=by rw[jO,ar ⟨⟨h0,h1⟩,h2,h3⟩,hk,aZ hkl]
   rw[hk,aZ hkl]at h3;have key:∀t:ZY,t.bJ.length<=b.X8.length->0<=rf b L t->rf b L t+1<=rf b L s->mu2 b L t<mu2 b L s:=λt hp g1 g2=>by
    unfold mu2;have H':(rf b L t).toNat+1<=(rf b L s).toNat:=by omega
    have hmul:((rf b L t).toNat+1)*(2*b.X8.length+3)<=(rf b L s).toNat*(2*b.X8.length+3):=Nat.mul_le_mul_right _ H';rw[Nat.add_mul,Nat.one_mul]at hmul;have:(if t.s.free=true then b.X8.length+1 else 0)<=b.X8.length+1:=by split<;>omega
    omega
   refine key _ hpd ?_ ?_
   all_goals
    change uR b s.s (eG b (cb b s)).s _ _ _ at hcg;generalize eG b (cb b s)=z at*;unfold rf;simp only;cases hcg with
    |more q1 q2 q3 q4 q5=>
     rw[q1,q5,hk,eX];rw[hlf]at q3;have e1:0<=(eI b k-(s.s.done+(bw b s.s).body))/L:=Int.ediv_nonneg (by omega) (by omega);have e2:(eI b k-(s.s.done+(bw b s.s).body))/L<=(eI b k-s.s.done-L)/L:=Int.ediv_le_ediv (by omega) (by omega);have e3:(eI b k-s.s.done-L)/L=(eI b k-s.s.done)/L-1:=by
      have:=Int.add_mul_ediv_right (eI b k-s.s.done) (-1) (show L≠0 by omega);rw[show eI b k-s.s.done-L=eI b k-s.s.done+-1*L by omega,this];omega
     omega
    |whole c r y q1 q2 q3 q4 q5 q6 q7 q8 q9=>
     rw[hk]at q2;simp only[q1,hk,eX];have e0:=DQ ZP (k+1) (c-(k+1));rw[show k+1+(c-(k+1))=c by omega]at e0;have e1:0<=(eI b c-0)/L:=Int.ediv_nonneg (by have:=qS ZP c;omega) (by omega);have e2:(eI b c-0)/L<=(eI b k-s.s.done)/L:=Int.ediv_le_ediv (by omega) (by omega);omega
def za{b:Bk}{L:Int}(hL:rK b L):mu2 b L ⟨⟨0,0,true⟩,[]⟩<=1000000000:=by
 have h1:=hL.rest;have h2:=hL.na;have h3:=hL.nf;have h4:=hL.pos;have e:(eI b 0-0)/L<=32768:=by
  have:(eI b 0-0)/L<=(32768*L)/L:=Int.ediv_le_ediv (by omega) (by omega);rw[Int.mul_ediv_cancel _ (by omega)]at this;exact this
 have hw:(rf b L ⟨⟨0,0,true⟩,[]⟩).toNat<=42768:=by
  unfold rf;simp only;have:(0:Int).toNat=0:=rfl;rw[this];omega
 unfold mu2;simp only[if_true,List.length_nil];have:(rf b L ⟨⟨0,0,true⟩,[]⟩).toNat*(2*b.X8.length+3)<=42768*20003:=Nat.mul_le_mul hw (by omega);omega
open Go.Proofs Go.Proofs.Tryz
def gx(b:Bk)(s:ZY):Int:=uq b.Ym (aP b s).1 s.s
def shK(b:Bk):Nat->ZY->Int->List (Option YG)
 |0,_,_=>[]
 |f+1,s,no=>if eH b s then[]else
  if 0<=gx b s/\(no+1)%2≠gx b s then none::some (aP b s).1::shK b f (aP b s).2 (no+2)else some (aP b s).1::shK b f (aP b s).2 (no+1)
def shV:Option YG->V
 |none=>.iface 76 (.agg [])
 |some p=>.iface 74 (aM p)
structure ShJ(Yp e2 i2 i4 i6:Nat)(no:Int)(s:ZY)(ZJ U:af):Prop where
 sub:aa ZJ U
 y:U i2=some ⟨e2,1,[.yl Yp]⟩
 n:U i4=some ⟨3,1,[vI no]⟩
 st:U i6=some ⟨45,4,[bF s]⟩
 n2:ZJ i2=none
 n4:ZJ i4=none
 n6:ZJ i6=none
 e24:i2≠i4
 e26:i2≠i6
 e46:i4≠i6
def ShJ.mono{Yp e2 i2 i4 i6:Nat}{no:Int}{s:ZY}{ZJ U J:af}(h:ShJ Yp e2 i2 i4 i6 no s ZJ U)(hs:aa U J):ShJ Yp e2 i2 i4 i6 no s ZJ J:=
 ⟨h.sub.trans hs,hs _ _ h.y,hs _ _ h.n,hs _ _ h.st,h.n2,h.n4,h.n6,h.e24,h.e26,h.e46⟩
def ShJ.given{Yp e2 i2 i4 i6:Nat}{no:Int}{s:ZY}{ZJ U Yr Z':af}(h:ShJ Yp e2 i2 i4 i6 no s ZJ U)(hb:aT ZJ (C' U i4 ⟨3,1,[vI (no+1)]⟩) Yr Z'):ShJ Yp e2 i2 i4 i6 (no+1) s Yr Z':=by
 obtain⟨a1,a2⟩:=hb.2 i2 _ h.n2 (by rw[ae h.e24];exact h.y);obtain⟨b1,b2⟩:=hb.2 i4 _ h.n4 ag;obtain⟨c1,c2⟩:=hb.2 i6 _ h.n6 (by rw[ae h.e46.symm];exact h.st);exact⟨hb.1,a1,b1,c1,a2,b2,c2,h.e24,h.e26,h.e46⟩
def ShJ.next{Yp e2 i2 i4 i6:Nat}{no:Int}{s:ZY}{ZJ U Z10:af}{YM:Nat}{o:Ob}(h:ShJ Yp e2 i2 i4 i6 no s ZJ U)(hs:aa (C' U i6 o) Z10)(hf:C' U i6 o YM=none)(t:ZY):
 ShJ Yp e2 i2 i4 YM no t ZJ (C' Z10 YM ⟨45,4,[bF t]⟩):=by
 have h1:=(h.sub.ax (o:=o) h.n6)
 have y':=hs _ _ ((ae h.e26 (o:=o)).trans h.y);have n':=hs _ _ ((ae h.e46 (o:=o)).trans h.n);have k2:i2≠YM:=λe=>by rw[<-e,ae h.e26,h.y]at hf;cases hf
 have k4:i4≠YM:=λe=>by rw[<-e,ae h.e46,h.n]at hf;cases hf
 have nn:ZJ YM=none:=h1.none hf;exact⟨(h1.trans hs).ax nn,(ae k2).trans y',(ae k4).trans n',ag,h.n2,h.n4,nn,h.e24,k2,k4⟩
def Ib{b:Bk}(hb:eT b){s:ZY}(hp:s.bJ.length<=1000000)(he:¬eH b s):(aP b s).2.bJ.length<=1000000:=by
 have ZC:kz b s:=Decidable.byContradiction λh=>he (.inl h);have hfl:=hb.flen;have hat:0<=s.s.atom:=by rcases ZC.2 with h|h;exact h.1.1;omega
 unfold aP;split
 .have:(b.X8.dropWhile (kU (bD b s.s .aC).body)).length<=b.X8.length:=(List.dropWhile_sublist _).length_le;show(b.X8.dropWhile (kU (bD b s.s .aC).body)).length<=_;omega
 .split
  .show(dk (bw b s.s).body s.bJ 0).2.1.length<=_;cases hpp:s.bJ with
   |cons f r=>have:=sW (body:=(bw b s.s).body) f r;rw[hpp]at hp;simp only[ZK]at this hp;omega
   |nil=>simp[dk]
  .rename_i hf;have hm:dG b.atoms s.s:=ZC.2.resolve_right λh=>hf (.inl h.1);have:=(sc (x:=cb b s) hb.toBkOk hm hb.pos (gT hb.toBkFull s.s hat)).bJ;show(eG b (cb b s)).bJ.length<=_;omega
def zr(b:Bk)(hb:BkFull b):aJ prog 54 [.rp (bC b)] (bE b.Ym):=λU=>
 (HJ b hb U).Aj λ_ _ h=>h.2.Ke h.1 rfl
def Dp(b:Bk)(hb:eT b){L:Int}(hL:rK b L):Iter prog 53 [.rp (.rp (bC b))] ((shK b 1000000001 ⟨⟨0,0,true⟩,[]⟩ 0).map λx=>[shV x]):=by
 refine⟨e53.c,λYp τ Jx Z0 hy hJ=>?_⟩;refine(e53.r (by simp[c53]) ?_).2;have hs:=aa.refl Z0;have hmu:=za hL;have ZE:=hb.brk;have hal:=hb.len;have hsc:∀s:ZY,(bF s).cells=[vI s.s.atom,vI s.s.done,.bool s.s.free,aG s.bJ]:=λ_=>rfl;have hss:∀s:ZY,(bF s).stays=true:=λ_=>rfl;have Zw:∀p:YG,(aM p).cells=[vI p.no,vI p.kind,aI p.hs,aI p.fs,aI p.ls]:=λ_=>rfl;have hps:∀p:YG,(aM p).stays=true:=λ_=>rfl;have ldB:∀U:af,bB U false 1 (.rp (.rp (bC b)))=some (.rp (bC b)):=λU=>rfl;generalize hXS:(shK b 1000000001 ⟨⟨0,0,true⟩,[]⟩ 0).map (λx=>[shV x])=XS at*;refine ab.mix 8 ?_;apply sR;simp only[go_sem,seval,c53];refine ad λi2 Z2 s2 a2 f2=>?_;have z2:=hs.none f2;replace hs:=hs.trans s2;simp only[go_sem,seval,ldB];refine ab.ay rfl rfl rfl (zr b hb.toBkFull _) ?_;apply sR;simp only[go_sem,seval];refine ad λi4 Z4 s4 a4 f4=>?_;have n24:=ao a2 f4;replace a2:=s4 _ _ a2;have z4:=hs.none f4;replace hs:=hs.trans s4;simp only[go_sem,seval,a4];generalize hq4:C' _ i4 _=Y4;replace a4:=(congrFun hq4 i4).symm.trans ag;replace a2:=((congrFun hq4 i2).symm.trans (ae n24)).trans a2;replace hs:=Eq.subst (motive:=aa _) hq4 (hs.ax z4);clear hq4;apply sR;simp only[go_sem,seval];refine ab.ay rfl rfl rfl (GM b hb.toBkFull _) ?_;apply sR;simp only[go_sem,seval];refine ad λi6 Z6 s6 a6 f6=>?_;have n46:=ao a4 f6;replace a4:=s6 _ _ a4;have n26:=ao a2 f6;replace a2:=s6 _ _ a2;have z6:=hs.none f6;replace hs:=hs.trans s6;simp only[go_sem,seval,a6,hsc,hss];generalize hq6:C' _ i6 _=Y6;replace a6:=(congrFun hq6 i6).symm.trans ag;replace a4:=((congrFun hq6 i4).symm.trans (ae n46)).trans a4;replace a2:=((congrFun hq6 i2).symm.trans (ae n26)).trans a2;replace hs:=Eq.subst (motive:=aa _) hq6 (hs.ax z6);clear hq6;apply sR;simp only[go_sem,seval];have hJ0:ShJ Yp 140 i2 i4 i6 0 ⟨⟨0,0,true⟩,[]⟩ Z0 Y6:=⟨hs,a2,a4,a6,z2,z4,z6,n24,n26,n46⟩
 clear hs a2 a4 a6;generalize Y6=J at*;refine ab.loop (λm st=>∃(s:ZY) (no:Int) (pre:List (List V)) (ZJ:af) (i6':Nat),mu2 b L s<m/\XS=pre++(shK b m s no).map (λx=>[shV x])/\τ pre ZJ/\
  ShJ Yp 140 i2 i4 i6' no s ZJ st.U/\st.s 0=.yl Yp/\st.s 1=.rp (.rp (bC b))/\st.s 3=bE b.Ym/\st.s 4=.ptr i4 0 0/\st.s 5=.fn 55 [.ptr i4 0 0,.ptr i2 0 0]/\st.s 6=.ptr i6' 0 0/\
  0<=no/\no+2*m<=2000000002/\s.bJ.length<=1000000) 1000000001 ?_ ?_
 .exact⟨⟨⟨0,0,true⟩,[]⟩,0,[],Z0,i6,by omega,by rw[kA,hXS],hJ,hJ0,rfl,rfl,rfl,rfl,rfl,rfl,by omega,by omega,by simp⟩
 clear hJ0 hJ;rintro m ⟨S,J⟩ ⟨s,no,pre,ZJ,i6,hm,hx,hJj,hJs,t0,t1,t3,t4,t5,t6,hn0,hn1,hp⟩;simp only at hJs t0 t1 t3 t4 t5 t6;obtain⟨f,rfl⟩:∃f,m=f+1:=⟨m-1,by omega⟩
 have r6:=hJs.st;refine ab.mix 8 ?_;apply sR;simp only[go_sem,seval,t1,t6,ldB,r6];refine ab.ay rfl rfl rfl (zU b hb.toBkFull s hp _) ?_;by_cases he:eH b s
 .rw[ZG he];apply sR;simp only[go_sem,seval];rw[shK,ar he,List.map_nil,lH]at hx;subst hx;exact⟨_,ZJ,hJs.sub,Wk.refl hJs.sub _,.inl hJj⟩
 rw[Zu he];apply sR;simp only[go_sem,seval,t1,t6,ldB,r6];refine ab.ay rfl rfl rfl (Fs b hb.toBkFull hb.fh s hp _) ?_;rw[av he];apply sR;simp only[go_sem,seval];have hs:=aa.refl J;refine ad λi7 Z7 s7 a7 f7=>?_;have z7:=hs.none f7;replace hs:=hs.trans s7;simp only[go_sem,seval];refine ad λi8 Z8 s8 a8 f8=>?_;have n78:=ao a7 f8;replace a7:=s8 _ _ a7;have z8:=hs.none f8;replace hs:=hs.trans s8;simp only[go_sem,seval,a7,Zw,hps];generalize hq7:C' _ i7 _=Y7;replace a7:=(congrFun hq7 i7).symm.trans ag;replace a8:=((congrFun hq7 i8).symm.trans (ae n78.symm)).trans a8;replace hs:=Eq.subst (motive:=aa _) hq7 (hs.ax z7);clear hq7;simp only[go_sem,seval,a8,hsc,hss];generalize hq8:C' _ i8 _=Y8;replace a8:=(congrFun hq8 i8).symm.trans ag;replace a7:=((congrFun hq8 i7).symm.trans (ae n78)).trans a7;replace hs:=Eq.subst (motive:=aa _) hq8 (hs.ax z8);clear hq8;have hJ8:=hJs.mono hs;have r6':=hJ8.st;have r4:=hJ8.n;have ZC:kz b s:=Decidable.byContradiction λh=>he (.inl h);have hat:0<=s.s.atom/\s.s.atom<b.Ym.length:=by
  rcases ZC.2 with h|h
  .have:=h.1;omega
  .omega
 simp only[go_sem,seval,t3,t6,r6',a7,Zw,hsc];refine ab.ay rfl rfl rfl (NQ b.Ym (by omega) (aP b s).1 s.s hat.1 hat.2 _) ?_;rw[show uq b.Ym (aP b s).1 s.s=gx b s from rfl];have hmn:=Bc hb hL he;have hpn:=Ib hb hp he;have r5:Yl .i64 (no+1):=ai;have m7:ZJ i7=none:=hJs.sub.none z7;have m8:ZJ i8=none:=hJs.sub.none z8;have d47:i7≠i4:=λe=>by have:=hJs.n;rw[<-e,z7]at this;cases this
 have d48:i8≠i4:=λe=>by have:=hJs.n;rw[<-e,z8]at this;cases this
 have htm:(no+1).tmod 2=(no+1)%2:=Int.tmod_eq_emod_of_nonneg (by omega);by_cases hw:0<=gx b s/\(no+1)%2≠gx b s
 .rw[shK,av he,ar hw]at hx;have q1:(gx b s>=0)=True:=Yd hw.1;have q2:((no+1).tmod 2≠gx b s)=True:=Yd (by rw[htm];exact hw.2);generalize gx b s=W at*;apply sR;simp only[go_sem,seval,t4,t5,r4,r5,q1,q2];refine ab.call rfl rfl rfl (zQ (x:=.iface 76 (.agg [])) r5 hJ8.n hJ8.y hJ8.e24.symm (hy pre _ _ ZJ _ hx hJj (hJ8.sub.ax hJ8.n4))) ?_;rintro _ Z8b ⟨b',rfl,ZJ8,ZU,Zn⟩;have hJ8b:=hJ8.given ZU;obtain⟨a7b,k7⟩:=ZU.2 i7 _ m7 (by rw[ae d47];exact a7);obtain⟨a8b,k8⟩:=ZU.2 i8 _ m8 (by rw[ae d48];exact a8);have r55:Yl .i64 (no+1+1):=ai;have hlast:XS=(pre++[[shV none]])++[.iface 74 (aM (aP b s).1)]::(shK b f (aP b s).2 (no+1+1)).map (λx=>[shV x]):=by
   rw[hx,show no+2=no+1+1 by omega];simp[shV]
  rcases Zn with⟨rfl,Zn⟩|⟨rfl,Zn⟩
  .apply sR;simp only[go_sem,seval,t5,a7b,Zw];refine ab.call rfl rfl rfl (zQ (x:=.iface 74 (aM (aP b s).1)) r55 hJ8b.n hJ8b.y hJ8b.e24.symm (hy (pre++[[shV none]]) _ _ ZJ8 _ hlast Zn (hJ8b.sub.ax hJ8b.n4))) ?_;rintro _ Z9 ⟨b',rfl,ZJ9,ZU,Zn⟩;have hJ9:=hJ8b.given ZU;obtain⟨a8',k8⟩:=ZU.2 i8 _ k8 (by rw[ae d48];exact a8b);have r9:=hJ9.st;rcases Zn with⟨rfl,Zn⟩|⟨rfl,Zn⟩
   .apply sR;simp only[go_sem,seval,t6,a8',r9,hsc];refine ad λYM Z10 s10 YX f10=>?_;simp only[go_sem,seval,YX];refine⟨f,by omega,(aP b s).2,(no+1)+1,(pre++[[shV none]])++[[shV (some (aP b s).1)]],ZJ9,YM,by omega,?_,Zn,hJ9.next s10 f10 _,?_⟩
    .rw[hlast];simp[shV]
    .simp[t0,t1,t3,t4,t5];exact⟨by omega,by omega,hpn⟩
   .apply sR;simp only[go_sem,seval];refine⟨_,ZJ9,hJ9.sub,Wk.refl hJ9.sub _,.inr ⟨_,?_,Zn⟩⟩;rw[hlast];exact⟨(shK b f (aP b s).2 ((no+1)+1)).map λx=>[shV x],by simp⟩
  .apply sR;simp only[go_sem,seval];refine⟨_,ZJ8,hJ8b.sub,Wk.refl hJ8b.sub _,.inr ⟨_,?_,Zn⟩⟩;rw[hx];exact⟨(some (aP b s).1::shK b f (aP b s).2 (no+2)).map λx=>[shV x],by simp[shV]⟩
 .rw[shK,av he,av hw]at hx;have hq:(gx b s>=0)=False\/(gx b s>=0)=True/\((no+1).tmod 2≠gx b s)=False:=by
   by_cases h:gx b s>=0
   .exact .inr ⟨Yd h,T' (λg=>hw ⟨h,by rw[<-htm];exact g⟩)⟩
   .exact .inl (T' h)
  generalize gx b s=W at*;have hlast:XS=pre++[.iface 74 (aM (aP b s).1)]::(shK b f (aP b s).2 (no+1)).map (λx=>[shV x]):=hx;rcases hq with q1|⟨q1,q2⟩
  .apply sR;simp only[go_sem,seval,t5,a7,Zw,q1];refine ab.call rfl rfl rfl (zQ (x:=.iface 74 (aM (aP b s).1)) r5 hJ8.n hJ8.y hJ8.e24.symm (hy pre _ _ ZJ _ hlast hJj (hJ8.sub.ax hJ8.n4))) ?_;rintro _ Z9 ⟨b',rfl,ZJ9,ZU,Zn⟩;have hJ9:=hJ8.given ZU;obtain⟨a8',k8⟩:=ZU.2 i8 _ m8 (by rw[ae d48];exact a8);have r9:=hJ9.st;rcases Zn with⟨rfl,Zn⟩|⟨rfl,Zn⟩
   .apply sR;simp only[go_sem,seval,t6,a8',r9,hsc];refine ad λYM Z10 s10 YX f10=>?_;simp only[go_sem,seval,YX];refine⟨f,by omega,(aP b s).2,no+1,pre++[[shV (some (aP b s).1)]],ZJ9,YM,by omega,?_,Zn,hJ9.next s10 f10 _,?_⟩
    .rw[hlast];simp[shV]
    .simp[t0,t1,t3,t4,t5];exact⟨by omega,by omega,hpn⟩
   .apply sR;simp only[go_sem,seval];refine⟨_,ZJ9,hJ9.sub,Wk.refl hJ9.sub _,.inr ⟨_,?_,Zn⟩⟩;rw[hlast];exact⟨(shK b f (aP b s).2 (no+1)).map λx=>[shV x],by simp⟩
  .apply sR;simp only[go_sem,seval,t4,t5,r4,r5,a7,Zw,q1,q2];refine ab.call rfl rfl rfl (zQ (x:=.iface 74 (aM (aP b s).1)) r5 hJ8.n hJ8.y hJ8.e24.symm (hy pre _ _ ZJ _ hlast hJj (hJ8.sub.ax hJ8.n4))) ?_;rintro _ Z9 ⟨b',rfl,ZJ9,ZU,Zn⟩;have hJ9:=hJ8.given ZU;obtain⟨a8',k8⟩:=ZU.2 i8 _ m8 (by rw[ae d48];exact a8);have r9:=hJ9.st;rcases Zn with⟨rfl,Zn⟩|⟨rfl,Zn⟩
   .apply sR;simp only[go_sem,seval,t6,a8',r9,hsc];refine ad λYM Z10 s10 YX f10=>?_;simp only[go_sem,seval,YX];refine⟨f,by omega,(aP b s).2,no+1,pre++[[shV (some (aP b s).1)]],ZJ9,YM,by omega,?_,Zn,hJ9.next s10 f10 _,?_⟩
    .rw[hlast];simp[shV]
    .simp[t0,t1,t3,t4,t5];exact⟨by omega,by omega,hpn⟩
   .apply sR;simp only[go_sem,seval];refine⟨_,ZJ9,hJ9.sub,Wk.refl hJ9.sub _,.inr ⟨_,?_,Zn⟩⟩;rw[hlast];exact⟨(shK b f (aP b s).2 (no+1)).map λx=>[shV x],by simp⟩
variable {P:Program} {n:Nat}
def D1{o:Op}{xs:List VX}(h:Yh P n o=.more .oI xs):∃t,o=.alloc t/\mY P t=true:=by
 cases o
 case alloc t=>
  simp only[Yh]at h;split at h
  .cases h
  .split at h
   .rename_i hn;exact⟨t,rfl,hn⟩
   .cases h
 case call c=>
  obtain⟨callee,args,argTypes⟩:=c;cases callee
  case builtin b=>cases b<;>simp only[Yh]at h<;>(repeat' split at h)<;>cases h
  all_goals (simp only[Yh]at h;cases h)
 case unOp op t x=>cases op<;>simp only[Yh]at h<;>cases h
 case makeFunc f a b=>cases f<;>simp only[Yh]at h<;>(repeat' split at h)<;>cases h
 case binOp op t x y yt=>cases op<;>simp only[Yh,jk]at h<;>(repeat' split at h)<;>cases h
 all_goals (simp only[Yh]at h;(repeat' split at h)<;>cases h)
def EK{o:Op}{xs:List VX}(h:Yh P n o=.more .nB xs):∃t x y,o=.store t x y/\mY P t=true/\xs=[cx n x,cx n y]:=by
 cases o
 case store t x y=>
  simp only[Yh]at h;split at h
  .cases h
  .split at h
   .rename_i hn;simp only[Yq.more.injEq,true_and]at h;exact⟨t,x,y,rfl,hn,h.symm⟩
   .cases h
 case call c=>
  obtain⟨callee,args,argTypes⟩:=c;cases callee
  case builtin b=>cases b<;>simp only[Yh]at h<;>(repeat' split at h)<;>cases h
  all_goals (simp only[Yh]at h;cases h)
 case unOp op t x=>cases op<;>simp only[Yh]at h<;>cases h
 case makeFunc f a b=>cases f<;>simp only[Yh]at h<;>(repeat' split at h)<;>cases h
 case binOp op t x y yt=>cases op<;>simp only[Yh,jk]at h<;>(repeat' split at h)<;>cases h
 all_goals (simp only[Yh]at h;(repeat' split at h)<;>cases h)
def ab.oI{st:St}{Q:St->Prop}{k:List It}{i:az}{l:List az}(hw:aQ st.s i.g=some true)(ho:i.op=.more .oI [])
 (h:ab P n (.ops l::k) ⟨aO st.s i.dst (.rp (.agg [])),st.U⟩ Q):ab P n (.ops (i::l)::k) st Q:=by
 refine ab.ins (by rw[ho];simp) hw λF hn I a w o all hi hs next Q' X7=>?_
 subst hn;obtain⟨X9,hd⟩:=bZ hi;rw[ho]at X9;obtain⟨t,g1,hn⟩:=D1 X9;have Yw:(execOp a.eval o).run P w=.ok (.value (.pointer (some ⟨w.heap.size,0,none⟩))) (w.alloc (.cells #[] t)):=by
  unfold execOp;rw[g1];simp[Instr.alloc,oX hn,newVar,newRow,Value.cells]
 unfold Oper.wp;rw[Yw];obtain⟨h1,hk⟩:=hs.sat.more (.cells #[] t);refine X7 _ _ _ ⟨I,?_⟩ h;rw[<-hd];exact hs.step h1 (cC.refl I) hk (by simp) (by simp only[E'];exact⟨w.heap.size,0,rfl,by simp,.inl rfl,by simp[bn,aN]⟩)
def ab.nB{st:St}{Q:St->Prop}{k:List It}{i:az}{l:List az}{xa xv:VX}{u:V}(hw:aQ st.s i.g=some true)(ho:i.op=.more .nB [xa,xv])(ha:xa.ev st.s=.rp u)(hv:xv.ev st.s=.agg [])
 (h:ab P n (.ops l::k) ⟨aO st.s i.dst (.P' []),st.U⟩ Q):ab P n (.ops (i::l)::k) st Q:=by
 refine ab.ins (by rw[ho];simp) hw λF hn I a w o all hi hs next Q' X7=>?_
 subst hn;obtain⟨X9,hd⟩:=bZ hi;rw[ho]at X9;obtain⟨t,x,y,g1,hn,g2⟩:=EK X9;simp only[List.cons.injEq,and_true]at g2;obtain⟨rfl,rfl⟩:=g2;have R1:=bH hs x;have R2:=bH hs y;rw[ha]at R1;rw[hv]at R2;simp only[E']at R1 R2;obtain⟨b,off,e1,_⟩:=R1;obtain⟨Yf,e2,e3,_⟩:=R2;simp only[al]at e3;subst e3;obtain⟨ti,_,hti,hsz,_⟩:=mc hn;have Yw:(execOp a.eval o).run P w=.ok .skip w:=by
  unfold execOp;rw[g1];simp[Instr.storeAt,Instr.sureAddr,e1,e2,storeVar,sizeOf,typeInfo,hti,hsz,Value.cells,storeCells]
 unfold Oper.wp;rw[Yw];refine X7 _ _ _ ⟨I,?_⟩ h;rw[<-hd];exact hs.pure (by simp[E',al,undef])
open Go.Proofs Go.Proofs.Tryz
def La(b:Bk):aJ prog 24 [.rp (bC b)] (.fn 53 [.rp (.rp (bC b))]):=λU=>by
 refine e24.r (by simp[c24]) ?_;refine ab.mix 4 ?_;apply sR;simp only[go_sem,seval,c24];refine ad λid1 Z1 s1 a1 f1=>?_;simp only[go_sem,seval];exact⟨_,U,s1,Wk.fn (vs':=[.rp (.rp (bC b))]) ⟨Wk.ptr s1 a1 f1,trivial⟩,rfl,rfl⟩
def pgN(k:Nat)(x:Option YG):YG:=match x with
 |none=>⟨(k:Int)+1,3,[],[],[]⟩
 |some p=>{ p with no:=(k:Int)+1 }
def uw(L:List (Option YG)):List YG:=(List.range L.length).map λk=>pgN k (L.getD k none)
def Jl(L:List (Option YG)):(uw L).length=L.length:=by simp[uw]
def pgV(k:Nat)(x:Option YG):V:=match x with
 |none=>.agg [vI ((k:Int)+1),vI 3,.aC,.aC,.aC]
 |some p=>aM { p with no:=(k:Int)+1 }
def se(L:List (Option YG)):List V:=(List.range L.length).map λk=>pgV k (L.getD k none)
def HK(L:List (Option YG))(x:Option YG):se (L++[x])=se L++[pgV L.length x]:=by
 unfold se;rw[gZ,List.length_singleton,List.range_succ,gl];congr 1
 .refine List.map_congr_left λk hk=>?_;have:=List.mem_range.1 hk;rw[sC,sC,Ez this]
 .simp
def JY(L:List (Option YG)):(se L).length=L.length:=by simp[se]
def uJ(b:Bk):∀(f:Nat) (s:ZY) (no:Int),(shK b f s no).length<=2*f
 |0,_,_=>by simp[shK]
 |f+1,s,no=>by
  rw[shK];split
  .simp
  .split
   .have:=uJ b f (aP b s).2 (no+2);simp only[ZK];omega
   .have:=uJ b f (aP b s).2 (no+1);simp only[ZK];omega
def bx(b:Bk):List YG:=if(b.atoms.length:Int)+b.X8.length=0 then[⟨1,3,[],[],[]⟩]else uw (shK b 1000000001 ⟨⟨0,0,true⟩,[]⟩ 0)
open Go.Proofs Go.Proofs.Tryz
def aT.TK{ZJ U Yr Z':af}(h:aT ZJ U Yr Z'){id:Nat}{o:Ob}(hn:U id=none)(hj:Yr id=none):aT ZJ U Yr (C' Z' id o):=
 ⟨h.1.ax hj,λi x h1 h2=>by
  obtain⟨h3,h4⟩:=h.2 i x h1 h2;have:i≠id:=λe=>by rw[e,hn]at h2;cases h2
  simp[Vc.C',this,h3,h4]⟩
def FzL.maps{α:Type}{U:af}{N:Nat->Prop}{f g:α->V}:∀{l:List α},(∀a∈l,Fz U N (f a) (g a))->FzL U N (l.map f) (l.map g)
 |[],_=>.nil
 |a::l,h=>.cons _ _ _ _ (h a (by simp)) (FzL.maps λx hx=>h x (by simp[hx]))
def tp(p:YG):(aM p).ct=true:=by
 have h:∀l:List Zh,(aI l).ct=true:=λl=>mu (f:=bb) (λ_=>rfl) l;show cd [vI p.no,vI p.kind,aI p.hs,aI p.fs,aI p.ls]=true;simp only[cd,h];rfl
def Ns{U:af}{N:Nat->Prop}(L:List (Option YG)):FzL U N (se L) ((uw L).map aM):=by
 unfold se uw;rw[List.map_map];refine FzL.maps λk _=>?_;simp only[Function.comp];cases L.getD k none with
 |none=>exact .agg _ _ (.cons _ _ _ _ (.same _ rfl) (.cons _ _ _ _ (.same _ rfl) (.cons _ _ _ _ (.nil 7) (.cons _ _ _ _ (.nil 7) (.cons _ _ _ _ (.nil 7) .nil)))))
 |some p=>exact .same _ (tp _)
def aL.TQ{K U:af}{N:Nat->Prop}{e sz:Nat}{v:V}{rows X6:List V}(h:aL K U e sz v rows)(hN:∀id,K id=none->N id)(hr:FzL U N rows X6):Fz U N v (.sl sz X6):=by
 rcases h with⟨rfl,rfl⟩|⟨id,rfl,ho,hk⟩
 .cases hr;exact .nil sz
 .exact .own id 0 rows.length ⟨e,sz,rows⟩ X6 ho (hN id hk) (by simp) (by rw[yq,hU];exact hr)
def bp(L:List YG):V:=.sl 5 (L.map aM)
def Hb(l:List Nd)(hl:dU l)(w h:Int):
 aJ prog 9 [aH l,vI w,vI h] (if eu l w h=0 then .P' [bp (bx (aY l w h)),vI 0]else .P' [.aC,vI (eu l w h)]):=λU=>by
 refine e9.r (by simp[c9]) ?_;have hs:=aa.refl U;refine ab.mix 8 ?_;apply sR;simp only[go_sem,seval,c9];refine ab.ay rfl rfl rfl (N4 l hl w h _) ?_;by_cases he:eu l w h=0
 .have hb:=gU hl he;have hL:=wM he;rw[Ey,ar he,ar he,he];generalize aY l w h=b at*;generalize iE l h=L at*;have q1:((0:Int)≠0)=False:=T' (λh=>h rfl);apply sR;simp only[go_sem,seval,q1];refine ad λYM Z10 s10 YX f10=>?_;have z10:=hs.none f10;replace hs:=hs.trans s10;simp only[go_sem,seval];refine ab.ay rfl rfl rfl (La b _) ?_;apply sR;simp only[go_sem,seval];generalize hS:mix 8 _ _=S;have S8:S 8=.rp (bC b):=by rw[<-hS];rfl
  have S10:S 10=.ptr YM 0 0:=by rw[<-hS];rfl
  have S27:S 27=.fn 53 [.rp (.rp (bC b))]:=by rw[<-hS];rfl
  clear hS;have hit:=Dp b hb hL;have hSl:=uJ b 1000000001 ⟨⟨0,0,true⟩,[]⟩ 0;have hPR:bx b=if(b.atoms.length:Int)+b.X8.length=0 then[⟨1,3,[],[],[]⟩]else uw (shK b 1000000001 ⟨⟨0,0,true⟩,[]⟩ 0):=rfl
  generalize bx b=PR at*;generalize shK b 1000000001 ⟨⟨0,0,true⟩,[]⟩ 0=SH at*;refine ab.cA (g:=.t 27) (caps:=[.rp (.rp (bC b))]) S27 hit (λx hx=>?_) [] (λpre ZJ=>∃v,ZJ YM=some ⟨23,1,[v]⟩/\aa U ZJ/\aL (aU U YM) ZJ 37 5 v (se (SH.take pre.length)))
   (λ_ _ _=>False) ?_ ?_ ?_ ?_ ?_
  .obtain⟨t,_,rfl⟩:=gg.1 hx;rfl
  .exact⟨.aC,YX,s10,by simpa[se]using aL.start⟩
  .rintro pre x post ZJ ZB hxs ⟨v,J10,Js,Jo⟩ G';obtain⟨t,hti,rfl⟩:=qX (f:=shV) hxs;have hpl:pre.length<SH.length:=(iT.1 hti).1;have hlen:(pre++[[shV t]]).length=pre.length+1:=by simp
   have Zb:se (SH.take (pre.length+1))=se (SH.take pre.length)++[pgV pre.length t]:=by
    rw[HL,hti,Option.toList_some,HK,fY,Nat.min_eq_left (by omega)]
   rw[hlen,Zb];have hnl:(se (SH.take pre.length)).length=pre.length:=by rw[JY,fY];omega
   have hvc:=Jo.vc.1;have hvl:=Jo.len;rw[hnl]at hvl;generalize YK:se (SH.take pre.length)=rows at*;have b10:=G' _ _ J10;generalize hSS:kW S [28] [shV t]=S0;have T10:S0 10=.ptr YM 0 0:=by rw[<-hSS];exact S10
   have T28:S0 28=shV t:=by rw[<-hSS];rfl
   clear hSS;refine ab.mix 12 ?_;apply sR;simp only[go_sem,seval,T28];apply sR;simp only[go_sem,seval];rw[bG];intro i12 f12;have m12:YM≠i12:=ao b10 f12;have r1:Yl .i64 ((pre.length:Int)+1):=ai;have Zw:∀p:YG,(aM p).cells=[vI p.no,vI p.kind,aI p.hs,aI p.fs,aI p.ls]:=λ_=>rfl;have hps:∀p:YG,(aM p).stays=true:=λ_=>rfl;have hBs:=(aT.refl G').rU (o:=⟨37,5,[.agg [vI 0,vI 3,.aC,.aC,.aC]]⟩) f12;have y10:C' ZB i12 ⟨37,5,[.agg [vI 0,vI 3,.aC,.aC,.aC]]⟩ YM=some ⟨23,1,[v]⟩:=by rw[ae m12];exact b10
   have a12:C' ZB i12 ⟨37,5,[.agg [vI 0,vI 3,.aC,.aC,.aC]]⟩ i12=some ⟨37,5,[.agg [vI 0,vI 3,.aC,.aC,.aC]]⟩:=ag;have Zl:(rows.length+1)*89<=140737488355328:=by omega
   have k2:aU U YM YM≠none:=λh=>(aF.1 h).1 rfl;have n12:ZJ i12=none:=G'.none f12;cases t with
   |none=>
    simp only[go_sem,seval,shV,Jr];generalize C' ZB i12 ⟨37,5,[.agg [vI 0,vI 3,.aC,.aC,.aC]]⟩=X' at*;refine ab.oI rfl rfl ?_;refine ab.nB (u:=.agg []) rfl rfl rfl rfl ?_;apply sR;simp only[go_sem,seval,T10,y10,a12,hvc,hvl,r1,ae m12];rw[bG];intro i45 f45;have y2:C' X' i12 (⟨37,5,[.agg [vI ((pre.length:Int)+1),vI 3,.aC,.aC,.aC]]⟩:Ob) YM=some ⟨23,1,[v]⟩:=by rw[ae m12];exact y10
    have hB2:aT ZJ ZB ZJ (C' X' i12 (⟨37,5,[.agg [vI ((pre.length:Int)+1),vI 3,.aC,.aC,.aC]]⟩:Ob)):=hBs.TK f12 n12;generalize C' X' i12 (⟨37,5,[.agg [vI ((pre.length:Int)+1),vI 3,.aC,.aC,.aC]]⟩:Ob)=Y2 at*;have hB3:=hB2.rU (o:=(⟨37,5,[.agg [vI ((pre.length:Int)+1),vI 3,.aC,.aC,.aC]]⟩:Ob)) f45;have y3:C' Y2 i45 (⟨37,5,[.agg [vI ((pre.length:Int)+1),vI 3,.aC,.aC,.aC]]⟩:Ob) YM=some ⟨23,1,[v]⟩:=by rw[ae (ao y2 f45)];exact y2
    have a45:C' Y2 i45 (⟨37,5,[.agg [vI ((pre.length:Int)+1),vI 3,.aC,.aC,.aC]]⟩:Ob) i45=some (⟨37,5,[.agg [vI ((pre.length:Int)+1),vI 3,.aC,.aC,.aC]]⟩:Ob):=ag;generalize C' Y2 i45 (⟨37,5,[.agg [vI ((pre.length:Int)+1),vI 3,.aC,.aC,.aC]]⟩:Ob)=X3 at*;obtain⟨Yn,ZV,hdA⟩:=Jo.Hi hB3.1;have dne:∀(i:Nat) (Zx:af),aU U YM i≠none->Vc.bt Zx Yn i=Zx i:=λi Zx hk=>by
     cases Yn with
     |none=>rfl
     |some a=>exact bR (λe=>hk (by rw[e];exact(hdA a rfl).1))
    simp only[go_sem,seval,ZV,cT a45,Zl];rw[bG];intro i46 f46;have f46:X3 i46=none:=f46;have m46:YM≠i46:=ao y3 f46;have f46':Vc.bt X3 Yn i46=none:=by
     cases Yn with
     |none=>exact f46
     |some a=>simp only[Vc.bt,del];split<;>first|rfl|exact f46
    have y4:C' (Vc.bt X3 Yn) i46 ⟨37,5,rows++[.agg [vI ((pre.length:Int)+1),vI 3,.aC,.aC,.aC]]⟩ YM=some ⟨23,1,[v]⟩:=by rw[ae m46,dne _ _ k2];exact y3
    have hB9:=((hB3.Hv (e:=Yn) λi h=>(hdA i h).2).new (o:=⟨37,5,rows++[.agg [vI ((pre.length:Int)+1),vI 3,.aC,.aC,.aC]]⟩) f46').set (id:=YM) (o:=⟨23,1,[v]⟩) (o':=⟨23,1,[.own i46 0 (rows.length+1)]⟩) (by rw[ae m46,dne _ _ k2];exact J10);simp only[go_sem,seval,hvc,y4,T10];refine⟨_,hB9,.own i46 0 (rows.length+1),ag,?_,?_⟩
    .refine aa.ax (λi o h=>?_) z10;have h1:=Js _ _ h;rw[ae (ao (hB3.1 _ _ h1) f46),dne _ _ (λhk=>by rw[(aF.1 hk).2]at h;cases h)];exact h1
    .refine aL.new (by simp) (by rw[ae m46.symm,ag];rfl) ?_;rw[aF];refine⟨m46.symm,?_⟩;cases h:U i46 with
     |none=>rfl
     |some o=>rw[hB3.1 _ _ (Js _ _ h)]at f46;cases f46
   |some p=>
    simp only[go_sem,seval,shV,Jr];generalize C' ZB i12 ⟨37,5,[.agg [vI 0,vI 3,.aC,.aC,.aC]]⟩=J at*;rw[bG];intro i13 f13;have m13:i12≠i13:=ao a12 f13;have k13:YM≠i13:=ao y10 f13;have hBs:=hBs.rU (o:=⟨74,5,[aM p]⟩) f13;have y10:C' J i13 ⟨74,5,[aM p]⟩ YM=some ⟨23,1,[v]⟩:=by rw[ae k13];exact y10
    have a12:C' J i13 ⟨74,5,[aM p]⟩ i12=some ⟨37,5,[.agg [vI 0,vI 3,.aC,.aC,.aC]]⟩:=by rw[ae m13];exact a12
    have a13:C' J i13 ⟨74,5,[aM p]⟩ i13=some ⟨74,5,[aM p]⟩:=ag;simp only[go_sem,seval,Zw,hps];generalize C' J i13 ⟨74,5,[aM p]⟩=X' at*;simp only[go_sem,seval,T10,y10,a12,hvc,hvl,r1,ae m12];rw[bG];intro i45 f45;have y2:C' X' i12 (⟨37,5,[.agg [vI ((pre.length:Int)+1),vI p.kind,aI p.hs,aI p.fs,aI p.ls]]⟩:Ob) YM=some ⟨23,1,[v]⟩:=by rw[ae m12];exact y10
    have hB2:aT ZJ ZB ZJ (C' X' i12 (⟨37,5,[.agg [vI ((pre.length:Int)+1),vI p.kind,aI p.hs,aI p.fs,aI p.ls]]⟩:Ob)):=hBs.TK f12 n12;generalize C' X' i12 (⟨37,5,[.agg [vI ((pre.length:Int)+1),vI p.kind,aI p.hs,aI p.fs,aI p.ls]]⟩:Ob)=Y2 at*;have hB3:=hB2.rU (o:=(⟨37,5,[.agg [vI ((pre.length:Int)+1),vI p.kind,aI p.hs,aI p.fs,aI p.ls]]⟩:Ob)) f45;have y3:C' Y2 i45 (⟨37,5,[.agg [vI ((pre.length:Int)+1),vI p.kind,aI p.hs,aI p.fs,aI p.ls]]⟩:Ob) YM=some ⟨23,1,[v]⟩:=by rw[ae (ao y2 f45)];exact y2
    have a45:C' Y2 i45 (⟨37,5,[.agg [vI ((pre.length:Int)+1),vI p.kind,aI p.hs,aI p.fs,aI p.ls]]⟩:Ob) i45=some (⟨37,5,[.agg [vI ((pre.length:Int)+1),vI p.kind,aI p.hs,aI p.fs,aI p.ls]]⟩:Ob):=ag;generalize C' Y2 i45 (⟨37,5,[.agg [vI ((pre.length:Int)+1),vI p.kind,aI p.hs,aI p.fs,aI p.ls]]⟩:Ob)=X3 at*;obtain⟨Yn,ZV,hdA⟩:=Jo.Hi hB3.1;have dne:∀(i:Nat) (Zx:af),aU U YM i≠none->Vc.bt Zx Yn i=Zx i:=λi Zx hk=>by
     cases Yn with
     |none=>rfl
     |some a=>exact bR (λe=>hk (by rw[e];exact(hdA a rfl).1))
    simp only[go_sem,seval,ZV,cT a45,Zl];rw[bG];intro i46 f46;have f46:X3 i46=none:=f46;have m46:YM≠i46:=ao y3 f46;have f46':Vc.bt X3 Yn i46=none:=by
     cases Yn with
     |none=>exact f46
     |some a=>simp only[Vc.bt,del];split<;>first|rfl|exact f46
    have y4:C' (Vc.bt X3 Yn) i46 ⟨37,5,rows++[.agg [vI ((pre.length:Int)+1),vI p.kind,aI p.hs,aI p.fs,aI p.ls]]⟩ YM=some ⟨23,1,[v]⟩:=by rw[ae m46,dne _ _ k2];exact y3
    have hB9:=((hB3.Hv (e:=Yn) λi h=>(hdA i h).2).new (o:=⟨37,5,rows++[.agg [vI ((pre.length:Int)+1),vI p.kind,aI p.hs,aI p.fs,aI p.ls]]⟩) f46').set (id:=YM) (o:=⟨23,1,[v]⟩) (o':=⟨23,1,[.own i46 0 (rows.length+1)]⟩) (by rw[ae m46,dne _ _ k2];exact J10);simp only[go_sem,seval,hvc,y4,T10];refine⟨_,hB9,.own i46 0 (rows.length+1),ag,?_,?_⟩
    .refine aa.ax (λi o h=>?_) z10;have h1:=Js _ _ h;rw[ae (ao (hB3.1 _ _ h1) f46),dne _ _ (λhk=>by rw[(aF.1 hk).2]at h;cases h)];exact h1
    .refine aL.new (by simp) (by rw[ae m46.symm,ag];rfl) ?_;rw[aF];refine⟨m46.symm,?_⟩;cases h:U i46 with
     |none=>rfl
     |some o=>rw[hB3.1 _ _ (Js _ _ h)]at f46;cases f46
  .rintro Z' ⟨v,YX,hs,Jo⟩;rw[cL,hU]at Jo;have hvc:=Jo.vc.1;have hvs:=Jo.vc.2;have hla:=iB b.atoms;have hlf:=fX b.X8;have hfl:=hb.flen;have hal:=hb.len;have rr:Yl .i64 ((b.atoms.length:Int)+b.X8.length):=ai;refine ab.mix 12 ?_;apply sR;simp only[go_sem,seval,S8];refine ab.ay rfl rfl rfl (y8 b hb.toBkFull _) ?_;apply sR;simp only[go_sem,seval,AS];have hK:aa U Z':=hs;have hs:=aa.refl Z';refine ad λi15 Y15 s15 a15 f15=>?_;have n1015:=ao YX f15;replace YX:=s15 _ _ YX;have z15:=hs.none f15;replace hs:=hs.trans s15;simp only[go_sem,seval,a15];generalize ZX:C' _ i15 _=Z15;replace a15:=(congrFun ZX i15).symm.trans ag;replace YX:=((congrFun ZX YM).symm.trans (ae n1015)).trans YX;replace hs:=Eq.subst (motive:=aa _) ZX (hs.ax z15);clear ZX;by_cases hz:(b.atoms.length:Int)+b.X8.length=0
   .have qz:((b.atoms.length:Int)+b.X8.length=0)=True:=Yd hz;rw[ar hz]at hPR;simp only[go_sem,seval,a15,hla,hlf,rr,qz];have a10':=YX;refine ad λi58 Z58 s58 a58 f58=>?_;replace YX:=s58 _ _ YX;have z58:=hs.none f58;replace hs:=hs.trans s58;simp only[go_sem,seval,YX,S10,hvc];rw[hPR];have hs3:=(hK.trans hs).ax (id:=YM) (o:=⟨23,1,[.own i58 0 1]⟩) z10;have m58:YM≠i58:=ao a10' f58;have hf:Fz (C' Z58 YM ⟨23,1,[.own i58 0 1]⟩) (λid=>U id=none) (.P' [.own i58 0 1,vI 0]) (.P' [bp [⟨1,3,[],[],[]⟩],vI 0]):=
     .P' _ _ (.cons _ _ _ _ (.own i58 0 1 ⟨37,5,[.agg [vI 1,vI 3,.aC,.aC,.aC]]⟩ _ ((ae m58.symm).trans a58) (hK.none z58) (by simp) (FzL.one (.agg _ _ (.cons _ _ _ _ (.same _ rfl) (.cons _ _ _ _ (.same _ rfl) (.cons _ _ _ _ (.nil 7) (.cons _ _ _ _ (.nil 7) (.cons _ _ _ _ (.nil 7) .nil)))))))) (FzL.same [vI 0] rfl))
    exact⟨_,U,hs3,hf.wk hs3 (λ_ h=>h),rfl,rfl⟩
   .have qz:((b.atoms.length:Int)+b.X8.length=0)=False:=T' hz;rw[av hz]at hPR;simp only[go_sem,seval,a15,YX,S10,hla,hlf,rr,qz,hvc];rw[hPR];have hf:Fz Z15 (λid=>U id=none) (.P' [v,vI 0]) (.P' [bp (uw SH),vI 0]):=
     .P' _ _ (.cons _ _ _ _ ((Jo.mono hs).TQ (λid h=>(aF.1 h).2) (Ns SH)) (FzL.same [vI 0] rfl))
    exact⟨_,U,hK.trans hs,hf.wk (hK.trans hs) (λ_ h=>h),rfl,rfl⟩
  .intro id h;cases h
  .rintro pre Z' _ ⟨⟩
 .have q1:(eu l w h≠0)=True:=Yd he;rw[av he];apply sR;simp only[go_sem,seval,q1];exact ak.pure hs rfl
def goP(l:List Zj):Int->Int->List Zh->Option (Int×Int)
 |a,d,[]=>some (a,d)
 |a,d,x::r=>
  if(0<=a/\a<l.length)/\x.atom=a/\x.node=(atG l a).node/\x.fr=d/\1<=x.h/\x.w=(atG l a).w/\x.x=(atG l a).x/\d+x.h<=(atG l a).h then
   (if d+x.h=(atG l a).h then goP l (a+1) 0 r else if r=[]then some (a,d+x.h)else none)
  else none
def Ce{b:Bk}(hb:eT b)(F:Int->Zh)(hF:∀k (h:k<b.atoms.length),F k=⟨b.atoms[k].node,k,0,b.atoms[k].x,(F k).y,b.atoms[k].w,b.atoms[k].h⟩):
 ∀(m k:Nat),k+m<=b.atoms.length->goP b.atoms k 0 ((List.range m).map λi:Nat=>F ((k:Int)+i))=some (((k+m:Nat):Int),0)
 |0,k,_=>by simp[goP]
 |m+1,k,h=>by
  have hk:k<b.atoms.length:=by omega
  have hp:=hb.pos _ (Zr hk);rw[List.range_succ_eq_map,dS,List.map_map];have e:=hF k hk;have e0:F ((k:Int)+((0:Nat):Int))=F k:=by simp
  have ih:=Ce hb F hF m (k+1) (by omega);rw[e0,goP,aZ hk,e];simp only;rw[ar ⟨⟨by omega,by omega⟩,trivial,trivial,trivial,hp,trivial,trivial,by omega⟩,ar (by omega)];have e1:((k:Int)+1)=((k+1:Nat):Int):=by omega
  have e2:((λi:Nat=>F ((k:Int)+i))∘Nat.succ)=λi:Nat=>F (((k+1:Nat):Int)+i):=by
   funext i;simp only[Function.comp];congr 1;omega
  rw[e1,e2,ih];congr 2;omega
def DH{b:Bk}(hb:eT b){s:Zf}(hm:dG b.atoms s){kept shift high:Int}{c:Nat}(h1:s.atom<c)(h2:c<=b.atoms.length):
 goP b.atoms s.atom s.done ((List.range (c-s.atom.toNat)).map λi:Nat=>cq high (dp b.atoms s kept shift (s.atom+(i:Nat))))=some ((c:Int),0):=by
 have hm0:=hm;obtain⟨⟨h3,h4⟩,h5,h6⟩:=hm;obtain⟨a,ha⟩:∃a:Nat,s.atom=a:=⟨s.atom.toNat,by omega⟩
 have hal:a<b.atoms.length:=by omega
 rw[ha,aZ hal]at h6;have hp:=hb.pos _ (Zr hal);obtain⟨m,hmm⟩:∃m,c-s.atom.toNat=m+1:=⟨c-s.atom.toNat-1,by omega⟩
 rw[hmm,List.range_succ_eq_map,dS,List.map_map];have e0:cq high (dp b.atoms s kept shift (s.atom+((0:Nat):Int)))=⟨b.atoms[a].node,a,s.done,b.atoms[a].x,dC b.atoms s kept shift a+s.done+high,b.atoms[a].w,b.atoms[a].h-s.done⟩:=by
  have:s.atom+((0:Nat):Int)=a:=by omega
  rw[this,dp,ar ⟨hm0,by omega,by omega⟩,ar (by omega)];simp only[cq,Zh.bK,mZ,fM,aZ hal]
 let F:Int->Zh:=λk=>if k=s.atom then⟨b.atoms[a].node,k,0,b.atoms[a].x,0,b.atoms[a].w,b.atoms[a].h⟩else if s.atom<k then cq high (dp b.atoms s kept shift k)else⟨(atG b.atoms k).node,k,0,(atG b.atoms k).x,0,(atG b.atoms k).w,(atG b.atoms k).h⟩
 have hF:∀k (h:k<b.atoms.length),F k=⟨b.atoms[k].node,k,0,b.atoms[k].x,(F k).y,b.atoms[k].w,b.atoms[k].h⟩:=λk h=>by
  by_cases e:(k:Int)=s.atom
  .obtain rfl:k=a:=by omega
   simp only[F,ar e]
  .by_cases e2:s.atom<k
   .simp only[F,av e,ar e2];rw[dp,ar ⟨hm0,by omega,by omega⟩,av e];simp only[cq,mZ,fM,aZ h]
   .simp only[F,av e,av e2,aZ h]
 have hr:=Ce hb F hF m (a+1) (by omega);rw[e0,goP,ha,aZ hal];simp only;rw[ar ⟨⟨by omega,by omega⟩,trivial,trivial,trivial,by omega,trivial,trivial,by omega⟩,ar (by omega)];have e1:((a:Int)+1)=((a+1:Nat):Int):=by omega
 have e2:(List.range m).map ((λi:Nat=>cq high (dp b.atoms s kept shift ((a:Int)+(i:Nat))))∘Nat.succ)=(List.range m).map λi:Nat=>F (((a+1:Nat):Int)+i):=by
  refine List.map_congr_left λi _=>?_;have:((a:Int)+((Nat.succ i:Nat):Int))=((a+1:Nat):Int)+i:=by omega
  simp only[Function.comp,this];simp only[F];rw[av (by omega),ar (by omega)]
 rw[e1,e2,hr];congr 2;omega
def vi{b:Bk}(hb:eT b){s:ZY}(he:¬eH b s):goP b.atoms s.s.atom s.s.done (aP b s).1.fs=some ((aP b s).2.s.atom,(aP b s).2.s.done):=by
 have ZC:kz b s:=Decidable.byContradiction λh=>he (.inl h);have hat:0<=s.s.atom:=by rcases ZC.2 with h|h;exact h.1.1;omega
 have hg:=jd hb he;revert hg;unfold aP;split
 .rename_i h0;intro _;have hn:s.s.atom=0/\s.s.done=0:=by
   rcases ZC.2 with h|h
   .have:=h.1;rw[h0.1]at this;simp at this;omega
   .rw[h0.1]at h;simpa using h
  show goP b.atoms s.s.atom s.s.done []=_;rw[goP,hn.1,hn.2];rfl
 .split
  .intro _;rfl
  .rename_i hf;intro hg;have hm:dG b.atoms s.s:=ZC.2.resolve_right λh=>hf (.inl h.1);have hkind:(nk (dM b (cb b s))).kind=1:=(jA b (cb b s)).2;obtain⟨-,g1,g2,hcg⟩:=hg.cut hkind;change goP b.atoms s.s.atom s.s.done (dM b (cb b s)).fs=some ((eG b (cb b s)).s.atom,(eG b (cb b s)).s.done);change uR b s.s (eG b (cb b s)).s (dM b (cb b s)).fs _ _ at hcg;have hrl:dQ b (cb b s)<=b.atoms.length:=oT;have ZE:=hb.brk;unfold dM eG at hcg|-;by_cases M':fv b.Ym (cb b s).s.atom (dQ b (cb b s))
   .rw[ar M',ar M'];obtain⟨c,c1,c2,c3⟩:=qZ M' (by omega);rw[show yc b (cb b s)=c from c1,eX];have c2':s.s.atom<c:=c2;exact DH hb hm c2' (by omega)
   .rw[av M',av M']at hcg|-;have hso:rz b.atoms s.s (bw b s.s).body:=⟨hm,gT hb.toBkFull s.s hat⟩
    obtain⟨⟨h3,h4⟩,h5,h6⟩:=hm;obtain⟨a,ha⟩:∃a:Nat,s.s.atom=a:=⟨s.s.atom.toNat,by omega⟩
    have hal:a<b.atoms.length:=by omega
    have hp:=hb.pos _ (Zr hal);have hbd:=gT hb.toBkFull s.s hat;have hag:atG b.atoms s.s.atom=b.atoms[a]:=by rw[ha,aZ hal]
    show goP b.atoms s.s.atom s.s.done [cq (bw b s.s).high (kK b.atoms s.s (bw b s.s).body)]=some ((dT b.atoms s.s (bw b s.s).body).atom,(dT b.atoms s.s (bw b s.s).body).done);rw[kK,ar hso,dT,ar hso,fi,jn];simp only[goP,cq,Zh.cut,Zh.bK,fM,hag];rw[hag]at h6;rw[ar ⟨⟨h3,h4⟩,trivial,trivial,trivial,by omega,trivial,trivial,by omega⟩];by_cases e:s.s.done+min (b.atoms[a].h-s.s.done) (bw b s.s).body=b.atoms[a].h
    .have H':¬(s.s.done+min (b.atoms[a].h-s.s.done) (bw b s.s).body<b.atoms[a].h):=by omega
     rw[ar e,av H']
    .have H':s.s.done+min (b.atoms[a].h-s.s.done) (bw b s.s).body<b.atoms[a].h:=by omega
     rw[av e,ar H'];simp
def Dh{x:U'}:∀(p:List U') (i k:Nat),nt x p i=((i+k:Nat):Int)->p[k]?=some x
 |[],i,k,h=>by simp[nt]at h;omega
 |q::p,i,k,h=>by
  rw[nt]at h;split at h
  .rename_i e;obtain rfl:k=0:=by omega
   simp[e]
  .rcases qQ x p (i+1)with h2|⟨m,h2,_⟩
   .rw[h2]at h;omega
   .have hk:k=m+1:=by rw[h2]at h;omega
    subst hk;rw[By];exact Dh p (i+1) m h2
def CY{X8:List U'}:∀(p:List U') (YT:Nat),pE X8 p YT=true->p.Sublist (X8.drop YT)
 |[],YT,_=>List.nil_sublist _
 |x::r,YT,h=>by
  rw[pE]at h;split at h
  .cases h
  .rename_i hk;rcases qQ x (X8.drop YT) 0 with e|⟨k,e,hk2⟩
   .exact absurd (by rw[e];decide) hk
   .rw[e,gY,eX]at h;have hx:=Dh _ 0 k e;obtain⟨hl,hg⟩:=iT.1 hx;have hr:=CY r _ h;have e1:X8.drop YT=(X8.drop YT).take k++x::(X8.drop YT).drop (k+1):=by
     conv=>lhs;rw[<-sZ k (X8.drop YT)]
     rw[ia hl,hg]
    rw[e1,List.drop_drop,show YT+(k+1)=YT+k+1 by omega];exact(List.Sublist.cons_cons x hr).trans (List.sublist_append_right _ _)
structure AkI(s:WS):Prop where
 pw:s.B'.Pairwise λf g=>f.anchor<=g.anchor
 q:∀f∈s.B',f.anchor<=s.atoms.length
def AkI.more{s t:WS}(h:AkI s)(hf:t.B'=s.B')(ha:s.atoms.length<=t.atoms.length):AkI t:=⟨by rw[hf];exact h.pw,λf hf'=>by rw[hf]at hf';have:=h.q f hf';omega⟩
def G4(fs:List U')(f:U')(y:Int)(s:Zv):∃g,sy fs f y s=fs++[g]/\g.anchor=f.anchor:=⟨_,rfl,by unfold jc;(repeat' split)<;>rfl⟩
def AkI.put{s:WS}(h:AkI s)(a:Zj):AkI (s.put a):=h.more rfl (by simp[WS.put])
def AkI.text{rs:List Rm}{s:WS}(h:AkI s)(a:Nat)(n:Nd):AkI (s.text rs a n):=by
 unfold WS.text;generalize cV _ _ _ _ _ _ _ _=L
 induction L generalizing s with
 |nil=>exact h
 |cons x L ih=>exact ih (h.put _)
def AkI.float{rs:List Rm}{s:WS}(h:AkI s)(a:Nat)(n:Nd):AkI (s.float rs a n):=by
 obtain⟨g,e,ha⟩:=G4 s.B' ⟨a,n.side,s.atoms.length,0,0,n.w,n.h⟩ (s.Yk.y+s.Yk.m) (dY rs a);have e':(s.float rs a n).B'=s.B'++[g]:=e;refine⟨?_,λf hf=>?_⟩
 .rw[e',List.pairwise_append];refine⟨h.pw,by simp,λf hf y hy=>?_⟩;rw[er.1 hy,ha];exact h.q f hf
 .rw[e']at hf;rcases dc.1 hf with hf|hf
  .exact h.q f hf
  .rw[er.1 hf,ha];exact Int.le_refl _
def mf{l:List Nd}{rs:List Rm}:∀(k a e:Nat) (s:WS),AkI s->AkI (cS l rs k a e s)
 |0,a,e,s,h=>h
 |k+1,a,e,s,h=>by
  rw[cS];split
  .split
   .exact mf k _ _ _ ((mf k _ _ (s.enter (YJ l a).st) (h.more rfl (YQ _))).more rfl (YQ _))
   .split
    .exact mf k _ _ _ (h.text _ _)
    .split
     .exact mf k _ _ _ (h.put _)
     .exact mf k _ _ _ (h.float _ _)
  .exact h
def Mq(l:List Nd)(w:Int):((cp l w).B'.Pairwise λf g=>f.anchor<=g.anchor)/\∀f∈(cp l w).B',0<=f.anchor/\(0<(cp l w).atoms.length->f.anchor<(cp l w).atoms.length):=by
 have h:=mf (l:=l) (rs:=gz l w) l.length 0 l.length ⟨[],[],0,⟨0,0⟩⟩ ⟨by simp,by simp⟩;have e1:(cp l w).atoms=(cS l (gz l w) l.length 0 l.length ⟨[],[],0,⟨0,0⟩⟩).atoms:=rfl;have e2:(cp l w).B'=(cS l (gz l w) l.length 0 l.length ⟨[],[],0,⟨0,0⟩⟩).B'.map (oH (cS l (gz l w) l.length 0 l.length ⟨[],[],0,⟨0,0⟩⟩).atoms.length):=rfl;rw[e1,e2];generalize cS l (gz l w) l.length 0 l.length ⟨[],[],0,⟨0,0⟩⟩=s at*;refine⟨?_,λf hf=>?_⟩
 .rw[List.pairwise_map];refine h.pw.imp λhab=>?_;simp only[oH];omega
 .obtain⟨g,hg,rfl⟩:=gg.1 hf;simp only[oH];omega
def B8{top shift body:Int}(L:List U'):∃j,j<=L.length/\(jN top shift body L).1=(L.take j).map (dZ top shift)/\(jN top shift body L).2=L.drop j:=by
 suffices key:∀(L A:List U') (x:List U'×List U'),(∃j,j<=A.length/\x.1=(A.take j).map (dZ top shift)/\x.2=A.drop j)->
  ∃j,j<=(A++L).length/\(L.foldl (λx f=>ng body x f (dZ top shift f)) x).1=((A++L).take j).map (dZ top shift)/\(L.foldl (λx f=>ng body x f (dZ top shift f)) x).2=(A++L).drop j from by
  have h:=key L [] ([],[]) ⟨0,by simp,by simp,by simp⟩;rw[kA]at h;exact h
 intro L
 induction L with
 |nil=>intro A x h;simpa using h
 |cons f L ih=>
  intro A x ⟨j,h1,h2,h3⟩;rw[j5,show A++f::L=(A++[f])++L by simp];refine ih _ _ ?_;simp only[ng];by_cases hl:pI x.2 (dZ top shift f) body=true
  .rw[ar hl,ar hl];refine⟨j,by simp;omega,?_,?_⟩
   .rw[h2,MN h1]
   .rw[h3,Eu h1]
  .rw[av hl,av hl];have hx:x.2=[]:=Decidable.byContradiction λhn=>hl (by unfold pI;exact ZG (.inl hn));have hj:j=A.length:=by
    rw[h3]at hx;have:=congrArg List.length hx;simp at this;omega
   subst hj;refine⟨A.length+1,by simp,?_,?_⟩
   .rw[h2,jj (YQ _),jj (by simp),gl,List.map_singleton]
   .rw[h3];simp
def wD{body:Int}:∀(l:List U') (sh:Int),∃j,j<=l.length/\(dk body l sh).2.1=l.drop j/\(dk body l sh).1.length=j/\∀i f m,i<j->l[i]?=some f->(dk body l sh).1[i]?=some m->m.node=f.node/\m.x=f.x/\m.w=f.w/\m.h<=f.h
 |[],sh=>⟨0,by simp,by simp[dk],by simp[dk],λi f m h=>by omega⟩
 |g::r,sh=>by
  rw[dk];split
  .exact⟨0,by simp,by simp,by simp,λi f m h=>by omega⟩
  .obtain⟨j,h1,h2,h3,h4⟩:=wD (body:=body) r (sh+min g.h body);refine⟨j+1,by simp only[ZK];omega,by simpa using h2,by simp only[ZK,h3],λi f m hi hf hm=>?_⟩;cases i with
   |zero=>
    simp only[Sz,aB]at hf hm;subst hf;subst hm;exact⟨rfl,rfl,rfl,by simp only;omega⟩
   |succ i=>
    rw[By]at hf hm;exact h4 i f m (by omega) hf hm
def gC(L:List U')(B:Int):Nat:=(L.filter λf=>decide (f.anchor<B)).length
def su{B:Int}{L:List U'}(h:∀g∈L,B<=g.anchor):(L.filter λf=>decide (f.anchor<B))=[]:=by
 rw[List.filter_eq_nil_iff];intro g hg;have:=h g hg;simp;omega
def AW{B:Int}:∀{L:List U'},(L.Pairwise λf g=>f.anchor<=g.anchor)->(L.filter λf=>decide (f.anchor<B))=L.take (gC L B)
 |[],_=>rfl
 |x::L,h=>by
  have hp:=List.pairwise_cons.1 h;unfold gC;by_cases e:x.anchor<B
  .have ih:=AW (B:=B) hp.2;unfold gC at ih;rw[List.filter_cons_of_pos (by simpa using e),ZK,pA,<-ih]
  .have hn:((x::L).filter λf=>decide (f.anchor<B))=[]:=su λg hg=>by
    rcases cg.1 hg with rfl|hg
    .omega
    .have:=hp.1 g hg;omega
   rw[hn];rfl
def ug{fr to:Int}(hft:fr<=to):∀{L:List U'},(L.Pairwise λf g=>f.anchor<=g.anchor)->wF L fr to=(L.take (gC L to)).drop (gC L fr)
 |[],_=>by simp[wF]
 |x::L,h=>by
  have hp:=List.pairwise_cons.1 h;have ih:=ug hft hp.2;unfold wF pD at ih|-;by_cases e:x.anchor<fr
  .have h1:rD fr to x=true:=by unfold rD;exact ZG (.inl e)
   have c1:gC (x::L) fr=gC L fr+1:=by unfold gC;rw[List.filter_cons_of_pos (by simpa using e),ZK]
   have c2:gC (x::L) to=gC L to+1:=by unfold gC;rw[List.filter_cons_of_pos (by simp;omega),ZK]
   rw[List.filter_cons_of_neg (by simp[h1]),c1,c2,pA,Kx,ih]
  .have hge:∀g∈x::L,fr<=g.anchor:=λg hg=>by
    rcases cg.1 hg with rfl|hg
    .omega
    .have:=hp.1 g hg;omega
   have c1:gC (x::L) fr=0:=by unfold gC;rw[su hge];rfl
   rw[c1,yq,<-AW h];refine List.filter_congr λg hg=>?_;have:=hge g hg;unfold rD;by_cases e2:g.anchor<to
   .rw[ZG e2,Zu (show¬(g.anchor<fr\/g.anchor>=to) by omega)];rfl
   .rw[Zu e2,ZG (show g.anchor<fr\/g.anchor>=to by omega)];rfl
def HV{L:List U'}{a b:Int}(h:a<=b):gC L a<=gC L b:=by
 unfold gC
 induction L with
 |nil=>simp
 |cons x L ih=>
  by_cases e:x.anchor<a
  .rw[List.filter_cons_of_pos (by simpa using e),List.filter_cons_of_pos (by simp;omega)];simp only[ZK];omega
  .rw[List.filter_cons_of_neg (by simpa using e)];by_cases e2:x.anchor<b
   .rw[List.filter_cons_of_pos (by simpa using e2)];simp only[ZK];omega
   .rw[List.filter_cons_of_neg (by simpa using e2)];exact ih
def Gg(L:List U')(B:Int):gC L B<=L.length:=List.length_filter_le _ _
def fB(s:Zf):Int:=if s.done>0 then s.atom+1 else s.atom
def calls(b:Bk)(s:Zf):Nat:=if b.atoms=[]then(if s.free=true then 0 else b.X8.length)else gC b.X8 (fB s)
structure oE(b:Bk)(ls:List Zh)(m j:Nat):Prop where
 len:ls.length=j
 fit:∀i x f,ls[i]?=some x->b.X8[m+i]?=some f->x.node=f.node/\x.atom=-1/\x.x=f.x/\x.w=f.w/\x.h<=f.h
def BS(b:Bk)(s:Zf):calls b s<=b.X8.length:=by
 unfold calls;split
 .split<;>omega
 .exact Gg _ _
def oE.app{b:Bk}{l1 l2:List Zh}{m j k:Nat}(h1:oE b l1 m j)(h2:oE b l2 (m+j) k):oE b (l1++l2) m (j+k):=by
 refine⟨by rw[gZ,h1.len,h2.len],λi x f hx hf=>?_⟩;by_cases h:i<j
 .rw[Ez (by rw[h1.len];exact h)]at hx;exact h1.fit i x f hx hf
 .rw[LG (by rw[h1.len];omega),h1.len]at hx;exact h2.fit (i-j) x f hx (by rw[show m+j+(i-j)=m+i by omega];exact hf)
def Bg{L:List U'}{C m i:Nat}{f:U'}(h:((L.take C).drop m)[i]?=some f):L[m+i]?=some f:=by
 rw[L5,List.getElem?_take]at h;split at h
 .exact h
 .cases h
def Mt{b:Bk}{body high:Int}{C m:Nat}{p:List U'}(hp:p=(b.X8.take C).drop m)(hC:C<=b.X8.length)(hm:m<=C):∃j,m+j<=C/\(dk body p 0).2.1=(b.X8.take C).drop (m+j)/\oE b ((dk body p 0).1.map (l7 high)) m j:=by
 obtain⟨j,h1,h2,h3,h4⟩:=wD (body:=body) p 0;have hl:p.length=C-m:=by rw[hp,qF,fY];omega
 refine⟨j,by omega,by rw[h2,hp,List.drop_drop],by rw[cL,h3],λi x f hx hf=>?_⟩;rw[qJ,Zq8]at hx;obtain⟨mv,e1,rfl⟩:=hx;have hi:i<j:=by rw[<-h3];exact(iT.1 e1).1
 obtain⟨g,hg⟩:∃g,p[i]?=some g:=⟨p[i],Zq6 (by omega)⟩
 have hg':=hg;rw[hp]at hg';have:=Bg hg';rw[this]at hf;obtain rfl:=Option.some.inj hf;obtain⟨g1,g2,g3,g4⟩:=h4 i _ mv hi hg e1;exact⟨g1,rfl,g2,g3,g4⟩
def KJ{b:Bk}(ha:b.X8.Pairwise λf g=>f.anchor<=g.anchor){s:Zf}(hm:dG b.atoms s){to kept shift body high:Int}(hto:fB s<=to):
 ∃j,gC b.X8 (fB s)+j<=gC b.X8 to/\(dO b.atoms b.X8 s to kept shift body).2=(b.X8.take (gC b.X8 to)).drop (gC b.X8 (fB s)+j)/\oE b ((dO b.atoms b.X8 s to kept shift body).1.map (l7 high)) (gC b.X8 (fB s)) j:=by
 have hc:eC b.X8 s to=(b.X8.take (gC b.X8 to)).drop (gC b.X8 (fB s)):=ug hto ha;have h1:=HV (L:=b.X8) hto;have h2:=Gg b.X8 to;unfold dO;rw[ar hm];obtain⟨j,g1,g2,g3⟩:=B8 (top:=uB b.atoms s kept) (shift:=shift) (body:=body) (eC b.X8 s to);have hl:(eC b.X8 s to).length=gC b.X8 to-gC b.X8 (fB s):=by rw[hc,qF,fY];omega
 refine⟨j,by omega,by rw[g3,hc,List.drop_drop],by rw[g2];simp;omega,λi x f hx hf=>?_⟩;rw[g2,List.map_map,qJ,Zq8]at hx;obtain⟨g,e1,rfl⟩:=hx;rw[List.getElem?_take]at e1;split at e1
 .rw[hc]at e1;have:=Bg e1;rw[this]at hf;obtain rfl:=Option.some.inj hf;exact⟨rfl,rfl,rfl,rfl,Int.le_refl _⟩
 .cases e1
def BH{b:Bk}(hb:eT b)(ha:b.X8.Pairwise λf g=>f.anchor<=g.anchor){s:ZY}(he:¬eH b s){m:Nat}(hm:m<=calls b s.s)(hp:s.bJ=(b.X8.take (calls b s.s)).drop m):
 ∃j,m+j<=calls b (aP b s).2.s/\(aP b s).2.bJ=(b.X8.take (calls b (aP b s).2.s)).drop (m+j)/\oE b (aP b s).1.ls m j:=by
 have ZC:kz b s:=Decidable.byContradiction λh=>he (.inl h);have hg:=jd hb he;have hcut:=hg.cut;obtain⟨j0,t1,t2,t3⟩:=Mt (body:=(bw b s.s).body) (high:=(bw b s.s).high) hp (BS b s.s) hm;revert hcut;unfold aP;split
 .rename_i h0;intro _;obtain⟨h1,h2⟩:=h0;have hc0:calls b s.s=0:=by rw[calls,ar h1,ar h2]
  have hc1:calls b (me b (bD b s.s .aC)).s=b.X8.length:=by rw[calls,ar h1];rfl
  rw[hc0]at hm;obtain rfl:m=0:=by omega
  have hle:(b.X8.takeWhile (kU (bD b s.s .aC).body)).length<=b.X8.length:=(List.takeWhile_sublist _).length_le;have hsp:b.X8.takeWhile (kU (bD b s.s .aC).body)++b.X8.dropWhile (kU (bD b s.s .aC).body)=b.X8:=List.takeWhile_append_dropWhile;refine⟨(b.X8.takeWhile (kU (bD b s.s .aC).body)).length,by show _<=calls b (me b (bD b s.s .aC)).s;rw[hc1];omega,?_,?_⟩
  .show b.X8.dropWhile _=(b.X8.take (calls b (me b (bD b s.s .aC)).s)).drop _;rw[hc1,hU,gY]
   conv=>rhs;rw[<-hsp]
   rw[Eu (by simp[hsp]),List.drop_of_length_le (by simp[hsp])];simp
  .show oE b ([]++(b.X8.takeWhile (kU (bD b s.s .aC).body)).map (l7 (bD b s.s .aC).high)) 0 _;rw[kA];refine⟨by simp,λi x f hx hf=>?_⟩;rw[qJ,Zq8]at hx;obtain⟨g,e1,rfl⟩:=hx;have:b.X8[i]?=some g:=by
    rw[<-hsp,Ez (iT.1 e1).1];exact e1
   rw[gY,this]at hf;obtain rfl:=Option.some.inj hf;exact⟨rfl,rfl,rfl,rfl,Int.le_refl _⟩
 .rename_i hn0;split
  .intro _;have hcs:calls b (⟨s.s.atom,s.s.done,s.s.free&&decide (s.s.atom<b.atoms.length)⟩:Zf)=calls b s.s:=by
    unfold calls;split
    .rename_i h1;have:¬s.s.free=true:=λh=>hn0 ⟨h1,h⟩;simp[this]
    .rfl
   refine⟨j0,?_,?_,?_⟩
   .show m+j0<=calls b (⟨s.s.atom,s.s.done,s.s.free&&decide (s.s.atom<b.atoms.length)⟩:Zf);rw[hcs];exact t1
   .show(dk (bw b s.s).body s.bJ 0).2.1=(b.X8.take (calls b (⟨s.s.atom,s.s.done,s.s.free&&decide (s.s.atom<b.atoms.length)⟩:Zf))).drop _;rw[hcs];exact t2
   .exact t3
  .rename_i hf;intro hcut;have hfm:dG b.atoms s.s:=ZC.2.resolve_right λh=>hf (.inl h.1);have YA:b.atoms≠[]:=λh=>by have:=hfm.1;rw[h]at this;simp at this;omega
   have hC:calls b s.s=gC b.X8 (fB s.s):=by rw[calls,av YA]
   have hleft:(dk (bw b s.s).body s.bJ 0).2.1=[]:=Decidable.byContradiction λh=>hf (.inr (.inl h));have hCl:=BS b s.s;have hmj:m+j0=gC b.X8 (fB s.s):=by
    rw[hleft]at t2;have:=congrArg List.length t2;simp only[List.length_nil,qF,fY]at this;omega
   have hrl:dQ b (cb b s)<=b.atoms.length:=oT;have ZE:=hb.brk;have hbody:=gT hb.toBkFull s.s hfm.1.1;have key:∀(to kept shift body:Int) (t:Zf),fB s.s<=to->fB t=to->∀(hls:List Zh) (hpd:List U'),hls=(cb b s).ls++(dO b.atoms b.X8 s.s to kept shift body).1.map (l7 (bw b s.s).high)->hpd=(dO b.atoms b.X8 s.s to kept shift body).2->
    ∃j,m+j<=calls b t/\hpd=(b.X8.take (calls b t)).drop (m+j)/\oE b hls m j:=λto kept shift body t g1 g2 hls hpd g3 g4=>by
    obtain⟨j1,u1,u2,u3⟩:=KJ ha hfm (kept:=kept) (shift:=shift) (body:=body) (high:=(bw b s.s).high) g1;have hct:calls b t=gC b.X8 to:=by rw[calls,av YA,g2]
    rw[<-hmj]at u1 u2 u3;refine⟨j0+j1,by rw[hct];omega,by rw[g4,u2,hct,Nat.add_assoc],?_⟩;rw[g3];exact oE.app t3 u3
   show∃j,m+j<=calls b (eG b (cb b s)).s/\(eG b (cb b s)).bJ=(b.X8.take (calls b (eG b (cb b s)).s)).drop (m+j)/\oE b (dM b (cb b s)).ls m j;have hcb:fB s.s<=s.s.atom+1:=by unfold fB;split<;>omega
   unfold dM eG;by_cases M':fv b.Ym (cb b s).s.atom (dQ b (cb b s))
   .rw[ar M',ar M'];obtain⟨c,c1,c2,c3⟩:=qZ M' (by omega);rw[show yc b (cb b s)=c from c1,eX];have c2':s.s.atom<c:=c2;exact key c (dN b (cb b s)) (cb b s).shift (cb b s).body _ (by omega) (by show fB ⟨c,0,_⟩=c;rfl) _ _ rfl rfl
   .rw[av M',av M'];have hso:rz b.atoms s.s (bw b s.s).body:=⟨hfm,hbody⟩
    refine key (s.s.atom+1) 0 0 (cb b s).body _ hcb ?_ _ _ rfl rfl;show fB (dT b.atoms s.s (bw b s.s).body)=_;rw[dT,ar hso,jn];obtain⟨⟨h3,h4⟩,h5,h6⟩:=hfm;split
    .rename_i H';simp only[fi,Zh.cut,Zh.bK,fM]at H'|-;unfold fB;simp only;rw[ar];obtain⟨k,hk⟩:∃k:Nat,s.s.atom=k:=⟨s.s.atom.toNat,by omega⟩
     have hp:=hb.pos _ (Zr (show k<b.atoms.length by omega));rw[hk,aZ (show k<b.atoms.length by omega)]at h6 H'|-;omega
    .rfl
def IB(L:List (Option YG))(i:Nat):(uw L)[i]?=(L[i]?).map (pgN i):=by
 unfold uw;rw[qJ];by_cases h:i<L.length
 .rw[List.getElem?_range h,Zq6 h];simp[h]
 .rw[rO (by simpa using h),rO (by omega)];rfl
structure NdI(s:WS)(a:Nat):Prop where
 pw:s.B'.Pairwise λf g=>f.node<g.node
 q:∀f∈s.B',f.node<a
def NdI.more{s t:WS}{a b:Nat}(h:NdI s a)(hf:t.B'=s.B')(ha:a<=b):NdI t b:=⟨by rw[hf];exact h.pw,λf hf'=>by rw[hf]at hf';have:=h.q f hf';omega⟩
def Hk(fs:List U')(f:U')(y:Int)(s:Zv):∃g,sy fs f y s=fs++[g]/\g.node=f.node:=⟨_,rfl,by unfold jc;(repeat' split)<;>rfl⟩
def A8{rs:List Rm}(s:WS)(a:Nat)(n:Nd):(s.text rs a n).B'=s.B':=by
 unfold WS.text;generalize cV _ _ _ _ _ _ _ _=L
 induction L generalizing s with
 |nil=>rfl
 |cons x L ih=>exact ih (s.put _)
def NdI.float{rs:List Rm}{s:WS}{a b:Nat}(h:NdI s a)(n:Nd)(hab:a<b):NdI (s.float rs a n) b:=by
 obtain⟨g,e,ha⟩:=Hk s.B' ⟨a,n.side,s.atoms.length,0,0,n.w,n.h⟩ (s.Yk.y+s.Yk.m) (dY rs a);have e':(s.float rs a n).B'=s.B'++[g]:=e;have ha':g.node=(a:Int):=ha;refine⟨?_,λf hf=>?_⟩
 .rw[e',List.pairwise_append];refine⟨h.pw,by simp,λf hf y hy=>?_⟩;rw[er.1 hy,ha'];exact h.q f hf
 .rw[e']at hf;rcases dc.1 hf with hf|hf
  .have:=h.q f hf;omega
  .rw[er.1 hf,ha'];omega
def l8{l:List Nd}{rs:List Rm}:∀(k a e:Nat) (s:WS),e<=l.length->bQ l a e=true->a<=e->NdI s a->NdI (cS l rs k a e s) e
 |0,a,e,s,_,_,hae,h=>h.more rfl hae
 |k+1,a,e,s,he,hr,hae,h=>by
  rw[cS];split
  .rename_i H';obtain⟨h1,h2⟩:=cF he hr (YQ a) H';obtain⟨h3,h4⟩:=dq he hr H';have h5:a+(YO l a).toNat<=e:=by omega
   have h6:a+1<=a+(YO l a).toNat:=by omega
   split
   .exact l8 k _ _ _ he h3 h5 ((l8 k _ _ (s.enter (YJ l a).st) (by omega) h4 h6 (h.more rfl (by omega))).more rfl (YQ _))
   .split
    .exact l8 k _ _ _ he h3 h5 (h.more (A8 _ _ _) (by omega))
    .split
     .exact l8 k _ _ _ he h3 h5 (h.more rfl (by omega))
     .exact l8 k _ _ _ he h3 h5 (h.float _ (by omega))
  .exact h.more rfl hae
def MG{l:List Nd}(hb:Zd l=true)(w:Int):(cp l w).B'.Pairwise λf g=>f.node<g.node:=by
 have hr:bQ l 0 l.length=true:=by simp only[Zd,Ba]at hb;exact hb.2
 have h:=l8 (l:=l) (rs:=gz l w) l.length 0 l.length ⟨[],[],0,⟨0,0⟩⟩ (YQ _) hr (Nat.zero_le _) ⟨by simp,by simp⟩;have e2:(cp l w).B'=(cS l (gz l w) l.length 0 l.length ⟨[],[],0,⟨0,0⟩⟩).B'.map (oH (cS l (gz l w) l.length 0 l.length ⟨[],[],0,⟨0,0⟩⟩).atoms.length):=rfl;rw[e2,List.pairwise_map];exact h.pw.imp λhab=>hab
structure ZF where
 last:Zh
 parts:Nat
 B':Nat
 shown:Int->Nat
def ZF.nil:ZF:=⟨⟨0,0,0,0,0,0,0⟩,0,0,λ_=>0⟩
def eF(t:ZF)(p:YG):ZF:=⟨p.fs.getLast?.getD t.last,t.parts+p.fs.length,t.B'+(if p.kind=2 then 1 else 0),λn=>t.shown n+(p.ls.filter λf=>decide (f.node=n)).length⟩
def nv(n:Int):Prop:=n< -1152921504606846976\/n>1152921504606846976
instance (n:Int):Decidable (nv n):=by unfold nv;infer_instance
def gM(b:Bk)(t:ZF):Option Zf:=
 if t.parts=0 then some ⟨0,0,decide ((b.atoms.length:Int)>0\/t.B'=0)⟩
 else if t.last.atom<0\/t.last.atom>=b.atoms.length\/nv t.last.fr\/nv t.last.h then none
 else if t.last.fr+t.last.h<(atG b.atoms t.last.atom).h then(if t.last.fr+t.last.h>0 then some ⟨t.last.atom,t.last.fr+t.last.h,false⟩else none)
 else some ⟨t.last.atom+1,0,decide (t.last.atom+1<b.atoms.length/\(bkG b.Ym (t.last.atom+1).toNat).forced≠0)⟩
def ij(b:Bk)(f:U')(s:Zf):Bool:=if(b.atoms.length:Int)=0 then !s.free else decide (f.anchor<s.atom\/f.anchor=s.atom/\s.done>0)
def stateT(b:Bk)(t:ZF):Option ZY:=(gM b t).map λs=>⟨s,b.X8.filter λf=>ij b f s&&decide (t.shown f.node=0)⟩
def lV(b:Bk)(p:YG)(s:Zf)(no:Int):Prop:=p.kind=1/\¬s.done>0/\((bkG b.Ym s.atom.toNat).forced=3/\no%2=1\/(bkG b.Ym s.atom.toNat).forced=4/\no%2=0)
instance (b:Bk) (p:YG) (s:Zf) (no:Int):Decidable (lV b p s no):=by unfold lV;infer_instance
def dB(b:Bk)(t:ZF)(no:Int):Option YG:=
 if(b.atoms.length:Int)+b.X8.length=0 then(if no=1 then some ⟨no,3,[],[],[]⟩else none)
 else match stateT b t with
 |none=>none
 |some s=>if eH b s then none else if lV b (aP b s).1 s.s no then some ⟨no,3,[],[],[]⟩else some { (aP b s).1 with no:=no }
def Dr{l:List Zj}:∀{fs:List Zh} {a d a' d':Int} {f:Zh},goP l a d fs=some (a',d')->fs.getLast?=some f->0<=d->
 (0<=f.atom/\f.atom<l.length)/\0<=f.fr/\1<=f.h/\f.fr+f.h<=(atG l f.atom).h/\(if f.fr+f.h=(atG l f.atom).h then a'=f.atom+1/\d'=0 else a'=f.atom/\d'=f.fr+f.h)
 |[],_,_,_,_,_,_,h,_=>by simp at h
 |x::r,a,d,a',d',f,hg,hl,hd=>by
  rw[goP]at hg;split at hg
  .rename_i hx;obtain⟨h1,h2,h3,h4,h5,h6,h7,h8⟩:=hx;cases r with
   |nil=>
    simp only[List.getLast?_singleton,aB]at hl;subst hl;rw[h2,h4];refine⟨h1,hd,h5,h8,?_⟩;split at hg
    .rename_i he;rw[ar he];simp only[goP,aB,Prod.mk.injEq]at hg;omega
    .rename_i he;rw[av he];simp only[if_true,aB,Prod.mk.injEq]at hg;omega
   |cons y r=>
    rw[List.getLast?_cons_cons]at hl;split at hg
    .exact Dr hg hl (Int.le_refl _)
    .simp at hg
  .cases hg
structure Told(b:Bk)(t:ZF)(s:ZY)(m:Nat):Prop where
 st:gM b t=some s.s
 sh:∀i f,b.X8[i]?=some f->(t.shown f.node=0↔m<=i)
 le:m<=calls b s.s
 pe:s.bJ=(b.X8.take (calls b s.s)).drop m
 n0:b.atoms=[]->t.parts=0/\s.s.atom=0/\s.s.done=0
def tB{α:Type}{p:α->Bool}:∀{L:List α} {m:Nat},(∀i f,L[i]?=some f->(p f=true↔m<=i))->L.filter p=L.drop m
 |[],m,_=>by simp
 |x::L,0,h=>by
  rw[yq,List.filter_eq_self];intro a ha;obtain⟨i,hi⟩:=ET ha;exact(h i a hi).2 (Nat.zero_le i)
 |x::L,m+1,h=>by
  have h0:¬(p x=true):=λe=>by have:=(h 0 x rfl).1 e;omega
  rw[List.filter_cons_of_neg h0,Kx];exact tB λi f hf=>by rw[h (i+1) f hf];omega
def BL{b:Bk}(ha:b.X8.Pairwise λf g=>f.anchor<=g.anchor)(s:Zf):(b.X8.filter λf=>ij b f s)=b.X8.take (calls b s):=by
 unfold calls ij;by_cases h0:b.atoms=[]
 .rw[ar h0];simp only[h0,List.length_nil,Int.ofNat_zero,if_true];cases s.free<;>simp
 .rw[av h0];have hp:=wH.2 h0;rw[<-AW ha];refine List.filter_congr λf _=>?_;rw[av (by omega)];unfold fB;rw[decide_eq_decide];split<;>omega
def vj{b:Bk}(ha:b.X8.Pairwise λf g=>f.anchor<=g.anchor){t:ZF}{s:ZY}{m:Nat}(h:Told b t s m):stateT b t=some s:=by
 unfold stateT;rw[h.st,Option.map_some];have h1:(b.X8.filter λf=>ij b f s.s&&decide (t.shown f.node=0))=(b.X8.take (calls b s.s)).drop m:=by
  have h2:(b.X8.filter λf=>ij b f s.s&&decide (t.shown f.node=0))=(b.X8.filter λf=>ij b f s.s).filter λf=>decide (t.shown f.node=0):=by
   rw[List.filter_filter];exact List.filter_congr λf _=>Bool.and_comm _ _
  rw[h2,BL ha];refine tB λi f hf=>?_;rw[List.getElem?_take]at hf;split at hf
  .rw[Zq9];exact h.sh i f hf
  .cases hf
 rw[h1,<-h.pe]
def HM{b:Bk}{s:ZY}(h:(aP b s).1.kind=1)(hd:(aP b s).2.s.done>0):(aP b s).2.s.free=false:=by
 revert h hd;unfold aP;split
 .intro _ _;rfl
 .split
  .intro h _;simp[nk]at h
  .intro _;unfold eG;split
   .intro h;simp[zW]at h
   .intro _;simp only[wP,dT,jn]
    (repeat' split)<;>rfl
def Ep{b:Bk}(hb:eT b)(hz:(bkG b.Ym b.atoms.length).forced=0){t:ZF}{s:ZY}(he:¬eH b s)(n0:b.atoms=[]->t.parts=0/\s.s.atom=0/\s.s.done=0)(Ys:gM b t=some s.s)(no:Int):
 gM b (eF t { (aP b s).1 with no:=no })=some (aP b s).2.s:=by
 have hg:=jd hb he;have hpp:=vi hb he;rcases hg.kd with k|k
 .obtain⟨hm,h1,h2,hc⟩:=hg.cut k;have hfr:=HM k;generalize aP b s=x at*;obtain⟨p,u⟩:=x;simp only at*;obtain⟨f,hf⟩:∃f,p.fs.getLast?=some f:=by
   cases hl:p.fs with
   |nil=>rw[hl]at h1;simp at h1
   |cons a r=>exact⟨_,List.getLast?_cons⟩
  obtain⟨g1,g2,g3,g4,g5⟩:=Dr hpp hf hm.2.1;have hH:(atG b.atoms f.atom).h<=18014398509481984:=by
   obtain⟨k',ZL⟩:∃k':Nat,f.atom=k':=⟨f.atom.toNat,by omega⟩
   have hkl:k'<b.atoms.length:=by omega
   rw[ZL,aZ hkl];exact(hb.tight _ (Zr hkl)).2.2.2
  have e1:(eF t { p with no:=no }).parts=t.parts+p.fs.length:=rfl;have e2:(eF t { p with no:=no }).last=f:=by
   show p.fs.getLast?.getD t.last=f;rw[hf];rfl
  unfold gM;rw[e1,e2,av (by omega),av (by unfold nv;omega)];obtain⟨⟨ua,ud,uf⟩,up⟩:=u;simp only at*;by_cases hq:f.fr+f.h=(atG b.atoms f.atom).h
  .rw[ar hq]at g5;obtain⟨rfl,rfl⟩:=g5;rw[av (by omega)];cases hc with
   |more q1 q2 q3 q4 q5=>
    cases hl:p.fs with
    |nil=>rw[hl]at h1;simp at h1
    |cons a r=>
     have hr:r=[]:=by rw[hl]at q2;simpa using q2
     subst hr;rw[hl]at hf;simp only[List.getLast?_singleton,aB]at hf;subst hf;have:=q4 a (by rw[hl];rfl);have:=hm.2.1;simp only at q5;omega
   |whole c r y q1 q2 q3 q4 q5 q6 q7 q8 q9=>
    simp only[Zf.mk.injEq]at q1;obtain⟨qa,-,qf⟩:=q1;rw[qf];congr 2;rw[decide_eq_decide,show(f.atom+1).toNat=c by omega];constructor
    .exact λh=>h.2
    .intro h;refine⟨?_,h⟩;rcases Nat.lt_or_ge c b.atoms.length with h'|h'
     .omega
     .have:c=b.atoms.length:=by omega
      rw[this]at h;exact absurd hz h
  .rw[av hq]at g5;obtain⟨rfl,rfl⟩:=g5;rw[ar (by omega),ar (by omega),hfr (by omega)]
 .have Yx:=hg.no' k;have e1:(eF t { (aP b s).1 with no:=no }).parts=t.parts:=by show t.parts+(aP b s).1.fs.length=_;rw[Yx];rfl
  have e2:(eF t { (aP b s).1 with no:=no }).last=t.last:=by show(aP b s).1.fs.getLast?.getD t.last=_;rw[Yx];rfl
  have e3:(eF t { (aP b s).1 with no:=no }).B'=t.B'+1:=by show t.B'+(if(aP b s).1.kind=2 then 1 else 0)=_;rw[ar k]
  have hst':=Ys;unfold gM at Ys|-;rw[e1,e2,e3];have hu:(b.atoms=[]/\(aP b s).2.s=⟨0,0,false⟩)\/(aP b s).2.s=⟨s.s.atom,s.s.done,s.s.free&&decide (s.s.atom<b.atoms.length)⟩:=by
   unfold aP at k|-;split
   .rename_i h0;exact .inl ⟨h0.1,rfl⟩
   .rename_i h0;rw[av h0]at k;split
    .exact .inr rfl
    .rename_i hf;rw[av hf]at k;have hk:=(jA b (cb b s)).2;have:(dM b (cb b s)).kind=2:=k;rw[hk]at this;cases this
  clear e1 e2 e3;rcases hu with⟨h0,hu⟩|hu
  .rw[ar (n0 h0).1,h0,hu];simp
  .rw[hu];by_cases hp:t.parts=0
   .rw[ar hp]at Ys|-;simp only[aB]at Ys;rw[<-Ys];simp only[<-Bool.decide_and];congr 2;rw[decide_eq_decide];omega
   .rw[av hp]at Ys|-;split at Ys
    .cases Ys
    .rename_i hq;rw[av hq];split at Ys
     .rename_i hr;rw[ar hr];split at Ys
      .rename_i hr';rw[ar hr'];simp only[aB]at Ys;rw[<-Ys];simp
      .cases Ys
     .rename_i hr;rw[av hr];simp only[aB]at Ys;rw[<-Ys];simp only[<-Bool.decide_and];congr 2;rw[decide_eq_decide];exact⟨λh=>⟨h,h.1⟩,λh=>h.1⟩
def Nf{L:List U'}(hn:L.Pairwise λf g=>f.node<g.node){i j:Nat}{f g:U'}(hi:L[i]?=some f)(hj:L[j]?=some g)(h:f.node=g.node):i=j:=by
 obtain⟨h1,h2⟩:=iT.1 hi;obtain⟨h3,h4⟩:=iT.1 hj;have hp:=List.pairwise_iff_getElem.1 hn;rcases Nat.lt_trichotomy i j with hl|hl|hl
 .have:=hp i j h1 h3 hl;rw[h2,h4]at this;omega
 .exact hl
 .have:=hp j i h3 h1 hl;rw[h2,h4]at this;omega
def Hw{b:Bk}(hb:eT b)(hz:(bkG b.Ym b.atoms.length).forced=0)(ha:b.X8.Pairwise λf g=>f.anchor<=g.anchor)(hn:b.X8.Pairwise λf g=>f.node<g.node){t:ZF}{s:ZY}{m:Nat}(h:Told b t s m)(he:¬eH b s)(no:Int):
 ∃j,Told b (eF t { (aP b s).1 with no:=no }) (aP b s).2 (m+j):=by
 obtain⟨j,g1,g2,g3⟩:=BH hb ha he h.le h.pe;have Ys:=Ep hb hz he h.n0 h.st no;refine⟨j,Ys,λi f hf=>?_,g1,g2,λh0=>?_⟩
 .have hi:=(iT.1 hf).1;have e:(eF t { (aP b s).1 with no:=no }).shown f.node=t.shown f.node+((aP b s).1.ls.filter λx=>decide (x.node=f.node)).length:=rfl;rw[e];have hs:=h.sh i f hf;constructor
  .intro h1;have h2:t.shown f.node=0:=by omega
   have h3:=hs.1 h2;refine Nat.le_of_not_lt λH'=>?_;have hil:i-m<(aP b s).1.ls.length:=by rw[g3.len];omega
   have hx:=g3.fit (i-m) _ f (Zq6 hil) (by rw[show m+(i-m)=i by omega];exact hf);have hmem:(aP b s).1.ls[i-m]∈(aP b s).1.ls.filter λx=>decide (x.node=f.node):=rR.2 ⟨Zr hil,by simpa using hx.1⟩;have:=List.length_pos_of_mem hmem;omega
  .intro h1;have h2:t.shown f.node=0:=hs.2 (by omega);have h3:((aP b s).1.ls.filter λx=>decide (x.node=f.node))=[]:=by
    rw[List.filter_eq_nil_iff];intro x hx hxe;obtain⟨k,hk⟩:=ET hx;have hkl:=(iT.1 hk).1;rw[g3.len]at hkl;have hml:m+k<b.X8.length:=by omega
    have:=g3.fit k x _ hk (Zq6 hml);have hq:(b.X8[m+k]).node=f.node:=by rw[<-this.1];simpa using hxe
    have:=Nf hn (Zq6 hml) hf hq;omega
   rw[h2,h3];rfl
 .obtain⟨z1,z2,z3⟩:=h.n0 h0;have hg:=jd hb he;have hfs:(aP b s).1.fs=[]:=by
   rcases hg.kd with k|k
   .have:=(hg.cut k).1.1;rw[h0]at this;simp at this;omega
   .exact hg.no' k
  have hpp:=vi hb he;rw[hfs]at hpp;simp only[goP,aB,Prod.mk.injEq]at hpp;refine⟨?_,by omega,by omega⟩;show t.parts+(aP b s).1.fs.length=0;rw[hfs,z1];rfl
def EX{b:Bk}{t:ZF}{s:ZY}{m:Nat}(h:Told b t s m)(no:Int):Told b (eF t ⟨no,3,[],[],[]⟩) s m:=by
 have e:eF t ⟨no,3,[],[],[]⟩=t:=by
  unfold eF;simp
 rw[e];exact h
def jF:Nat->List (Option YG)->List YG
 |_,[]=>[]
 |k,x::r=>pgN k x::jF (k+1) r
def CK:∀(L:List (Option YG)) (k i:Nat),(jF k L)[i]?=(L[i]?).map (pgN (k+i))
 |[],k,i=>by simp[jF]
 |x::r,k,0=>by simp[jF]
 |x::r,k,i+1=>by
  rw[jF,By,By,CK r (k+1) i,show k+1+i=k+(i+1) by omega]
def yy(L:List (Option YG)):jF 0 L=uw L:=by
 refine List.ext_getElem? λi=>?_;rw[CK,IB,gY]
def bO(t:ZF)(P:List YG)(i:Nat):ZF:=(P.take i).foldl eF t
def ta{b:Bk}{s:ZY}(no:Int):lV b (aP b s).1 s.s no↔0<=gx b s/\no%2≠gx b s:=by
 unfold lV gx uq;split
 .constructor
  .intro h;omega
  .intro h;omega
 .split
  .omega
  .split
   .omega
   .constructor
    .intro h;omega
    .intro h;omega
def pV{b:Bk}(h0:¬((b.atoms.length:Int)+b.X8.length=0))(ha:b.X8.Pairwise λf g=>f.anchor<=g.anchor){t:ZF}{s:ZY}{m:Nat}(h:Told b t s m)(no:Int):
 dB b t no=if eH b s then none else if lV b (aP b s).1 s.s no then some ⟨no,3,[],[],[]⟩else some { (aP b s).1 with no:=no }:=by
 unfold dB;rw[av h0,vj ha h]
def C4{b:Bk}(hb:eT b){L:Int}(hL:rK b L)(hz:(bkG b.Ym b.atoms.length).forced=0)(h0:¬((b.atoms.length:Int)+b.X8.length=0))(ha:b.X8.Pairwise λf g=>f.anchor<=g.anchor)(hn:b.X8.Pairwise λf g=>f.node<g.node):
 ∀(f:Nat) (s:ZY) (k:Nat) (t:ZF) (m:Nat),Told b t s m->mu2 b L s<f->∀i,i<=(shK b f s k).length->dB b (bO t (jF k (shK b f s k)) i) ((k:Int)+i+1)=(jF k (shK b f s k))[i]?/\∃s' m',Told b (bO t (jF k (shK b f s k)) i) s' m'
 |0,s,k,t,m,_,h,_,_=>by omega
 |f+1,s,k,t,m,ht,h,i,hi=>by
  rw[shK]at hi|-;by_cases he:eH b s
  .rw[ar he]at hi|-;have hi0:i=0:=by simpa using hi
   subst hi0;have e:bO t (jF k []) 0=t:=rfl;rw[e];refine⟨?_,s,m,ht⟩;rw[pV h0 ha ht,ar he];rfl
  .rw[av he]at hi|-;have YA:=Bc hb hL he;have one:∀(k':Nat) (t':ZF) (m':Nat),Told b t' s m'->¬lV b (aP b s).1 s.s ((k':Int)+1)->∀i,i<=(some (aP b s).1::shK b f (aP b s).2 ((k':Int)+1)).length->
    dB b (bO t' (jF k' (some (aP b s).1::shK b f (aP b s).2 ((k':Int)+1))) i) ((k':Int)+i+1)=(jF k' (some (aP b s).1::shK b f (aP b s).2 ((k':Int)+1)))[i]?/\
    ∃s' m'',Told b (bO t' (jF k' (some (aP b s).1::shK b f (aP b s).2 ((k':Int)+1))) i) s' m'':=by
    intro k' t' m' ht' hsd i hi;cases i with
    |zero=>
     refine⟨?_,s,m',ht'⟩;have e:bO t' (jF k' (some (aP b s).1::shK b f (aP b s).2 ((k':Int)+1))) 0=t':=rfl;rw[e,pV h0 ha ht',av he,Int.ofNat_zero,Int.add_zero,av hsd];rfl
    |succ i=>
     obtain⟨j,hj⟩:=Hw hb hz ha hn ht' he ((k':Int)+1);have e:bO t' (jF k' (some (aP b s).1::shK b f (aP b s).2 ((k':Int)+1))) (i+1)=bO (eF t' { (aP b s).1 with no:=(k':Int)+1 }) (jF (k'+1) (shK b f (aP b s).2 ((k':Int)+1))) i:=rfl;have e2:(jF k' (some (aP b s).1::shK b f (aP b s).2 ((k':Int)+1)))[i+1]?=(jF (k'+1) (shK b f (aP b s).2 ((k':Int)+1)))[i]?:=by rw[jF,By]
     rw[e,e2];have:=C4 hb hL hz h0 ha hn f (aP b s).2 (k'+1) _ _ hj (by omega) i (by simp at hi;rw[show((k'+1:Nat):Int)=(k':Int)+1 by omega];omega);rw[show((k'+1:Nat):Int)=(k':Int)+1 by omega]at this;rw[show(k':Int)+((i+1:Nat):Int)+1=(k':Int)+1+i+1 by omega];exact this
   by_cases hw:0<=gx b s/\((k:Int)+1)%2≠gx b s
   .rw[ar hw]at hi|-;have hsd:=(ta (b:=b) (s:=s) ((k:Int)+1)).2 hw;cases i with
    |zero=>
     refine⟨?_,s,m,ht⟩;have e:∀P,bO t (jF k P) 0=t:=λP=>rfl;rw[e,pV h0 ha ht,av he,Int.ofNat_zero,Int.add_zero,ar hsd];rfl
    |succ i=>
     have hk2:(k:Int)+2=((k+1:Nat):Int)+1:=by omega
     rw[hk2]at hi|-;have e:∀P,bO t (jF k (none::P)) (i+1)=bO (eF t ⟨(k:Int)+1,3,[],[],[]⟩) (jF (k+1) P) i:=λP=>rfl;have e2:∀P,(jF k (none::P))[i+1]?=(jF (k+1) P)[i]?:=λP=>by rw[jF,By]
     rw[e,e2];have hsd2:¬lV b (aP b s).1 s.s (((k+1:Nat):Int)+1):=by
      rw[ta];have:gx b s=0\/gx b s=1:=by
       unfold gx uq at hw|-;split at hw
       .omega
       .rename_i hc;rw[av hc];split
        .omega
        .split
         .omega
         .rename_i h3 h4;rw[av h3,av h4]at hw;omega
      omega
     have:=one (k+1) _ m (EX ht ((k:Int)+1)) hsd2 i (by simp at hi|-;omega);rw[show(k:Int)+((i+1:Nat):Int)+1=((k+1:Nat):Int)+i+1 by omega];exact this
   .rw[av hw]at hi|-;exact one k t m ht (λhs=>hw ((ta _).1 hs)) i hi
def ml{l:List Nd}(hl:dU l){w h:Int}(he:eu l w h=0)(i:Nat)(hi:i<=(bx (aY l w h)).length):
 dB (aY l w h) (bO .nil (bx (aY l w h)) i) ((i:Int)+1)=(bx (aY l w h))[i]?/\(stateT (aY l w h) (bO .nil (bx (aY l w h)) i)).isSome=true:=by
 have hb:=gU hl he;have hL:=wM he;obtain⟨g1,g2⟩:=Mq l w;have hn:(aY l w h).X8.Pairwise λf g=>f.node<g.node:=MG hb.isb w;have hz:(bkG (aY l w h).Ym (aY l w h).atoms.length).forced=0:=by
  have h1:(aY l w h).Ym=ry l (ofR l w):=rfl;have h2:(aY l w h).atoms.length=(ofR l w).length:=by unfold ofR aY;simp
  rw[h1,h2];unfold bkG ry;rw[sC,qJ,List.getElem?_range (by omega)];simp[bkR,jB,jC,cN]
 have ha:(aY l w h).X8.Pairwise λf g=>f.anchor<=g.anchor:=g1;have h0a:∀f∈(aY l w h).X8,0<=f.anchor:=λf hf=>(g2 f hf).1;clear g1 g2;generalize aY l w h=b at*;unfold bx at hi|-;by_cases h0:(b.atoms.length:Int)+b.X8.length=0
 .rw[ar h0]at hi|-;simp only[List.length_singleton]at hi;have Ys:∀t:ZF,t.parts=0->(stateT b t).isSome=true:=λt ht=>by
   unfold stateT gM;rw[ar ht];rfl
  rcases Nat.lt_or_ge i 1 with h1|h1
  .have:i=0:=by omega
   subst this;refine⟨?_,Ys _ rfl⟩;unfold dB;rw[ar h0];rfl
  .have:i=1:=by omega
   subst this;refine⟨?_,Ys _ rfl⟩;unfold dB;rw[ar h0];rfl
 .rw[av h0,<-yy]at hi|-;have hc:calls b (⟨0,0,true⟩:Zf)=0:=by
   unfold calls;split
   .rfl
   .show gC b.X8 0=0;unfold gC;rw[su h0a];rfl
  have ht:Told b .nil ⟨⟨0,0,true⟩,[]⟩ 0:=by
   refine⟨?_,λi f _=>by simp[ZF.nil],Nat.zero_le _,?_,λ_=>⟨rfl,rfl,rfl⟩⟩
   .unfold gM;simp[ZF.nil]
   .show[]=(b.X8.take (calls b (⟨0,0,true⟩:Zf))).drop 0;rw[hc];rfl
  have hil:i<=(shK b 1000000001 ⟨⟨0,0,true⟩,[]⟩ 0).length:=by
   rw[yy,Jl]at hi;exact hi
  obtain⟨q1,s',m',q2⟩:=C4 hb hL hz h0 ha hn 1000000001 ⟨⟨0,0,true⟩,[]⟩ 0 .nil 0 ht (by have:=za hL;omega) i hil;refine⟨?_,by
   have:=vj ha q2;simp only[Int.ofNat_zero]at this|-;rw[this];rfl⟩
  rw[show((0:Nat):Int)+i+1=(i:Int)+1 by omega]at q1;exact q1
instance:DecidableEq YG:=λa b=>decidable_of_iff (a.no=b.no/\a.kind=b.kind/\a.hs=b.hs/\a.fs=b.fs/\a.ls=b.ls) (by cases a;cases b;simp)
def uE(f:Zh):Int×Int×Int×Int:=(f.node,f.atom,f.fr,f.h)
def eU(j p:YG):Int:=
 if p.no≠j.no then 1
 else if¬(j.kind≠3\/p.kind=3)then 2
 else if¬(p.kind=j.kind/\(j.kind≠3\/¬((p.hs.length:Int)+p.fs.length+p.ls.length>0)))then 3
 else if p.hs≠j.hs then 4
 else if p.fs.map uE≠j.fs.map uE then 5
 else if p.fs≠j.fs then 6
 else if p.ls.map (·.node)≠j.ls.map (·.node)then 7
 else if p.ls≠j.ls then 8 else 0
def EV(j p:YG):0<=eU j p/\eU j p<=8:=by
 unfold eU
 (repeat' split)<;>omega
def Cn{j p:YG}(hj:j.kind=3->j.hs=[]/\j.fs=[]/\j.ls=[]):eU j p=0↔j=p:=by
 constructor
 .intro h;unfold eU at h;split at h
  .cases h
  .rename_i h1;split at h
   .cases h
   .split at h
    .cases h
    .rename_i h3;split at h
     .cases h
     .rename_i h4;split at h
      .cases h
      .split at h
       .cases h
       .rename_i h6;split at h
        .cases h
        .split at h
         .cases h
         .rename_i h8;simp only[Decidable.not_not]at h1 h3 h4 h6 h8;cases j;cases p;simp only at*;simp[h1,h3.1,h4,h6,h8]
 .rintro rfl;have h3:j.kind=j.kind/\(j.kind≠3\/¬((j.hs.length:Int)+j.fs.length+j.ls.length>0)):=by
   refine⟨rfl,?_⟩;by_cases h:j.kind=3
   .obtain⟨a,b,c⟩:=hj h;exact .inr (by rw[a,b,c];simp)
   .exact .inl h
  unfold eU;rw[av (by simp),av (by simpa using h2),av (by rw[Decidable.not_not];exact h3),av (by simp),av (by simp),av (by simp),av (by simp),av (by simp)]
def jy:List YG->List YG->Nat->Int×Int
 |[],[],_=>(0,0)
 |_::_,[],i=>((i:Int)+1,9)
 |[],_::_,i=>((i:Int)+1,9)
 |a::R,p::r,i=>if a=p then jy R r (i+1)else((i:Int)+1,eU a p)
def CI{b:Bk}(hb:eT b){t:ZF}{no:Int}{p:YG}(h:dB b t no=some p)(hk:p.kind=3):p.hs=[]/\p.fs=[]/\p.ls=[]:=by
 unfold dB at h;split at h
 .split at h
  .simp only[aB]at h;subst h;exact⟨rfl,rfl,rfl⟩
  .cases h
 .split at h
  .cases h
  .split at h
   .cases h
   .rename_i he;split at h
    .simp only[aB]at h;subst h;exact⟨rfl,rfl,rfl⟩
    .simp only[aB]at h;subst h;have:=(jd hb he).kd;simp only at hk;omega
def te{t:ZF}{P:List YG}{i:Nat}{p:YG}(h:P[i]?=some p):bO t P (i+1)=eF (bO t P i) p:=by
 unfold bO;rw[List.take_succ,h,Option.toList_some,wG];rfl
def tA{l:List Nd}(hl:dU l){w h:Int}(he:eu l w h=0):∀a∈bx (aY l w h),a.kind=3->a.hs=[]/\a.fs=[]/\a.ls=[]:=λa ha hk=>by
 obtain⟨i,hi⟩:=ET ha;have:=(ml hl he i (by have:=(iT.1 hi).1;omega)).1;exact CI (gU hl he) (this.trans hi) hk
open Go.Proofs Go.Proofs.Tryz
def Ml(sz:Nat)(ks:List Nat):Yb:=⟨26,(.seq (.reg false [⟨(some 4),(.YH (.c (.bool false))),none⟩]) (.seq (.seq (.reg false [⟨(some 6),(.YH (.t 0)),none⟩,⟨(some 7),(.len false (.t 6)),none⟩,⟨(some 8),(.YH (.t 1)),none⟩,⟨(some 9),(.len false (.t 8)),none⟩,⟨(some 10),(.bin .neq (.t 7) (.t 9)),none⟩]) (.cond (.t 10) (.seq (.reg false [⟨(some 4),(.YH (.c (.bool false))),none⟩]) .ret) .skip)) (.seq (.seq (.reg false [⟨(some 11),(.YH (.t 0)),none⟩,⟨(some 12),(.len false (.t 11)),none⟩,⟨(some 13),(.YH (.c (.int .i64 0))),none⟩]) (.block 0 (.loop (.seq (.reg false [⟨(some 14),(.bin .lss (.t 13) (.t 12)),none⟩]) (.seq (.cond (.t 14) .skip (.exit 0)) (.seq (.block 1 (.seq (.reg false [⟨(some 15),(.YH (.t 13)),none⟩,⟨(some 5),(.YH (.t 15)),none⟩]) (.seq (.reg true [⟨(some 16),(.YH (.t 0)),none⟩,⟨(some 17),(.YH (.t 5)),none⟩,⟨(some 18),(.idxA sz (.t 16) (.t 17)),none⟩,⟨(some 19),(.load true sz (.t 18)),none⟩,⟨(some 20),(.YH (.t 1)),none⟩,⟨(some 21),(.YH (.t 5)),none⟩,⟨(some 22),(.idxA sz (.t 20) (.t 21)),none⟩,⟨(some 23),(.load true sz (.t 22)),none⟩,⟨(some 24),(.eqS true ks (.t 19) (.t 23)),none⟩]) (.cond (.t 24) (.seq (.reg false [⟨(some 4),(.YH (.c (.bool false))),none⟩]) .ret) .skip)))) (.reg false [⟨(some 25),(.bin .add (.t 13) (.c (.int .i64 1))),none⟩,⟨(some 13),(.YH (.t 25)),none⟩]))))))) (.seq (.reg false [⟨(some 4),(.YH (.c (.bool true))),none⟩]) .ret)))),[(.tmp (.t 4))]⟩
def Pm{P:Program}{f:FuncId}{fn:Func}(hf:P.funcs[f]?=some fn){sz:Nat}{ks:List Nat}(hc:cfn P fn=some (Ml sz ks))(hk:bV P f=true){α:Type}[DecidableEq α](enc:α->V)
 (he:∀a b,sK true ks (enc a) (enc b)=some (.bool (decide (a≠b))))(hl:∀U a,bB U true sz (.rp (enc a))=some (enc a))(xs ys:List α)(hx:xs.length<=1000000000000000):
 aJ P f [.sl sz (xs.map enc),.sl sz (ys.map enc)] (.bool (decide (xs=ys))):=λU=>by
 refine au.jT hf hc hk (by simp[Ml]) ?_;refine ab.mix 6 ?_;have n1:cW false (.sl sz (xs.map enc))=some (.int .i64 xs.length):=by simp[cW]
 have n2:cW false (.sl sz (ys.map enc))=some (.int .i64 ys.length):=by simp[cW]
 by_cases hlen:xs.length=ys.length
 .have q:((xs.length:Int)≠ys.length)=False:=T';apply sR;simp only[go_sem,seval,Ml,n1,n2,q];refine ab.loop (λm st=>∃j,j<=xs.length/\m=xs.length-j/\xs.take j=ys.take j/\st.s 0=.sl sz (xs.map enc)/\st.s 1=.sl sz (ys.map enc)/\st.s 12=.int .i64 xs.length/\st.s 13=.int .i64 j/\st.U=U) xs.length ⟨0,by omega,rfl,rfl,rfl,rfl,rfl,rfl,rfl⟩ ?_;rintro m ⟨S,Z'⟩ ⟨j,hj,rfl,ht,t0,t1,t12,t13,YF⟩;simp only at t0 t1 t12 t13 YF;subst YF;refine ab.mix 6 ?_;by_cases H':j<xs.length
  .have q1:((j:Int)<xs.length)=True:=Yd;have hlt2:j<ys.length:=by omega
   have i1:∀U,bo U sz (.sl sz (xs.map enc)) (.int .i64 j)=some (.rp (enc xs[j])):=λU=>by simp[bo,H']
   have i2:∀U,bo U sz (.sl sz (ys.map enc)) (.int .i64 j)=some (.rp (enc ys[j])):=λU=>by simp[bo,hlt2]
   have hee:=he xs[j] ys[j];have tx:=Zq0 H';have ty:=Zq0 hlt2;by_cases hq:xs[j]=ys[j]
   .rw[show decide (xs[j]≠ys[j])=false by simpa using hq]at hee;apply sR;simp only[BB,seval,aX,ez,aE,dW,iS,ZQ.nothing,t0,t1,t12,t13,q1,i1,i2,hl,hee];exact⟨ai,_,by omega,j+1,by omega,rfl,by rw[tx,ty,ht,hq],by simp⟩
   .rw[show decide (xs[j]≠ys[j])=true by simpa using hq]at hee;apply sR;simp only[BB,seval,aX,ez,aE,dW,iS,ZQ.nothing,t0,t1,t12,t13,q1,i1,i2,hl,hee];refine ak.same ?_;have:¬xs=ys:=λh=>hq (by simp only[h]);rw[Zu this]
  .have q1:((j:Int)<xs.length)=False:=T';apply sR;simp only[go_sem,seval,t12,t13,q1];refine ak.same ?_;rw[jj (by omega),jj (by omega)]at ht;rw[ZG ht]
 .have q:((xs.length:Int)≠ys.length)=True:=Yd;apply sR;simp only[go_sem,seval,Ml,n1,n2,q];refine ak.same ?_;rw[Zu λh=>hlen (by rw[h])]
open Go.Proofs Go.Proofs.Tryz
section
variable {P:Program} {n:Nat} {st:St} {Q:St->Prop} {k:List It}
def Iw{o:Op}{x y:VX}(h:Yh P n o=.bin .sub x y):∃t x0 y0 yt,o=.binOp .sub t x0 y0 yt/\cx n x0=x/\cx n y0=y:=by
 cases o
 case binOp op' t x0 y0 yt=>
  simp only[Yh,jk]at h
  repeat' split at h
  all_goals first
   |(simp only[Yq.bin.injEq]at h;obtain⟨rfl,h2,h3⟩:=h;exact⟨t,x0,y0,yt,rfl,h2,h3⟩)
   |cases h
   |(cases op'<;>cases h)
 case call c=>
  obtain⟨callee,args,argTypes⟩:=c;cases callee
  case builtin b=>cases b<;>simp only[Yh]at h<;>(repeat' split at h)<;>cases h
  all_goals (simp only[Yh]at h;cases h)
 case unOp op t x=>cases op<;>simp only[Yh]at h<;>cases h
 case makeFunc f a b=>cases f<;>simp only[Yh]at h<;>(repeat' split at h)<;>cases h
 all_goals (simp only[Yh]at h;(repeat' split at h)<;>cases h)
def ab.TA{i:az}{l:List az}{x y:VX}{kk:IntKind}{a b:Int}(hw:aQ st.s i.g=some true)(ho:i.op=.bin .sub x y)(hx:x.ev st.s=.int kk a)(hy:y.ev st.s=.int kk b)
 (h:ab P n (.ops l::k) ⟨aO st.s i.dst (.int kk (kk.wrap (a-b))),st.U⟩ Q):ab P n (.ops (i::l)::k) st Q:=by
 refine ab.ins (by rw[ho];simp) hw λF hn I act w o all hi hs next Q' X7=>?_
 subst hn;obtain⟨X9,hd⟩:=bZ hi;rw[ho]at X9;obtain⟨t,x0,y0,yt,g1,rfl,rfl⟩:=Iw X9;have ex:act.eval x0=.int kk a:=by
  have:=bH hs x0;rw[hx]at this;simpa[E']using this
 have ey:act.eval y0=.int kk b:=by
  have:=bH hs y0;rw[hy]at this;simpa[E']using this
 have Yw:(execOp act.eval o).run P w=.ok (.value (.int kk (kk.wrap (a-b)))) w:=by
  unfold execOp;rw[g1];simp[ex,ey,eqGuard,binOp,Op.intArith]
 unfold Oper.wp;rw[Yw];refine X7 _ _ _ ⟨I,?_⟩ h;have:=hs.pure (d:=o.dst) (v:=.int kk (kk.wrap (a-b))) (x:=.int kk (kk.wrap (a-b))) (by simp[E']);rw[<-hd];exact this
end
def yk(h:Int):Prop:=-9223372036854775808<=h/\h<=9223372036854775807
def Nn(x:Int):yk (IntKind.i64.wrap x):=by unfold yk;rw[IntKind.wrap_i64];omega
def J5(x B:Int)(hB:0<=B):0<=(if B<if 0>x then 0 else x then B else if 0>x then 0 else x)/\(if B<if 0>x then 0 else x then B else if 0>x then 0 else x)<=B:=by
 by_cases h:0>x
 .simp only[ar h];split<;>omega
 .simp only[av h];split<;>omega
open Go.Proofs Go.Proofs.Tryz
def jo(l:List Zh):cW false (aI l)=some (.int .i64 l.length):=by simp[aI,cW]
def uP{U:af}{l:List Zh}{i:Nat}(h:i<l.length):bo U 7 (aI l) (.int .i64 i)=some (.rp (bb l[i])):=by simp[aI,bo,h,bb]
open Go.Proofs Go.Proofs.Tryz
def ju(l:List YG):cW false (bp l)=some (.int .i64 l.length):=by simp[bp,cW]
def wY{U:af}{l:List YG}{i:Nat}(h:i<l.length):bo U 5 (bp l) (.int .i64 i)=some (.rp (aM l[i])):=by simp[bp,bo,h,aM]
def Ux(U:af)(l:List Zh):bB U false 1 (.rp (aI l))=some (aI l):=rfl
open Go.Proofs Go.Proofs.Tryz
def dg(s:ZY):(bF s).cells=[vI s.s.atom,vI s.s.done,.bool s.s.free,aG s.bJ]:=rfl
def gq(s:ZY):(bF s).stays=true:=rfl
def Mp(s:Zf):V.agg [vI s.atom,vI s.done,.bool s.free]=aV s:=rfl
def dx(s:Zf):(aV s).cells=[vI s.atom,vI s.done,.bool s.free]:=rfl
def wi(s:Zf):(aV s).stays=true:=rfl
def uv{α:Type}(p:α->α->Bool):List α->List α->Bool
 |[],[]=>true
 |x::l,y::m=>p x y&&uv p l m
 |_,_=>false
def C2{α:Type}{p:α->α->Bool}:∀{l m:List α},l.length≠m.length->uv p l m=false
 |[],[],h=>absurd rfl h
 |x::l,y::m,h=>by rw[uv,C2 (by simpa using h),Bool.and_false]
 |[],_::_,_=>rfl
 |_::_,[],_=>rfl
end Go.Vc
