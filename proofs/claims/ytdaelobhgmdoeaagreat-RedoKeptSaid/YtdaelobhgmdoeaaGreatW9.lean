/- Part 9 of the library of this proof. -/
import Derived.Test.YtdaelobhgmdoeaaGreatW8
set_option linter.all false
set_option maxHeartbeats 8000000
set_option maxRecDepth 100000
namespace Go.Vc
open Go.Proofs Go.Proofs.Tryz
def bG.lt:bG->bG
 |.seq a _=>a
 |c=>c
def bG.bd:bG->bG
 |.block _ a=>a
 |c=>c
structure BkFull(b:Bk):Prop extends BkOk b where
 uE:cT b.nodes
 isb:Xw b.nodes=true
 h1:1<=b.h
 h2:b.h<=1099511627776
 nod:∀a∈b.atoms,0<=a.node/\a.node<b.nodes.length
def aV(b:Bk)(s:Xp):Kp:=if b.atoms=[]then⟨[],0,b.h⟩else uF b.nodes (XV b.atoms (min s.atom ((b.atoms.length:Int)-1))).node b.h
def hdS(l:List Nd)(w:Int)(p:List Xs×Int)(a:Int):List Xs×Int:=(p.1++[⟨a,-1,0,0,p.2,w,(YG l a).head⟩],p.2+(YG l a).head)
def hdK(l:List Nd)(w:Int)(L:List Int):List Xs×Int:=L.foldl (hdS l w) ([],0)
def A7(l:List Nd)(w:Int)(L:List Int)(a:Int):hdK l w (L++[a])=hdS l w (hdK l w L) a:=by
 unfold hdK;rw[vz];rfl
def EI(l:List Nd)(w:Int):∀(L:List Int),(hdK l w L).1.length=L.length:=by
 have key:∀(L:List Int) (p:List Xs×Int),(L.foldl (hdS l w) p).1.length=p.1.length+L.length:=by
  intro L
  induction L with
  |nil=>intro p;rfl
  |cons a L ih=>intro p;rw[jm,ih];simp[hdS];omega
 intro L;have:=key L ([],0);simpa[hdK]using this
def E9(l:List Nd)(w:Int)(L:List Int)(h:∀a∈L,0<=(YG l a).head)(j:Nat):0<=(hdK l w (L.take j)).2/\(hdK l w (L.take j)).2<=(hdK l w L).2:=by
 have key:∀(L:List Int),(∀a∈L,0<=(YG l a).head)->∀(p:List Xs×Int),p.2<=(L.foldl (hdS l w) p).2:=by
  intro L
  induction L with
  |nil=>intro _ p;exact Int.le_refl _
  |cons a L ih=>
   intro h p;rw[jm];have h1:=ih (λx hx=>h x (by simp[hx])) (hdS l w p a);have h2:=h a (by simp);simp only[hdS]at h1|-;omega
 refine⟨key (L.take j) (λa ha=>h a (qp ha)) ([],0),?_⟩;have e:hdK l w L=(L.drop j).foldl (hdS l w) (hdK l w (L.take j)):=by
  rw[hdK,hdK,<-vz,uR]
 rw[e];exact key _ (λa ha=>h a (List.mem_of_mem_drop ha)) _
def vC{l:List Nd}{L:List Int}{h:Int}:∀m,m<=L.length->∀a∈(gP l L h m).WQ,a∈L
 |0,_,a,ha=>by simp[gP]at ha
 |m+1,hm,a,ha=>by
  rw[gP,jM]at ha;split at ha
  .exact vC m (by omega) a ha
  .simp only[dD,jV]at ha;rcases ha with ha|ha
   .exact vC m (by omega) a ha
   .rw[ha];have H':L.length-1-m<L.length:=by omega
    have hg:L.getD (L.length-1-m) 0=L[L.length-1-m]:=by simp[H']
    rw[hg];exact XI H'
def so{l:List Nd}{L:List Int}{h w:Int}:∀m,(hdK l w (gP l L h m).WQ).2=(gP l L h m).high
 |0=>rfl
 |m+1=>by
  rw[gP,jM];split
  .exact so m
  .simp only[A7,hdS];rw[so m]
structure Vo(b:Bk)(k:Kp):Prop where
 len:k.WQ.length<=1000000
 mem:∀a∈k.WQ,∃n:Nat,a=n/\n<b.nodes.length
 sum:(hdK b.nodes b.w k.WQ).2=k.high
 high:0<=k.high/\k.high<=1099511627776
 body:0<=k.body/\k.body<=1099511627776
def nk{b:Bk}(hb:BkFull b)(s:Xp):Vo b (aV b s):=by
 have h1:=hb.h1;have h2:=hb.h2;have hn:b.nodes.length<=100000:=by have:=hb.uE.1;omega
 unfold aV;split
 .exact⟨by simp,by simp,rfl,by simp,by simp;omega⟩
 .unfold uF;split
  .rename_i hc;obtain⟨_,h3,h4⟩:=hc;generalize (XV b.atoms (min s.atom ((b.atoms.length:Int)-1))).node=a at*;have ha:a.toNat<b.nodes.length:=by omega
   have hrg:∀x∈abv b.nodes a.toNat,∃n:Nat,x=n/\n<b.nodes.length:=λx hx=>by
    obtain⟨n,h1,h2⟩:=qJ ha x hx;exact⟨n,h1,by omega⟩
   have hi:=qQ hb.isb hrg (by omega:0<=b.h) (abv b.nodes a.toNat).length (Xm _);have hl:(abv b.nodes a.toNat).length<=b.nodes.length+1:=jv _ _ _;unfold AY;exact⟨by omega,λx hx=>hrg x (vC _ (Xm _) x hx),so _,by omega,by omega⟩
  .exact⟨by simp,by simp,rfl,by simp,by simp⟩
def bB(b:Bk)(s:Xp)(hv:V):Wx:=⟨hv,(aV b s).high,(aV b s).body,s,0,(hdK b.nodes b.w (aV b s).WQ).1,[],[],0⟩
def JG(b:Bk)(hb:BkFull b)(s:Xp)(W9:0<=s.atom)(U:ag):
 ax prog 115 [.rp (bc b),aU s] U λr Z'=>∃i1 vh hv,r=.ptr i1 0 0/\Zr b U i1 (bB b s hv) Z' vh .ay .ay:=by
 refine VS.r (by simp[Hg]) ?_;have hs:=aa.refl U;have hbk:bc b=.agg [aC b.nodes,vI b.w,vI b.h,aW b.atoms,aB b.M',vI b.WG,bh b.L']:=rfl;have hsc:(aU s).cells=[vI s.atom,vI s.done,.bool s.free]:=rfl;have hss:(aU s).stays=true:=rfl;have hln:=fK b.atoms;have hlen:=hb.len;refine ab.mix 11 ?_;apply sR;simp only[go_sem,seval,Hg,hsc,hss];refine ad λi3 Z3 s3 a3 f3=>?_;have z3:=hs.none f3;replace hs:=hs.trans s3;rw[aU]at a3;simp only[go_sem,seval,a3,hbk];refine aS λi19 Z19 s19 a19 f19=>?_;have n319:=al a3 f19;replace a3:=s19 _ _ a3;have z19:=hs.none f19;replace hs:=hs.trans s19;have hr:=nk hb s;unfold bB;have hJ0:∀(hv:V) (k:Kp) (J:ag),J i19=some (di b ⟨hv,k.high,k.body,s,0,[],[],[],0⟩ .ay .ay .ay)->aa U J->Zr b U i19 ⟨hv,k.high,k.body,s,0,[],[],[],0⟩ J .ay .ay .ay:=λhv k J h h2=>
  ⟨h,aM.start,aM.start,aM.start,dO.ay _,dO.ay _,dO.ay _,h2,z19⟩
 have fin:∀(S:Nat->V) (J:ag) (hv:V),cP false hv=some (.int .i64 (aV b s).WQ.length)->(∀(j:Nat) (h:j<(aV b s).WQ.length) (U:ag),bp U 1 hv (.int .i64 j)=some (.rp (vI (aV b s).WQ[j])))->
  J i19=some (di b ⟨hv,(aV b s).high,(aV b s).body,s,0,[],[],[],0⟩ .ay .ay .ay)->aa U J->S 0=.rp (bc b)->S 5=.ptr i19 0 0->S 7=vI 0->S 57=hv->S 58=vI (aV b s).WQ.length->S 59=vI 0->
  ab prog 96 [It.code Hg.code.rt.rt.rt.rt.lt.rt.bd,It.inBlock 0,It.code Hg.code.rt.rt.rt.rt.rt] ⟨S,J⟩ λst=>Ret [.tmp (.t 4)] st λr Z'=>∃i1 vh hv,r=.ptr i1 0 0/\Zr b U i1 ⟨hv,(aV b s).high,(aV b s).body,s,0,(hdK b.nodes b.w (aV b s).WQ).1,[],[],0⟩ Z' vh .ay .ay:=by
  intro S J hv hlL hix h19 hsZ t0 t5 t7 t57 t58 t59;have hJ:=hJ0 _ _ _ h19 hsZ;clear hJ0 h19 hsZ hs a3 a19;generalize aV b s=k at*;obtain⟨L,high,body⟩:=k;obtain⟨r1,r2,r3,⟨r4,r5⟩,_⟩:=hr;simp only at r1 r2 r3 r4 r5 hJ hlL hix t58|-;have hh0:∀a∈L,0<=(YG b.nodes a).head:=λa ha=>by
   obtain⟨n,rfl,hn⟩:=r2 a ha;rw[jU hn];exact(gC hb.isb hn).st.head.1
  have a19:=hJ.row;rw[di]at a19;refine ab.mix 60 ?_;simp only[Hg,bG.rt,bG.lt,bG.bd];refine ab.loop (λm st=>∃(j:Nat) (vh:V),j<=L.length/\m=L.length-j/\Zr b U i19 ⟨hv,high,body,s,0,(hdK b.nodes b.w (L.take j)).1,[],[],0⟩ st.U vh .ay .ay/\st.s 0=.rp (bc b)/\st.s 5=.ptr i19 0 0/\st.s 7=vI (hdK b.nodes b.w (L.take j)).2/\st.s 57=hv/\st.s 58=vI L.length/\st.s 59=vI j) L.length ?_ ?_
  .exact⟨0,.ay,by omega,rfl,hJ,t0,t5,t7,t57,t58,t59⟩
  .clear hJ a19 t0 t5 t7 t57 t58 t59;rintro m ⟨S,J⟩ ⟨j,vh,hj,rfl,hJ,t0,t5,t7,t57,t58,t59⟩;simp only at hJ t0 t5 t7 t57 t58 t59;refine ab.mix 60 ?_;by_cases H':j<L.length
   .have q:((j:Int)<L.length)=True:=WE;obtain⟨n,hn,hnl⟩:=r2 _ (XI H');have U':=hix j H';have YK:=λU=>jY b.nodes hnl U;have j3:=E9 b.nodes b.w L hh0 j;have hsum1:=E9 b.nodes b.w L hh0 (j+1);have hlk:=EI b.nodes b.w (L.take j);have hlt2:(L.take j).length=j:=by rw[gO];omega
    have XB:L.take (j+1)=L.take j++[(n:Int)]:=by rw[ZS H',hn]
    have hstep:hdK b.nodes b.w (L.take (j+1))=hdS b.nodes b.w (hdK b.nodes b.w (L.take j)) n:=by rw[XB,A7]
    rw[r3]at j3 hsum1;rw[hstep]at hsum1;rw[hn]at U';generalize hdK b.nodes b.w (L.take j)=X at*;obtain⟨F,y⟩:=X;simp only[hdS,jU hnl]at j3 hsum1 hlk hJ t7 hstep;have q1:WR .i64 (y+b.nodes[n].st.head):=ai;have q2:WR .i64 ((j:Int)+1):=ai;have a19:=hJ.row;rw[di]at a19;obtain⟨cv,sv⟩:=hJ.oh.vc;generalize b.nodes[n]=nd at*;apply sR;simp only[go_sem,seval,t0,t5,t7,t57,t58,t59,q,U',YK,Nd.cells,a19,hbk,RP];refine aS λi86 Z86 s86 a86 f86=>?_;have hJ5:=hJ.mono s86;obtain⟨WW,Yj,hgr⟩:=y6 hJ5.sub hJ5.no hJ5.row hJ5.oh;have hfl:(F.map bl).length<=1000000:=by rw[dd];omega
    generalize hrw:F.map bl=rows at*;have XW:(rows.length+1)*57<=140737488355328:=by omega
    simp only[go_sem,seval,Yj,du a86,XW];refine ku λi87 Z87 s87 a87 f87=>?_;obtain⟨b1,hg⟩:=hgr Z87 i87 _ s87 a87 f87;rw[di]at b1;obtain⟨g1,g2,g3⟩:=hg (di b ⟨hv,high,body,s,0,F++[⟨n,-1,0,0,y,b.w,nd.st.head⟩],[],[],0⟩ (.own i87 0 (rows.length+1)) .ay .ay);simp only[go_sem,seval,b1,t0,t5,t7,t57,t58,t59,q1,q2];refine⟨_,?_,j+1,.own i87 0 (rows.length+1),by omega,rfl,?_,rfl,?_,rfl⟩
    .omega
    .rw[hstep];rw[iz]at g2;refine⟨af,?_,aM.start,aM.start,(dO.ay _).symm,(dO.ay _).symm,dO.ay _,g1,hJ.no⟩;show aM _ _ _ _ _ ((F++[_]).map bl);rw[gB,hrw];exact g2
    .rw[hstep]
   .have q:((j:Int)<L.length)=False:=O';have Yq:j=L.length:=by omega
    rw[Yq,iR]at hJ;apply sR;simp only[go_sem,seval,t5,t58,t59,q];exact⟨_,_,aa.refl _,Wk.refl (aa.refl _) _,i19,vh,hv,rfl,hJ⟩
 by_cases he:b.atoms=[]
 .have q:((b.atoms.length:Int)>0)=False:=by rw[he];simp
  have hre:aV b s=⟨[],0,b.h⟩:=aq he;simp only[go_sem,seval,a19,kF,hln,q];rw[hre]at fin|-;rw[<-hbk]at a19;refine fin _ _ .ay rfl (λj h=>by simp at h) a19 hs ?_ ?_ ?_ ?_ ?_ ?_<;>rfl
 .have hl0:0<b.atoms.length:=py.2 he;have q:((b.atoms.length:Int)>0)=True:=WE;have r1:WR .i64 ((b.atoms.length:Int)-1):=ai;obtain⟨k,hk⟩:∃k:Nat,min s.atom ((b.atoms.length:Int)-1)=k:=⟨(min s.atom ((b.atoms.length:Int)-1)).toNat,by omega⟩
  have Yn:k<b.atoms.length:=by omega
  have U':=λU=>iP (U:=U) Yn;have hre:aV b s=uF b.nodes b.atoms[k].node b.h:=by rw[aV,ao he,hk,bg Yn]
  have hc:=Ni b.nodes hb.uE b.atoms[k].node b.h;rw[<-hre]at hc;simp only[go_sem,seval,kF,hln,q,cK];refine ab.uH (by kernel_rfl) [0,1,2,3,4,5,6,7,8,9,10,11,12,13,14,15,16,17,18,19,20,21,22,23,24,25] [[],[],[1],[1,2],[1,2,3],[],[5],[5,6],[5,6,7],[5,6,7,8],[],[10],[],[12],[10,11,12,13],[5,6,7,8,9,10,11,12,13,14],[5,6,7,8,9,10,11,12,13,14,15],[5,6,7,8,9,10,11,12,13,14,15,16],[],[18],[18,19],[18,19,20],[1,2,3,4,5,6,7,8,9,10,11,12,13,14,15,16,17,18,19,20,21],[0,1,2,3,4,5,6,7,8,9,10,11,12,13,14,15,16,17,18,19,20,21,22],[0,1,2,3,4,5,6,7,8,9,10,11,12,13,14,15,16,17,18,19,20,21,22,23],[0,1,2,3,4,5,6,7,8,9,10,11,12,13,14,15,16,17,18,19,20,21,22,23,24]] [0,2,4,6,8,10,12,14,16,18,20,22,24,26,28,30,32,34,36,38,40,42,44,46,48,50] (by kernel_rfl) (by kernel_rfl) ?_;refine RE.XG (n:=0) [44,46,48,50] [0,2,4,6,8,10,12,14,16,18,20,22,24,26,28,30,32,34,36,38,40,42] [⟨(.some 28),(.W1 (.t 5)),.none⟩,⟨(.some 29),(.W1 (.t 0)),.none⟩,⟨(.some 30),(.nilCheck (.t 29)),.none⟩,⟨(.some 31),(.W7 .false 0 1 (.t 30)),.none⟩,⟨(.some 32),(.load .false 1 (.t 31)),.none⟩,⟨(.some 33),(.W1 (.t 0)),.none⟩,⟨(.some 34),(.nilCheck (.t 33)),.none⟩,⟨(.some 35),(.W7 .true 3 3 (.t 34)),.none⟩,⟨(.some 36),(.W7 .false 0 1 (.t 35)),.none⟩,⟨(.some 37),(.load .false 1 (.t 36)),.none⟩,⟨(.some 38),(.W7 .false 0 1 (.t 3)),.none⟩,⟨(.some 39),(.load .false 1 (.t 38)),.none⟩,⟨(.some 40),(.W1 (.t 6)),.none⟩,⟨(.some 41),(.bin .sub (.t 40) (.c (.int .i64 1))),.none⟩,⟨(.some 42),(.minmax .false (.t 39) (.t 41)),.none⟩,⟨(.some 43),(.ZG 8 (.t 37) (.t 42)),.none⟩,⟨(.some 44),(.W7 .false 1 1 (.t 43)),.none⟩,⟨(.some 45),(.load .false 1 (.t 44)),.none⟩,⟨(.some 46),(.W1 (.t 0)),.none⟩,⟨(.some 47),(.nilCheck (.t 46)),.none⟩,⟨(.some 48),(.W7 .false 2 1 (.t 47)),.none⟩,⟨(.some 49),(.load .false 1 (.t 48)),.none⟩] rfl rfl ?_;apply sG;simp only[go_sem,seval,a3,kF,RP,r1,gT,hk,U',cp];rw[kP]at hc;refine RE.au rfl rfl rfl rfl rfl (hc _) ?_;refine RE.XG (n:=0) [] [46,48,50] [⟨(.some 51),(.nilCheck (.t 28)),.none⟩,⟨(.some 52),(.W7 .true 0 3 (.t 51)),.none⟩,⟨.none,(.store 3 (.t 52) (.t 50)),.none⟩] rfl rfl ?_;apply sG;simp only[go_sem,seval,a19];have hlL:=fL (aV b s).WQ;apply sR;simp only[go_sem,seval,hlL];rw[<-hbk];refine fin _ _ (bb (aV b s).WQ) hlL (λj h U=>iq h) af (hs.av z19) ?_ ?_ ?_ ?_ ?_ ?_<;>rfl
open Go.Proofs Go.Proofs.Tryz
def bkE(b:Bk):bc b=.agg [aC b.nodes,vI b.w,vI b.h,aW b.atoms,aB b.M',vI b.WG,bh b.L']:=rfl
def uU(b:Bk)(hb:1<=b.h):aK prog 60 [.rp (bc b)] (.bool false):=λU=>by
 refine e60.r (by simp[c60]) ?_;have q:(b.h=0)=False:=O';refine ab.mix 3 ?_;apply sR;simp only[go_sem,seval,c60,bkE,q,FG];exact ak.same rfl
def GR(b:Bk)(hb:BkFull b)(U:ag):ax prog 54 [.rp (bc b)] U λr Z'=>aa U Z'/\aM U Z' 168 3 r (b.L'.map dt):=by
 refine e54.r (by simp[c54]) ?_;have h1:=hb.brk;have h2:=hb.len;refine ab.mix 3 ?_;apply sR;simp only[go_sem,seval,c54];refine ab.au rfl rfl rfl (uU b hb.h1 _) ?_;apply sR;simp only[go_sem,seval,bkE,Ia];refine ab.call rfl rfl rfl (oJ func113 (So.b.trans rfl) So.c (b.L'.map dt) (by simp;omega) _) ?_;rintro r Z' ⟨hs,ho⟩;apply sR;simp only[go_sem,seval];exact⟨_,_,aa.refl _,Wk.refl (aa.refl _) _,hs,ho⟩
def tg(b:Bk):V:=.agg [aW b.atoms,aB b.M',vI b.WG]
def tf(b:Bk)(hb:BkFull b):aK prog 25 [.rp (bc b)] (tg b):=λU=>by
 refine e25.r (by simp[c25]) ?_;have hs:=aa.refl U;have h2:=hb.len;have h3:=hb.Zi;refine ab.mix 4 ?_;apply sR;simp only[go_sem,seval,c25];refine ad λi2 Z2 s2 a2 f2=>?_;have z2:=hs.none f2;replace hs:=hs.trans s2;simp only[go_sem,seval];refine ab.au rfl rfl rfl (uU b hb.h1 _) ?_;apply sR;simp only[go_sem,seval,bkE];refine ad λi3 Z3 s3 a3 f3=>?_;have n23:=al a2 f3;replace a2:=s3 _ _ a2;have z3:=hs.none f3;replace hs:=hs.trans s3;simp only[go_sem,seval,a3];generalize hq3:C' _ i3 _=X3;replace a3:=(congrFun hq3 i3).symm.trans af;replace a2:=((congrFun hq3 i2).symm.trans (ae n23)).trans a2;replace hs:=Eq.subst (motive:=aa _) hq3 (hs.av z3);clear hq3;refine Go.bw rfl rfl rfl (KB b.atoms (by omega)) ?_;apply sG;simp only[go_sem,seval,a3];refine Go.bw rfl rfl rfl (Ch b.M' (by omega)) ?_;apply sG;simp only[go_sem,seval,a3,a2,cN,dI,iO,dK,ae n23];exact ak.pure ((hs.av z3).av z2) rfl
def yP(b:Bk)(hb:BkFull b):aK prog 56 [.rp (bc b)] (bC ⟨⟨0,0,true⟩,[]⟩):=λU=>by
 refine e56.r (by simp[c56]) ?_;have hs:=aa.refl U;refine ab.mix 4 ?_;apply sR;simp only[go_sem,seval,c56];refine ad λi2 Z2 s2 a2 f2=>?_;have z2:=hs.none f2;replace hs:=hs.trans s2;simp only[go_sem,seval];refine ab.au rfl rfl rfl (uU b hb.h1 _) ?_;apply sR;simp only[go_sem,seval,a2];refine⟨_,U,hs.av z2,Wk.agg (vs':=[vI 0,vI 0,.bool true,aB []]) ⟨Wk.refl (hs.av z2) _,Wk.refl (hs.av z2) _,Wk.refl (hs.av z2) _,Wk.ay 7,trivial⟩,rfl,rfl⟩
def qK(a:T'):∀(p:List T') (i:Nat),mq a p i=-1\/∃k:Nat,mq a p i=((i+k:Nat):Int)/\k<p.length
 |[],_=>.inl rfl
 |q::r,i=>by
  rw[mq];split
  .exact .inr ⟨0,rfl,by simp⟩
  .rcases qK a r (i+1)with h|⟨k,h1,h2⟩
   .exact .inl h
   .exact .inr ⟨k+1,by rw[h1];congr 1;omega,by simp;omega⟩
def nA(M':List T'):List T'->Nat->Bool
 |[],_=>true
 |x::r,Xg=>if mq x (M'.drop Xg) 0<0 then false else nA M' r (Xg+(mq x (M'.drop Xg) 0).toNat+1)
def gr(b:Bk)(s:XE):Prop:=nA b.M' s.bx 0=true/\(bS b.atoms s.s\/s.s.atom=b.atoms.length/\s.s.done=0)
instance (b:Bk) (s:XE):Decidable (gr b s):=by unfold gr;infer_instance
def Li(b:Bk)(hb:BkFull b)(s:XE)(hp:s.bx.length<=1000000):aK prog 114 [.rp (bc b),bC s] (.bool (decide (gr b s))):=λU=>by
 refine UG.r (by simp[Ok]) ?_;have hs:=aa.refl U;have h3:=hb.Zi;have hlp:=fM s.bx;have Zl:=fK b.atoms;refine ab.mix 13 ?_;apply sR;simp only[go_sem,seval,Ok,bC];refine ad λi3 Z3 s3 a3 f3=>?_;replace hs:=hs.trans s3;simp only[go_sem,seval,a3,hlp];refine ab.loop (λm st=>∃(j Xg:Nat),j<=s.bx.length/\m=s.bx.length-j/\Xg<=b.M'.length/\nA b.M' s.bx 0=nA b.M' (s.bx.drop j) Xg/\aa U st.U/\st.U i3=some ⟨45,4,[.agg [vI s.s.atom,vI s.s.done,.bool s.s.free,aB s.bx]]⟩/\st.s 0=.rp (bc b)/\st.s 3=.ptr i3 0 0/\st.s 5=vI Xg/\st.s 10=aB s.bx/\st.s 11=vI s.bx.length/\st.s 12=vI j) s.bx.length ?_ ?_
 .exact⟨0,0,by omega,rfl,by omega,rfl,hs,a3,rfl,rfl,rfl,rfl,rfl,rfl⟩
 .clear hs a3;rintro m ⟨S,J⟩ ⟨j,Xg,hj,rfl,Yb,heq,hs,a3,t0,t3,t5,t10,t11,t12⟩;simp only at hs a3 t0 t3 t5 t10 t11 t12;refine ab.mix 13 ?_;by_cases H':j<s.bx.length
  .have q:((j:Int)<s.bx.length)=True:=WE;have U':=λU=>j2 (U:=U) H';have hfl:aJ s.bx[j]=.agg [vI s.bx[j].node,vI s.bx[j].side,vI s.bx[j].anchor,vI s.bx[j].x,vI s.bx[j].y,vI s.bx[j].w,vI s.bx[j].h]:=rfl;have hd:s.bx.drop j=s.bx[j]::s.bx.drop (j+1):=gF H';rw[hd,nA]at heq;have hsl:=sq Yb;generalize s.bx[j]=f at*;have hic:=Jp (b.M'.drop Xg) (by rw[oG];omega) f;rw[hfl]at hic;have r1:WR .i64 ((j:Int)+1):=ai;apply sR;simp only[go_sem,seval,t10,t11,t12,q,U',hfl];refine ad λi7 Z7 s7 a7 f7=>?_;have n37:=al a3 f7;replace a3:=s7 _ _ a3;have z7:=hs.none f7;replace hs:=hs.trans s7;simp only[BB,seval,bf,ez,aF,lx,da,jW,fI,ec,ia,V.cells,V.stays,a7,bkE,Fc,t0,t5,hsl];generalize YD:C' _ i7 _=Y7;replace a7:=(congrFun YD i7).symm.trans af;replace a3:=((congrFun YD i3).symm.trans (ae n37)).trans a3;replace hs:=Eq.subst (motive:=aa _) YD (hs.av z7);clear YD;refine Go.bw rfl rfl rfl hic ?_;have hln:(b.M'.drop Xg).length=b.M'.length-Xg:=oG;rcases qK f (b.M'.drop Xg) 0 with h|⟨k,h,hk⟩
   .rw[h]at heq|-;rw[aq (by omega)]at heq;have hf:decide (gr b s)=false:=Xr λhm=>by rw[gr,heq]at hm;cases hm.1
    apply sG;simp only[go_sem,seval];rw[hf];exact ak.pure hs rfl
   .rw[h,iV]at heq|-;rw[ao (by omega),fc]at heq;have q1:((k:Int)<0)=False:=O';have r2:WR .i64 ((k:Int)+1):=ai;have r3:WR .i64 ((Xg:Int)+(k+1)):=ai;apply sG;simp only[go_sem,seval,t0,t3,t5,t10,t11,t12,q1,r1,r2,r3];refine⟨_,?_,j+1,Xg+k+1,by omega,rfl,by omega,heq,hs,a3,rfl,?_,rfl⟩
    .omega
    .show V.int _ _=V.int _ _;congr 1
  .have q:((j:Int)<s.bx.length)=False:=O';have Yq:j=s.bx.length:=by omega
   rw[Yq,zN,nA]at heq;have hmc:=sV b.atoms s.s;rw[aU]at hmc;apply sR;simp only[go_sem,seval,t0,t3,t11,t12,q,a3,bkE,kF];refine Go.bw rfl rfl rfl hmc ?_;have fin:∀v:Bool,decide (gr b s)=v->ak (.bool v) J λr Z'=>r=.bool (decide (gr b s))/\Z'=U:=λv h=>by rw[h];exact ak.pure hs rfl
   by_cases hm:bS b.atoms s.s
   .have f:=fin true (XJ ⟨heq,.inl hm⟩);rw[XJ hm];generalize decide (gr b s)=B at*;apply sG;simp only[go_sem,seval];exact f
   rw[Xr hm];by_cases ha:s.s.atom=b.atoms.length
   .by_cases hd:s.s.done=0
    .have f:=fin true (XJ ⟨heq,.inr ⟨ha,hd⟩⟩);generalize decide (gr b s)=B at*;have q1:(s.s.atom=(b.atoms.length:Int))=True:=WE ha;have q2:(s.s.done=0)=True:=WE hd;apply sG;simp only[go_sem,seval,t0,t3,a3,bkE,kF,Zl,q1,q2];exact f
    .have f:=fin false (Xr λh=>by rcases h.2 with h|h;exact hm h;exact hd h.2)
     generalize decide (gr b s)=B at*;have q1:(s.s.atom=(b.atoms.length:Int))=True:=WE ha;have q2:(s.s.done=0)=False:=O' hd;apply sG;simp only[go_sem,seval,t0,t3,a3,bkE,kF,Zl,q1,q2];exact f
   .have f:=fin false (Xr λh=>by rcases h.2 with h|h;exact hm h;exact ha h.1)
    generalize decide (gr b s)=B at*;have q1:(s.s.atom=(b.atoms.length:Int))=False:=O' ha;apply sG;simp only[go_sem,seval,t0,t3,a3,bkE,kF,Zl,q1];exact f
def cH(b:Bk)(s:XE):Prop:=¬gr b s\/s.s.atom=b.atoms.length/\s.s.free=false/\s.bx=[]
instance (b:Bk) (s:XE):Decidable (cH b s):=by unfold cH;infer_instance
def vj(b:Bk)(hb:BkFull b)(s:XE)(hp:s.bx.length<=1000000):aK prog 57 [.rp (bc b),bC s] (.bool (decide (cH b s))):=λU=>by
 refine e57.r (by simp[c57]) ?_;have hs:=aa.refl U;have hlp:=fM s.bx;have Zl:=fK b.atoms;have hmc:=Li b hb s hp;rw[bC]at hmc;refine ab.mix 5 ?_;apply sR;simp only[go_sem,seval,c57,bC];refine ad λi3 Z3 s3 a3 f3=>?_;have z3:=hs.none f3;replace hs:=hs.trans s3;simp only[go_sem,seval];refine ab.au rfl rfl rfl (uU b hb.h1 _) ?_;apply sR;simp only[go_sem,seval,a3];refine ab.au rfl rfl rfl (hmc _) ?_;have fin:∀v:Bool,decide (cH b s)=v->ak (.bool v) Z3 λr Z'=>r=.bool (decide (cH b s))/\Z'=U:=λv h=>by rw[h];exact ak.pure hs rfl
 by_cases hm:gr b s
 .rw[XJ hm];by_cases ha:s.s.atom=b.atoms.length
  .have q1:(s.s.atom=(b.atoms.length:Int))=True:=WE ha;by_cases hf:s.s.free=true
   .have f:=fin false (Xr λh=>by rcases h with h|h;exact h hm;rw[hf]at h;cases h.2.1)
    generalize decide (cH b s)=B at*;rw[hf]at a3;apply sR;simp only[go_sem,seval,a3,bkE,kF,Zl,q1];exact f
   .have ZW:s.s.free=false:=by simpa using hf
    by_cases hn:s.bx=[]
    .have f:=fin true (XJ (.inr ⟨ha,ZW,hn⟩));generalize decide (cH b s)=B at*;have q2:((s.bx.length:Int)=0)=True:=WE (by rw[hn];rfl);rw[ZW]at a3;apply sR;simp only[go_sem,seval,a3,bkE,kF,Zl,q1,hlp,q2];exact f
    .have f:=fin false (Xr λh=>by rcases h with h|h;exact h hm;exact hn h.2.2)
     generalize decide (cH b s)=B at*;have q2:((s.bx.length:Int)=0)=False:=O' (by have:=py.2 hn;omega);rw[ZW]at a3;apply sR;simp only[go_sem,seval,a3,bkE,kF,Zl,q1,hlp,q2];exact f
  .have f:=fin false (Xr λh=>by rcases h with h|h;exact h hm;exact ha h.1)
   generalize decide (cH b s)=B at*;have q1:(s.s.atom=(b.atoms.length:Int))=False:=O' ha;apply sR;simp only[go_sem,seval,a3,bkE,kF,Zl,q1];exact f
 .rw[Xr hm];have f:=fin true (XJ (.inl hm));generalize decide (cH b s)=B at*;apply sR;simp only[go_sem,seval];exact f
open Go.Proofs Go.Proofs.Tryz
structure Xd where
 (no kind:Int)
 (hs fs ls:List Xs)
def aE(l:List Xs):V:=.sl 7 (l.map bl)
def aL(p:Xd):V:=.agg [vI p.no,vI p.kind,aE p.hs,aE p.fs,aE p.ls]
def vg{s:Nat->V}{U:ag}{a1 a2:Bool}{n1 n2 d e t:Nat}{Post:V->ag->Prop}:
 Ret [.cell a1 n1 (.t d),.cell a2 n2 (.t e),.tmp (.t t)] ⟨s,U⟩ Post=dy (bF U a1 n1 (s d)) λv=>dy (bF U a2 n2 (s e)) λw=>ak (.WJ [v,w,s t]) U Post:=by
 unfold Ret ak oN;simp only[eJ,gE,VX.ev];cases bF U a1 n1 (s d)<;>cases bF U a2 n2 (s e)<;>simp[dy]
def rL{body:Int}:∀(l:List T') (sh:Int),0<=sh->sh<=body->(∀f∈l,0<=f.h)->(cC body l sh).1.length<=l.length/\(∀m∈(cC body l sh).1,0<=m.y/\m.y<=body)/\0<=(cC body l sh).2.2/\(cC body l sh).2.2<=body
 |[],sh,h0,h1,_=>by simp[cC];omega
 |f::r,sh,h0,h1,hh=>by
  rw[cC];have hf:=hh f (by simp);split
  .simp;omega
  .rename_i hc;obtain⟨g1,g2,g3,g4⟩:=rL (body:=body) r (sh+min f.h body) (by omega) (by omega) (λg hg=>hh g (by simp[hg]));refine⟨by simp;omega,λm hm=>?_,g3,g4⟩;rcases db.1 hm with rfl|hm
   .simp only;omega
   .exact g2 m hm
def DH{l:List Nd}{x:Kp}{a:Int}(h:1<=x.body):1<=(jM l x a).body:=by
 unfold jM;split
 .exact h
 .simp only;omega
def su{l:List Nd}{L:List Int}{h:Int}(hh:1<=h):∀m,1<=(gP l L h m).body
 |0=>hh
 |m+1=>DH (su hh m)
def gv{b:Bk}(hb:BkFull b)(s:Xp)(h0:0<=s.atom):1<=(aV b s).body:=by
 have h1:=hb.h1;unfold aV;split
 .exact h1
 .rename_i he;have hl0:0<b.atoms.length:=py.2 he;obtain⟨k,hk⟩:∃k:Nat,min s.atom ((b.atoms.length:Int)-1)=k:=⟨(min s.atom ((b.atoms.length:Int)-1)).toNat,by omega⟩
  have Yn:k<b.atoms.length:=by omega
  have hn:=hb.nod _ (XI Yn);rw[hk,bg Yn];have hm:jN b.nodes b.h=true:=by simp[jN,hb.isb,hb.h1,hb.h2]
  unfold uF;rw[aq ⟨hm,hn⟩];exact su h1 _
def lY{M':List T'}:∀(p:List T') (Xg:Nat),nA M' p Xg=true->∀f∈p,f∈M'
 |[],_,_,f,hf=>by cases hf
 |x::r,Xg,h,f,hf=>by
  rw[nA]at h;split at h
  .cases h
  .rename_i hk;rcases db.1 hf with rfl|hf
   .have key:∀(l:List T') (i:Nat),¬mq f l i<0->f∈l:=by
     intro l
     induction l with
     |nil=>intro i h;simp[mq]at h
     |cons q l ih=>
      intro i h;rw[mq]at h;split at h
      .rename_i e;simp[e]
      .exact List.mem_cons_of_mem _ (ih _ h)
    exact List.mem_of_mem_drop (key _ _ hk)
   .exact lY r _ h f hf
def kH(x:Wx):Xd:=⟨0,x.kind,x.hs,x.fs,x.ls⟩
def bP(b:Bk)(s:XE):Wx:={ (({ bB b s.s .ay with shift:=(cC (aV b s.s).body s.bx 0).2.2 }:Wx).put (cC (aV b s.s).body s.bx 0).1)with kind:=0 }
def kv(b:Bk)(s:XE):Prop:=s.s.atom=b.atoms.length\/(cC (aV b s.s).body s.bx 0).2.1≠[]\/(cC (aV b s.s).body s.bx 0).2.2>0/\iy b.atoms s.s>(aV b s.s).body-(cC (aV b s.s).body s.bx 0).2.2
instance (b:Bk) (s:XE):Decidable (kv b s):=by unfold kv;infer_instance
def aG(b:Bk)(s:XE):Xd×XE:=
 if b.atoms=[]/\s.s.free=true then(kH (xq b (bB b s.s .ay)),lq b (bB b s.s .ay))
 else if kv b s then(kH { bP b s with kind:=2 },⟨⟨s.s.atom,s.s.done,s.s.free&&decide (s.s.atom<b.atoms.length)⟩,(cC (aV b s.s).body s.bx 0).2.1⟩)
 else(kH (cZ b (bP b s)),dQ b (bP b s))
def tv(b:Bk)(x:Wx)(h:V):kH (cZ b { x with WQ:=h })=kH (cZ b x)/\dQ b { x with WQ:=h }=dQ b x:=by
 unfold cZ dQ;by_cases hc:eD b.L' x.s.atom (cj b x)
 .rw[aq (show eD b.L' ({ x with WQ:=h }:Wx).s.atom (cj b { x with WQ:=h })from hc),aq (show eD b.L' ({ x with WQ:=h }:Wx).s.atom (cj b { x with WQ:=h })from hc),aq hc,aq hc];exact⟨rfl,rfl⟩
 .rw[ao (show¬eD b.L' ({ x with WQ:=h }:Wx).s.atom (cj b { x with WQ:=h })from hc),ao (show¬eD b.L' ({ x with WQ:=h }:Wx).s.atom (cj b { x with WQ:=h })from hc),ao hc,ao hc];exact⟨rfl,rfl⟩
def Zr.av{b:Bk}{K:ag}{ix:Nat}{x:Wx}{U:ag}{vh vf vl:V}(h:Zr b K ix x U vh vf vl){i:Nat}{o:Ob}(hi:K i=some o)(o':Ob):Zr b (C' K i o') ix x (C' U i o') vh vf vl:=by
 have hn:ix≠i:=λe=>by have:=h.no;subst e;rw[this]at hi;cases hi
 have key:∀{v rows},aM (aX K ix) U 63 7 v rows->aM (aX (C' K i o') ix) (C' U i o') 63 7 v rows:=λhv=>by
  rcases hv with h|⟨a,e,h3,h4⟩
  .exact .inl h
  .have hk:=(aH.1 h4).2;have ha:a≠i:=λe=>by subst e;rw[hk]at hi;cases hi
   exact .inr ⟨a,e,(Vc.ae ha).trans h3,aH.2 ⟨(aH.1 h4).1,(Vc.ae ha).trans hk⟩⟩
 refine⟨(Vc.ae hn).trans h.row,key h.oh,key h.of,key h.ol,h.hf,h.hl,h.fl,λa q ha=>?_,(Vc.ae hn).trans h.no⟩;by_cases e:a=i
 .subst e;rw[Vc.af]at ha|-;exact ha
 .rw[Vc.ae e]at ha|-;exact h.sub _ _ ha
def Zr.ret{b:Bk}{K Z0:ag}{ix:Nat}{x:Wx}{U:ag}{vh vf vl:V}(h:Zr b K ix x U vh vf vl)(h0:aa Z0 K)(S:V)(e:Int):
 ak (.WJ [.agg [vI 0,vI x.kind,vh,vf,vl],S,vI e]) U λr Z'=>r=.WJ [aL (kH x),S,vI e]/\Z'=Z0:=by
 have hs:=h0.trans h.sub;have hK:aa Z0 (aX K ix):=λi o hh=>by
  rw[aX,ao (λe=>by rw[e]at hh;have:=h0 _ _ hh;rw[h.no]at this;cases this)];exact h0 _ _ hh
 exact⟨_,Z0,hs,Wk.WJ (vs':=[aL (kH x),S,vI e]) ⟨Wk.agg (vs':=[vI 0,vI x.kind,aE x.hs,aE x.fs,aE x.ls]) ⟨Wk.refl hs _,Wk.refl hs _,h.oh.wk hK hs,h.of.wk hK hs,h.ol.wk hK hs,trivial⟩,Wk.refl hs _,Wk.refl hs _,trivial⟩,rfl,rfl⟩
def AX(b:Bk)(hb:BkFull b)(hfh:∀f∈b.M',0<=f.h)(s:XE)(hp:s.bx.length<=1000000):
 aK prog 58 [.rp (bc b),bC s] (if cH b s then .WJ [aL ⟨0,0,[],[],[]⟩,bC ⟨⟨0,0,false⟩,[]⟩,vI 4]else .WJ [aL (aG b s).1,bC (aG b s).2,vI 0]):=λU=>by
 refine e58.r (by simp[c58]) ?_;have hs:=aa.refl U;have h2:=hb.len;have Zl:=fK b.atoms;have hec:=vj b hb s hp;rw[bC]at hec;refine ab.mix 12 ?_;apply sR;simp only[go_sem,seval,c58,bC];refine ad λi3 Z3 s3 a3 f3=>?_;replace hs:=hs.trans s3;simp only[go_sem,seval];refine ad λi4 Z4 s4 a4 f4=>?_;replace a3:=s4 _ _ a3;have z4:=hs.none f4;replace hs:=hs.trans s4;simp only[go_sem,seval];refine ad λi5 Z5 s5 a5 f5=>?_;have n35:=al a3 f5;replace a3:=s5 _ _ a3;have n45:=al a4 f5;replace a4:=s5 _ _ a4;have z5:=hs.none f5;replace hs:=hs.trans s5;simp only[go_sem,seval,a3];refine ab.au rfl rfl rfl (hec _) ?_;by_cases hm:cH b s
 .rw[aq hm,XJ hm];have n54:=n45.symm;apply sR;simp only[go_sem,seval,a4,a5,ae n45,ae n54,vg];have WT:=(hs.av (o:=⟨37,5,[.agg [vI 0,vI 0,.ay,.ay,.ay]]⟩) z4).av (o:=⟨45,4,[.agg [vI 0,vI 0,.bool false,.ay]]⟩) z5;exact⟨_,U,WT,Wk.WJ (vs':=[aL ⟨0,0,[],[],[]⟩,bC ⟨⟨0,0,false⟩,[]⟩,vI 4]) ⟨Wk.agg (vs':=[vI 0,vI 0,aE [],aE [],aE []]) ⟨Wk.refl WT _,Wk.refl WT _,Wk.ay 7,Wk.ay 7,Wk.ay 7,trivial⟩,Wk.agg (vs':=[vI 0,vI 0,.bool false,aB []]) ⟨Wk.refl WT _,Wk.refl WT _,Wk.refl WT _,Wk.ay 7,trivial⟩,Wk.refl WT _,trivial⟩,rfl,rfl⟩
 .rw[ao hm,Xr hm];have Xq:gr b s:=Decidable.byContradiction λh=>hm (.inl h);have Yb:0<=s.s.atom:=by rcases Xq.2 with h|h;exact h.1.1;omega
  have hph:∀f∈s.bx,0<=f.h:=λf hf=>hfh f (lY _ _ Xq.1 f hf);have hro:=nk hb s.s;have hr1:=gv hb s.s Yb;have hbc:=JG b hb s.s Yb Z5;rw[aU]at hbc;apply sR;simp only[go_sem,seval,a3,bkE,kF];refine ab.call rfl rfl rfl hbc ?_;rintro r Z6 ⟨i1,vh,hv,rfl,hJ⟩;have c3:=hJ.sub _ _ a3;have xs:(bB b s.s hv).s=s.s:=rfl;have xb:(bB b s.s hv).body=(aV b s.s).body:=rfl;have xh:(bB b s.s hv).high=(aV b s.s).high:=rfl;have xl:(bB b s.s hv).ls=[]:=rfl;have xf:(bB b s.s hv).fs=[]:=rfl;have xk:(bB b s.s hv).kind=0:=rfl;have hs5:aa U Z5:=hs;by_cases h0:b.atoms=[]/\s.s.free=true
  .obtain⟨h01,h02⟩:=h0;have q1:((b.atoms.length:Int)=0)=True:=WE (by rw[h01];rfl);rw[aG,aq ⟨h01,h02⟩];have hlc:=Kt b hb.toBkOk (bB b s.s hv) (by rw[xl];simp) (by rw[xh];have:=hro.high;omega) hJ;have e1:kH (xq b (bB b s.s .ay))=kH (xq b (bB b s.s hv)):=rfl;have e2:lq b (bB b s.s .ay)=lq b (bB b s.s hv):=rfl;rw[e1,e2];generalize xq b (bB b s.s hv)=X at*;generalize lq b (bB b s.s hv)=Z at*;rw[h02]at c3;apply sR;simp only[go_sem,seval,q1,Zl,c3];refine ab.call rfl rfl rfl hlc ?_;rintro r Z7 ⟨vl',rfl,hJ7⟩;have d5:=hJ7.sub _ _ a5;apply sR;simp only[go_sem,seval,d5,bC,cK];have Yv:=hJ7.av a5 ⟨45,4,[.agg [vI Z.s.atom,vI Z.s.done,.bool Z.s.free,aB Z.bx]]⟩;generalize Yf:C' Z7 i5 _=Y8 at*;have b1:=Yv.row;rw[di]at b1;have b5:=Yv.sub _ _ af;have b4:=Yv.sub i4 _ ((ae n45).trans a4);obtain⟨ch,sh⟩:=Yv.oh.vc;obtain⟨cf,sf⟩:=Yv.of.vc;obtain⟨cl,sl⟩:=Yv.ol.vc;have n54:=n45.symm;refine ab.uH (by kernel_rfl) [0,1,2,3,4,5,6,7] [[],[0],[0,1],[0,1,2],[],[0,1,2,3],[0,1,2,3,4,5],[0,1,2,3,4,5,6]] [0,2,4,6,8,10,9,12,14] (by kernel_rfl) (by kernel_rfl) ?_;refine RE.XG (n:=0) [9,12,14] [0,2,4,6,8,10] [⟨(.some 36),(.W1 (.t 8)),.none⟩,⟨(.some 37),(.nilCheck (.t 36)),.none⟩,⟨(.some 38),(.W7 .true 7 5 (.t 37)),.none⟩,⟨(.some 39),(.load .true 5 (.t 38)),.none⟩,⟨(.some 40),(.load .true 4 (.t 5)),.none⟩,⟨.none,(.store 5 (.t 4) (.t 39)),.none⟩] rfl rfl ?_;apply sG;simp only[go_sem,seval,b1,b4,b5];refine RE.X2 rfl rfl rfl rfl rfl trivial (by simp only[go_sem,seval,b5,ae n54]) ?_;refine RE.XG (n:=0) [] [12,14] [⟨.none,(.store 4 (.t 5) (.t 40)),.none⟩,⟨(.some 6),(.W1 (.c (.int .i64 0))),.none⟩] rfl rfl ?_;apply sG;simp only[go_sem,seval,b5,ae n54];apply sR;simp only[go_sem,seval,vg,ae n45];exact((Yv.av ((ae n45).trans a4) _).av ((ae n54).trans af) _).ret (((hs5.av z5).av z4).av z5) _ _
  .have hpr:aG b s=if kv b s then(kH { bP b s with kind:=2 },⟨⟨s.s.atom,s.s.done,s.s.free&&decide (s.s.atom<b.atoms.length)⟩,(cC (aV b s.s).body s.bx 0).2.1⟩)else(kH (cZ b (bP b s)),dQ b (bP b s)):=by rw[aG,ao h0]
   have htc:=Jb s.bx hp (aV b s.s).body hr1 (by have:=hro.body;omega) hph;obtain⟨g1,g2,g3,g4⟩:=rL (body:=(aV b s.s).body) s.bx 0 (Int.le_refl _) (by omega) hph;have hlc:=M0 b.atoms hb.Xg s.s (by
    rcases Xq.2 with h|h
    .have:=td hb.toBkOk h;omega
    .omega)
   rw[aU]at hlc;have b1:=hJ.row;simp only[di,bB]at b1;have hfw:=Ly b hb.toBkOk;have hX:∀x:Wx,x=({ bB b s.s hv with shift:=(cC (aV b s.s).body s.bx 0).2.2 }:Wx).put (cC (aV b s.s).body s.bx 0).1->kH { x with kind:=2 }=kH { bP b s with kind:=2 }/\kH (cZ b x)=kH (cZ b (bP b s))/\dQ b x=dQ b (bP b s):=λx hx=>by
    subst hx;exact⟨rfl,(tv b (bP b s) hv).1,(tv b (bP b s) hv).2⟩
   have hp1:kv b s->aG b s=_:=λh=>hpr.trans (aq h);have hp2:¬kv b s->aG b s=_:=λh=>hpr.trans (ao h);clear hpr;unfold kv at hp1 hp2;generalize bP b s=TX at*;generalize cC (aV b s.s).body s.bx 0=T at*;obtain⟨put,left,sh'⟩:=T;simp only at htc g1 g2 g3 g4 hX hp1 hp2;have hll:=fM left;have hq:(((b.atoms.length:Int)=0)=True/\s.s.free=false)\/(((b.atoms.length:Int)=0)=False/\True):=by
    by_cases he:b.atoms=[]
    .exact .inl ⟨WE (by rw[he];rfl),by
      cases hfr:s.s.free
      .rfl
      .exact absurd ⟨he,hfr⟩ h0⟩
    .exact .inr ⟨O' (by have:=py.2 he;omega),trivial⟩
   rcases hq with⟨q,hf⟩|⟨q,hf⟩
   all_goals
    apply sR;simp only[go_sem,seval,q,hf,Zl,c3,b1,bkE];refine Go.bw rfl rfl rfl htc ?_;apply sG;simp only[go_sem,seval,b1];generalize YD:C' Z6 i1 _=Y7;have hJ7:Zr b Z5 i1 { bB b s.s hv with shift:=sh' } Y7 vh .ay .ay:=by
     rw[<-YD];exact hJ.set _ rfl rfl rfl
    refine ab.call rfl rfl rfl (pt b put (by omega) { bB b s.s hv with shift:=sh' } (by simp[bB]) (λf hf=>by
     have:=g2 f hf;have:=hro.high;have:=hro.body;exact ai (by show _<=f.y+(aV b s.s).high;omega) (by show f.y+(aV b s.s).high<=_;omega)) hJ7) ?_
    rintro-Z8 ⟨vl',Yv⟩;obtain⟨x1,x2,x3⟩:=hX _ rfl;have c3:=Yv.sub _ _ a3;have d5:=Yv.sub _ _ a5;have b1:=Yv.row;have ys:(Wx.put { bB b s.s hv with shift:=sh' } put).s=s.s:=rfl;have yb:(Wx.put { bB b s.s hv with shift:=sh' } put).body=(aV b s.s).body:=rfl;have yh:(Wx.put { bB b s.s hv with shift:=sh' } put).high=(aV b s.s).high:=rfl;have yw:(Wx.put { bB b s.s hv with shift:=sh' } put).shift=sh':=rfl;have yf:(Wx.put { bB b s.s hv with shift:=sh' } put).fs.length<=1000000:=by simp[Wx.put,bB]
    have yl:(Wx.put { bB b s.s hv with shift:=sh' } put).ls.length<=1000000:=by simp[Wx.put,bB];omega
    generalize Wx.put { bB b s.s hv with shift:=sh' } put=Y at*;rw[di]at b1;have n15:i1≠i5:=λe=>by have:=Yv.no;rw[e,a5]at this;cases this
    have n51:=n15.symm;have n54:=n45.symm;have r1:WR .i64 ((aV b s.s).body-sh'):=ai (by omega) (by have:=hro.body;omega);rw[<-yb]at r1 hp1 hp2;by_cases hfull:s.s.atom=b.atoms.length\/left≠[]\/sh'>0/\iy b.atoms s.s>Y.body-sh'
    .rw[hp1 hfull,<-x1];have hw:((s.s.atom=(b.atoms.length:Int))=True/\True/\True/\True)\/((s.s.atom=(b.atoms.length:Int))=False/\((left.length:Int)>0)=True/\True/\True)\/
      ((s.s.atom=(b.atoms.length:Int))=False/\((left.length:Int)>0)=False/\(sh'>0)=True/\(iy b.atoms s.s>Y.body-sh')=True):=by
      by_cases hA:s.s.atom=b.atoms.length
      .exact .inl ⟨WE hA,trivial,trivial,trivial⟩
      by_cases hB:left=[]
      .obtain⟨hC,hD⟩:=(hfull.resolve_left hA).resolve_left (λh=>h hB);exact .inr (.inr ⟨O' hA,O' (by rw[hB];simp),WE hC,WE hD⟩)
      .exact .inr (.inl ⟨O' hA,WE (by have:=py.2 hB;omega),trivial,trivial⟩)
     obtain⟨VAL,hV⟩:∃VAL:Bool,VAL=(s.s.free&&decide (s.s.atom<b.atoms.length)):=⟨_,rfl⟩
     have n13:i3≠i1:=λe=>by have:=Yv.no;rw[<-e,a3]at this;cases this
     cases hfr:s.s.free
     all_goals
      simp only[hfr,Bool.false_and,Bool.true_and]at hV;rw[hfr]at hlc;rcases hw with⟨qA,qB,qC,qD⟩|⟨qA,qB,qC,qD⟩|⟨qA,qB,qC,qD⟩
      all_goals
       apply sR;simp only[go_sem,seval,c3,d5,b1,Zl,hll,qA,qB,qC,bkE,hfr,ae n51,ae n13,ae n35,cK,dI,dK]
       try
        refine Go.bw rfl rfl rfl hlc ?_;apply sG;simp only[go_sem,seval,c3,d5,b1,r1,qD,Zl,bkE,hfr,ae n51,ae n13,ae n35,cK,dI,dK]
       generalize Yf:C' (C' Z8 i1 _) i5 _=Y8;have Yv:Zr b (C' Z5 i5 ⟨45,4,[.agg [vI s.s.atom,vI s.s.done,.bool VAL,aB left]]⟩) i1 { Y with kind:=2 } Y8 vh .ay vl':=by
        rw[<-Yf,hV];exact(Yv.set { Y with kind:=2 } rfl rfl rfl).av a5 _
       clear Yf;have b1:=Yv.row;rw[di]at b1;have b5:=Yv.sub _ _ af;rw[hV]at b5;have b4:=Yv.sub i4 _ ((ae n45).trans a4);obtain⟨ch,sh⟩:=Yv.oh.vc;obtain⟨cf,sf⟩:=Yv.of.vc;obtain⟨cl,sl⟩:=Yv.ol.vc;refine ab.uH (by kernel_rfl) [0,1,2,3,4,5,6,7] [[],[0],[0,1],[0,1,2],[],[0,1,2,3],[0,1,2,3,4,5],[0,1,2,3,4,5,6]] [0,2,4,6,8,10,9,12,14] (by kernel_rfl) (by kernel_rfl) ?_;refine RE.XG (n:=0) [9,12,14] [0,2,4,6,8,10] [⟨(.some 110),(.W1 (.t 8)),.none⟩,⟨(.some 111),(.nilCheck (.t 110)),.none⟩,⟨(.some 112),(.W7 .true 7 5 (.t 111)),.none⟩,⟨(.some 113),(.load .true 5 (.t 112)),.none⟩,⟨(.some 114),(.load .true 4 (.t 5)),.none⟩,⟨.none,(.store 5 (.t 4) (.t 113)),.none⟩] rfl rfl ?_;apply sG;simp only[go_sem,seval,b1,b4,b5];refine RE.X2 rfl rfl rfl rfl rfl trivial (by simp only[go_sem,seval,b5,ae n54]) ?_;refine RE.XG (n:=0) [] [12,14] [⟨.none,(.store 4 (.t 5) (.t 114)),.none⟩,⟨(.some 6),(.W1 (.c (.int .i64 0))),.none⟩] rfl rfl ?_;apply sG;simp only[go_sem,seval,b5,ae n54];apply sR;simp only[go_sem,seval,vg,ae n45];exact((Yv.av ((ae n45).trans a4) _).av ((ae n54).trans af) _).ret (((hs5.av z5).av z4).av z5) _ _
    .rw[hp2 hfull,<-x2,<-x3];have hA:¬s.s.atom=b.atoms.length:=λh=>hfull (.inl h);have hm':bS b.atoms s.s:=Xq.2.resolve_right λh=>hA h.1;have hw:((s.s.atom=(b.atoms.length:Int))=False/\((left.length:Int)>0)=False/\(sh'>0)=False/\True)\/((s.s.atom=(b.atoms.length:Int))=False/\((left.length:Int)>0)=False/\(sh'>0)=True/\(iy b.atoms s.s>Y.body-sh')=False):=by
      have hB:left=[]:=Decidable.byContradiction λh=>hfull (.inr (.inl h));have hB':((left.length:Int)>0)=False:=O' (by rw[hB];simp);by_cases hC:sh'>0
      .exact .inr ⟨O' hA,hB',WE hC,O' λh=>hfull (.inr (.inr ⟨hC,h⟩))⟩
      .exact .inl ⟨O' hA,hB',O' hC,trivial⟩
     have hwf:=hfw Y (by rw[ys];exact hm') yf yl (by rw[yh];have:=hro.high;omega) (by rw[yb];have:=hro.body;omega) (by rw[yw];have:=hro.body;omega) Yv;generalize cZ b Y=X at*;generalize dQ b Y=Z at*;rcases hw with⟨qA,qB,qC,qD⟩|⟨qA,qB,qC,qD⟩
     all_goals
      apply sR;simp only[go_sem,seval,c3,Zl,qA,hll,qB,qC]
      try
       refine Go.bw rfl rfl rfl hlc ?_;apply sG;simp only[go_sem,seval,b1,r1,qD]
      refine ab.call rfl rfl rfl hwf ?_;rintro-Z9 ⟨vf',vl'',rfl,YT⟩;have e5:=YT.sub _ _ a5;apply sR;simp only[go_sem,seval,e5,bC,cK];have Yv:=YT.av a5 ⟨45,4,[.agg [vI Z.s.atom,vI Z.s.done,.bool Z.s.free,aB Z.bx]]⟩;generalize Yf:C' Z9 i5 _=Y8 at*;have b1:=Yv.row;rw[di]at b1;have b5:=Yv.sub _ _ af;have b4:=Yv.sub i4 _ ((ae n45).trans a4);obtain⟨ch,sh⟩:=Yv.oh.vc;obtain⟨cf,sf⟩:=Yv.of.vc;obtain⟨cl,sl⟩:=Yv.ol.vc;refine ab.uH (by kernel_rfl) [0,1,2,3,4,5,6,7] [[],[0],[0,1],[0,1,2],[],[0,1,2,3],[0,1,2,3,4,5],[0,1,2,3,4,5,6]] [0,2,4,6,8,10,9,12,14] (by kernel_rfl) (by kernel_rfl) ?_;refine RE.XG (n:=0) [9,12,14] [0,2,4,6,8,10] [⟨(.some 117),(.W1 (.t 8)),.none⟩,⟨(.some 118),(.nilCheck (.t 117)),.none⟩,⟨(.some 119),(.W7 .true 7 5 (.t 118)),.none⟩,⟨(.some 120),(.load .true 5 (.t 119)),.none⟩,⟨(.some 121),(.load .true 4 (.t 5)),.none⟩,⟨.none,(.store 5 (.t 4) (.t 120)),.none⟩] rfl rfl ?_;apply sG;simp only[go_sem,seval,b1,b4,b5];refine RE.X2 rfl rfl rfl rfl rfl trivial (by simp only[go_sem,seval,b5,ae n54]) ?_;refine RE.XG (n:=0) [] [12,14] [⟨.none,(.store 4 (.t 5) (.t 121)),.none⟩,⟨(.some 6),(.W1 (.c (.int .i64 0))),.none⟩] rfl rfl ?_;apply sG;simp only[go_sem,seval,b5,ae n54];apply sR;simp only[go_sem,seval,vg,ae n45];exact((Yv.av ((ae n45).trans a4) _).av ((ae n54).trans af) _).ret (((hs5.av z5).av z4).av z5) _ _
def blk(cnt:Nat->Nat)(a n:Nat):List Int:=(List.range' a n).flatMap λi=>List.replicate (cnt i) (i:Int)
def kg(cnt:Nat->Nat)(a:Nat):blk cnt a 0=[]:=rfl
def iB(cnt:Nat->Nat)(a n:Nat):blk cnt a (n+1)=List.replicate (cnt a) (a:Int)++blk cnt (a+1) n:=by
 simp[blk,List.range'_succ]
def o9{f g:Nat->Nat}:∀(n a:Nat),(∀i,a<=i->i<a+n->f i=g i)->blk f a n=blk g a n
 |0,_,_=>rfl
 |n+1,a,h=>by
  rw[iB,iB,h a (Xm a) (by omega),o9 n (a+1) (λi h1 h2=>h i (by omega) (by omega))]
def Cn(cnt:Nat->Nat):∀(n a m:Nat),blk cnt a (n+m)=blk cnt a n++blk cnt (a+n) m
 |0,a,m=>by simp[kg]
 |n+1,a,m=>by
  rw[show n+1+m=(n+m)+1 by omega,iB,iB,Cn cnt n (a+1) m,my,show a+1+n=a+(n+1) by omega]
def MT(f g:Nat->Nat)(a n m:Nat):blk f a n++blk g (a+n) m=blk (λi=>if i<a+n then f i else g i) a (n+m):=by
 rw[Cn];congr 1
 .exact o9 n a λi h1 h2=>by simp[h2]
 .exact o9 m (a+n) λi h1 h2=>by simp[show¬i<a+n by omega]
structure AtI(C:Int)(x:Xv):Prop where
 y0:0<=x.y
 y1:x.y<=C
 h0:1<=x.h
 h1:x.h<=1099511627776
def AtI.mono{B C:Int}{x:Xv}(h:AtI B x)(hB:B<=C):AtI C x:=⟨h.y0,Int.le_trans h.y1 hB,h.h0,h.h1⟩
def oP(a:Nat)(h:Int):∀(L:List Ln) (s:WS),(iG a h s L).atoms=s.atoms++L.map (fq a h)
 |[],s=>by simp[iG]
 |x::L,s=>by
  have:=oP a h L (s.put (fq a h x));simp only[iG,jm]at this|-;rw[this];simp[WS.put]
def LY(a:Nat)(h:Int)(L:List Ln):(L.map (fq a h)).map (·.node)=List.replicate L.length (a:Int):=by
 rw[List.map_map]
 induction L with
 |nil=>rfl
 |cons x L ih=>rw[eo,ih];rfl
def G9{l:List Nd}{a e:Nat}(he:e<=l.length)(h:bW l a e=true)(hae:a<e)(hk:(Xf l a).kind≠1):Xl l a<=1:=by
 have ha:a<l.length:=by omega
 rw[jG ha]at hk;rw[bW,dif_pos hae]at h;simp only[ZF ha]at h;split at h
 .simp only[Ba,kX,Zs]at h;have:=h.1.1.resolve_left hk;simp only[Xl,ZF ha,Option.map_some,Option.getD_some];omega
 .cases h
structure Dp(l:List Nd)(s t:WS)(a e C:Nat):Prop where
 Xg:∀x∈t.atoms,AtI (1099511627776*(C:Int)) x
 nodes:∃cnt,t.atoms.map (·.node)=s.atoms.map (·.node)++blk cnt a (e-a)/\∀i,a<=i->i<e->okN (Xf l i) (cnt i)=true
def Dp.join{l:List Nd}{s t u:WS}{a m e C D:Nat}(h1:a<=m)(h2:m<=e)(hA:Dp l s t a m C)(hB:Dp l t u m e D):Dp l s u a e D:=by
 obtain⟨_,f,hf,hfo⟩:=hA;obtain⟨Yb,g,hg,Zd⟩:=hB;refine⟨Yb,λi=>if i<m then f i else g i,?_,λi h3 h4=>?_⟩
 .rw[hg,hf,my];congr 1;obtain⟨n,rfl⟩:∃n,m=a+n:=⟨m-a,by omega⟩
  obtain⟨k,rfl⟩:∃k,e=a+n+k:=⟨e-(a+n),by omega⟩
  rw[show a+n-a=n by omega,show a+n+k-(a+n)=k by omega,show a+n+k-a=n+k by omega,MT]
 .simp only;split
  .exact hfo i h3 (by omega)
  .exact Zd i (by omega) h4
def vq{l:List Nd}{rs:List Rm}(hD:DOk l rs):∀(k a e:Nat) (s:WS) (C:Nat),e-a<=k->a<=e->e<=l.length->bW l a e=true->gi s C->(∀x∈s.atoms,AtI (1099511627776*(C:Int)) x)->Dp l s (df l rs k a e s) a e (C+YE l a e)
 |0,a,e,s,C,hk,hae,_,_,h,hx=>by
  obtain rfl:a=e:=by omega
  refine⟨λx W8=>(hx x W8).mono (by omega),λ_=>0,by simp[df,kg],λi h1 h2=>by omega⟩
 |k+1,a,e,s,C,hk,hae,he,hr,h,hx=>by
  rw[df];by_cases H':a<e
  .rw[aq H'];obtain⟨h1,h2⟩:=cL he hr (Xm a) H';obtain⟨h3,h4⟩:=dB he hr H';have Xa:NOk (Xf l a):=by rw[jG (by omega)];exact gC hD.isb (by omega)
   have hc1:YE l a e=YE l a (a+(Xl l a).toNat)+YE l (a+(Xl l a).toNat) e:=l5 (by omega) (by omega) he;have hc2:YE l a (a+(Xl l a).toNat)=4+(Xf l a).words.length+YE l (a+1) (a+(Xl l a).toNat):=vX (by omega) (by omega);have step:∀t,gi t (C+YE l a (a+(Xl l a).toNat))->Dp l s t a (a+(Xl l a).toNat) (C+YE l a (a+(Xl l a).toNat))->Dp l s (df l rs k (a+(Xl l a).toNat) e t) a e (C+YE l a e):=λt ht hA=>by
    rw[hc1,<-Nat.add_assoc];exact hA.join (by omega) (by omega) (vq hD k _ e t _ (by omega) (by omega) he h3 ht hA.Xg)
   have one:∀(t:WS) (n:Nat),okN (Xf l a) n=true->(Xl l a).toNat=1->t.atoms.map (·.node)=s.atoms.map (·.node)++List.replicate n (a:Int)->(∀x∈t.atoms,AtI (1099511627776*((C+YE l a (a+(Xl l a).toNat):Nat):Int)) x)->Dp l s t a (a+(Xl l a).toNat) (C+YE l a (a+(Xl l a).toNat)):=λt n hn YR hm Yb=>by
    refine⟨Yb,λ_=>n,?_,λi h5 h6=>?_⟩
    .rw[hm,YR,show a+1-a=1 by omega,iB,kg,lO]
    .obtain rfl:i=a:=by omega
     exact hn
   obtain⟨⟨hf,p1,p2,p3,p4⟩,p5,p6⟩:=h;have hI:gi s C:=⟨⟨hf,p1,p2,p3,p4⟩,p5,p6⟩
   by_cases k1:(Xf l a).kind=1
   .rw[aq k1];have hI2:=gJ hD k (a+1) (a+(Xl l a).toNat) _ _ (by omega) (by omega) (by omega) h4 (fp hI Xa.st);have hA2:=vq hD k (a+1) (a+(Xl l a).toNat) (s.enter (Xf l a).st) (C+2) (by omega) (by omega) (by omega) h4 (fp hI Xa.st) (λx W8=>(hx x W8).mono (by omega));refine step _ ((kS hI2 Xa.st).more (by omega)) ?_;obtain⟨Yb,cnt,hc,hco⟩:=hA2;refine⟨λx W8=>(Yb x W8).mono (by omega),λi=>if i=a then 0 else cnt i,?_,λi h5 h6=>?_⟩
    .have e1:(s.enter (Xf l a).st).atoms=s.atoms:=rfl;rw[e1]at hc;show(df l rs k (a+1) (a+(Xl l a).toNat) (s.enter (Xf l a).st)).atoms.map (·.node)=_;rw[hc];congr 1;obtain⟨m,hm⟩:∃m,(Xl l a).toNat=m+1:=⟨(Xl l a).toNat-1,by omega⟩
     rw[hm,show a+(m+1)-(a+1)=m by omega,show a+(m+1)-a=m+1 by omega,iB];simp only[if_true,List.replicate_zero,j6];exact o9 m (a+1) λi h5 h6=>by simp[show i≠a by omega]
    .simp only;split
     .rename_i e;subst e;simp[okN,k1]
     .exact hco i (by omega) h6
   .rw[ao k1];have YR:(Xl l a).toNat=1:=by
     have:=G9 he hr H' k1;omega
    by_cases k2:(Xf l a).kind=2
    .rw[aq k2];refine step _ ((lZ hI Xa a).more (by omega)) ?_;have hl:=Xa.line;obtain⟨hw0,hl1⟩:=Xa.text k2;have hLl:=kM s.B' (Xf l a).words (Xf l a).space (Xf l a).line (ee rs a) (Xf l a).words.length 0 (s.WV.y+s.WV.m);have hLb:=jZ (ws:=(Xf l a).words) (space:=(Xf l a).space) (s:=ee rs a) (λf ZW=>(hf f ZW).yB) hl.1 (Xf l a).words.length 0 (s.WV.y+s.WV.m);have hLn:dc s.B' (Xf l a).words (Xf l a).space (Xf l a).line (ee rs a) (Xf l a).words.length 0 (s.WV.y+s.WV.m)≠[]:=by
      obtain⟨m,hm⟩:∃m,(Xf l a).words.length=m+1:=⟨(Xf l a).words.length-1,by omega⟩
      rw[hm,dc,aq (by omega)];simp
     have hte:(s.text rs a (Xf l a)).atoms=s.atoms++(dc s.B' (Xf l a).words (Xf l a).space (Xf l a).line (ee rs a) (Xf l a).words.length 0 (s.WV.y+s.WV.m)).map (fq a (Xf l a).line):=oP a _ _ s;generalize dc s.B' (Xf l a).words (Xf l a).space (Xf l a).line (ee rs a) (Xf l a).words.length 0 (s.WV.y+s.WV.m)=L at*;have hL0:=py.2 hLn;have hmul:(Xf l a).line*((Xf l a).words.length:Int)<=1099511627776*((Xf l a).words.length:Int):=Int.mul_le_mul_of_nonneg_right hl.2 (by omega);refine one _ L.length (by simp only[okN,k2,if_true,Zs];omega) YR (by rw[hte,gB,LY]) (λx W8=>?_);rw[hte]at W8;rcases dD.1 W8 with W8|W8
     .exact(hx x W8).mono (by omega)
     .obtain⟨y,hy,rfl⟩:=gM.1 W8;have:=hLb y hy;refine⟨?_,?_,hl1,hl.2⟩<;>simp only[fq]<;>omega
    .rw[ao k2];by_cases k3:(Xf l a).kind=3
     .rw[aq k3];refine step _ ((l7 hI Xa a).more (by omega)) ?_;have hyr:=gb (w:=(Xf l a).w) (high:=(Xf l a).h) (y:=s.WV.y+s.WV.m) (s:=ee rs a) (λf ZW=>(hf f ZW).yB);have hbx:=Xa.box (.inl k3);have hh:=Xa.h;refine one _ 1 (by simp[okN,k3]) YR (by simp[WS.mono,WS.put]) (λx W8=>?_);simp only[WS.mono,WS.put]at W8;rcases dD.1 W8 with W8|W8
      .exact(hx x W8).mono (by omega)
      .simp only[jV]at W8;subst W8;refine⟨?_,?_,?_,?_⟩<;>simp only<;>omega
     .rw[ao k3];have k4:(Xf l a).kind=4:=by rcases Xa.kind with h|h|h|h;exact absurd h k1;exact absurd h k2;exact absurd h k3;exact h
      refine step _ ((kW hD hI (by omega) Xa k4).more (by omega)) ?_;exact one _ 0 (by simp[okN,k4]) YR (by simp[WS.float]) (λx W8=>(hx x W8).mono (by omega))
  .rw[ao H'];obtain rfl:a=e:=by omega
   exact⟨λx W8=>(hx x W8).mono (by omega),λ_=>0,by simp[kg],λi h1 h2=>by omega⟩
def Jw(i:Int)(L:List Int)(h:∀x∈L,x≠i):∀k,tG i (List.replicate k i++L)=k
 |0=>by
  cases L with
  |nil=>rfl
  |cons x L=>rw[List.replicate_zero,j6,tG,ao (h x (by simp))]
 |k+1=>by rw[List.replicate_succ,List.cons_append,tG,aq rfl,Jw i L h k]
def zM{cnt:Nat->Nat}:∀{n a:Nat} {x:Int},x∈blk cnt a n->∃i:Nat,x=i/\a<=i/\i<a+n
 |0,_,_,h=>by simp[kg]at h
 |n+1,a,x,h=>by
  rw[iB]at h;rcases dD.1 h with h|h
  .exact⟨a,(List.mem_replicate.1 h).2,by omega,by omega⟩
  .obtain⟨i,h1,h2,h3⟩:=zM h;exact⟨i,h1,by omega,by omega⟩
def BC{cnt:Nat->Nat}{of:List Int}:∀(r:List Nd) (i Xg:Nat),of.drop Xg=blk cnt i r.length->Xg<=of.length->(∀j (h:j<r.length),okN r[j] (cnt (i+j))=true)->Cz of r i Xg=true
 |[],i,Xg,h,hl,_=>by
  have:of.length<=Xg:=by
   have:=congrArg List.length h;simp[kg]at this;omega
  simp[Cz];omega
 |x::r,i,Xg,h,hl,ho=>by
  rw[XX,iB]at h;have ht:mS of Xg i=cnt i:=by
   rw[mS,h];exact Jw _ _ (λy hy=>by obtain⟨j,h1,h2,_⟩:=zM hy;omega) _
  rw[Cz,ht];have h0:=ho 0 (by simp);simp only[List.getElem_cons_zero,Nat.add_zero]at h0;rw[h0,Bool.true_and];have hd:of.drop (Xg+cnt i)=blk cnt (i+1) r.length:=by
   rw[<-List.drop_drop,h,Eb (by simp)];simp
  refine BC r (i+1) _ hd ?_ (λj hj=>?_)
  .have:=congrArg List.length h;simp at this;omega
  .have:=ho (j+1) (by simpa using hj);simp only[List.getElem_cons_succ]at this
   rwa [show i+1+j=i+(j+1) by omega]
structure SZ(l:List Nd)(w:Int):Prop where
 may:te l ((cB l w).atoms.map (·.node))=true
 nod:∀a∈(cB l w).atoms,0<=a.node/\a.node<l.length
 Xg:∀x∈(cB l w).atoms,AtI (1099511627776*((YE l 0 l.length:Nat):Int)) x
 len:(cB l w).atoms.length<=YE l 0 l.length
 Zi:(cB l w).B'.length<=YE l 0 l.length
 flo:∀f∈(cB l w).B',FOk (1099511627776*((YE l 0 l.length:Nat):Int)) f
def Ae{l:List Nd}(hb:Xw l=true)(hn:l.length<=2000){w:Int}(h1:1<=w)(h2:w<=1099511627776):SZ l w:=by
 have hD:=xN hb hn h1 h2;have hr:bW l 0 l.length=true:=by simp only[Xw,Ba]at hb;exact hb.2
 have hI:gi ⟨[],[],0,⟨0,0⟩⟩ 0:=⟨⟨by simp,by simp,by simp,by simp,by simp⟩,by simp,by simp⟩
 have hA:=vq hD l.length 0 l.length ⟨[],[],0,⟨0,0⟩⟩ 0 (by omega) (by omega) (Xm _) hr hI (by simp);have hJ:=gJ hD l.length 0 l.length ⟨[],[],0,⟨0,0⟩⟩ 0 (by omega) (by omega) (Xm _) hr hI;rw[iV]at hA hJ;have ha:(cB l w).atoms=(df l (gH l w) l.length 0 l.length ⟨[],[],0,⟨0,0⟩⟩).atoms:=rfl;have hf:(cB l w).B'=(df l (gH l w) l.length 0 l.length ⟨[],[],0,⟨0,0⟩⟩).B'.map (oD (df l (gH l w) l.length 0 l.length ⟨[],[],0,⟨0,0⟩⟩).atoms.length):=rfl;obtain⟨Yb,cnt,hc,hco⟩:=hA;rw[List.map_nil,j6,Nat.sub_zero]at hc;refine⟨?_,λa hm=>?_,by rw[ha];exact Yb,by rw[ha];exact hJ.Xg,by rw[hf,dd];exact hJ.fl,λf hm=>?_⟩
 .rw[ha,hc];refine BC (cnt:=cnt) l 0 0 (by simpa using hc) (Nat.zero_le _) (λj hj=>?_);have:=hco j (Nat.zero_le _) hj;rw[jG hj]at this
  rwa [iV]
 .have hm':a.node∈blk cnt 0 l.length:=by rw[<-hc,<-ha];exact List.mem_map_of_mem hm
  obtain⟨i,e,_,hi⟩:=zM hm';omega
 .rw[hf]at hm;obtain⟨g,hg,rfl⟩:=gM.1 hm;have:=hJ.bd.fl g hg;exact⟨this.1,this.2,this.3,this.4,this.5,this.6,this.7,this.8⟩
def wo:∀(l:List Nd),(∀x∈l,NOk x)->((l.map λn=>4+n.words.length).sum:Nat)<=4*(l.length:Int)+lI l/\∀x∈l,(x.words.length:Int)<=lI l
 |[],_=>by simp[lI]
 |x::l,h=>by
  obtain⟨h1,h2⟩:=wo l (λy hy=>h y (by simp[hy]));have hx:=h x (by simp);have hp:(x.words.length:Int)<=pof x/\0<=pof x:=by
   unfold pof;by_cases k1:x.kind=1
   .have:=hx.nowords (by omega);simp[k1,this]
   .by_cases k2:x.kind=2
    .simp[k2]
    .have:=hx.nowords k2;simp[k1,k2,this]
  have hp0:0<=lI l:=by
   have:∀l:List Nd,0<=lI l:=by
    intro l
    induction l with
    |nil=>simp[lI]
    |cons y l ih=>
     have:0<=pof y:=by unfold pof;split;omega;split;omega;omega
     simp only[lI];omega
   exact this l
  refine⟨by simp only[eo,List.sum_cons,XX,lI];omega,λy hy=>?_⟩;rcases db.1 hy with rfl|hy
  .simp only[lI];omega
  .have:=h2 y hy;simp only[lI];omega
structure Tb(l:List Nd):Prop where
 isb:Xw l=true
 len:l.length<=2000
 words:∀x∈l,x.words.length<=2000
 YE:YE l 0 l.length<=10000
def Ao{l:List Nd}(h:iI l=0):Tb l:=by
 unfold iI at h;split at h
 .rename_i hb;split at h
  .cases h
  .rename_i hc;have XF:l.all Nd.ok=true:=by simp only[Xw,Ba]at hb;exact hb.1
   rw[jC,aq hb,vZ l XF l.length (Xm _),iR]at hc;simp only[not_or]at hc;obtain⟨h1,h2⟩:=wo l (λx hx=>by obtain⟨i,hi,rfl⟩:=List.getElem_of_mem hx;exact gC hb hi);refine⟨hb,by omega,λx hx=>by have:=h2 x hx;omega,?_⟩;have:Vc.YE l 0 l.length=(l.map λn=>4+n.words.length).sum:=by unfold Vc.YE;rw[iR,wV]
   omega
 .cases h
open Go.Proofs Go.Proofs.Tryz
def ab.LN{P:Program}{n:Nat}{Q:St->Prop}{s:Nat->V}{U K:ag}{todo:List It}(l ds:List Nat){e sz:Nat}{v:V}{rows:List V}(hK:aa K U)(ho:aM K U e sz v rows)
 (hs:∀d∈ds,s d=v)(hr:ab P n todo ⟨λi=>if ds.contains i then .sl sz rows else Fy l s i,K⟩ Q):ab P n todo ⟨s,U⟩ Q:=by
 refine ab.weaken ⟨hK,λi=>?_⟩ hr;show Wk U K (s i) _;by_cases hi:ds.contains i=true
 .simp only[aq hi];rw[hs i (by simpa using hi)];exact ho.wk (aa.refl K) hK
 .simp only[ao hi];unfold Fy;split
  .exact Wk.refl hK _
  .exact Wk.undef _
def ofR(l:List Nd)(w:Int):List Int:=(cB l w).atoms.map (·.node)
def aP(l:List Nd)(w h:Int):Bk:=⟨l,w,h,(cB l w).atoms,(cB l w).B',(cB l w).WG,rf l (ofR l w)⟩
def Bu(n:Int):Prop:=1<=n/\n<=1099511627776
instance (n:Int):Decidable (Bu n):=by unfold Bu;infer_instance
def cE(l:List Nd)(w h:Int):Int:=if¬(Bu w/\Bu h)then 3 else if iI l≠0 then iI l else if(jC l).1.WH>mulR (iD l h) 32768 then 2 else 0
def Cs(l:List Nd)(w h:Int):V:=if cE l w h=0 then .rp (bc (aP l w h))else .XY
def gg.IQ{K U:ag}{id:Nat}{o:Ob}(hK:K id≠none):∀{l:List Nd} {rows:List V},gg K U l rows->gg K (C' U id o) l rows
 |[],[],_=>trivial
 |_::_,_::_,⟨⟨w,h1,h2⟩,h⟩=>⟨⟨w,h1,h2.ae hK⟩,gg.IQ hK h⟩
 |[],_::_,h=>h.elim
 |_::_,[],h=>h.elim
def CW.IQ{K U:ag}{id:Nat}{o:Ob}(hK:K id≠none){v:V}{l:List Nd}(h:CW K U v l):CW K (C' U id o) v l:=by
 obtain⟨rows,ho,hr⟩:=h;exact⟨rows,ho.ae hK,hr.IQ hK⟩
def kE{α:Type}{f:α->V}(h:∀a,(f a).eL=true):∀l:List α,gA (l.map f)=true
 |[]=>rfl
 |a::l=>by simp only[eo,gA,h a,kE h l,Bool.and_self]
def Vu(l:List Int)(U:ag):bF U false 1 (.rp (bb l))=some (bb l):=rfl
def wI(vn:V)(w h:Int)(va vf:V)(ht:Int)(vb:V):Ob:=⟨132,7,[.agg [vn,vI w,vI h,va,vf,vI ht,vb]]⟩
def HF{U J:ag}{ib:Nat}{b:Bk}{vn:V}(hs:aa U J)(z:U ib=none)(hr:J ib=some (wI vn b.w b.h (aW b.atoms) (aB b.M') b.WG (bh b.L')))(ho:CW (aX U ib) J vn b.nodes):
 ak (.WJ [.ptr ib 0 0,vI 0]) J λr Z'=>r=.WJ [.rp (bc b),vI 0]/\Z'=U:=by
 have hN:∀id,aX U ib id=none->U id=none:=λid h=>(aH.1 h).2;have n1:gA [aW b.atoms,aB b.M',vI b.WG,bh b.L']=true:=by
  have a1:(aW b.atoms).eL=true:=kE (f:=cp) (λ_=>rfl) b.atoms;have a2:(aB b.M').eL=true:=kE (f:=aJ) (λ_=>rfl) b.M';have a3:(bh b.L').eL=true:=kE (f:=dt) (λ_=>rfl) b.L';simp only[gA,a1,a2,a3];rfl
 have hf:Fz J (λid=>U id=none) (.WJ [.ptr ib 0 0,vI 0]) (.WJ [.rp (bc b),vI 0]):=by
  refine .WJ _ _ (.cons _ _ _ _ (.ptr ib 0 _ _ _ hr z rfl (.agg _ _ ?_)) (YX.same [vI 0] rfl));exact .cons _ _ _ _ (ho.fz hN) (.cons _ _ _ _ (.same _ rfl) (.cons _ _ _ _ (.same _ rfl) (YX.same _ n1)))
 exact⟨_,U,hs,hf.wk hs (λ_ h=>h),rfl,rfl⟩
def IY(l:List Nd)(hl:cT l)(w h:Int):aK prog 23 [aC l,vI w,vI h] (.WJ [Cs l w h,vI (cE l w h)]):=λU=>by
 refine e23.r (by simp[c23]) ?_;have hs:=aa.refl U;have bad:∀n:Int,cE l w h=n->n≠0->(Cs l w h=.XY/\cE l w h=n):=λn hn h0=>⟨by rw[Cs,ao (by rw[hn];exact h0)],hn⟩
 refine ab.mix 16 ?_;by_cases hw:Bu w
 .have mw:=tk w;rw[show decide (1<=w/\w<=1099511627776)=true from XJ hw]at mw;apply sR;simp only[go_sem,seval,c23];refine ab.au rfl rfl rfl (mw _) ?_;apply sR;simp only[go_sem,seval];by_cases hh:Bu h
  .have mh:=tk h;rw[show decide (1<=h/\h<=1099511627776)=true from XJ hh]at mh;refine ab.au rfl rfl rfl (mh _) ?_;apply sR;simp only[go_sem,seval];refine ab.au rfl rfl rfl (Cw l hl _) ?_;by_cases hc:iI l=0
   .have q:(iI l≠0)=False:=O' (λh=>h hc);have hck:=Cw l hl;rw[hc]at hck q|-;apply sR;simp only[go_sem,seval,q];refine ab.au rfl rfl rfl (CK l hl _) ?_;apply sR;simp only[go_sem,seval,Sm.cells];refine ad λi9 Z9 s9 a9 f9=>?_;have z9:=hs.none f9;replace hs:=hs.trans s9;simp only[go_sem,seval,a9];generalize XQ:C' _ i9 _=Y9;replace a9:=(congrFun XQ i9).symm.trans af;replace hs:=Eq.subst (motive:=aa _) XQ (hs.av z9);clear XQ;refine Go.bw rfl rfl rfl (J1 l hl h) ?_;apply sG;simp only[go_sem,seval];refine Go.bw rfl rfl rfl (Ta (iD l h) 32768) ?_;have hE:cE l w h=if(jC l).1.WH>mulR (iD l h) 32768 then 2 else 0:=by rw[cE,ao (λh=>h ⟨hw,hh⟩),ao (λh=>h hc)]
    by_cases hlim:(jC l).1.WH>mulR (iD l h) 32768
    .have q1:((jC l).1.WH>mulR (iD l h) 32768)=True:=WE hlim;obtain⟨e1,e2⟩:=bad 2 (by rw[hE,aq hlim]) (by decide);rw[e1,e2];apply sG;simp only[go_sem,seval,q1];exact ak.pure hs rfl
    have q1:((jC l).1.WH>mulR (iD l h) 32768)=False:=O' hlim;have e2:cE l w h=0:=by rw[hE,ao hlim]
    have e1:Cs l w h=.rp (bc (aP l w h)):=by rw[Cs,aq e2]
    rw[e1,e2];obtain⟨hisb,hn2,hwo,hcs⟩:=Ao hc;have hG:=Ae hisb hn2 hw.1 hw.2;have hfl:=Px l hl hisb hn2 (λx hx=>by have:=hwo x hx;omega) (by omega) hck w hw.1 hw.2;apply sG;simp only[go_sem,seval,q1];refine ab.call rfl rfl rfl (Lm l hl.1 _) ?_;rintro vn Z10 ⟨hs10,ho10⟩;replace ho10:=ho10.Nf hs;replace hs:=hs.trans hs10;obtain⟨cn,sn⟩:=ho10.vc;have hnl:=ho10.len;rw[dd]at hnl;apply sR;simp only[go_sem,seval,cn,sn];refine ad λi46 Z46 s46 a46 f46=>?_;have z46:=hs.none f46;replace hs:=hs.trans s46;have ho46:aM (aX U i46) Z46 59 20 vn (l.map jE):=by
     rcases ho10 with h|⟨id,h3,h4,h5⟩
     .exact .inl h
     .exact .inr ⟨id,h3,s46 _ _ h4,aH.2 ⟨λe=>(by rw[e,f46]at h4;cases h4),h5⟩⟩
    have k46:aX U i46 i46≠none:=λh=>(aH.1 h).1 rfl;simp only[go_sem,seval,a46,hnl];refine ab.eG (λst=>aa U st.U/\CW (aX U i46) st.U vn l/\st.U i46=some (wI vn w h .ay .ay 0 .ay)/\st.s 0=aC l/\st.s 1=vI w/\st.s 11=.ptr i46 0 0)
     (λm st=>∃(i:Nat) (rows:List V),i<=l.length/\m=l.length-i/\aa U st.U/\aM (aX U i46) st.U 59 20 vn rows/\rows.length=l.length/\gg (aX U i46) st.U (l.take i) (rows.take i)/\rows.drop i=(l.drop i).map jE/\st.U i46=some (wI vn w h .ay .ay 0 .ay)/\
       st.s 0=aC l/\st.s 1=vI w/\st.s 11=.ptr i46 0 0/\st.s 51=vI l.length/\st.s 52=vI i) l.length ?_ ?_ ?_
    .exact⟨0,l.map jE,by omega,rfl,hs,ho46,by simp,trivial,by simp,a46,rfl,rfl,rfl,rfl,rfl⟩
    .clear hs ho46 a46 ho10 a9;rintro m ⟨S,J⟩ ⟨i,rows,hi,rfl,hs,ho,hn,hr,hd,hb,t0,t1,t11,t51,t52⟩;simp only at hs ho hr hb t0 t1 t11 t51 t52;refine ab.mix 60 ?_;by_cases H':i<l.length
     .have q:((i:Int)<l.length)=True:=WE;obtain⟨id,rfl,P',hkid⟩:∃id,vn=.own id 0 rows.length/\J id=some ⟨59,20,rows⟩/\aX U i46 id=none:=by
       rcases ho with⟨_,h0⟩|h
       .rw[h0]at hn;simp at hn;omega
       .exact h
      have hdc:(l.drop i)=l[i]::l.drop (i+1):=gF H';have hw':=hwo _ (XI H');have XB:l.take (i+1)=l.take i++[l[i]]:=ZS H';have YK:=λU=>jY l H' U;generalize hxe:l[i]=x at*;have hrow':rows[i]?=some (.agg x.cells):=by
       have:(rows.drop i)[0]?=some (jE x):=by rw[hd,hdc];rfl
       rw[Mg]at this;exact this
      have W6:id≠i46:=(aH.1 hkid).1;have hio:∀X':ag,X' id=some ⟨59,20,rows⟩->bp X' 20 (.own id 0 rows.length) (.int .i64 i)=some (.ptr id i 0):=λX' h=>lj h (by omega);have r1:WR .i64 ((i:Int)+1):=ai;rw[wI]at hb;apply sR;simp only[go_sem,seval,t51,t52,q,cK];refine ab.uH (by kernel_rfl) [0,1,2,3,4,5,6,7,8,9,10,11,12,13] [[],[0],[0,1],[0,1,2],[],[],[],[5,6],[5,6,7],[5,6,7,8],[5,6,7,8,9],[0,1,2,3,4,5,6,7,8,9,10],[0,1,2,3,4,5,6,7,8,9,10,11],[0,1,2,3,4,5,6,7,8,9,10,11,12]] [0,2,4,6,8,10,12,14,16,18,20,7,22,24,26] (by kernel_rfl) (by kernel_rfl) ?_;refine RE.XG (n:=0) [20,7,22,24,26] [0,2,4,6,8,10,12,14,16,18] [⟨(.some 55),(.W1 (.t 11)),.none⟩,⟨(.some 56),(.nilCheck (.t 55)),.none⟩,⟨(.some 57),(.W7 .false 0 1 (.t 56)),.none⟩,⟨(.some 58),(.load .false 1 (.t 57)),.none⟩,⟨(.some 59),(.W1 (.t 12)),.none⟩,⟨(.some 60),(.W1 (.t 0)),.none⟩,⟨(.some 61),(.W1 (.t 12)),.none⟩,⟨(.some 62),(.ZG 20 (.t 60) (.t 61)),.none⟩,⟨(.some 63),(.W7 .false 16 1 (.t 62)),.none⟩,⟨(.some 64),(.load .false 1 (.t 63)),.none⟩] rfl rfl ?_;apply sG;simp only[go_sem,seval,t0,t11,hb,YK,Nd.cells,Vu];refine RE.call rfl rfl rfl rfl rfl (HS x.words (by omega) _) ?_;rintro wv Z2 ⟨ZM,hw2⟩;simp only at ZM hw2;have hid2:=ZM _ _ P';have XW:=ZM _ _ hb;obtain⟨cw,sw⟩:=hw2.vc;have hio2:=hio _ hid2;refine RE.X2 rfl rfl rfl rfl rfl trivial (by simp only[go_sem,seval,XW]) ?_;refine RE.XG (n:=0) [] [22,24,26] [⟨(.some 66),(.ZG 20 (.t 58) (.t 59)),.none⟩,⟨(.some 67),(.W7 .false 16 1 (.t 66)),.none⟩,⟨.none,(.store 1 (.t 67) (.t 65)),.none⟩] rfl rfl ?_;apply sG;simp only[go_sem,seval,hio2,hid2,hrow',Nd.cells,cw,sw];have hsf:aa U (C' Z2 id ⟨59,20,rows.set i (ndW x wv)⟩):=(hs.trans ZM).av (aH.1 hkid).2;have ZO:∀j,j≠id->∀o,Z2 j=some o->C' Z2 id ⟨59,20,rows.set i (ndW x wv)⟩ j=some o:=λj hj o hjo=>by rw[ae hj];exact hjo
      have h1:=(hr.mono ZM).kept hid2 ZO;have h2:aM (aX U i46) (C' Z2 id ⟨59,20,rows.set i (ndW x wv)⟩) 3 1 wv (x.words.map vI):=by
       rcases hw2 with h|⟨iw,e1,e2,e3⟩
       .exact .inl h
       .have n1:iw≠id:=λe=>by rw[e,hid2]at e2;simp at e2
        refine .inr ⟨iw,e1,by rw[ae n1];exact e2,aH.2 ⟨λe=>(by rw[e,hb]at e3;cases e3),hs.none e3⟩⟩
      have h3:(rows.set i (ndW x wv)).take (i+1)=rows.take i++[ndW x wv]:=by
       rw[ZS (by simp;omega),List.take_set_of_le (by omega)];simp
      apply sR;simp only[go_sem,seval,t0,t1,t11,t51,t52,r1];refine⟨_,?_,i+1,rows.set i (ndW x wv),by omega,rfl,hsf,.inr ⟨id,by rw[List.length_set],af,hkid⟩,by simp[hn],?_,?_,?_,rfl⟩
      .omega
      .rw[h3,XB];exact h1.app ⟨⟨wv,rfl,h2⟩,trivial⟩
      .rw[List.drop_set_of_lt (by omega)];have:rows.drop (i+1)=(rows.drop i).drop 1:=by simp
       rw[this,hd,hdc];rfl
      .exact(ae W6.symm).trans XW
     .have q:((i:Int)<l.length)=False:=O';have ZI:i=l.length:=by omega
      subst ZI;rw[iR,lg (by omega)]at hr;apply sR;simp only[go_sem,seval,t0,t1,t11,t51,t52,q];exact⟨hs,⟨rows,ho,hr⟩,hb⟩
    .clear hs ho46 a46 ho10 a9;rintro⟨S,J⟩ ⟨hs,how,hb,t0,t1,t11⟩;simp only at hs how hb t0 t1 t11;have Zl:=fK (cB l w).atoms;have Zh:=hG.len;have hbr:=PW l hl hisb (ofR l w) (by rw[ofR,dd];omega) (λx hx=>by
      obtain⟨a,ha,rfl⟩:=gM.1 hx;exact hG.nod a ha) hG.may
     have hofe:ofR l w=(cB l w).atoms.map (·.node):=rfl;rw[wI]at hb;rw[JN]at hfl;refine ab.mix 16 ?_;apply sR;simp only[go_sem,seval,t0,t1,t11];refine ab.au rfl rfl rfl (hfl _) ?_;apply sR;simp only[go_sem,seval,t11,hb,Zl];generalize hq:C' J i46 _=Y0;have hb0:Y0 i46=some (wI vn w h (aW (cB l w).atoms) (aB (cB l w).B') (cB l w).WG .ay):=by rw[<-hq];exact af
     have W9:aa U Y0:=hq▸hs.av z46;have how0:CW (aX U i46) Y0 vn l:=hq▸how.IQ k46;clear hq hs how hb;refine ab.eG (λst=>aa Y0 st.U/\aM Y0 st.U 3 1 (st.s 13) ((ofR l w).map vI)/\st.s 0=aC l/\st.s 11=.ptr i46 0 0)
      (λm st=>∃j:Nat,j<=(cB l w).atoms.length/\m=(cB l w).atoms.length-j/\aa Y0 st.U/\aM Y0 st.U 3 1 (st.s 13) ((((cB l w).atoms.take j).map (·.node)).map vI)/\st.s 0=aC l/\st.s 11=.ptr i46 0 0/\st.s 82=aW (cB l w).atoms/\st.s 83=vI (cB l w).atoms.length/\st.s 84=vI j) (cB l w).atoms.length ?_ ?_ ?_
     .exact⟨0,by omega,rfl,aa.refl _,aM.start,t0,t11,rfl,rfl,rfl⟩
     .clear t0 t1 t11;rintro m ⟨S,J⟩ ⟨j,hj,rfl,hsj,ho,t0,t11,t82,t83,t84⟩;simp only at hsj ho t0 t11 t82 t83 t84;generalize hv13:S 13=v13 at ho;refine ab.mix 85 ?_;by_cases H':j<(cB l w).atoms.length
      .have q:((j:Int)<(cB l w).atoms.length)=True:=WE;have U':=λU=>iP (U:=U) H';have Xo:(((cB l w).atoms.take (j+1)).map (·.node)).map vI=(((cB l w).atoms.take j).map (·.node)).map vI++[vI (cB l w).atoms[j].node]:=by
        rw[ZS H',gB,gB];rfl
       have hlm:((((cB l w).atoms.take j).map (·.node)).map vI).length=j:=by rw[dd,dd,gO];omega
       have Yb:cp (cB l w).atoms[j]=.agg [vI (cB l w).atoms[j].kind,vI (cB l w).atoms[j].node,vI (cB l w).atoms[j].fr,vI (cB l w).atoms[j].to,vI (cB l w).atoms[j].x,vI (cB l w).atoms[j].y,vI (cB l w).atoms[j].w,vI (cB l w).atoms[j].h]:=rfl;generalize (((cB l w).atoms.take j).map (·.node)).map vI=rows at*;generalize (cB l w).atoms[j]=x at*;have r1:WR .i64 ((j:Int)+1):=ai;have hs:=aa.refl J;apply sR;simp only[go_sem,seval,t82,t83,t84,q,U',Yb];refine ad λi15 Y15 s15 a15 f15=>?_;have z15:=hs.none f15;replace hs:=hs.trans s15;simp only[go_sem,seval,a15,hv13];generalize Yk:C' _ i15 _=Z15;replace a15:=(congrFun Yk i15).symm.trans af;replace hs:=Eq.subst (motive:=aa _) Yk (hs.av z15);clear Yk;refine ad λi91 Z91 s91 a91 f91=>?_;obtain⟨WW,Yj,X7⟩:=ho.dst (hs.trans s91);have XW:(rows.length+1)*9<=140737488355328:=by omega
       simp only[go_sem,seval,Yj,du a91,XW];refine eF λi92 Z92 s92 a92 f92=>?_;have k92:=(X7 Y0 (aa.refl _) Z91 (hsj.trans (hs.trans s91))).trans s92;have n92:Y0 i92=none:=(hsj.trans (hs.trans s91)).none f92;simp only[go_sem,seval,t0,t11,t82,t83,t84,r1];refine⟨_,?_,j+1,by omega,rfl,k92,?_,rfl⟩
       .omega
       .rw[Xo];exact aM.new (by simp) a92 n92
      .have q:((j:Int)<(cB l w).atoms.length)=False:=O';have Yq:j=(cB l w).atoms.length:=by omega
       rw[Yq,iR,<-hofe]at ho;apply sR;simp only[go_sem,seval,t0,t11,t83,t84,hv13,q];exact⟨hsj,ho⟩
     .clear t0 t1 t11;rintro⟨S,J⟩ ⟨hsj,ho,t0,t11⟩;simp only at hsj ho t0 t11;refine ab.LN [0,11] [13] hsj ho (by simp) ?_;generalize hS:(λi=>if[13].contains i then V.sl 1 ((ofR l w).map vI)else Fy [0,11] S i)=S';have u0:S' 0=aC l:=by rw[<-hS];exact t0
      have u11:S' 11=.ptr i46 0 0:=by rw[<-hS];exact t11
      have u13:S' 13=bb (ofR l w):=by rw[<-hS];rfl
      clear hS t0 t11;refine ab.mix 16 ?_;rw[wI]at hb0;apply sR;simp only[go_sem,seval,u0,u11,u13];refine ab.au rfl rfl rfl (hbr _) ?_;apply sR;simp only[go_sem,seval,u11,hb0,iN,iU];exact HF (b:=aP l w h) (W9.av z46) z46 af (how0.IQ k46)
   .have q:(iI l≠0)=True:=WE hc;obtain⟨e1,e2⟩:=bad (iI l) (by rw[cE,ao (λh=>h ⟨hw,hh⟩),aq hc]) hc;rw[e1,e2];apply sR;simp only[go_sem,seval,q];exact ak.pure hs rfl
  .have mh:=tk h;rw[show decide (1<=h/\h<=1099511627776)=false from Xr hh]at mh;obtain⟨e1,e2⟩:=bad 3 (by rw[cE,aq (λh=>hh h.2)]) (by decide);rw[e1,e2];refine ab.au rfl rfl rfl (mh _) ?_;apply sR;simp only[go_sem,seval];exact ak.pure hs rfl
 .have mw:=tk w;rw[show decide (1<=w/\w<=1099511627776)=false from Xr hw]at mw;obtain⟨e1,e2⟩:=bad 3 (by rw[cE,aq (λh=>hw h.1)]) (by decide);rw[e1,e2];apply sR;simp only[go_sem,seval,c23];refine ab.au rfl rfl rfl (mw _) ?_;apply sR;simp only[go_sem,seval];exact ak.pure hs rfl
def sY{l:List Nd}{w h:Int}(he:cE l w h=0):Bu w/\Bu h/\iI l=0:=by
 unfold cE at he;split at he
 .cases he
 .rename_i h1;split at he
  .rename_i h2;exact absurd he h2
  .rename_i h2;exact⟨Decidable.byContradiction λh=>h1 (λg=>h g.1),Decidable.byContradiction λh=>h1 (λg=>h g.2),Decidable.byContradiction h2⟩
def F3{l:List Nd}(hl:cT l){w h:Int}(he:cE l w h=0):BkFull (aP l w h)/\∀f∈(aP l w h).M',0<=f.h:=by
 obtain⟨hw,hh,hc⟩:=sY he;obtain⟨hisb,hn,hwo,hcs⟩:=Ao hc;have hG:=Ae hisb hn hw.1 hw.2;have hl1:=hG.len;have hl2:=hG.Zi;have ht:∀a∈(cB l w).atoms,-18014398509481984<=a.y/\a.y<=18014398509481984/\0<=a.h/\a.h<=18014398509481984:=λa ha=>by
  have:=hG.Xg a ha;have h0:=this.y0;have h1:=this.y1;have h2:=this.h0;have h3:=this.h1;omega
 refine⟨⟨⟨⟨?_,λa ha=>?_⟩,ht,?_,?_,λf hf=>(hG.flo f hf).ok (by omega),?_⟩,hl,hisb,hh.1,hh.2,hG.nod⟩,λf hf=>(hG.flo f hf).h0⟩
 .show(cB l w).atoms.length<=_;omega
 .have:=ht a ha;omega
 .show(cB l w).atoms.length<=_;omega
 .show(cB l w).B'.length<=_;omega
 .show(rf l (ofR l w)).length=(cB l w).atoms.length+1;unfold rf ofR;simp
def eS(b:Bk)(a:Nat):Int:=((b.atoms.drop a).map (·.h)).sum
def we{b:Bk}{a:Nat}(h:a<b.atoms.length):eS b a=(b.atoms[a]).h+eS b (a+1):=by
 unfold eS;rw[gF h,eo,List.sum_cons]
def rz{b:Bk}(hp:∀a∈b.atoms,1<=a.h)(a:Nat):0<=eS b a:=by
 have key:∀l:List Xv,(∀a∈l,1<=a.h)->0<=(l.map (·.h)).sum:=by
  intro l
  induction l with
  |nil=>intro _;simp
  |cons x l ih=>
   intro h;have h1:=h x (by simp);have h2:=ih (λy hy=>h y (by simp[hy]));simp only[eo,List.sum_cons];omega
 exact key _ λx hx=>hp x (List.mem_of_mem_drop hx)
def Ck{b:Bk}(hp:∀a∈b.atoms,1<=a.h)(a:Nat):∀n,eS b (a+n)<=eS b a
 |0=>Int.le_refl _
 |n+1=>by
  have ih:=Ck hp a n;by_cases h:a+n<b.atoms.length
  .have h1:=we h;have h2:=hp _ (XI h);rw[<-Nat.add_assoc];omega
  .have:eS b (a+(n+1))=eS b (a+n):=by
    unfold eS;rw[List.drop_of_length_le (by omega),List.drop_of_length_le (by omega)]
   omega
def sU{body:Int}(f:T')(r:List T'):(cC body (f::r) 0).2.1.length<(f::r).length:=by
 have key:∀(l:List T') (sh:Int),(cC body l sh).2.1.length<=l.length:=by
  intro l
  induction l with
  |nil=>intro sh;simp[cC]
  |cons g l ih=>
   intro sh;rw[cC];split
   .simp
   .have:=ih (sh+min g.h body);simp only[XX];omega
 rw[cC,ao (by omega)];have:=key r (0+min f.h body);simp only[XX];omega
def nX{b:Bk}{s:Xp}{to kept shift body:Int}:(cu b.atoms b.M' s to kept shift body).2.length<=b.M'.length:=by
 unfold cu;split
 .have h1:=pq (sQ b.atoms s kept) shift body (dG b.M' s to);have h2:(dG b.M' s to).length<=b.M'.length:=oU _ _ _;omega
 .simp
inductive kB(b:Bk)(x:Wx):XE->Prop
 |whole (c:Nat) (fr:Bool) (p:List T') (h1:x.s.atom<c) (h2:c<=b.atoms.length) (h3:p.length<=b.M'.length):kB b x ⟨⟨c,0,fr⟩,p⟩
 |more (d:Int) (p:List T') (h1:x.s.done<d) (h2:d<(XV b.atoms x.s.atom).h) (h3:p.length<=b.M'.length):kB b x ⟨⟨x.s.atom,d,false⟩,p⟩
def sc{b:Bk}(hb:BkOk b){x:Wx}(hm:bS b.atoms x.s)(Ye:∀a∈b.atoms,1<=a.h)(hbody:1<=x.body):kB b x (dQ b x):=by
 have hrl:cj b x<=b.atoms.length:=oZ;have XU:=hb.brk;unfold dQ;split
 .rename_i WL;obtain⟨c,h1,h2,h3⟩:=qL WL (by omega);rw[show p9 b x=c from h1,fc];exact .whole c _ _ h2 (by omega) nX
 .unfold uv dp;have hso:kZ b.atoms x.s x.body:=⟨hm,hbody⟩
  rw[aq (show kZ b.atoms ({ x with kind:=1 }:Wx).s ({ x with kind:=1 }:Wx).body from hso)];obtain⟨⟨h0,h1⟩,h2,h3⟩:=hm;obtain⟨k,hk⟩:∃k:Nat,x.s.atom=k:=⟨x.s.atom.toNat,by omega⟩
  have Yn:k<b.atoms.length:=by omega
  have hp:=Ye _ (XI Yn);have ha:XV b.atoms x.s.atom=b.atoms[k]:=by rw[hk,bg Yn]
  rw[ha]at h3;have hph:(fe b.atoms x.s.atom).h=b.atoms[k].h:=by rw[fe,ha]
  unfold iQ;have e1:(dE b.atoms x.s x.body).fr=x.s.done:=rfl;have e2:(dE b.atoms x.s x.body).atom=x.s.atom:=rfl;have e3:(dE b.atoms x.s x.body).h=min (b.atoms[k].h-x.s.done) x.body:=by rw[<-hph];rfl
  split
  .rename_i H';have YI:x.s.done+min (b.atoms[k].h-x.s.done) x.body<(XV b.atoms x.s.atom).h:=by rw[<-e3];exact H'
   have:=kB.more (b:=b) (x:=x) (x.s.done+min (b.atoms[k].h-x.s.done) x.body) (cu b.atoms b.M' x.s (x.s.atom+1) 0 0 x.body).2 (by omega) YI nX;rw[<-e3]at this;exact this
  .have:=kB.whole (b:=b) (x:=x) (k+1) false (cu b.atoms b.M' x.s (x.s.atom+1) 0 0 x.body).2 (by omega) (by omega) nX;have e4:((k+1:Nat):Int)=x.s.atom+1:=by omega
   rw[e4]at this;exact this
structure SkI(s:WS):Prop where
 pw:s.atoms.Pairwise λa b=>a.y+a.h<=b.y
 q:∀a∈s.atoms,a.y+a.h<=s.WV.y
def SkI.put{s:WS}(h:SkI s){a:Xv}(h1:s.WV.y<=a.y)(h2:0<=a.h):SkI (s.put a):=by
 refine⟨?_,λx hx=>?_⟩
 .simp only[WS.put];rw[List.pairwise_append];refine⟨h.pw,by simp,λx hx y hy=>?_⟩;simp only[jV]at hy;subst hy;have:=h.q x hx;omega
 .simp only[WS.put]at hx|-;rcases dD.1 hx with hx|hx
  .have:=h.q x hx;omega
  .simp only[jV]at hx;subst hx;omega
def SkI.WV{s:WS}(h:SkI s){p:Pn}(hp:s.WV.y<=p.y):SkI { s with WV:=p }:=⟨h.pw,λa ha=>by have:=h.q a ha;simp only;omega⟩
def ER{p:Pn}{m d:Int}(h0:0<=p.m)(hd:0<=d):p.y<=(ew p m d).y:=by
 simp only[ew,wP];(repeat' split)<;>omega
def LA{p:Pn}{m d:Int}(h0:0<=p.m)(hd:0<=d):p.y<=(mZ p m d).y:=by
 simp only[mZ,wP];(repeat' split)<;>(try simp only)<;>omega
def SkI.enter{s:WS}(h:SkI s)(h0:0<=s.WV.m){t:YA}(ht:SOk t):SkI (s.enter t):=by
 have hp:=ht.WU.1;unfold WS.enter;simp only;refine h.WV ?_;split
 .have hc:s.WV.y<=(jT s.WV (dU (nE t.clear) s.B').1).y/\0<=(jT s.WV (dU (nE t.clear) s.B').1).m:=by
   unfold jT;split<;>(try simp only)<;>omega
  exact Int.le_trans hc.1 (ER hc.2 hp)
 .exact ER h0 hp
def SkI.leave{s:WS}(h:SkI s)(h0:0<=s.WV.m){t:YA}(ht:SOk t):SkI (s.leave t):=h.WV (LA h0 ht.WI.1)
def SkI.text{rs:List Rm}{s:WS}{C:Nat}(h:gi s C)(hk:SkI s){n:Nd}(hn:NOk n)(a:Nat):SkI (s.text rs a n):=by
 obtain⟨⟨hf,h1,h2,h3,h4⟩,h5,h6⟩:=h;have hl:=hn.line;have key:∀(k i:Nat) (y:Int) (t:WS),t.WV.y<=y->SkI t->SkI ((dc s.B' n.words n.space n.line (ee rs a) k i y).foldl (λs x=>s.put (fq a n.line x)) t):=by
  intro k
  induction k with
  |zero=>intro i y t _ ht;exact ht
  |succ k ih=>
   intro i y t hy ht;rw[dc];split
   .rw[jm];have hyr:y<=(pD s.B' n.words n.space n.line i y (ee rs a)).y:=(gb (λf ZW=>(hf f ZW).yB)).1;refine ih _ _ _ ?_ (ht.put (by simp only[fq];omega) hl.1);simp only[WS.put,fq];omega
   .exact ht
 exact key _ _ _ s (by omega) hk
def xK{l:List Nd}{rs:List Rm}(hD:DOk l rs):∀(k a e:Nat) (s:WS) (C:Nat),e-a<=k->a<=e->e<=l.length->bW l a e=true->gi s C->SkI s->SkI (df l rs k a e s)
 |0,a,e,s,C,_,hae,_,_,_,h=>h
 |k+1,a,e,s,C,hk,hae,he,hr,h,hs=>by
  rw[df];by_cases H':a<e
  .rw[aq H'];obtain⟨h1,h2⟩:=cL he hr (Xm a) H';obtain⟨h3,h4⟩:=dB he hr H';have Xa:NOk (Xf l a):=by rw[jG (by omega)];exact gC hD.isb (by omega)
   have step:∀t,(∃D,gi t D)->SkI t->SkI (df l rs k (a+(Xl l a).toNat) e t):=λt ⟨D,ht⟩ hA=>
    xK hD k _ e t D (by omega) (by omega) he h3 ht hA
   have hm:=h.bd.m0;split
   .have hI2:=gJ hD k (a+1) (a+(Xl l a).toNat) _ _ (by omega) (by omega) (by omega) h4 (fp h Xa.st);have hS2:=xK hD k (a+1) (a+(Xl l a).toNat) _ _ (by omega) (by omega) (by omega) h4 (fp h Xa.st) (hs.enter hm Xa.st);exact step _ ⟨_,kS hI2 Xa.st⟩ (hS2.leave hI2.bd.m0 Xa.st)
   .split
    .exact step _ ⟨_,lZ h Xa a⟩ (SkI.text h hs Xa a)
    .split
     .refine step _ ⟨_,l7 h Xa a⟩ ?_;have hyr:=gb (w:=(Xf l a).w) (high:=(Xf l a).h) (y:=s.WV.y+s.WV.m) (s:=ee rs a) (λf ZW=>(h.bd.fl f ZW).yB);exact hs.put (by simp only;omega) Xa.h.1
     .have k4:(Xf l a).kind=4:=by rename_i g1 g2 g3;rcases Xa.kind with h|h|h|h;exact absurd h g1;exact absurd h g2;exact absurd h g3;exact h
      exact step _ ⟨_,kW hD h (by omega) Xa k4⟩ ⟨hs.pw,hs.q⟩
  .rw[ao H'];exact hs
def LR{l:List Nd}(hb:Xw l=true)(hn:l.length<=2000){w:Int}(h1:1<=w)(h2:w<=1099511627776):(cB l w).atoms.Pairwise λa b=>a.y+a.h<=b.y:=by
 have hD:=xN hb hn h1 h2;have hr:bW l 0 l.length=true:=by simp only[Xw,Ba]at hb;exact hb.2
 have hI:gi ⟨[],[],0,⟨0,0⟩⟩ 0:=⟨⟨by simp,by simp,by simp,by simp,by simp⟩,by simp,by simp⟩
 exact(xK hD l.length 0 l.length ⟨[],[],0,⟨0,0⟩⟩ 0 (by omega) (by omega) (Xm _) hr hI ⟨by simp,by simp⟩).pw
def zX{l:List Xv}(h:l.Pairwise λa b=>a.y+a.h<=b.y){i j:Nat}(hij:i<j)(hj:j<l.length):l[i].y+l[i].h<=l[j].y:=List.pairwise_iff_getElem.1 h i j (by omega) hj hij
def rZ{p:Nat->Bool}{n:Nat}(hm:∀i j,i<=j->j<n->p i=true->p j=true):∀(f i j:Nat),j-i<=f->i<=j->j<=n->(∀x,x<i->p x=false)->(j<n->p j=true)->
 (∀x,x<lR p f i j->p x=false)/\(lR p f i j<n->p (lR p f i j)=true)/\lR p f i j<=j
 |0,i,j,hf,hij,_,h1,h2=>by
  obtain rfl:i=j:=by omega
  exact⟨h1,h2,Xm _⟩
 |f+1,i,j,hf,hij,hjn,h1,h2=>by
  rw[lR];split
  .rename_i H';split
   .rename_i hp;obtain⟨g1,g2,g3⟩:=rZ hm f i ((i+j)/2) (by omega) (by omega) (by omega) h1 (λ_=>hp);exact⟨g1,g2,by omega⟩
   .rename_i hp;have hp':p ((i+j)/2)=false:=by simpa using hp
    refine rZ hm f ((i+j)/2+1) j (by omega) (by omega) hjn (λx hx=>?_) h2;cases W8:p x with
    |false=>rfl
    |true=>rw[hm x ((i+j)/2) (by omega) (by omega) W8]at hp';cases hp'
  .obtain rfl:i=j:=by omega
   exact⟨h1,h2,Xm _⟩
def gW{b:Bk}(hk:b.atoms.Pairwise λx y=>x.y+x.h<=y.y)(Ye:∀a∈b.atoms,1<=a.h){s:Xp}(hm:bS b.atoms s)(kept shift body:Int):
 ∃r:Nat,jD b.atoms s kept shift body=r/\s.atom<=r/\r<=b.atoms.length/\(∀k (h:k<b.atoms.length),s.atom<=k->k<r->dh b.atoms s kept shift k+b.atoms[k].h<=body)/\∀h:r<b.atoms.length,dh b.atoms s kept shift r+b.atoms[r].h>body:=by
 have hm0:=hm;obtain⟨⟨h0,h1⟩,h2,h3⟩:=hm;obtain⟨a,ha⟩:∃a:Nat,s.atom=a:=⟨s.atom.toNat,by omega⟩
 have Zh:a<b.atoms.length:=by omega
 have hpl:∀k (h:k<b.atoms.length),a<=k->dh b.atoms s kept shift k=b.atoms[k].y-b.atoms[a].y-s.done+kept+shift:=λk h hak=>by
  rw[dh,aq ⟨hm0,by omega,by omega⟩,gu,aq ⟨⟨h0,h1⟩,by omega,by omega⟩,ha,bg h,bg Zh]
 have hby:∀n (h:a+n<b.atoms.length),fP b.atoms s kept shift body n=decide (b.atoms[a+n].y-b.atoms[a].y-s.done+kept+shift+b.atoms[a+n].h>body):=λn h=>by
  have e:s.atom+(n:Int)=((a+n:Nat):Int):=by omega
  rw[fP,e,hpl _ h (by omega),bg h]
 have hmono:∀i j,i<=j->j<b.atoms.length-a->fP b.atoms s kept shift body i=true->fP b.atoms s kept shift body j=true:=λi j hij hj hb=>by
  rcases Nat.eq_or_lt_of_le hij with rfl|H'
  .exact hb
  .have hi2:a+i<b.atoms.length:=by omega
   have hj2:a+j<b.atoms.length:=by omega
   rw[hby i hi2]at hb;rw[hby j hj2];have h5:=zX hk (show a+i<a+j by omega) hj2;have h6:=Ye _ (XI hj2);have hb':=of_decide_eq_true hb;exact XJ (by omega)
 have hs:=rZ hmono (b.atoms.length-a) 0 (b.atoms.length-a) (by omega) (by omega) (Xm _) (λx hx=>by omega) (λh=>by omega);have hsr:lR (fP b.atoms s kept shift body) (b.atoms.length-a) 0 (b.atoms.length-a)=D8 (fP b.atoms s kept shift body) (b.atoms.length-a):=rfl;rw[hsr]at hs;obtain⟨g1,g2,g3⟩:=hs;refine⟨a+D8 (fP b.atoms s kept shift body) (b.atoms.length-a),?_,by omega,by omega,λk h hak hkr=>?_,λh=>?_⟩
 .rw[jD,aq hm0,ha,fc];rfl
 .have hka:a<=k:=by omega
  have:=g1 (k-a) (by omega);rw[hby (k-a) (by omega)]at this;have h5:=of_decide_eq_false this;rw[hpl k h hka];have e:a+(k-a)=k:=by omega
  simp only[e]at h5;omega
 .have:=g2 (by omega);rw[hby _ h]at this;have h5:=of_decide_eq_true this;rw[hpl _ h (by omega)];omega
def mK{l:List Nd}{a:Nat}:∀(k:Nat) (x:Int),x∈gV l a k->iF l x a=true
 |0,_,h=>by simp[gV]at h
 |k+1,x,h=>by
  rw[gV]at h;split at h
  .rename_i hk;rcases db.1 h with rfl|h
   .exact hk
   .exact mK k x h
  .exact mK k x h
def Iz(l:List Nd)(of:List Int)(k:Nat):0<=dx l of k 3/\dx l of k 3<=7:=by
 simp only[dx,Ig];cases lv l of k 0<;>cases lv l of k 1<;>cases lv l of k 2<;>simp
def As:∀(all:List Int),cV all=0\/2<=cV all/\cV all<=4:=by
 have key:∀(all:List Int) (o:Int),(o=0\/2<=o/\o<=4)->(all.foldl ly o=0\/2<=all.foldl ly o/\all.foldl ly o<=4):=by
  intro all
  induction all with
  |nil=>intro o h;exact h
  |cons x all ih=>
   intro o h;rw[jm];refine ih _ ?_;unfold ly nQ
   (repeat' split)<;>omega
 exact λall=>key all 0 (.inl rfl)
def MO{l:List Nd}(hb:Xw l=true){of:List Int}(Ya:∀x∈of,0<=x/\x<l.length):x9 (rf l of)=true:=by
 have hlen:(rf l of).length=of.length+1:=by simp[rf]
 simp only[x9,Ba,eT,List.mem_range,Zs];refine⟨λk hk=>?_,by omega⟩;rw[hlen]at hk;have hg:Yt (rf l of) k=bkR l of k:=by simp[Yt,rf,hk]
 unfold iL;rw[hg,hlen];refine XJ ?_;have Zj:0<k->k<of.length->of.getD k 0=of.getD (k-1) 0->jJ l of k=0:=λh0 h1 he=>by
  have Zv:of.getD k 0=of[k]:=by simp[h1]
  have hr:=Ya _ (XI h1);have hh:∀x∈abv l (of.getD k 0).toNat,hAt l of x k=true/\hAt l of x ((k:Int)-1)=true:=λx hx=>by
   rw[Zv]at hx;have H':of[k].toNat<l.length:=by omega
   rw[Pz hb H']at hx;have W8:=mK _ _ hx;rw[nh]at W8;have e1:((k:Int)-1).toNat=k-1:=by omega
   have e2:((k:Int)).toNat=k:=by omega
   have e3:(of[k].toNat:Int)=of[k]:=by omega
   rw[e3]at W8;unfold hAt zR;rw[aq (by omega),aq (by omega),e1,e2,<-he,Zv];exact⟨XJ ⟨W8.2.2.1,W8.2.2.2⟩,XJ ⟨W8.2.2.1,W8.2.2.2⟩⟩
  have e1:((k:Int)-1).toNat=k-1:=by omega
  have e2:((k:Int)).toNat=k:=by omega
  have he1:chR l of ((k:Int)-1) (λb=>!hAt l of b k)=[]:=by
   unfold chR;rw[aq (by omega),e1,<-he,List.filter_eq_nil_iff];intro x hx;rw[(hh x hx).1];simp
  have he2:chR l of k (λb=>!hAt l of b ((k:Int)-1))=[]:=by
   unfold chR;rw[aq (by omega),e2,List.filter_eq_nil_iff];intro x hx;rw[(hh x hx).2];simp
  unfold jJ jI;rw[ao (by omega),eC,he1,he2];rfl
 have hend:k=of.length->jJ l of k=0:=λh=>by
  unfold jJ jI;rw[aq h];rfl
 have hfv:=As (jI l of k);have hbr:=Iz l of k;change jJ l of k=0\/2<=jJ l of k/\jJ l of k<=4 at hfv;unfold pR bkR;simp only[Zs,decide_eq_false_iff_not];unfold sK sF;by_cases h0:k=0
 .rw[aq h0,aq (show k=0\/k=of.length from .inl h0)];refine⟨λ_=>rfl,λh=>absurd (by omega) h,λh=>absurd (by omega) h,?_,.inl (by split<;>rfl)⟩;rcases hfv with h|h
  .exact .inl h
  .exact .inr ⟨h.1,h.2,by omega,by omega⟩
 .rw[ao h0];by_cases h1:k=of.length
  .rw[aq h1,aq (show k=0\/k=of.length from .inr h1)];exact⟨λh=>absurd h (by omega),λ_ _=>rfl,λ_ h=>absurd (by omega) h,.inl (hend h1),.inl (by split<;>rfl)⟩
  .rw[ao h1,ao (show¬(k=0\/k=of.length) by omega)];by_cases h2:of.getD k 0=of.getD (k-1) 0
   .rw[aq h2];have hf:=Zj (by omega) (by omega) h2;refine⟨λh=>absurd h (by omega),λ_ h=>absurd h (by omega),λ_ _=>.inr rfl,.inl hf,?_⟩;rw[aq hf];rcases Int.lt_or_le 0 (dx l of k 3)with h|h
    .exact .inr ⟨.inr rfl,hf,h,by omega⟩
    .exact .inl (by omega)
   .rw[ao h2];refine⟨λh=>absurd h (by omega),λ_ h=>absurd h (by omega),λ_ _=>.inl rfl,?_,?_⟩
    .rcases hfv with h|h
     .exact .inl h
     .exact .inr ⟨h.1,h.2,by omega,by omega⟩
    .by_cases hf:jJ l of k=0
     .rw[aq hf];rcases Int.lt_or_le 0 (dx l of k 3)with h|h
      .exact .inr ⟨.inl rfl,hf,h,by omega⟩
      .exact .inl (by omega)
     .rw[ao hf];exact .inl rfl
def inF(top e:Int)(l:List Xs):Prop:=∀f∈l,top<=f.y/\0<=f.h/\f.y+f.h<=e
def zQ{top e:Int}{l m:List Xs}(h1:inF top e l)(h2:inF top e m):inF top e (l++m):=λf hf=>(dD.1 hf).elim (h1 f) (h2 f)
def A5{l:List Nd}{x:Kp}{a:Int}(h:∀n∈x.WQ,1<=(YG l n).head):∀n∈(jM l x a).WQ,1<=(YG l n).head:=λn hn=>by
 unfold jM at hn;split at hn
 .exact h n hn
 .rename_i hc;rcases dD.1 hn with hn|hn
  .exact h n hn
  .rw[jV.1 hn];omega
def xe{l:List Nd}{L:List Int}{h:Int}:∀m,∀n∈(gP l L h m).WQ,1<=(YG l n).head
 |0=>λn hn=>by simp[gP]at hn
 |m+1=>by rw[gP];exact A5 (xe m)
def RB{l:List Nd}{w:Int}:∀(L:List Int),(∀n∈L,1<=(YG l n).head)->0<=(hdK l w L).2/\(∀f∈(hdK l w L).1,0<=f.y/\0<=f.h/\f.y+f.h<=(hdK l w L).2)/\((hdK l w L).1.map (·.h)).sum=(hdK l w L).2:=λL=>by
 suffices key:∀(L:List Int) (p:List Xs×Int),(∀n∈L,1<=(YG l n).head)->0<=p.2->(∀f∈p.1,0<=f.y/\0<=f.h/\f.y+f.h<=p.2)->(p.1.map (·.h)).sum=p.2->
  0<=(L.foldl (hdS l w) p).2/\(∀f∈(L.foldl (hdS l w) p).1,0<=f.y/\0<=f.h/\f.y+f.h<=(L.foldl (hdS l w) p).2)/\((L.foldl (hdS l w) p).1.map (·.h)).sum=(L.foldl (hdS l w) p).2 from
  λh=>key L ([],0) h (Int.le_refl _) (λf hf=>by cases hf) rfl
 intro L
 induction L with
 |nil=>intro p _ h1 h2 h3;exact⟨h1,h2,h3⟩
 |cons a L ih=>
  intro p h h1 h2 h3;have ha:=h a (by simp);refine ih _ (λn hn=>h n (by simp[hn])) ?_ (λf hf=>?_) ?_
  .simp only[hdS];omega
  .simp only[hdS]at hf|-;rcases dD.1 hf with hf|hf
   .have:=h2 f hf;omega
   .rw[jV.1 hf];simp only;omega
  .simp only[hdS,gB,List.sum_append,h3,eo,List.map_nil,List.sum_cons,List.sum_nil];omega
def rO{b:Bk}(hb:BkFull b)(s:Xp)(h0:0<=s.atom):0<=(aV b s).high/\1<=(aV b s).body/\(aV b s).high+(aV b s).body=b.h/\inF 0 (aV b s).high (hdK b.nodes b.w (aV b s).WQ).1/\((hdK b.nodes b.w (aV b s).WQ).1.map (·.h)).sum=(aV b s).high:=by
 have hk:=nk hb s;have hbd:=gv hb s h0;have hh:∀n∈(aV b s).WQ,1<=(YG b.nodes n).head:=by
  unfold aV;split
  .intro n hn;cases hn
  .unfold uF;split
   .exact xe _
   .intro n hn;cases hn
 obtain⟨g1,g2,g3⟩:=RB (l:=b.nodes) (w:=b.w) _ hh;rw[hk.sum]at g2 g3;refine⟨hk.high.1,hbd,?_,g2,g3⟩;have h1:=hb.h1;revert hbd;unfold aV;split
 .intro _;simp
 .unfold uF;split
  .rename_i hc;intro _;obtain⟨_,h3,h4⟩:=hc;generalize (XV b.atoms (min s.atom ((b.atoms.length:Int)-1))).node=a at*;have ha:a.toNat<b.nodes.length:=by omega
   have hrg:∀x∈abv b.nodes a.toNat,∃n:Nat,x=n/\n<b.nodes.length:=λx hx=>by
    obtain⟨n,h1,h2⟩:=qJ ha x hx;exact⟨n,h1,by omega⟩
   exact(qQ hb.isb hrg (by omega:0<=b.h) (abv b.nodes a.toNat).length (Xm _)).2.2.2
  .intro h;exact absurd h (by simp)
def FE{body:Int}(hb:0<=body):∀(l:List T') (sh:Int),0<=sh->sh<=body->(∀f∈l,0<=f.h)->∀m∈(cC body l sh).1,0<=m.y/\0<=m.h/\m.y+m.h<=body
 |[],sh,_,_,_=>λm hm=>by simp[cC]at hm
 |f::r,sh,h0,h1,hf=>λm hm=>by
  rw[cC]at hm;have:=hf f (by simp);split at hm
  .cases hm
  .rename_i hc;rcases db.1 hm with rfl|hm
   .simp only;omega
   .exact FE hb r _ (by omega) (by omega) (λg hg=>hf g (by simp[hg])) m hm
def Ko{top shift body:Int}(hsh:0<=shift):∀{L:List T'},(∀f∈L,0<=f.h)->∀m∈(jw top shift body L).1,0<=m.y/\0<=m.h/\m.y+m.h<=body:=by
 suffices key:∀(L:List T') (x:List T'×List T'),(∀f∈L,0<=f.h)->(∀m∈x.1,0<=m.y/\0<=m.h/\m.y+m.h<=body)->
  ∀m∈(L.foldl (λx f=>lC body x f (dY top shift f)) x).1,0<=m.y/\0<=m.h/\m.y+m.h<=body from
  λ{L} h=>key L ([],[]) h (λm hm=>by cases hm)
 intro L
 induction L with
 |nil=>intro x _ h m hm;exact h m hm
 |cons f L ih=>
  intro x hL h;refine ih _ (λg hg=>hL g (by simp[hg])) λm hm=>?_;have hf:=hL f (by simp);simp only[lC]at hm;split at hm
  .exact h m hm
  .rename_i hl;rcases dD.1 hm with hm|hm
   .exact h m hm
   .rw[jV.1 hm];unfold pA at hl;have hl':¬(x.2≠[]\/(dY top shift f).y+(dY top shift f).h>body):=λh=>hl (XJ h);simp only[dY]at hl'|-;omega
def Gq:∀{l:List T'} {a b:Int} {f:T'},f∈tP l a b->f∈l:=λh=>(tm.1 h).1
def BV{b:Bk}(hfh:∀f∈b.M',0<=f.h){s:Xp}{to kept shift body:Int}(hsh:0<=shift):∀m∈(cu b.atoms b.M' s to kept shift body).1,0<=m.y/\0<=m.h/\m.y+m.h<=body:=by
 unfold cu;split
 .exact Ko hsh λf hf=>hfh f (Gq hf)
 .intro m hm;cases hm
def AV{high body:Int}{l:List T'}(h:∀m∈l,0<=m.y/\0<=m.h/\m.y+m.h<=body):inF high (high+body) (l.map (mG high)):=λf hf=>by
 obtain⟨m,hm,rfl⟩:=gM.1 hf;have:=h m hm;simp only[mG];omega
def wC:∀(xs:List Fd) (d:Fd),(fO iE xs d=(d,false)/\∀x∈xs,x.b.forced=0)\/∃L x R,xs=L++x::R/\(∀y∈L,y.b.forced=0)/\x.b.forced≠0/\fO iE xs d=(x,true)
 |[],d=>.inl ⟨rfl,λx h=>(by cases h)⟩
 |a::xs,d=>by
  have stay:∀(l:List Fd) (x:Fd),l.foldl (gy iE) (x,true)=(x,true):=by
   intro l
   induction l with
   |nil=>intro x;rfl
   |cons y l ih=>intro x;rw[jm];exact ih x
  by_cases h:a.b.forced=0
  .have e:fO iE (a::xs) d=fO iE xs d:=by
    unfold fO;rw[jm,gy,iE];simp[h]
   rw[e];rcases wC xs d with⟨h1,h2⟩|⟨L,x,R,h1,h2,h3,h4⟩
   .exact .inl ⟨h1,λx hx=>(db.1 hx).elim (λe=>e▸h) (h2 x)⟩
   .exact .inr ⟨a::L,x,R,by rw[h1];rfl,λy hy=>(db.1 hy).elim (λe=>e▸h) (h2 y),h3,h4⟩
  .refine .inr ⟨[],a,xs,rfl,λy hy=>(by cases hy),h,?_⟩;unfold fO;rw[jm,gy,iE];simp only[h,Bool.not_false,ne_eq,not_false_eq_true,decide_true,Bool.and_self,if_true];exact stay xs a
def G7(d:Fd):∀(xs:List Fd) (a:Fd),∃L x R,xs++[a]=L++x::R/\fO jR (xs++[a]) d=(x,true)/\(∀y∈L,x.b.XD<=y.b.XD)/\∀y∈R,x.b.XD<y.b.XD:=by
 suffices key:∀n (xs:List Fd) (a:Fd),xs.length=n->∃L x R,xs++[a]=L++x::R/\fO jR (xs++[a]) d=(x,true)/\(∀y∈L,x.b.XD<=y.b.XD)/\∀y∈R,x.b.XD<y.b.XD from
  λxs a=>key _ xs a rfl
 intro n
 induction n with
 |zero=>
  intro xs a h;obtain rfl:=List.length_eq_zero_iff.1 h;exact⟨[],a,[],rfl,by simp[fO,gy,jR],λy h=>(by cases h),λy h=>by cases h⟩
 |succ n ih=>
  intro xs a h;rcases List.eq_nil_or_concat xs with rfl|⟨ys,z,rfl⟩
  .cases h
  .rw[List.concat_eq_append]at h|-;obtain⟨L,x,R,h1,h2,h3,h4⟩:=ih ys z (by simpa using h);rw[vM,h2];unfold gy jR;by_cases hr:a.b.XD<=x.b.XD
   .refine⟨ys++[z],a,[],rfl,by simp[hr],λy hy=>?_,λy hy=>by cases hy⟩;rw[h1]at hy;rcases dD.1 hy with hy|hy
    .have:=h3 y hy;omega
    .rcases db.1 hy with rfl|hy
     .exact hr
     .have:=h4 y hy;omega
   .refine⟨L,x,R++[a],by rw[h1];simp,by simp[hr],h3,λy hy=>?_⟩;rcases dD.1 hy with hy|hy
    .exact h4 y hy
    .rw[jV.1 hy];omega
def zD{b:List YJ}{fr to:Int}{L R:List Fd}{x:Fd}(h:(btw b fr to).map (mi b)=L++x::R):
 ∃c:Nat,x=mi b c/\max fr 0<=c/\c<max fr 0+uG b fr to/\(∀k:Nat,max fr 0<=k->k<c->mi b k∈L)/\∀k:Nat,c<k->k<max fr 0+uG b fr to->mi b k∈R:=by
 have hlen:=congrArg List.length h;simp only[btw,dd,List.length_range',iz,XX]at hlen;have ZU:∀k:Nat,max fr 0<=k->k<max fr 0+uG b fr to->(L++x::R)[k-(max fr 0).toNat]?=some (mi b k):=λk h1 h2=>by
  rw[<-h,btw,qX,List.getElem?_range' (by omega)];simp only[Option.map_some,Nat.one_mul];rw[show(max fr 0).toNat+(k-(max fr 0).toNat)=k by omega]
 refine⟨(max fr 0).toNat+L.length,?_,by omega,by omega,λk h1 h2=>?_,λk h1 h2=>?_⟩
 .have:=ZU ((max fr 0).toNat+L.length) (by omega) (by omega);rw[show(max fr 0).toNat+L.length-(max fr 0).toNat=L.length by omega]at this;simpa using this
 .have:=ZU k h1 (by omega);rw[Cv (by omega)]at this;exact yk this
 .have:=ZU k (by omega) (by omega);rw[KO (by omega),show k-(max fr 0).toNat-L.length=(k-((max fr 0).toNat+L.length)-1)+1 by omega,uP]at this;exact yk this
def xG{b:List YJ}{i fit:Int}(h:eD b i fit)(hf:fit<=(b.length:Int)-1):
 ∃c:Nat,qF b i fit=c/\i<c/\(c:Int)<=fit/\∀k:Nat,i<k->(k:Int)<=fit->(k<c->(Yt b k).forced=0)/\((Yt b c).forced=0->k≠c->(Yt b k).forced=0/\(Yt b c).XD<=(Yt b k).XD/\(c<k->(Yt b k).XD≠(Yt b c).XD)):=by
 obtain⟨_,h1,h2,h3⟩:=h;have hn:max (i+1) 0=i+1:=by omega
 have hb:uG b (i+1) fit=(fit-i).toNat:=by unfold uG;omega
 unfold qF lL EG;rcases wC ((btw b (i+1) fit).map (mi b)) C7 with⟨e,hz⟩|⟨L,x,R,e1,e2,e3,e4⟩
 .rw[e,aq (show C7.i<0 by decide)];have hz':∀k:Nat,i<k->(k:Int)<=fit->(Yt b k).forced=0:=λk g1 g2=>by
   refine hz (mi b k) (gM.2 ⟨k,?_,rfl⟩);rw[btw,List.mem_range'_1];omega
  have W6:(btw b (i+1) fit).map (mi b)≠[]:=λe=>by
   have:=congrArg List.length e;simp[btw,hb]at this;omega
  rcases List.eq_nil_or_concat ((btw b (i+1) fit).map (mi b))with e|⟨ys,z,e⟩
  .exact absurd e W6
  .rw[List.concat_eq_append]at e;obtain⟨L,x,R,f1,f2,f3,f4⟩:=G7 C7 ys z;rw[<-e]at f1 f2;obtain⟨c,rfl,g1,g2,g3,g4⟩:=zD f1;rw[f2];refine⟨c,rfl,by omega,by omega,λk k1 k2=>⟨λ_=>hz' k k1 k2,λ_ hk=>⟨hz' k k1 k2,?_,λH'=>?_⟩⟩⟩
   .rcases Nat.lt_or_gt_of_ne hk with hk|hk
    .exact f3 _ (g3 k (by omega) hk)
    .exact Int.le_of_lt (f4 _ (g4 k hk (by omega)))
   .have:=f4 _ (g4 k H' (by omega));exact λe=>by simp only[mi]at this;omega
 .obtain⟨c,rfl,g1,g2,g3,g4⟩:=zD e1;rw[e4,ao (show¬(mi b c).i<0 from λh=>by simp only[mi]at h;omega)];exact⟨c,rfl,by omega,by omega,λk k1 k2=>⟨λhk=>e2 _ (g3 k (by omega) hk),λhc=>absurd hc e3⟩⟩
inductive uX(b:Bk)(s t:Xp)(fs:List Xs)(top body:Int):Prop
 |more (h1:t.atom=s.atom) (h2:fs.length=1) (h3:iy b.atoms s>body) (h4:∀f,fs[0]?=some f->f.h=body) (h5:t.done=s.done+body)
 |whole (c r:Nat) (y:Int) (h1:t=⟨c,0,decide ((Yt b.L' c).forced≠0)⟩) (h2:s.atom<c) (h3:c<=r) (h4:r<=b.atoms.length) (h5:fs.length+s.atom=c) (h6:∀f,fs[0]?=some f->f.y=top+y)
    (h7:∀k (h:k<b.atoms.length),s.atom<=k->k<r->(if s.atom<k then y+(b.atoms[k].y-(XV b.atoms s.atom).y-s.done)else y)+(if k=s.atom then iy b.atoms s else b.atoms[k].h)<=body)
    (h8:∀(h:r<b.atoms.length),(if s.atom<r then y+(b.atoms[r].y-(XV b.atoms s.atom).y-s.done)else y)+(if r=s.atom then iy b.atoms s else b.atoms[r].h)>body)
    (h9:∀k:Nat,s.atom<k->k<=r->(k<c->(Yt b.L' k).forced=0)/\((Yt b.L' c).forced=0->k≠c->(Yt b.L' k).forced=0/\(Yt b.L' c).XD<=(Yt b.L' k).XD/\(c<k->(Yt b.L' k).XD≠(Yt b.L' c).XD)))
structure Jh(b:Bk)(x:Wx)(fs:List Xs)(t:Xp):Prop where
 ne:0<fs.length
 fin:inF x.high (x.high+x.body) fs
 fst:∀f,fs[0]?=some f->f.atom=x.s.atom/\f.fr=x.s.done
 cut:uX b x.s t fs x.high x.body
structure bJ(b:Bk):Prop extends BkFull b where
 Zg:b.atoms.Pairwise λx y=>x.y+x.h<=y.y
 pos:∀a∈b.atoms,1<=a.h
 top:∀a∈b.atoms,0<=a.y
 mayb:x9 b.L'=true
 fh:∀f∈b.M',0<=f.h
 fy:∀f∈b.M',0<=f.y
def DS{b:Bk}(hb:bJ b)(k:Int):0<=mX b.atoms k:=by
 unfold mX;split
 .rename_i h;obtain⟨n,rfl⟩:∃n:Nat,k=n:=⟨k.toNat,by omega⟩
  have hn:n<b.atoms.length:=by omega
  rw[bg hn];unfold fN;split
  .rename_i h2;have e:(n:Int)-1=((n-1:Nat):Int):=by omega
   rw[e,bg (by omega)];have:=zX hb.Zg (show n-1<n by omega) hn;omega
  .have:=hb.top _ (XI hn);omega
 .exact Int.le_refl _
def GN{b:Bk}(hb:bJ b){x:Wx}(hm:bS b.atoms x.s)(hx:x.fs=[])
 (hbody:1<=x.body)(hsh:0<=x.shift)(hnf:¬(x.shift>0/\iy b.atoms x.s>x.body-x.shift)):Jh b x (cZ b x).fs (dQ b x).s:=by
 have hk:=hb.Zg;have Ye:=hb.pos;have hbk:=hb.mayb;obtain⟨r,hr,hr1,hr2,hr3,hr4⟩:=gW hk Ye hm (cD b x) x.shift x.body;have hm0:=hm;obtain⟨⟨h0,h1⟩,h2,h3⟩:=hm;obtain⟨a,ha⟩:∃a:Nat,x.s.atom=a:=⟨x.s.atom.toNat,by omega⟩
 have Zh:a<b.atoms.length:=by omega
 have hag:XV b.atoms x.s.atom=b.atoms[a]:=by rw[ha,bg Zh]
 have hpa:=Ye _ (XI Zh);have XU:=hb.brk;have hleft:iy b.atoms x.s=b.atoms[a].h-x.s.done:=by rw[iy,aq hm0,hag]
 rw[hag]at h3;have hl0:1<=iy b.atoms x.s:=by rw[hleft];omega
 have hpl:∀kept sh k (h:k<b.atoms.length),a<=k->dh b.atoms x.s kept sh k=b.atoms[k].y-b.atoms[a].y-x.s.done+kept+sh:=λkept sh k h hak=>by
  rw[dh,aq ⟨hm0,by omega,by omega⟩,gu,aq ⟨⟨h0,h1⟩,by omega,by omega⟩,hag,bg h]
 have hkept:cD b x=0\/0<=cD b x/\x.s.done=0/\cD b x+iy b.atoms x.s<=x.body-x.shift:=by
  unfold cD iW;split
  .rename_i hc;obtain⟨_,_,hd,hg⟩:=hc;rw[hleft];rw[hag]at hg;exact .inr ⟨DS hb _,hd,hg⟩
  .exact .inl rfl
 have hrX:cj b x=r:=hr;unfold cZ dQ;by_cases WL:eD b.L' x.s.atom (cj b x)
 .rw[aq WL,aq WL];obtain⟨c,c1,c2,c3,c4⟩:=xG WL (by rw[hrX];omega);rw[show p9 b x=c from c1,fc];rw[hrX]at c3 c4;have hlen:(bY b { x with kind:=1 } (cD b x) (c-x.s.atom.toNat)).length=c-a:=by
   rw[bY,dd,List.length_range,ha,fc]
  have Yu:(sE b { x with kind:=1 } (cD b x) c).fs=bY b { x with kind:=1 } (cD b x) (c-x.s.atom.toNat):=by
   simp only[sE,Wx.put,Wx.add,hx,j6]
  have Yb:∀i (h:i<c-a),(bY b { x with kind:=1 } (cD b x) (c-x.s.atom.toNat))[i]?=some (ct x.high (cF b.atoms x.s (cD b x) x.shift ((a+i:Nat):Int))):=λi h=>by
   rw[bY,qX,List.getElem?_range (by rw[ha];omega),Option.map_some,ha];rfl
  have hwh:∀k (h:k<b.atoms.length),a<=k->(cF b.atoms x.s (cD b x) x.shift k).y=dh b.atoms x.s (cD b x) x.shift k+(if k=a then x.s.done else 0)/\(cF b.atoms x.s (cD b x) x.shift k).h=b.atoms[k].h-(if k=a then x.s.done else 0)/\(cF b.atoms x.s (cD b x) x.shift k).atom=k/\(cF b.atoms x.s (cD b x) x.shift k).fr=if k=a then x.s.done else 0:=λk h hak=>by
   rw[cF,aq ⟨hm0,by omega,by omega⟩];by_cases e:k=a
   .rw[aq (by omega),aq e];simp only[Xs.bN,kK,fe,bg h];exact⟨trivial,trivial,trivial,trivial⟩
   .rw[ao (by omega),ao e];simp only[kK,fe,bg h];exact⟨(Int.add_zero _).symm,(Int.sub_zero _).symm,trivial,trivial⟩
  have hfirst:(bY b { x with kind:=1 } (cD b x) (c-x.s.atom.toNat))[0]?=some (ct x.high (cF b.atoms x.s (cD b x) x.shift ((a:Nat):Int))):=Yb 0 (by omega);obtain⟨w1,w2,w3,w4⟩:=hwh a Zh (Xm _);rw[aq rfl]at w1 w2 w4;have hpa0:=hpl (cD b x) x.shift a Zh (Xm _);have hk0:0<=cD b x:=by rcases hkept with h|h<;>omega
  refine⟨by rw[Yu,hlen];omega,λf hf=>?_,λf hf=>?_,?_⟩
  .rw[Yu]at hf;obtain⟨i,hi⟩:=DE hf;have Zy:i<c-a:=by
    rw[<-hlen];exact(jn.1 hi).1
   rw[Yb i Zy]at hi;obtain rfl:=Option.some.inj hi;obtain⟨v1,v2,-,-⟩:=hwh (a+i) (by omega) (by omega);have hpl':=hpl (cD b x) x.shift (a+i) (by omega) (by omega);have ZH:=hr3 (a+i) (by omega) (by omega) (by omega);have hph:=Ye _ (XI (show a+i<b.atoms.length by omega));simp only[ct];rw[v1,v2];rw[hpl']at ZH|-;by_cases e:i=0
   .subst e;simp only[Nat.add_zero,if_true]at ZH|-;omega
   .rw[ao (by omega)];have WY:=zX hk (show a<a+i by omega) (by omega);omega
  .rw[Yu,hfirst]at hf;obtain rfl:=Option.some.inj hf;simp only[ct];rw[w3,w4];exact⟨ha.symm,rfl⟩
  .refine .whole c r (cD b x+x.shift) rfl c2 (by omega) hr2 (by rw[Yu,hlen];omega) (λf hf=>?_) (λk h h1 h2=>?_) (λh=>?_) (λk h1 h2=>c4 k h1 (by omega))
   .rw[Yu,hfirst]at hf;obtain rfl:=Option.some.inj hf;simp only[ct];rw[w1,hpa0];omega
   .have:=hr3 k h h1 h2;rw[hpl _ _ k h (by omega)]at this;rw[hag];by_cases e:(k:Int)=x.s.atom
    .obtain rfl:k=a:=by omega
     rw[ao (by omega),aq e,hleft];omega
    .rw[aq (by omega),ao e];omega
   .have:=hr4 h;rw[hpl _ _ r h (by omega)]at this;rw[hag];by_cases e:(r:Int)=x.s.atom
    .obtain rfl:r=a:=by omega
     rw[ao (by omega),aq e,hleft];omega
    .rw[aq (by omega),ao e];omega
 .rw[ao WL,ao WL];have hra:r=a:=by
   have:¬x.s.atom<cj b x:=λh=>WL ⟨hbk,h0,by omega,h⟩;omega
  have hgt:=hr4 (by omega);subst hra;rw[hpl _ _ r Zh (Xm _)]at hgt;have hk0:cD b x=0/\x.shift=0:=by
   rw[hleft]at hkept hnf;rcases hkept with h|h<;>omega
  have hso:kZ b.atoms ({ x with kind:=1 }:Wx).s ({ x with kind:=1 }:Wx).body:=⟨hm0,hbody⟩
  have Yu:(ui b { x with kind:=1 }).fs=[ct x.high (iZ b.atoms x.s x.body)]:=by
   simp only[ui,Wx.put,Wx.add,hx,j6]
  have hsl:iZ b.atoms x.s x.body=⟨b.atoms[r].node,x.s.atom,x.s.done,b.atoms[r].x,0,b.atoms[r].w,x.body⟩:=by
   rw[iZ,aq (show kZ b.atoms x.s x.body from hso),dE];simp only[Xs.cut,Xs.bN,fe,hag];congr 1;omega
  have hnx:dp b.atoms x.s x.body=⟨x.s.atom,x.s.done+x.body,false⟩:=by
   rw[dp,aq (show kZ b.atoms x.s x.body from hso)];rw[iZ,aq (show kZ b.atoms x.s x.body from hso)]at hsl;rw[hsl];simp only[iQ,hag];rw[aq (by omega)]
  rw[hsl]at Yu;refine⟨by rw[Yu];exact Nat.one_pos,λf hf=>?_,λf hf=>?_,.more ?_ (by rw[Yu];rfl) (by rw[hleft];omega) (λf hf=>?_) ?_⟩
  .rw[Yu,jV]at hf;subst hf;simp only[ct];omega
  .rw[Yu]at hf;obtain rfl:=Option.some.inj hf;exact⟨rfl,rfl⟩
  .show(dp b.atoms x.s x.body).atom=_;rw[hnx]
  .rw[Yu]at hf;obtain rfl:=Option.some.inj hf;rfl
  .show(dp b.atoms x.s x.body).done=_;rw[hnx]
def Ui(s t:XE)(n:Int):Prop:=t.s.atom>s.s.atom\/t.s.atom=s.s.atom/\t.s.done>s.s.done\/t.s.atom=s.s.atom/\t.s.done=s.s.done/\(t.bx.length<s.bx.length\/t.s.atom=n/\t.s.free=false)
structure Ji(b:Bk)(s:XE)(p:Xd)(t:XE):Prop where
 no:p.no=0
 onw:Ui s t b.atoms.length
 sum:(p.hs.map (·.h)).sum=(aV b s.s).high
 hd:inF 0 (aV b s.s).high p.hs
 fl:inF (aV b s.s).high b.h p.fs
 lo:inF (aV b s.s).high b.h p.ls
 kd:p.kind=1\/p.kind=2
 no':p.kind=2->p.fs=[]
 cut:p.kind=1->bS b.atoms s.s/\0<p.fs.length/\(∀f,p.fs[0]?=some f->f.atom=s.s.atom/\f.fr=s.s.done)/\uX b s.s t.s p.fs (aV b s.s).high (aV b s.s).body
def Jk{α:Type}{p:α->Bool}:∀(l:List α),∀x∈l.takeWhile p,p x=true
 |[],x,h=>by cases h
 |a::l,x,h=>by
  rw[List.takeWhile_cons]at h;split at h
  .rename_i ha;rcases db.1 h with rfl|h
   .exact ha
   .exact Jk l x h
  .cases h
def Jy{b:Bk}(hb:bJ b){x:Wx}(hsh:0<=x.shift)(h:inF x.high (x.high+x.body) x.ls):inF x.high (x.high+x.body) (cZ b x).ls:=by
 unfold cZ;split
 .exact zQ h (AV (BV hb.fh hsh))
 .exact zQ h (AV (BV hb.fh (Int.le_refl _)))
def iu(b:Bk)(x:Wx):(cZ b x).hs=x.hs/\(cZ b x).kind=1:=by
 unfold cZ;split<;>exact⟨rfl,rfl⟩
def eu{b:Bk}(hb:bJ b){s:XE}(he:¬cH b s):Ji b s (aG b s).1 (aG b s).2:=by
 have Xq:gr b s:=Decidable.byContradiction λh=>he (.inl h);have Yb:0<=s.s.atom:=by rcases Xq.2 with h|h;exact h.1.1;omega
 obtain⟨r1,r2,r3,r4,r5⟩:=rO hb.toBkFull s.s Yb;have hpf:∀f∈s.bx,0<=f.h:=λf hf=>hb.fh f (lY _ _ Xq.1 f hf);have htop:inF (aV b s.s).high ((aV b s.s).high+(aV b s.s).body) ((cC (aV b s.s).body s.bx 0).1.map (mG (aV b s.s).high)):=AV (FE (by omega) _ 0 (Int.le_refl _) (by omega) hpf);have hsh:=(rL (body:=(aV b s.s).body) s.bx 0 (Int.le_refl _) (by omega) hpf).2.2;unfold aG;split
 .rename_i h0;obtain⟨h1,h2⟩:=h0;have hn:s.s.atom=0/\s.s.done=0:=by
   rcases Xq.2 with h|h
   .have:=h.1;rw[h1]at this;simp at this;omega
   .rw[h1]at h;simpa using h
  refine⟨rfl,.inr (.inr ⟨?_,?_,.inr ⟨?_,rfl⟩⟩),r5,r4,λf hf=>(by cases hf),?_,.inr rfl,λ_=>rfl,λh=>?_⟩
  .simp[lq,hn]
  .simp[lq,hn]
  .simp[lq,h1]
  .rw[<-r3];refine AV (high:=(aV b s.s).high) (body:=(aV b s.s).body) λm hm=>?_;have h4:m.y+m.h<=(aV b s.s).body:=of_decide_eq_true (Jk _ m hm);have h5:m∈b.M':=(List.takeWhile_sublist _).mem hm;exact⟨hb.fy m h5,hb.fh m h5,h4⟩
  .exact absurd h (show¬((2:Int)=1) by decide)
 .split
  .rename_i hf;refine⟨rfl,?_,r5,r4,λf hf=>(by cases hf),by rw[<-r3];exact htop,.inr rfl,λ_=>rfl,λh=>absurd h (show¬((2:Int)=1) by decide)⟩;refine .inr (.inr ⟨rfl,rfl,?_⟩);cases hp:s.bx with
   |cons f r=>exact .inl (sU f r)
   |nil=>
    unfold kv at hf;rw[hp]at hf;simp only[cC]at hf;have ha:s.s.atom=b.atoms.length:=by
     rcases hf with h|h|h
     .exact h
     .exact absurd rfl h
     .omega
    exact .inr ⟨ha,by simp[ha]⟩
  .rename_i hf;have hm:bS b.atoms s.s:=Xq.2.resolve_right λh=>hf (.inl h.1);have hfn:=sc (x:=bP b s) hb.toBkOk hm hb.pos r2;have hfg:=GN hb (x:=bP b s) hm rfl r2 hsh.1 (λh=>hf (.inr (.inr h)));have hls:=Jy hb (x:=bP b s) hsh.1 (zQ (l:=[]) (λf hf=>(by cases hf)) htop);have hoth:=iu b (bP b s);have xs:(bP b s).s=s.s:=rfl;have xh:(bP b s).high=(aV b s.s).high:=rfl;have xb:(bP b s).body=(aV b s.s).body:=rfl;rw[xh,xb,r3]at hls;obtain⟨f1,f2,f3,f4⟩:=hfg;rw[xh,xb]at f2 f4;rw[r3]at f2;refine⟨rfl,?_,?_,?_,f2,hls,.inl hoth.2,λh=>?_,λ_=>⟨hm,f1,f3,f4⟩⟩
   .generalize dQ b (bP b s)=z at hfn;cases hfn with
    |whole c fr p g1 g2 g3=>exact .inl g1
    |more d p g1 g2 g3=>exact .inr (.inl ⟨rfl,g1⟩)
   .show((cZ b (bP b s)).hs.map _).sum=_;rw[hoth.1];exact r5
   .show inF _ _ (cZ b (bP b s)).hs;rw[hoth.1];exact r4
   .have:(cZ b (bP b s)).kind=2:=h;rw[hoth.2]at this;cases this
def de{l:List Nd}(hl:cT l){w h:Int}(he:cE l w h=0):bJ (aP l w h):=by
 obtain⟨hw,hh,hc⟩:=sY he;obtain⟨hisb,hn,hwo,hcs⟩:=Ao hc;have hG:=Ae hisb hn hw.1 hw.2;obtain⟨h1,h2⟩:=F3 hl he;refine⟨h1,LR hisb hn hw.1 hw.2,λa ha=>(hG.Xg a ha).h0,λa ha=>(hG.Xg a ha).y0,?_,h2,λf hf=>(hG.flo f hf).y0⟩;show x9 (rf l (ofR l w))=true;refine MO hisb λx hx=>?_;unfold ofR at hx;obtain⟨a,ha,rfl⟩:=gM.1 hx;exact hG.nod a ha
open Go.Proofs Go.Proofs.Tryz
def tX(b:List YJ)(p:Xd)(s:Xp):Int:=
 if p.kind≠1\/s.done>0 then -1 else if(Yt b s.atom.toNat).forced=3 then 0 else if(Yt b s.atom.toNat).forced=4 then 1 else -1
def Lg(b:List YJ)(hb:b.length<=1000000)(p:Xd)(s:Xp)(h0:0<=s.atom)(h1:s.atom<b.length):aK prog 59 [bh b,aL p,aU s] (vI (tX b p s)):=λU=>by
 refine e59.r (by simp[c59]) ?_;have hs:=aa.refl U;obtain⟨no,kd,hh,ff,ll⟩:=p;obtain⟨a,d,fr⟩:=s;obtain⟨k,rfl⟩:∃k:Nat,a=k:=⟨a.toNat,by simp only at h0;omega⟩
 have hk:k<b.length:=by simp only at h1;omega
 have XP:(aL ⟨no,kd,hh,ff,ll⟩).cells=[vI no,vI kd,aE hh,aE ff,aE ll]:=rfl;have hpp:(aL ⟨no,kd,hh,ff,ll⟩).stays=true:=rfl;have hsc:(aU ⟨k,d,fr⟩).cells=[vI k,vI d,.bool fr]:=rfl;have hss:(aU ⟨k,d,fr⟩).stays=true:=rfl;have Yh:=iU b;have hbc:=iN b;obtain⟨⟨c,f,r⟩,hf⟩:∃x,b[k]=x:=⟨_,rfl⟩
 have U':∀U,bp U 3 (bh b) (.int .i64 k)=some (.rp (.agg [vI c,vI f,vI r])):=λU=>by rw[qI hk,hf,dt]
 have hg:Yt b ((k:Int)).toNat=⟨c,f,r⟩:=by simp[Yt,hk,hf]
 have hR:tX b ⟨no,kd,hh,ff,ll⟩ ⟨k,d,fr⟩=if kd≠1\/d>0 then -1 else if f=3 then 0 else if f=4 then 1 else -1:=by simp only[tX,hg]
 generalize tX b ⟨no,kd,hh,ff,ll⟩ ⟨k,d,fr⟩=R at*;refine ab.mix 6 ?_;apply sR;simp only[go_sem,seval,c59,XP,hpp];refine ad λi4 Z4 s4 a4 f4=>?_;have z4:=hs.none f4;replace hs:=hs.trans s4;simp only[go_sem,seval,hsc];refine ad λi5 Z5 s5 a5 f5=>?_;have n45:=al a4 f5;replace a4:=s5 _ _ a4;have z5:=hs.none f5;replace hs:=hs.trans s5;by_cases q1:kd=1
 .have q1':(kd≠1)=False:=by simp[q1]
  by_cases q2:d>0
  .have q2':(d>0)=True:=WE q2;simp only[go_sem,seval,a4,a5,q1',q2',XP,hsc];rw[aq (.inr q2)]at hR;exact ak.pure hs (congrArg vI hR.symm)
  .have q2':(d>0)=False:=O' q2;rw[ao (λh=>h.elim (λh=>h q1) q2)]at hR;by_cases q3:f=3
   .have q3':(f=3)=True:=WE q3;simp only[go_sem,seval,a4,a5,q1',q2',q3',U',XP,hsc];rw[aq q3]at hR;exact ak.pure hs (congrArg vI hR.symm)
   .have q3':(f=3)=False:=O' q3;rw[ao q3]at hR;by_cases q4:f=4
    .have q4':(f=4)=True:=WE q4;simp only[go_sem,seval,a4,a5,q1',q2',q3',q4',U',XP,hsc];rw[aq q4]at hR;exact ak.pure hs (congrArg vI hR.symm)
    .have q4':(f=4)=False:=O' q4;simp only[go_sem,seval,a4,a5,q1',q2',q3',q4',U',XP,hsc];rw[ao q4]at hR;exact ak.pure hs (congrArg vI hR.symm)
 .have q1':(kd≠1)=True:=WE q1;simp only[go_sem,seval,a4,q1',XP];rw[aq (.inl q1)]at hR;exact ak.pure hs (congrArg vI hR.symm)
open Go.Proofs Go.Proofs.Tryz
def zT{Xe i1 i2 e1 e2:Nat}{n:Int}{x:V}{U:ag}{Post:Bool->ag->Prop}(r1:WR .i64 (n+1))(h1:U i1=some ⟨e1,1,[vI n]⟩)(h2:U i2=some ⟨e2,1,[.yl Xe]⟩)(W6:i1≠i2)
 (hy:YC prog Xe [x] (C' U i1 ⟨e1,1,[vI (n+1)]⟩) Post):ax prog 55 [x,.ptr i1 0 0,.ptr i2 0 0] U λr Z'=>∃b,r=.bool b/\Post b Z':=by
 refine e55.r (by simp[c55]) ?_;refine ab.mix 6 ?_;apply sR;simp only[go_sem,seval,c55,h1,r1,h2,ae W6.symm];refine ab.oS (Post:=Post) rfl rfl rfl hy ?_;intro b Z' hb;apply sR;simp only[go_sem,seval];exact⟨_,Z',aa.refl _,Wk.refl (aa.refl _) _,b,rfl,hb⟩
def htN(x:Nd):Int:=if x.kind=2 then x.line*x.words.length else if x.kind=3 then x.h else 0
def hts(l:List Nd):Nat->Int
 |0=>0
 |i+1=>hts l i+htN (Xf l i)
def qk{x:Nd}(h:NOk x):0<=htN x:=by
 have h1:=h.line.1;have h2:=h.h.1;unfold htN;split
 .exact Int.mul_nonneg h1 (by omega)
 .split<;>omega
def BL{l:List Nd}(hb:Xw l=true){a:Nat}:∀n,a+n<=l.length->hts l a<=hts l (a+n)
 |0,_=>Int.le_refl _
 |n+1,h=>by
  have ih:=BL (a:=a) hb n (by omega);have h1:NOk (Xf l (a+n)):=by rw[jG (show a+n<l.length by omega)];exact gC hb _
  have h2:=qk h1;rw[<-Nat.add_assoc,hts];omega
def htA(l:List Xv):Int:=(l.map (·.h)).sum
def FY(l m:List Xv):htA (l++m)=htA l+htA m:=by unfold htA;rw[gB,List.sum_append]
def AN{l:List Nd}{rs:List Rm}(hD:DOk l rs):∀(k a e:Nat) (s:WS) (C:Nat),e-a<=k->a<=e->e<=l.length->bW l a e=true->gi s C->htA s.atoms<=hts l a->htA (df l rs k a e s).atoms<=hts l e
 |0,a,e,s,C,hk,hae,_,_,_,h=>by
  obtain rfl:a=e:=by omega
  exact h
 |k+1,a,e,s,C,hk,hae,he,hr,h,hs=>by
  rw[df];by_cases H':a<e
  .rw[aq H'];obtain⟨h1,h2⟩:=cL he hr (Xm a) H';obtain⟨h3,h4⟩:=dB he hr H';have Xa:NOk (Xf l a):=by rw[jG (by omega)];exact gC hD.isb (by omega)
   have step:∀t,(∃D,gi t D)->htA t.atoms<=hts l (a+(Xl l a).toNat)->htA (df l rs k (a+(Xl l a).toNat) e t).atoms<=hts l e:=λt ⟨D,ht⟩ hA=>
    AN hD k _ e t D (by omega) (by omega) he h3 ht hA
   have YR:htN (Xf l a)+htA s.atoms<=hts l (a+1):=by rw[hts];omega
   have one:hts l (a+1)<=hts l (a+(Xl l a).toNat):=by
    obtain⟨m,hm⟩:∃m,(Xl l a).toNat=1+m:=⟨(Xl l a).toNat-1,by omega⟩
    rw[hm,<-Nat.add_assoc];exact BL hD.isb m (by omega)
   split
   .rename_i k1;have hz:htN (Xf l a)=0:=by rw[htN,ao (by omega),ao (by omega)]
    have hI2:=gJ hD k (a+1) (a+(Xl l a).toNat) _ _ (by omega) (by omega) (by omega) h4 (fp h Xa.st);have hS2:=AN hD k (a+1) (a+(Xl l a).toNat) _ _ (by omega) (by omega) (by omega) h4 (fp h Xa.st) (show htA s.atoms<=_ by omega);exact step _ ⟨_,kS hI2 Xa.st⟩ hS2
   .split
    .rename_i k1 k2;refine step _ ⟨_,lZ h Xa a⟩ (Int.le_trans ?_ one);have hp:=oP a (Xf l a).line (dc s.B' (Xf l a).words (Xf l a).space (Xf l a).line (ee rs a) (Xf l a).words.length 0 (s.WV.y+s.WV.m)) s;have hlen:=kM s.B' (Xf l a).words (Xf l a).space (Xf l a).line (ee rs a) (Xf l a).words.length 0 (s.WV.y+s.WV.m);have e:(s.text rs a (Xf l a)).atoms=_:=hp;rw[e,FY];generalize dc s.B' (Xf l a).words (Xf l a).space (Xf l a).line (ee rs a) (Xf l a).words.length 0 (s.WV.y+s.WV.m)=L at*;have j3:htA (L.map (fq a (Xf l a).line))=(Xf l a).line*L.length:=by
      clear e hp hlen
      induction L with
      |nil=>simp[htA]
      |cons x L ih=>
       have:htA ((x::L).map (fq a (Xf l a).line))=(Xf l a).line+htA (L.map (fq a (Xf l a).line)):=rfl;rw[this,ih,XX,Int.natCast_add,Int.mul_add];omega
     have hle:(Xf l a).line*(L.length:Int)<=(Xf l a).line*((Xf l a).words.length:Int):=Int.mul_le_mul_of_nonneg_left (by omega) Xa.line.1;have hz:htN (Xf l a)=(Xf l a).line*((Xf l a).words.length:Int):=by rw[htN,aq k2]
     omega
    .split
     .rename_i k1 k2 k3;refine step _ ⟨_,l7 h Xa a⟩ (Int.le_trans ?_ one);have hz:htN (Xf l a)=(Xf l a).h:=by rw[htN,ao k2,aq k3]
      have e:(WS.mono l rs s a (Xf l a)).atoms=s.atoms++[⟨2,a,0,0,(dS s.B' (l8 s.B' (Xf l a).w (Xf l a).h (ee rs a) (s.WV.y+s.WV.m)) (Xf l a).h (ee rs a)).a,l8 s.B' (Xf l a).w (Xf l a).h (ee rs a) (s.WV.y+s.WV.m),(Xf l a).w,(Xf l a).h⟩]:=rfl;rw[e,FY];simp only[htA,eo,List.map_nil,List.sum_cons,List.sum_nil];simp only[htA]at YR;omega
     .have k4:(Xf l a).kind=4:=by rename_i g1 g2 g3;rcases Xa.kind with h|h|h|h;exact absurd h g1;exact absurd h g2;exact absurd h g3;exact h
      have hz:=qk Xa;exact step _ ⟨_,kW hD h (by omega) Xa k4⟩ (show htA s.atoms<=_ by omega)
  .rw[ao H'];obtain rfl:a=e:=by omega
   exact hs
def Qe{l:List Nd}(hb:Xw l=true)(hn:l.length<=2000){w:Int}(h1:1<=w)(h2:w<=1099511627776):htA (cB l w).atoms<=hts l l.length:=by
 have hD:=xN hb hn h1 h2;have hr:bW l 0 l.length=true:=by simp only[Xw,Ba]at hb;exact hb.2
 have hI:gi ⟨[],[],0,⟨0,0⟩⟩ 0:=⟨⟨by simp,by simp,by simp,by simp,by simp⟩,by simp,by simp⟩
 exact AN hD l.length 0 l.length ⟨[],[],0,⟨0,0⟩⟩ 0 (by omega) (by omega) (Xm _) hr hI (by simp[htA,hts])
def Bw{l:List Nd}(hb:Xw l=true){s:Sm}(hs:0<=s.WH/\s.WH<=1099511627777):∀i,i<=l.length->0<=(ij l s i).WH/\(ij l s i).WH<=1099511627777/\min (hts l i) 1099511627777<=(ij l s i).WH
 |0,_=>⟨hs.1,hs.2,by simp only[hts,ij];omega⟩
 |i+1,hi=>by
  obtain⟨h1,h2,h3⟩:=Bw hb hs i (by omega);have Xa:NOk (Xf l i):=by rw[jG (by omega)];exact gC hb (by omega)
  have hz:=qk Xa;have WY:=Xa.st;rw[ij,hts,ZF (by omega)];rw[jG (show i<l.length by omega)]at Xa hz WY|-;simp only;unfold qh;split
  .rename_i k1;have e:htN l[i]=0:=by rw[htN,ao (by omega),ao (by omega)]
   have g1:=WY.top.1;have g2:=WY.W3.1;have g3:=WY.WU.1;have g4:=WY.WI.1;have g5:=WY.head.1;simp only[kN];omega
  .split
   .rename_i k1 k2;have e:htN l[i]=l[i].line*l[i].words.length:=by rw[htN,aq k2]
    simp only;rw[vm ⟨h1,h2⟩ Xa.line.1];omega
   .rename_i k1 k2;have hh:=Xa.h.1;have e:htN l[i]<=l[i].h:=by rw[htN,ao k2];split<;>omega
    simp only[kN];omega
def DR{l:List Nd}(hb:Xw l=true)(h:(jC l).1.WH<=1099511627776):hts l l.length<=(jC l).1.WH:=by
 unfold jC at h|-;rw[aq hb]at h|-;have:=(Bw hb (s:=⟨0,0,l.length,0⟩) ⟨Int.le_refl _,(by decide:(0:Int)<=1099511627777)⟩ l.length (Xm _)).2.2;simp only at h|-;omega
def EL{cnt:Nat->Nat}:∀{n a:Nat} {x:Int},x∈blk cnt a n->∃i:Nat,x=i/\a<=i/\i<a+n/\0<cnt i
 |0,a,x,h=>by rw[kg]at h;cases h
 |n+1,a,x,h=>by
  rw[iB]at h;rcases dD.1 h with h|h
  .obtain⟨h1,rfl⟩:=List.mem_replicate.1 h;exact⟨a,rfl,Xm _,by omega,by omega⟩
  .obtain⟨i,h1,h2,h3,h4⟩:=EL h;exact⟨i,h1,by omega,by omega,h4⟩
def HP{l:List Nd}(hb:Xw l=true)(hn:l.length<=2000){w:Int}(h1:1<=w)(h2:w<=1099511627776):∀a∈(cB l w).atoms,∃i:Nat,a.node=i/\i<l.length/\((Xf l i).kind=2\/(Xf l i).kind=3):=λa ha=>by
 have hD:=xN hb hn h1 h2;have hr:bW l 0 l.length=true:=by simp only[Xw,Ba]at hb;exact hb.2
 have hI:gi ⟨[],[],0,⟨0,0⟩⟩ 0:=⟨⟨by simp,by simp,by simp,by simp,by simp⟩,by simp,by simp⟩
 obtain⟨-,cnt,hc,hco⟩:=vq hD l.length 0 l.length ⟨[],[],0,⟨0,0⟩⟩ 0 (by omega) (by omega) (Xm _) hr hI (by simp);have hm:a.node∈(df l (gH l w) l.length 0 l.length ⟨[],[],0,⟨0,0⟩⟩).atoms.map (·.node):=gM.2 ⟨a,ha,rfl⟩;rw[hc]at hm;simp only[List.map_nil,j6]at hm;obtain⟨i,e,_,h3,h4⟩:=EL hm;refine⟨i,e,by omega,?_⟩;have:=hco i (Nat.zero_le _) (by omega);unfold okN at this;split at this
 .rename_i k;exact .inl k
 .split at this
  .rename_i k;exact .inr k
  .have:=of_decide_eq_true this;omega
def least_le{l:List Nd}{h:Int}:∀{n j:Nat},j<n->((Xf l j).kind=2\/(Xf l j).kind=3)->jj l h n<=(AY l j h).body
 |0,j,hj,_=>by omega
 |n+1,j,hj,hk=>by
  rw[jj];by_cases e:j=n
  .subst e;rw[aq hk];omega
  .have:=least_le (l:=l) (h:=h) (show j<n by omega) hk;split<;>omega
def zG{l:List Nd}{h:Int}(hh:1<=h):∀n,1<=jj l h n
 |0=>hh
 |n+1=>by
  have h1:=zG (l:=l) hh n;have h2:1<=(AY l n h).body:=su hh _;rw[jj];split<;>omega
def Lj{l:List Nd}{h:Int}(hb:Xw l=true)(h1:1<=h)(h2:h<=1099511627776):jN l h=true:=by
 unfold jN;rw[hb];simp[h1,h2]
structure oV(b:Bk)(L:Int):Prop where
 pos:1<=L
 body:∀s:Xp,0<=s.atom->b.atoms≠[]->L<=(aV b s).body
 rest:eS b 0<=L*32768
 na:b.atoms.length<=10000
 nf:b.M'.length<=10000
def Ls{L:Int}(h1:1<=L):mulR L 32768<=L*32768:=by
 have e:dF 32768=32768:=by decide
 have e2:(1099511627776:Int).tdiv (max 32768 (-32768))=33554432:=by decide
 unfold mulR;rw[e,e2];have hc:dF L<=L/\0<=dF L:=by unfold dF;(repeat' split)<;>omega
 split
 .rename_i h;obtain⟨_,h|h⟩:=h
  .split<;>omega
  .exact absurd h (by have:(-1099511627776:Int).tdiv (max 32768 (-32768))=-33554432:=by decide
                      rw[this];omega)
 .have:=hc.1;omega
def mV{l:List Nd}{w h:Int}(he:cE l w h=0):oV (aP l w h) (iD l h):=by
 have he0:=he;obtain⟨hw,hh,hc⟩:=sY he;obtain⟨hisb,hn,hwo,hcs⟩:=Ao hc;have hG:=Ae hisb hn hw.1 hw.2;have hl1:=hG.len;have hl2:=hG.Zi;have hm:=Lj hisb hh.1 hh.2;have hL:iD l h=jj l h l.length:=by rw[iD,aq hm]
 have hp:1<=iD l h:=by rw[hL];exact zG hh.1 _
 refine⟨hp,λs h0 W6=>?_,?_,by show(cB l w).atoms.length<=_;omega,by show(cB l w).B'.length<=_;omega⟩
 .unfold aV;rw[ao W6];have hlen:0<(aP l w h).atoms.length:=py.2 W6;obtain⟨k,hk⟩:∃k:Nat,min s.atom (((aP l w h).atoms.length:Int)-1)=k:=⟨(min s.atom (((aP l w h).atoms.length:Int)-1)).toNat,by omega⟩
  have Yn:k<(aP l w h).atoms.length:=by omega
  rw[hk,bg Yn];obtain⟨i,e1,e2,e3⟩:=HP hisb hn hw.1 hw.2 _ (XI (show k<(cB l w).atoms.length from Yn));have e4:(aP l w h).atoms[k].node=i:=e1;rw[e4,uF,hL];have hm':jN (aP l w h).nodes (aP l w h).h=true:=hm;rw[aq ⟨hm',by omega,show((i:Nat):Int)<(l.length:Nat) by omega⟩,fc];exact least_le e2 e3
 .have h1:eS (aP l w h) 0=htA (cB l w).atoms:=rfl;have h2:=Qe hisb hn hw.1 hw.2;have h3:(jC l).1.WH<=1099511627776:=by
   unfold iI at hc;rw[aq hisb]at hc;split at hc
   .cases hc
   .omega
  have h4:=DR hisb h3;have h5:¬(jC l).1.WH>mulR (iD l h) 32768:=λh=>by
   unfold cE at he0;rw[ao (λg=>g ⟨hw,hh⟩),ao (λg=>g hc),aq h]at he0;cases he0
  have h6:=Ls hp;omega
def qV(b:Bk)(L:Int)(s:XE):Int:=((b.atoms.length:Int)-s.s.atom)+(eS b s.s.atom.toNat-s.s.done)/L
def mu2(b:Bk)(L:Int)(s:XE):Nat:=(qV b L s).toNat*(2*b.M'.length+3)+(if s.s.free=true then b.M'.length+1 else 0)+s.bx.length
def kB.bx{b:Bk}{x:Wx}{t:XE}(h:kB b x t):t.bx.length<=b.M'.length:=by
 cases h with
 |whole c fr p h1 h2 h3=>exact h3
 |more d p h1 h2 h3=>exact h3
def wT{b:Bk}(hb:bJ b){L:Int}(hL:oV b L){s:XE}(he:¬cH b s):mu2 b L (aG b s).2<mu2 b L s:=by
 have Xq:gr b s:=Decidable.byContradiction λh=>he (.inl h);have hnot:¬(s.s.atom=b.atoms.length/\s.s.free=false/\s.bx=[]):=λh=>he (.inr h);have Yb:0<=s.s.atom:=by rcases Xq.2 with h|h;exact h.1.1;omega
 have Ye:=hb.pos;have hg:=eu hb he;have hcut:=hg.cut;revert hcut;unfold aG;split
 .rename_i h0;intro _;obtain⟨h1,h2⟩:=h0;have hr:∀a,eS b a=0:=λa=>by unfold eS;rw[h1];simp
  have hd:s.s.done=0/\s.s.atom=0:=by
   rcases Xq.2 with h|h
   .have:=h.1;rw[h1]at this;simp at this;omega
   .rw[h1]at h;simp at h;omega
  have hdl:(b.M'.dropWhile (kf (bB b s.s .ay).body)).length<=b.M'.length:=(List.dropWhile_sublist _).length_le;simp only[mu2,qV,lq,hr,h2,hd,h1,if_true];simp;omega
 .split
  .rename_i hf;intro _;unfold mu2 qV;simp only;cases hp:s.bx with
   |cons f r=>
    have:=sU (body:=(aV b s.s).body) f r;simp only[XX]at this;cases s.s.free<;>by_cases h:s.s.atom<b.atoms.length<;>simp[h]<;>omega
   |nil=>
    unfold kv at hf;rw[hp]at hf;simp only[cC]at hf;have ha:s.s.atom=b.atoms.length:=by
     rcases hf with h|h|h
     .exact h
     .exact absurd rfl h
     .omega
    have hfr:s.s.free=true:=by
     cases h:s.s.free
     .exact absurd ⟨ha,h,hp⟩ hnot
     .rfl
    simp[cC,ha,hfr]
  .rename_i hf;have hm:bS b.atoms s.s:=Xq.2.resolve_right λh=>hf (.inl h.1);have W6:b.atoms≠[]:=λh=>by have:=hm.1;rw[h]at this;simp at this;omega
   have hbd:=hL.body s.s Yb W6;have hL1:=hL.pos;have hpd:=(sc (x:=bP b s) hb.toBkOk hm Ye (gv hb.toBkFull s.s Yb)).bx;intro hcut;have hkind:(kH (cZ b (bP b s))).kind=1:=(iu b (bP b s)).2;obtain⟨-,-,-,hcg⟩:=hcut hkind;obtain⟨⟨h0,h1⟩,h2,h3⟩:=hm;obtain⟨k,hk⟩:∃k:Nat,s.s.atom=k:=⟨s.s.atom.toNat,by omega⟩
   have Yn:k<b.atoms.length:=by omega
   have hph:=Ye _ (XI Yn);have WY:=we Yn;have hnn:=rz Ye (k+1);have hlf:iy b.atoms s.s=b.atoms[k].h-s.s.done:=by rw[iy,aq ⟨⟨h0,h1⟩,h2,h3⟩,hk,bg Yn]
   rw[hk,bg Yn]at h3;have key:∀t:XE,t.bx.length<=b.M'.length->0<=qV b L t->qV b L t+1<=qV b L s->mu2 b L t<mu2 b L s:=λt hp g1 g2=>by
    unfold mu2;have H':(qV b L t).toNat+1<=(qV b L s).toNat:=by omega
    have hmul:((qV b L t).toNat+1)*(2*b.M'.length+3)<=(qV b L s).toNat*(2*b.M'.length+3):=Nat.mul_le_mul_right _ H';rw[Nat.add_mul,Nat.one_mul]at hmul;have:(if t.s.free=true then b.M'.length+1 else 0)<=b.M'.length+1:=by split<;>omega
    omega
   refine key _ hpd ?_ ?_
   all_goals
    change uX b s.s (dQ b (bP b s)).s _ _ _ at hcg;generalize dQ b (bP b s)=z at*;unfold qV;simp only;cases hcg with
    |more q1 q2 q3 q4 q5=>
     rw[q1,q5,hk,fc];rw[hlf]at q3;have e1:0<=(eS b k-(s.s.done+(aV b s.s).body))/L:=Int.ediv_nonneg (by omega) (by omega);have e2:(eS b k-(s.s.done+(aV b s.s).body))/L<=(eS b k-s.s.done-L)/L:=Int.ediv_le_ediv (by omega) (by omega);have e3:(eS b k-s.s.done-L)/L=(eS b k-s.s.done)/L-1:=by
      have:=Int.add_mul_ediv_right (eS b k-s.s.done) (-1) (show L≠0 by omega);rw[show eS b k-s.s.done-L=eS b k-s.s.done+-1*L by omega,this];omega
     omega
    |whole c r y q1 q2 q3 q4 q5 q6 q7 q8 q9=>
     rw[hk]at q2;simp only[q1,hk,fc];have e0:=Ck Ye (k+1) (c-(k+1));rw[show k+1+(c-(k+1))=c by omega]at e0;have e1:0<=(eS b c-0)/L:=Int.ediv_nonneg (by have:=rz Ye c;omega) (by omega);have e2:(eS b c-0)/L<=(eS b k-s.s.done)/L:=Int.ediv_le_ediv (by omega) (by omega);omega
def sW{b:Bk}{L:Int}(hL:oV b L):mu2 b L ⟨⟨0,0,true⟩,[]⟩<=1000000000:=by
 have h1:=hL.rest;have h2:=hL.na;have h3:=hL.nf;have h4:=hL.pos;have e:(eS b 0-0)/L<=32768:=by
  have:(eS b 0-0)/L<=(32768*L)/L:=Int.ediv_le_ediv (by omega) (by omega);rw[Int.mul_ediv_cancel _ (by omega)]at this;exact this
 have hw:(qV b L ⟨⟨0,0,true⟩,[]⟩).toNat<=42768:=by
  unfold qV;simp only;have:(0:Int).toNat=0:=rfl;rw[this];omega
 unfold mu2;simp only[if_true,List.length_nil];have:(qV b L ⟨⟨0,0,true⟩,[]⟩).toNat*(2*b.M'.length+3)<=42768*20003:=Nat.mul_le_mul hw (by omega);omega
open Go.Proofs Go.Proofs.Tryz
def gN(b:Bk)(s:XE):Int:=tX b.L' (aG b s).1 s.s
def ZE(b:Bk):Nat->XE->Int->List (Option Xd)
 |0,_,_=>[]
 |f+1,s,no=>if cH b s then[]else
  if 0<=gN b s/\(no+1)%2≠gN b s then none::some (aG b s).1::ZE b f (aG b s).2 (no+2)else some (aG b s).1::ZE b f (aG b s).2 (no+1)
def shV:Option Xd->V
 |none=>.iface 76 (.agg [])
 |some p=>.iface 74 (aL p)
structure ShJ(Xe e2 i2 i4 i6:Nat)(no:Int)(s:XE)(ZJ U:ag):Prop where
 sub:aa ZJ U
 y:U i2=some ⟨e2,1,[.yl Xe]⟩
 n:U i4=some ⟨3,1,[vI no]⟩
 st:U i6=some ⟨45,4,[bC s]⟩
 n2:ZJ i2=none
 n4:ZJ i4=none
 n6:ZJ i6=none
 e24:i2≠i4
 e26:i2≠i6
 e46:i4≠i6
def ShJ.mono{Xe e2 i2 i4 i6:Nat}{no:Int}{s:XE}{ZJ U J:ag}(h:ShJ Xe e2 i2 i4 i6 no s ZJ U)(hs:aa U J):ShJ Xe e2 i2 i4 i6 no s ZJ J:=
 ⟨h.sub.trans hs,hs _ _ h.y,hs _ _ h.n,hs _ _ h.st,h.n2,h.n4,h.n6,h.e24,h.e26,h.e46⟩
def ShJ.given{Xe e2 i2 i4 i6:Nat}{no:Int}{s:XE}{ZJ U Xc Z':ag}(h:ShJ Xe e2 i2 i4 i6 no s ZJ U)(hb:aY ZJ (C' U i4 ⟨3,1,[vI (no+1)]⟩) Xc Z'):ShJ Xe e2 i2 i4 i6 (no+1) s Xc Z':=by
 obtain⟨a1,a2⟩:=hb.2 i2 _ h.n2 (by rw[ae h.e24];exact h.y);obtain⟨b1,b2⟩:=hb.2 i4 _ h.n4 af;obtain⟨c1,c2⟩:=hb.2 i6 _ h.n6 (by rw[ae h.e46.symm];exact h.st);exact⟨hb.1,a1,b1,c1,a2,b2,c2,h.e24,h.e26,h.e46⟩
def ShJ.next{Xe e2 i2 i4 i6:Nat}{no:Int}{s:XE}{ZJ U Z10:ag}{Xk:Nat}{o:Ob}(h:ShJ Xe e2 i2 i4 i6 no s ZJ U)(hs:aa (C' U i6 o) Z10)(hf:C' U i6 o Xk=none)(t:XE):
 ShJ Xe e2 i2 i4 Xk no t ZJ (C' Z10 Xk ⟨45,4,[bC t]⟩):=by
 have h1:=(h.sub.av (o:=o) h.n6)
 have y':=hs _ _ ((ae h.e26 (o:=o)).trans h.y);have n':=hs _ _ ((ae h.e46 (o:=o)).trans h.n);have k2:i2≠Xk:=λe=>by rw[<-e,ae h.e26,h.y]at hf;cases hf
 have k4:i4≠Xk:=λe=>by rw[<-e,ae h.e46,h.n]at hf;cases hf
 have nn:ZJ Xk=none:=h1.none hf;exact⟨(h1.trans hs).av nn,(ae k2).trans y',(ae k4).trans n',af,h.n2,h.n4,nn,h.e24,k2,k4⟩
def GS{b:Bk}(hb:bJ b){s:XE}(hp:s.bx.length<=1000000)(he:¬cH b s):(aG b s).2.bx.length<=1000000:=by
 have Xq:gr b s:=Decidable.byContradiction λh=>he (.inl h);have hfl:=hb.Zi;have Yb:0<=s.s.atom:=by rcases Xq.2 with h|h;exact h.1.1;omega
 unfold aG;split
 .have:(b.M'.dropWhile (kf (bB b s.s .ay).body)).length<=b.M'.length:=(List.dropWhile_sublist _).length_le;show(b.M'.dropWhile (kf (bB b s.s .ay).body)).length<=_;omega
 .split
  .show(cC (aV b s.s).body s.bx 0).2.1.length<=_;cases hpp:s.bx with
   |cons f r=>have:=sU (body:=(aV b s.s).body) f r;rw[hpp]at hp;simp only[XX]at this hp;omega
   |nil=>simp[cC]
  .rename_i hf;have hm:bS b.atoms s.s:=Xq.2.resolve_right λh=>hf (.inl h.1);have:=(sc (x:=bP b s) hb.toBkOk hm hb.pos (gv hb.toBkFull s.s Yb)).bx;show(dQ b (bP b s)).bx.length<=_;omega
def th(b:Bk)(hb:BkFull b):aK prog 54 [.rp (bc b)] (bh b.L'):=λU=>
 (GR b hb U).Gh λ_ _ h=>h.2.Ie h.1 rfl
def Ci(b:Bk)(hb:bJ b){L:Int}(hL:oV b L):Iter prog 53 [.rp (.rp (bc b))] ((ZE b 1000000001 ⟨⟨0,0,true⟩,[]⟩ 0).map λx=>[shV x]):=by
 refine⟨e53.c,λXe τ Jx Z0 hy hJ=>?_⟩;refine(e53.r (by simp[c53]) ?_).2;have hs:=aa.refl Z0;have hmu:=sW hL;have XU:=hb.brk;have Zh:=hb.len;have hsc:∀s:XE,(bC s).cells=[vI s.s.atom,vI s.s.done,.bool s.s.free,aB s.bx]:=λ_=>rfl;have hss:∀s:XE,(bC s).stays=true:=λ_=>rfl;have XP:∀p:Xd,(aL p).cells=[vI p.no,vI p.kind,aE p.hs,aE p.fs,aE p.ls]:=λ_=>rfl;have ZP:∀p:Xd,(aL p).stays=true:=λ_=>rfl;have ldB:∀U:ag,bF U false 1 (.rp (.rp (bc b)))=some (.rp (bc b)):=λU=>rfl;generalize hXS:(ZE b 1000000001 ⟨⟨0,0,true⟩,[]⟩ 0).map (λx=>[shV x])=XS at*;refine ab.mix 8 ?_;apply sR;simp only[go_sem,seval,c53];refine ad λi2 Z2 s2 a2 f2=>?_;have z2:=hs.none f2;replace hs:=hs.trans s2;simp only[go_sem,seval,ldB];refine ab.au rfl rfl rfl (th b hb.toBkFull _) ?_;apply sR;simp only[go_sem,seval];refine ad λi4 Z4 s4 a4 f4=>?_;have n24:=al a2 f4;replace a2:=s4 _ _ a2;have z4:=hs.none f4;replace hs:=hs.trans s4;simp only[go_sem,seval,a4];generalize Ys:C' _ i4 _=Y4;replace a4:=(congrFun Ys i4).symm.trans af;replace a2:=((congrFun Ys i2).symm.trans (ae n24)).trans a2;replace hs:=Eq.subst (motive:=aa _) Ys (hs.av z4);clear Ys;apply sR;simp only[go_sem,seval];refine ab.au rfl rfl rfl (yP b hb.toBkFull _) ?_;apply sR;simp only[go_sem,seval];refine ad λi6 Z6 s6 a6 f6=>?_;have n46:=al a4 f6;replace a4:=s6 _ _ a4;have n26:=al a2 f6;replace a2:=s6 _ _ a2;have z6:=hs.none f6;replace hs:=hs.trans s6;simp only[go_sem,seval,a6,hsc,hss];generalize ZX:C' _ i6 _=Y6;replace a6:=(congrFun ZX i6).symm.trans af;replace a4:=((congrFun ZX i4).symm.trans (ae n46)).trans a4;replace a2:=((congrFun ZX i2).symm.trans (ae n26)).trans a2;replace hs:=Eq.subst (motive:=aa _) ZX (hs.av z6);clear ZX;apply sR;simp only[go_sem,seval];have hJ0:ShJ Xe 140 i2 i4 i6 0 ⟨⟨0,0,true⟩,[]⟩ Z0 Y6:=⟨hs,a2,a4,a6,z2,z4,z6,n24,n26,n46⟩
 clear hs a2 a4 a6;generalize Y6=J at*;refine ab.loop (λm st=>∃(s:XE) (no:Int) (pre:List (List V)) (ZJ:ag) (i6':Nat),mu2 b L s<m/\XS=pre++(ZE b m s no).map (λx=>[shV x])/\τ pre ZJ/\
  ShJ Xe 140 i2 i4 i6' no s ZJ st.U/\st.s 0=.yl Xe/\st.s 1=.rp (.rp (bc b))/\st.s 3=bh b.L'/\st.s 4=.ptr i4 0 0/\st.s 5=.fn 55 [.ptr i4 0 0,.ptr i2 0 0]/\st.s 6=.ptr i6' 0 0/\
  0<=no/\no+2*m<=2000000002/\s.bx.length<=1000000) 1000000001 ?_ ?_
 .exact⟨⟨⟨0,0,true⟩,[]⟩,0,[],Z0,i6,by omega,by rw[j6,hXS],hJ,hJ0,rfl,rfl,rfl,rfl,rfl,rfl,by omega,by omega,by simp⟩
 clear hJ0 hJ;rintro m ⟨S,J⟩ ⟨s,no,pre,ZJ,i6,hm,hx,YM,hJs,t0,t1,t3,t4,t5,t6,hn0,hn1,hp⟩;simp only at hJs t0 t1 t3 t4 t5 t6;obtain⟨f,rfl⟩:∃f,m=f+1:=⟨m-1,by omega⟩
 have r6:=hJs.st;refine ab.mix 8 ?_;apply sR;simp only[go_sem,seval,t1,t6,ldB,r6];refine ab.au rfl rfl rfl (vj b hb.toBkFull s hp _) ?_;by_cases he:cH b s
 .rw[XJ he];apply sR;simp only[go_sem,seval];rw[ZE,aq he,List.map_nil,lO]at hx;subst hx;exact⟨_,ZJ,hJs.sub,Wk.refl hJs.sub _,.inl YM⟩
 rw[Xr he];apply sR;simp only[go_sem,seval,t1,t6,ldB,r6];refine ab.au rfl rfl rfl (AX b hb.toBkFull hb.fh s hp _) ?_;rw[ao he];apply sR;simp only[go_sem,seval];have hs:=aa.refl J;refine ad λi7 Z7 s7 a7 f7=>?_;have z7:=hs.none f7;replace hs:=hs.trans s7;simp only[go_sem,seval];refine ad λi8 Z8 s8 a8 f8=>?_;have n78:=al a7 f8;replace a7:=s8 _ _ a7;have z8:=hs.none f8;replace hs:=hs.trans s8;simp only[go_sem,seval,a7,XP,ZP];generalize YD:C' _ i7 _=Y7;replace a7:=(congrFun YD i7).symm.trans af;replace a8:=((congrFun YD i8).symm.trans (ae n78.symm)).trans a8;replace hs:=Eq.subst (motive:=aa _) YD (hs.av z7);clear YD;simp only[go_sem,seval,a8,hsc,hss];generalize Yf:C' _ i8 _=Y8;replace a8:=(congrFun Yf i8).symm.trans af;replace a7:=((congrFun Yf i7).symm.trans (ae n78)).trans a7;replace hs:=Eq.subst (motive:=aa _) Yf (hs.av z8);clear Yf;have Yv:=hJs.mono hs;have r6':=Yv.st;have r4:=Yv.n;have Xq:gr b s:=Decidable.byContradiction λh=>he (.inl h);have Yb:0<=s.s.atom/\s.s.atom<b.L'.length:=by
  rcases Xq.2 with h|h
  .have:=h.1;omega
  .omega
 simp only[go_sem,seval,t3,t6,r6',a7,XP,hsc];refine ab.au rfl rfl rfl (Lg b.L' (by omega) (aG b s).1 s.s Yb.1 Yb.2 _) ?_;rw[show tX b.L' (aG b s).1 s.s=gN b s from rfl];have hmn:=wT hb hL he;have hpn:=GS hb hp he;have r5:WR .i64 (no+1):=ai;have m7:ZJ i7=none:=hJs.sub.none z7;have m8:ZJ i8=none:=hJs.sub.none z8;have d47:i7≠i4:=λe=>by have:=hJs.n;rw[<-e,z7]at this;cases this
 have d48:i8≠i4:=λe=>by have:=hJs.n;rw[<-e,z8]at this;cases this
 have htm:(no+1).tmod 2=(no+1)%2:=Int.tmod_eq_emod_of_nonneg (by omega);by_cases hw:0<=gN b s/\(no+1)%2≠gN b s
 .rw[ZE,ao he,aq hw]at hx;have q1:(gN b s>=0)=True:=WE hw.1;have q2:((no+1).tmod 2≠gN b s)=True:=WE (by rw[htm];exact hw.2);generalize gN b s=W at*;apply sR;simp only[go_sem,seval,t4,t5,r4,r5,q1,q2];refine ab.call rfl rfl rfl (zT (x:=.iface 76 (.agg [])) r5 Yv.n Yv.y Yv.e24.symm (hy pre _ _ ZJ _ hx YM (Yv.sub.av Yv.n4))) ?_;rintro _ Z8b ⟨b',rfl,ZJ8,Yh,XM⟩;have hJ8b:=Yv.given Yh;obtain⟨a7b,k7⟩:=Yh.2 i7 _ m7 (by rw[ae d47];exact a7);obtain⟨a8b,k8⟩:=Yh.2 i8 _ m8 (by rw[ae d48];exact a8);have r55:WR .i64 (no+1+1):=ai;have hlast:XS=(pre++[[shV none]])++[.iface 74 (aL (aG b s).1)]::(ZE b f (aG b s).2 (no+1+1)).map (λx=>[shV x]):=by
   rw[hx,show no+2=no+1+1 by omega];simp[shV]
  rcases XM with⟨rfl,XM⟩|⟨rfl,XM⟩
  .apply sR;simp only[go_sem,seval,t5,a7b,XP];refine ab.call rfl rfl rfl (zT (x:=.iface 74 (aL (aG b s).1)) r55 hJ8b.n hJ8b.y hJ8b.e24.symm (hy (pre++[[shV none]]) _ _ ZJ8 _ hlast XM (hJ8b.sub.av hJ8b.n4))) ?_;rintro _ Z9 ⟨b',rfl,ZJ9,Yh,XM⟩;have YT:=hJ8b.given Yh;obtain⟨a8',k8⟩:=Yh.2 i8 _ k8 (by rw[ae d48];exact a8b);have r9:=YT.st;rcases XM with⟨rfl,XM⟩|⟨rfl,XM⟩
   .apply sR;simp only[go_sem,seval,t6,a8',r9,hsc];refine ad λXk Z10 YP Xy f10=>?_;simp only[go_sem,seval,Xy];refine⟨f,by omega,(aG b s).2,(no+1)+1,(pre++[[shV none]])++[[shV (some (aG b s).1)]],ZJ9,Xk,by omega,?_,XM,YT.next YP f10 _,?_⟩
    .rw[hlast];simp[shV]
    .simp[t0,t1,t3,t4,t5];exact⟨by omega,by omega,hpn⟩
   .apply sR;simp only[go_sem,seval];refine⟨_,ZJ9,YT.sub,Wk.refl YT.sub _,.inr ⟨_,?_,XM⟩⟩;rw[hlast];exact⟨(ZE b f (aG b s).2 ((no+1)+1)).map λx=>[shV x],by simp⟩
  .apply sR;simp only[go_sem,seval];refine⟨_,ZJ8,hJ8b.sub,Wk.refl hJ8b.sub _,.inr ⟨_,?_,XM⟩⟩;rw[hx];exact⟨(some (aG b s).1::ZE b f (aG b s).2 (no+2)).map λx=>[shV x],by simp[shV]⟩
 .rw[ZE,ao he,ao hw]at hx;have hq:(gN b s>=0)=False\/(gN b s>=0)=True/\((no+1).tmod 2≠gN b s)=False:=by
   by_cases h:gN b s>=0
   .exact .inr ⟨WE h,O' (λg=>hw ⟨h,by rw[<-htm];exact g⟩)⟩
   .exact .inl (O' h)
  generalize gN b s=W at*;have hlast:XS=pre++[.iface 74 (aL (aG b s).1)]::(ZE b f (aG b s).2 (no+1)).map (λx=>[shV x]):=hx;rcases hq with q1|⟨q1,q2⟩
  .apply sR;simp only[go_sem,seval,t5,a7,XP,q1];refine ab.call rfl rfl rfl (zT (x:=.iface 74 (aL (aG b s).1)) r5 Yv.n Yv.y Yv.e24.symm (hy pre _ _ ZJ _ hlast YM (Yv.sub.av Yv.n4))) ?_;rintro _ Z9 ⟨b',rfl,ZJ9,Yh,XM⟩;have YT:=Yv.given Yh;obtain⟨a8',k8⟩:=Yh.2 i8 _ m8 (by rw[ae d48];exact a8);have r9:=YT.st;rcases XM with⟨rfl,XM⟩|⟨rfl,XM⟩
   .apply sR;simp only[go_sem,seval,t6,a8',r9,hsc];refine ad λXk Z10 YP Xy f10=>?_;simp only[go_sem,seval,Xy];refine⟨f,by omega,(aG b s).2,no+1,pre++[[shV (some (aG b s).1)]],ZJ9,Xk,by omega,?_,XM,YT.next YP f10 _,?_⟩
    .rw[hlast];simp[shV]
    .simp[t0,t1,t3,t4,t5];exact⟨by omega,by omega,hpn⟩
   .apply sR;simp only[go_sem,seval];refine⟨_,ZJ9,YT.sub,Wk.refl YT.sub _,.inr ⟨_,?_,XM⟩⟩;rw[hlast];exact⟨(ZE b f (aG b s).2 (no+1)).map λx=>[shV x],by simp⟩
  .apply sR;simp only[go_sem,seval,t4,t5,r4,r5,a7,XP,q1,q2];refine ab.call rfl rfl rfl (zT (x:=.iface 74 (aL (aG b s).1)) r5 Yv.n Yv.y Yv.e24.symm (hy pre _ _ ZJ _ hlast YM (Yv.sub.av Yv.n4))) ?_;rintro _ Z9 ⟨b',rfl,ZJ9,Yh,XM⟩;have YT:=Yv.given Yh;obtain⟨a8',k8⟩:=Yh.2 i8 _ m8 (by rw[ae d48];exact a8);have r9:=YT.st;rcases XM with⟨rfl,XM⟩|⟨rfl,XM⟩
   .apply sR;simp only[go_sem,seval,t6,a8',r9,hsc];refine ad λXk Z10 YP Xy f10=>?_;simp only[go_sem,seval,Xy];refine⟨f,by omega,(aG b s).2,no+1,pre++[[shV (some (aG b s).1)]],ZJ9,Xk,by omega,?_,XM,YT.next YP f10 _,?_⟩
    .rw[hlast];simp[shV]
    .simp[t0,t1,t3,t4,t5];exact⟨by omega,by omega,hpn⟩
   .apply sR;simp only[go_sem,seval];refine⟨_,ZJ9,YT.sub,Wk.refl YT.sub _,.inr ⟨_,?_,XM⟩⟩;rw[hlast];exact⟨(ZE b f (aG b s).2 (no+1)).map λx=>[shV x],by simp⟩
variable {P:Program} {n:Nat}
def DT{o:Op}{xs:List VX}(h:WX P n o=.more .wu xs):∃t,o=.alloc t/\pK P t=true:=by
 cases o
 case alloc t=>
  simp only[WX]at h;split at h
  .cases h
  .split at h
   .rename_i hn;exact⟨t,rfl,hn⟩
   .cases h
 case call c=>
  obtain⟨callee,args,argTypes⟩:=c;cases callee
  case builtin b=>cases b<;>simp only[WX]at h<;>(repeat' split at h)<;>cases h
  all_goals (simp only[WX]at h;cases h)
 case unOp op t x=>cases op<;>simp only[WX]at h<;>cases h
 case makeFunc f a b=>cases f<;>simp only[WX]at h<;>(repeat' split at h)<;>cases h
 case binOp op t x y yt=>cases op<;>simp only[WX,cy]at h<;>(repeat' split at h)<;>cases h
 all_goals (simp only[WX]at h;(repeat' split at h)<;>cases h)
def DY{o:Op}{xs:List VX}(h:WX P n o=.more .xp xs):∃t x y,o=.store t x y/\pK P t=true/\xs=[cx n x,cx n y]:=by
 cases o
 case store t x y=>
  simp only[WX]at h;split at h
  .cases h
  .split at h
   .rename_i hn;simp only[W5.more.injEq,true_and]at h;exact⟨t,x,y,rfl,hn,h.symm⟩
   .cases h
 case call c=>
  obtain⟨callee,args,argTypes⟩:=c;cases callee
  case builtin b=>cases b<;>simp only[WX]at h<;>(repeat' split at h)<;>cases h
  all_goals (simp only[WX]at h;cases h)
 case unOp op t x=>cases op<;>simp only[WX]at h<;>cases h
 case makeFunc f a b=>cases f<;>simp only[WX]at h<;>(repeat' split at h)<;>cases h
 case binOp op t x y yt=>cases op<;>simp only[WX,cy]at h<;>(repeat' split at h)<;>cases h
 all_goals (simp only[WX]at h;(repeat' split at h)<;>cases h)
def ab.wu{st:St}{Q:St->Prop}{k:List It}{i:aD}{l:List aD}(hw:aZ st.s i.g=some true)(ho:i.op=.more .wu [])
 (h:ab P n (.ops l::k) ⟨aQ st.s i.dst (.rp (.agg [])),st.U⟩ Q):ab P n (.ops (i::l)::k) st Q:=by
 refine ab.ins (by rw[ho];simp) hw λF hn I a w o all hi hs next Q' WK=>?_
 subst hn;obtain⟨WN,hd⟩:=cW hi;rw[ho]at WN;obtain⟨t,g1,hn⟩:=DT WN;have Xi:(execOp a.eval o).run P w=.ok (.value (.pointer (some ⟨w.heap.size,0,none⟩))) (w.alloc (.cells #[] t)):=by
  unfold execOp;rw[g1];simp[Instr.alloc,sI hn,newVar,newRow,Value.cells]
 unfold Oper.wp;rw[Xi];obtain⟨h1,hk⟩:=hs.sat.more (.cells #[] t);refine WK _ _ _ ⟨I,?_⟩ h;rw[<-hd];exact hs.step h1 (cI.refl I) hk (by simp) (by simp only[E'];exact⟨w.heap.size,0,rfl,by simp,.inl rfl,by simp[br,aO]⟩)
def ab.xp{st:St}{Q:St->Prop}{k:List It}{i:aD}{l:List aD}{xa xv:VX}{u:V}(hw:aZ st.s i.g=some true)(ho:i.op=.more .xp [xa,xv])(ha:xa.ev st.s=.rp u)(hv:xv.ev st.s=.agg [])
 (h:ab P n (.ops l::k) ⟨aQ st.s i.dst (.WJ []),st.U⟩ Q):ab P n (.ops (i::l)::k) st Q:=by
 refine ab.ins (by rw[ho];simp) hw λF hn I a w o all hi hs next Q' WK=>?_
 subst hn;obtain⟨WN,hd⟩:=cW hi;rw[ho]at WN;obtain⟨t,x,y,g1,hn,g2⟩:=DY WN;simp only[List.cons.injEq,and_true]at g2;obtain⟨rfl,rfl⟩:=g2;have R1:=bU hs x;have R2:=bU hs y;rw[ha]at R1;rw[hv]at R2;simp only[E']at R1 R2;obtain⟨b,off,e1,_⟩:=R1;obtain⟨WO,e2,e3,_⟩:=R2;simp only[ar]at e3;subst e3;obtain⟨ti,_,hti,Zb,_⟩:=pd hn;have Xi:(execOp a.eval o).run P w=.ok .skip w:=by
  unfold execOp;rw[g1];simp[Instr.storeAt,Instr.sureAddr,e1,e2,storeVar,sizeOf,typeInfo,hti,Zb,Value.cells,storeCells]
 unfold Oper.wp;rw[Xi];refine WK _ _ _ ⟨I,?_⟩ h;rw[<-hd];exact hs.pure (by simp[E',ar,undef])
open Go.Proofs Go.Proofs.Tryz
def HL(b:Bk):aK prog 24 [.rp (bc b)] (.fn 53 [.rp (.rp (bc b))]):=λU=>by
 refine e24.r (by simp[c24]) ?_;refine ab.mix 4 ?_;apply sR;simp only[go_sem,seval,c24];refine ad λid1 Z1 s1 a1 f1=>?_;simp only[go_sem,seval];exact⟨_,U,s1,Wk.fn (vs':=[.rp (.rp (bc b))]) ⟨Wk.ptr s1 a1 f1,trivial⟩,rfl,rfl⟩
def pgN(k:Nat)(x:Option Xd):Xd:=match x with
 |none=>⟨(k:Int)+1,3,[],[],[]⟩
 |some p=>{ p with no:=(k:Int)+1 }
def qS(L:List (Option Xd)):List Xd:=(List.range L.length).map λk=>pgN k (L.getD k none)
def wi(L:List (Option Xd)):(qS L).length=L.length:=by simp[qS]
def pgV(k:Nat)(x:Option Xd):V:=match x with
 |none=>.agg [vI ((k:Int)+1),vI 3,.ay,.ay,.ay]
 |some p=>aL { p with no:=(k:Int)+1 }
def sZ(L:List (Option Xd)):List V:=(List.range L.length).map λk=>pgV k (L.getD k none)
def Gg(L:List (Option Xd))(x:Option Xd):sZ (L++[x])=sZ L++[pgV L.length x]:=by
 unfold sZ;rw[iz,List.length_singleton,List.range_succ,gB];congr 1
 .refine List.map_congr_left λk hk=>?_;have:=List.mem_range.1 hk;rw[pW,pW,Cv this]
 .simp
def I7(L:List (Option Xd)):(sZ L).length=L.length:=by simp[sZ]
def vd(b:Bk):∀(f:Nat) (s:XE) (no:Int),(ZE b f s no).length<=2*f
 |0,_,_=>by simp[ZE]
 |f+1,s,no=>by
  rw[ZE];split
  .simp
  .split
   .have:=vd b f (aG b s).2 (no+2);simp only[XX];omega
   .have:=vd b f (aG b s).2 (no+1);simp only[XX];omega
def bL(b:Bk):List Xd:=if(b.atoms.length:Int)+b.M'.length=0 then[⟨1,3,[],[],[]⟩]else qS (ZE b 1000000001 ⟨⟨0,0,true⟩,[]⟩ 0)
open Go.Proofs Go.Proofs.Tryz
def aY.Sq{ZJ U Xc Z':ag}(h:aY ZJ U Xc Z'){id:Nat}{o:Ob}(hn:U id=none)(hj:Xc id=none):aY ZJ U Xc (C' Z' id o):=
 ⟨h.1.av hj,λi x h1 h2=>by
  obtain⟨h3,h4⟩:=h.2 i x h1 h2;have:i≠id:=λe=>by rw[e,hn]at h2;cases h2
  simp[Vc.C',this,h3,h4]⟩
def YX.maps{α:Type}{U:ag}{N:Nat->Prop}{f g:α->V}:∀{l:List α},(∀a∈l,Fz U N (f a) (g a))->YX U N (l.map f) (l.map g)
 |[],_=>.nil
 |a::l,h=>.cons _ _ _ _ (h a (by simp)) (YX.maps λx hx=>h x (by simp[hx]))
def oH(p:Xd):(aL p).eL=true:=by
 have h:∀l:List Xs,(aE l).eL=true:=λl=>kE (f:=bl) (λ_=>rfl) l;show gA [vI p.no,vI p.kind,aE p.hs,aE p.fs,aE p.ls]=true;simp only[gA,h];rfl
def Lx{U:ag}{N:Nat->Prop}(L:List (Option Xd)):YX U N (sZ L) ((qS L).map aL):=by
 unfold sZ qS;rw[List.map_map];refine YX.maps λk _=>?_;simp only[Function.comp];cases L.getD k none with
 |none=>exact .agg _ _ (.cons _ _ _ _ (.same _ rfl) (.cons _ _ _ _ (.same _ rfl) (.cons _ _ _ _ (.nil 7) (.cons _ _ _ _ (.nil 7) (.cons _ _ _ _ (.nil 7) .nil)))))
 |some p=>exact .same _ (oH _)
def aM.PY{K U:ag}{N:Nat->Prop}{e sz:Nat}{v:V}{rows WM:List V}(h:aM K U e sz v rows)(hN:∀id,K id=none->N id)(hr:YX U N rows WM):Fz U N v (.sl sz WM):=by
 rcases h with⟨rfl,rfl⟩|⟨id,rfl,ho,hk⟩
 .cases hr;exact .nil sz
 .exact .own id 0 rows.length ⟨e,sz,rows⟩ WM ho (hN id hk) (by simp) (by rw[wV,iR];exact hr)
def bT(L:List Xd):V:=.sl 5 (L.map aL)
def zH(l:List Nd)(hl:cT l)(w h:Int):
 aK prog 9 [aC l,vI w,vI h] (if cE l w h=0 then .WJ [bT (bL (aP l w h)),vI 0]else .WJ [.ay,vI (cE l w h)]):=λU=>by
 refine e9.r (by simp[c9]) ?_;have hs:=aa.refl U;refine ab.mix 8 ?_;apply sR;simp only[go_sem,seval,c9];refine ab.au rfl rfl rfl (IY l hl w h _) ?_;by_cases he:cE l w h=0
 .have hb:=de hl he;have hL:=mV he;rw[Cs,aq he,aq he,he];generalize aP l w h=b at*;generalize iD l h=L at*;have q1:((0:Int)≠0)=False:=O' (λh=>h rfl);apply sR;simp only[go_sem,seval,q1];refine ad λXk Z10 YP Xy f10=>?_;have z10:=hs.none f10;replace hs:=hs.trans YP;simp only[go_sem,seval];refine ab.au rfl rfl rfl (HL b _) ?_;apply sR;simp only[go_sem,seval];generalize hS:mix 8 _ _=S;have S8:S 8=.rp (bc b):=by rw[<-hS];rfl
  have S10:S 10=.ptr Xk 0 0:=by rw[<-hS];rfl
  have S27:S 27=.fn 53 [.rp (.rp (bc b))]:=by rw[<-hS];rfl
  clear hS;have hit:=Ci b hb hL;have hSl:=vd b 1000000001 ⟨⟨0,0,true⟩,[]⟩ 0;have hPR:bL b=if(b.atoms.length:Int)+b.M'.length=0 then[⟨1,3,[],[],[]⟩]else qS (ZE b 1000000001 ⟨⟨0,0,true⟩,[]⟩ 0):=rfl
  generalize bL b=PR at*;generalize ZE b 1000000001 ⟨⟨0,0,true⟩,[]⟩ 0=SH at*;refine ab.ej (g:=.t 27) (caps:=[.rp (.rp (bc b))]) S27 hit (λx hx=>?_) [] (λpre ZJ=>∃v,ZJ Xk=some ⟨23,1,[v]⟩/\aa U ZJ/\aM (aX U Xk) ZJ 37 5 v (sZ (SH.take pre.length)))
   (λ_ _ _=>False) ?_ ?_ ?_ ?_ ?_
  .obtain⟨t,_,rfl⟩:=gM.1 hx;rfl
  .exact⟨.ay,Xy,YP,by simpa[sZ]using aM.start⟩
  .rintro pre x post ZJ ZB Zw ⟨v,J10,Js,Jo⟩ G';obtain⟨t,hti,rfl⟩:=rb (f:=shV) Zw;have hpl:pre.length<SH.length:=(jn.1 hti).1;have hlen:(pre++[[shV t]]).length=pre.length+1:=by simp
   have XB:sZ (SH.take (pre.length+1))=sZ (SH.take pre.length)++[pgV pre.length t]:=by
    rw[LV,hti,Option.toList_some,Gg,gO,Nat.min_eq_left (by omega)]
   rw[hlen,XB];have hnl:(sZ (SH.take pre.length)).length=pre.length:=by rw[I7,gO];omega
   have hvc:=Jo.vc.1;have hvs:=Jo.vc.2;have hvl:=Jo.len;rw[hnl]at hvl;generalize Xo:sZ (SH.take pre.length)=rows at*;have b10:=G' _ _ J10;generalize YY:n9 S [28] [shV t]=S0;have T10:S0 10=.ptr Xk 0 0:=by rw[<-YY];exact S10
   have T28:S0 28=shV t:=by rw[<-YY];rfl
   clear YY;refine ab.mix 12 ?_;apply sR;simp only[go_sem,seval,T28];apply sR;simp only[go_sem,seval];rw[bK];intro YH f12;have m12:Xk≠YH:=al b10 f12;have r1:WR .i64 ((pre.length:Int)+1):=ai;have XP:∀p:Xd,(aL p).cells=[vI p.no,vI p.kind,aE p.hs,aE p.fs,aE p.ls]:=λ_=>rfl;have ZA:∀l:List Xs,(aE l).cells=[aE l]:=λ_=>rfl;have Yu:∀l:List Xs,(aE l).stays=true:=λ_=>rfl;have ZP:∀p:Xd,(aL p).stays=true:=λ_=>rfl;have hBs:=(aY.refl G').se (o:=⟨37,5,[.agg [vI 0,vI 3,.ay,.ay,.ay]]⟩) f12;have y10:C' ZB YH ⟨37,5,[.agg [vI 0,vI 3,.ay,.ay,.ay]]⟩ Xk=some ⟨23,1,[v]⟩:=by rw[ae m12];exact b10
   have a12:C' ZB YH ⟨37,5,[.agg [vI 0,vI 3,.ay,.ay,.ay]]⟩ YH=some ⟨37,5,[.agg [vI 0,vI 3,.ay,.ay,.ay]]⟩:=af;have XW:(rows.length+1)*89<=140737488355328:=by omega
   have k2:aX U Xk Xk≠none:=λh=>(aH.1 h).1 rfl;have n12:ZJ YH=none:=G'.none f12;cases t with
   |none=>
    simp only[go_sem,seval,shV,Ij];generalize C' ZB YH ⟨37,5,[.agg [vI 0,vI 3,.ay,.ay,.ay]]⟩=X' at*;refine ab.wu rfl rfl ?_;refine ab.xp (u:=.agg []) rfl rfl rfl rfl ?_;apply sR;simp only[go_sem,seval,T10,y10,a12,hvc,hvl,r1,ae m12];rw[bK];intro i45 f45;have y2:C' X' YH (⟨37,5,[.agg [vI ((pre.length:Int)+1),vI 3,.ay,.ay,.ay]]⟩:Ob) Xk=some ⟨23,1,[v]⟩:=by rw[ae m12];exact y10
    have hB2:aY ZJ ZB ZJ (C' X' YH (⟨37,5,[.agg [vI ((pre.length:Int)+1),vI 3,.ay,.ay,.ay]]⟩:Ob)):=hBs.Sq f12 n12;generalize C' X' YH (⟨37,5,[.agg [vI ((pre.length:Int)+1),vI 3,.ay,.ay,.ay]]⟩:Ob)=Y2 at*;have hB3:=hB2.se (o:=(⟨37,5,[.agg [vI ((pre.length:Int)+1),vI 3,.ay,.ay,.ay]]⟩:Ob)) f45;have y3:C' Y2 i45 (⟨37,5,[.agg [vI ((pre.length:Int)+1),vI 3,.ay,.ay,.ay]]⟩:Ob) Xk=some ⟨23,1,[v]⟩:=by rw[ae (al y2 f45)];exact y2
    have a45:C' Y2 i45 (⟨37,5,[.agg [vI ((pre.length:Int)+1),vI 3,.ay,.ay,.ay]]⟩:Ob) i45=some (⟨37,5,[.agg [vI ((pre.length:Int)+1),vI 3,.ay,.ay,.ay]]⟩:Ob):=af;generalize C' Y2 i45 (⟨37,5,[.agg [vI ((pre.length:Int)+1),vI 3,.ay,.ay,.ay]]⟩:Ob)=X3 at*;obtain⟨WW,Yj,hdA⟩:=Jo.Hq hB3.1;have dne:∀(i:Nat) (Zx:ag),aX U Xk i≠none->Vc.bz Zx WW i=Zx i:=λi Zx hk=>by
     cases WW with
     |none=>rfl
     |some a=>exact dg (λe=>hk (by rw[e];exact(hdA a rfl).1))
    simp only[go_sem,seval,Yj,du a45,XW];rw[bK];intro i46 f46;have f46:X3 i46=none:=f46;have m46:Xk≠i46:=al y3 f46;have f46':Vc.bz X3 WW i46=none:=by
     cases WW with
     |none=>exact f46
     |some a=>simp only[Vc.bz,del];split<;>first|rfl|exact f46
    have y4:C' (Vc.bz X3 WW) i46 ⟨37,5,rows++[.agg [vI ((pre.length:Int)+1),vI 3,.ay,.ay,.ay]]⟩ Xk=some ⟨23,1,[v]⟩:=by rw[ae m46,dne _ _ k2];exact y3
    have hB9:=((hB3.Hd (e:=WW) λi h=>(hdA i h).2).new (o:=⟨37,5,rows++[.agg [vI ((pre.length:Int)+1),vI 3,.ay,.ay,.ay]]⟩) f46').set (id:=Xk) (o:=⟨23,1,[v]⟩) (o':=⟨23,1,[.own i46 0 (rows.length+1)]⟩) (by rw[ae m46,dne _ _ k2];exact J10);simp only[go_sem,seval,hvc,y4,T10];refine⟨_,hB9,.own i46 0 (rows.length+1),af,?_,?_⟩
    .refine aa.av (λi o h=>?_) z10;have h1:=Js _ _ h;rw[ae (al (hB3.1 _ _ h1) f46),dne _ _ (λhk=>by rw[(aH.1 hk).2]at h;cases h)];exact h1
    .refine aM.new (by simp) (by rw[ae m46.symm,af];rfl) ?_;rw[aH];refine⟨m46.symm,?_⟩;cases h:U i46 with
     |none=>rfl
     |some o=>rw[hB3.1 _ _ (Js _ _ h)]at f46;cases f46
   |some p=>
    simp only[go_sem,seval,shV,Ij];generalize C' ZB YH ⟨37,5,[.agg [vI 0,vI 3,.ay,.ay,.ay]]⟩=J at*;rw[bK];intro i13 f13;have m13:YH≠i13:=al a12 f13;have k13:Xk≠i13:=al y10 f13;have hBs:=hBs.se (o:=⟨74,5,[aL p]⟩) f13;have y10:C' J i13 ⟨74,5,[aL p]⟩ Xk=some ⟨23,1,[v]⟩:=by rw[ae k13];exact y10
    have a12:C' J i13 ⟨74,5,[aL p]⟩ YH=some ⟨37,5,[.agg [vI 0,vI 3,.ay,.ay,.ay]]⟩:=by rw[ae m13];exact a12
    have Yr:C' J i13 ⟨74,5,[aL p]⟩ i13=some ⟨74,5,[aL p]⟩:=af;simp only[go_sem,seval,XP,ZP];generalize C' J i13 ⟨74,5,[aL p]⟩=X' at*;simp only[go_sem,seval,T10,y10,a12,hvc,hvl,r1,ae m12];rw[bK];intro i45 f45;have y2:C' X' YH (⟨37,5,[.agg [vI ((pre.length:Int)+1),vI p.kind,aE p.hs,aE p.fs,aE p.ls]]⟩:Ob) Xk=some ⟨23,1,[v]⟩:=by rw[ae m12];exact y10
    have hB2:aY ZJ ZB ZJ (C' X' YH (⟨37,5,[.agg [vI ((pre.length:Int)+1),vI p.kind,aE p.hs,aE p.fs,aE p.ls]]⟩:Ob)):=hBs.Sq f12 n12;generalize C' X' YH (⟨37,5,[.agg [vI ((pre.length:Int)+1),vI p.kind,aE p.hs,aE p.fs,aE p.ls]]⟩:Ob)=Y2 at*;have hB3:=hB2.se (o:=(⟨37,5,[.agg [vI ((pre.length:Int)+1),vI p.kind,aE p.hs,aE p.fs,aE p.ls]]⟩:Ob)) f45;have y3:C' Y2 i45 (⟨37,5,[.agg [vI ((pre.length:Int)+1),vI p.kind,aE p.hs,aE p.fs,aE p.ls]]⟩:Ob) Xk=some ⟨23,1,[v]⟩:=by rw[ae (al y2 f45)];exact y2
    have a45:C' Y2 i45 (⟨37,5,[.agg [vI ((pre.length:Int)+1),vI p.kind,aE p.hs,aE p.fs,aE p.ls]]⟩:Ob) i45=some (⟨37,5,[.agg [vI ((pre.length:Int)+1),vI p.kind,aE p.hs,aE p.fs,aE p.ls]]⟩:Ob):=af;generalize C' Y2 i45 (⟨37,5,[.agg [vI ((pre.length:Int)+1),vI p.kind,aE p.hs,aE p.fs,aE p.ls]]⟩:Ob)=X3 at*;obtain⟨WW,Yj,hdA⟩:=Jo.Hq hB3.1;have dne:∀(i:Nat) (Zx:ag),aX U Xk i≠none->Vc.bz Zx WW i=Zx i:=λi Zx hk=>by
     cases WW with
     |none=>rfl
     |some a=>exact dg (λe=>hk (by rw[e];exact(hdA a rfl).1))
    simp only[go_sem,seval,Yj,du a45,XW];rw[bK];intro i46 f46;have f46:X3 i46=none:=f46;have m46:Xk≠i46:=al y3 f46;have f46':Vc.bz X3 WW i46=none:=by
     cases WW with
     |none=>exact f46
     |some a=>simp only[Vc.bz,del];split<;>first|rfl|exact f46
    have y4:C' (Vc.bz X3 WW) i46 ⟨37,5,rows++[.agg [vI ((pre.length:Int)+1),vI p.kind,aE p.hs,aE p.fs,aE p.ls]]⟩ Xk=some ⟨23,1,[v]⟩:=by rw[ae m46,dne _ _ k2];exact y3
    have hB9:=((hB3.Hd (e:=WW) λi h=>(hdA i h).2).new (o:=⟨37,5,rows++[.agg [vI ((pre.length:Int)+1),vI p.kind,aE p.hs,aE p.fs,aE p.ls]]⟩) f46').set (id:=Xk) (o:=⟨23,1,[v]⟩) (o':=⟨23,1,[.own i46 0 (rows.length+1)]⟩) (by rw[ae m46,dne _ _ k2];exact J10);simp only[go_sem,seval,hvc,y4,T10];refine⟨_,hB9,.own i46 0 (rows.length+1),af,?_,?_⟩
    .refine aa.av (λi o h=>?_) z10;have h1:=Js _ _ h;rw[ae (al (hB3.1 _ _ h1) f46),dne _ _ (λhk=>by rw[(aH.1 hk).2]at h;cases h)];exact h1
    .refine aM.new (by simp) (by rw[ae m46.symm,af];rfl) ?_;rw[aH];refine⟨m46.symm,?_⟩;cases h:U i46 with
     |none=>rfl
     |some o=>rw[hB3.1 _ _ (Js _ _ h)]at f46;cases f46
  .rintro Z' ⟨v,Xy,hs,Jo⟩;rw[dd,iR]at Jo;have hvc:=Jo.vc.1;have hvs:=Jo.vc.2;have Zl:=fK b.atoms;have hlf:=fM b.M';have hfl:=hb.Zi;have Zh:=hb.len;have rr:WR .i64 ((b.atoms.length:Int)+b.M'.length):=ai;refine ab.mix 12 ?_;apply sR;simp only[go_sem,seval,S8];refine ab.au rfl rfl rfl (tf b hb.toBkFull _) ?_;apply sR;simp only[go_sem,seval,tg];have hK:aa U Z':=hs;have hs:=aa.refl Z';refine ad λi15 Y15 s15 a15 f15=>?_;have n1015:=al Xy f15;replace Xy:=s15 _ _ Xy;have z15:=hs.none f15;replace hs:=hs.trans s15;simp only[go_sem,seval,a15];generalize Yk:C' _ i15 _=Z15;replace a15:=(congrFun Yk i15).symm.trans af;replace Xy:=((congrFun Yk Xk).symm.trans (ae n1015)).trans Xy;replace hs:=Eq.subst (motive:=aa _) Yk (hs.av z15);clear Yk;by_cases hz:(b.atoms.length:Int)+b.M'.length=0
   .have qz:((b.atoms.length:Int)+b.M'.length=0)=True:=WE hz;rw[aq hz]at hPR;simp only[go_sem,seval,a15,Zl,hlf,rr,qz];have a10':=Xy;refine ad λi58 Z58 s58 a58 f58=>?_;replace Xy:=s58 _ _ Xy;have z58:=hs.none f58;replace hs:=hs.trans s58;simp only[go_sem,seval,Xy,S10,hvc];rw[hPR];have hs3:=(hK.trans hs).av (id:=Xk) (o:=⟨23,1,[.own i58 0 1]⟩) z10;have m58:Xk≠i58:=al a10' f58;have hf:Fz (C' Z58 Xk ⟨23,1,[.own i58 0 1]⟩) (λid=>U id=none) (.WJ [.own i58 0 1,vI 0]) (.WJ [bT [⟨1,3,[],[],[]⟩],vI 0]):=
     .WJ _ _ (.cons _ _ _ _ (.own i58 0 1 ⟨37,5,[.agg [vI 1,vI 3,.ay,.ay,.ay]]⟩ _ ((ae m58.symm).trans a58) (hK.none z58) (by simp) (YX.one (.agg _ _ (.cons _ _ _ _ (.same _ rfl) (.cons _ _ _ _ (.same _ rfl) (.cons _ _ _ _ (.nil 7) (.cons _ _ _ _ (.nil 7) (.cons _ _ _ _ (.nil 7) .nil)))))))) (YX.same [vI 0] rfl))
    exact⟨_,U,hs3,hf.wk hs3 (λ_ h=>h),rfl,rfl⟩
   .have qz:((b.atoms.length:Int)+b.M'.length=0)=False:=O' hz;rw[ao hz]at hPR;simp only[go_sem,seval,a15,Xy,S10,Zl,hlf,rr,qz,hvc];rw[hPR];have hf:Fz Z15 (λid=>U id=none) (.WJ [v,vI 0]) (.WJ [bT (qS SH),vI 0]):=
     .WJ _ _ (.cons _ _ _ _ ((Jo.mono hs).PY (λid h=>(aH.1 h).2) (Lx SH)) (YX.same [vI 0] rfl))
    exact⟨_,U,hK.trans hs,hf.wk (hK.trans hs) (λ_ h=>h),rfl,rfl⟩
  .intro id h;cases h
  .rintro pre Z' _ ⟨⟩
 .have q1:(cE l w h≠0)=True:=WE he;rw[ao he];apply sR;simp only[go_sem,seval,q1];exact ak.pure hs rfl
def goP(l:List Xv):Int->Int->List Xs->Option (Int×Int)
 |a,d,[]=>some (a,d)
 |a,d,x::r=>
  if(0<=a/\a<l.length)/\x.atom=a/\x.node=(XV l a).node/\x.fr=d/\1<=x.h/\x.w=(XV l a).w/\x.x=(XV l a).x/\d+x.h<=(XV l a).h then
   (if d+x.h=(XV l a).h then goP l (a+1) 0 r else if r=[]then some (a,d+x.h)else none)
  else none
def C4{b:Bk}(hb:bJ b)(F:Int->Xs)(hF:∀k (h:k<b.atoms.length),F k=⟨b.atoms[k].node,k,0,b.atoms[k].x,(F k).y,b.atoms[k].w,b.atoms[k].h⟩):
 ∀(m k:Nat),k+m<=b.atoms.length->goP b.atoms k 0 ((List.range m).map λi:Nat=>F ((k:Int)+i))=some (((k+m:Nat):Int),0)
 |0,k,_=>by simp[goP]
 |m+1,k,h=>by
  have hk:k<b.atoms.length:=by omega
  have hp:=hb.pos _ (XI hk);rw[List.range_succ_eq_map,eo,List.map_map];have e:=hF k hk;have e0:F ((k:Int)+((0:Nat):Int))=F k:=by simp
  have ih:=C4 hb F hF m (k+1) (by omega);rw[e0,goP,bg hk,e];simp only;rw[aq ⟨⟨by omega,by omega⟩,trivial,trivial,trivial,hp,trivial,trivial,by omega⟩,aq (by omega)];have e1:((k:Int)+1)=((k+1:Nat):Int):=by omega
  have e2:((λi:Nat=>F ((k:Int)+i))∘Nat.succ)=λi:Nat=>F (((k+1:Nat):Int)+i):=by
   funext i;simp only[Function.comp];congr 1;omega
  rw[e1,e2,ih];congr 2;omega
def A0{b:Bk}(hb:bJ b){s:Xp}(hm:bS b.atoms s){kept shift high:Int}{c:Nat}(h1:s.atom<c)(h2:c<=b.atoms.length):
 goP b.atoms s.atom s.done ((List.range (c-s.atom.toNat)).map λi:Nat=>ct high (cF b.atoms s kept shift (s.atom+(i:Nat))))=some ((c:Int),0):=by
 have hm0:=hm;obtain⟨⟨h3,h4⟩,h5,h6⟩:=hm;obtain⟨a,ha⟩:∃a:Nat,s.atom=a:=⟨s.atom.toNat,by omega⟩
 have Zh:a<b.atoms.length:=by omega
 rw[ha,bg Zh]at h6;have hp:=hb.pos _ (XI Zh);obtain⟨m,hmm⟩:∃m,c-s.atom.toNat=m+1:=⟨c-s.atom.toNat-1,by omega⟩
 rw[hmm,List.range_succ_eq_map,eo,List.map_map];have e0:ct high (cF b.atoms s kept shift (s.atom+((0:Nat):Int)))=⟨b.atoms[a].node,a,s.done,b.atoms[a].x,dh b.atoms s kept shift a+s.done+high,b.atoms[a].w,b.atoms[a].h-s.done⟩:=by
  have:s.atom+((0:Nat):Int)=a:=by omega
  rw[this,cF,aq ⟨hm0,by omega,by omega⟩,aq (by omega)];simp only[ct,Xs.bN,kK,fe,bg Zh]
 let F:Int->Xs:=λk=>if k=s.atom then⟨b.atoms[a].node,k,0,b.atoms[a].x,0,b.atoms[a].w,b.atoms[a].h⟩else if s.atom<k then ct high (cF b.atoms s kept shift k)else⟨(XV b.atoms k).node,k,0,(XV b.atoms k).x,0,(XV b.atoms k).w,(XV b.atoms k).h⟩
 have hF:∀k (h:k<b.atoms.length),F k=⟨b.atoms[k].node,k,0,b.atoms[k].x,(F k).y,b.atoms[k].w,b.atoms[k].h⟩:=λk h=>by
  by_cases e:(k:Int)=s.atom
  .obtain rfl:k=a:=by omega
   simp only[F,aq e]
  .by_cases e2:s.atom<k
   .simp only[F,ao e,aq e2];rw[cF,aq ⟨hm0,by omega,by omega⟩,ao e];simp only[ct,kK,fe,bg h]
   .simp only[F,ao e,ao e2,bg h]
 have hr:=C4 hb F hF m (a+1) (by omega);rw[e0,goP,ha,bg Zh];simp only;rw[aq ⟨⟨by omega,by omega⟩,trivial,trivial,trivial,by omega,trivial,trivial,by omega⟩,aq (by omega)];have e1:((a:Int)+1)=((a+1:Nat):Int):=by omega
 have e2:(List.range m).map ((λi:Nat=>ct high (cF b.atoms s kept shift ((a:Int)+(i:Nat))))∘Nat.succ)=(List.range m).map λi:Nat=>F (((a+1:Nat):Int)+i):=by
  refine List.map_congr_left λi _=>?_;have:((a:Int)+((Nat.succ i:Nat):Int))=((a+1:Nat):Int)+i:=by omega
  simp only[Function.comp,this];simp only[F];rw[ao (by omega),aq (by omega)]
 rw[e1,e2,hr];congr 2;omega
def pS{b:Bk}(hb:bJ b){s:XE}(he:¬cH b s):goP b.atoms s.s.atom s.s.done (aG b s).1.fs=some ((aG b s).2.s.atom,(aG b s).2.s.done):=by
 have Xq:gr b s:=Decidable.byContradiction λh=>he (.inl h);have Yb:0<=s.s.atom:=by rcases Xq.2 with h|h;exact h.1.1;omega
 have hg:=eu hb he;revert hg;unfold aG;split
 .rename_i h0;intro _;have hn:s.s.atom=0/\s.s.done=0:=by
   rcases Xq.2 with h|h
   .have:=h.1;rw[h0.1]at this;simp at this;omega
   .rw[h0.1]at h;simpa using h
  show goP b.atoms s.s.atom s.s.done []=_;rw[goP,hn.1,hn.2];rfl
 .split
  .intro _;rfl
  .rename_i hf;intro hg;have hm:bS b.atoms s.s:=Xq.2.resolve_right λh=>hf (.inl h.1);have hkind:(kH (cZ b (bP b s))).kind=1:=(iu b (bP b s)).2;obtain⟨-,g1,g2,hcg⟩:=hg.cut hkind;change goP b.atoms s.s.atom s.s.done (cZ b (bP b s)).fs=some ((dQ b (bP b s)).s.atom,(dQ b (bP b s)).s.done);change uX b s.s (dQ b (bP b s)).s (cZ b (bP b s)).fs _ _ at hcg;have hrl:cj b (bP b s)<=b.atoms.length:=oZ;have XU:=hb.brk;unfold cZ dQ at hcg|-;by_cases WL:eD b.L' (bP b s).s.atom (cj b (bP b s))
   .rw[aq WL,aq WL];obtain⟨c,c1,c2,c3⟩:=qL WL (by omega);rw[show p9 b (bP b s)=c from c1,fc];have c2':s.s.atom<c:=c2;exact A0 hb hm c2' (by omega)
   .rw[ao WL,ao WL]at hcg|-;have hso:kZ b.atoms s.s (aV b s.s).body:=⟨hm,gv hb.toBkFull s.s Yb⟩
    obtain⟨⟨h3,h4⟩,h5,h6⟩:=hm;obtain⟨a,ha⟩:∃a:Nat,s.s.atom=a:=⟨s.s.atom.toNat,by omega⟩
    have Zh:a<b.atoms.length:=by omega
    have hp:=hb.pos _ (XI Zh);have hbd:=gv hb.toBkFull s.s Yb;have hag:XV b.atoms s.s.atom=b.atoms[a]:=by rw[ha,bg Zh]
    show goP b.atoms s.s.atom s.s.done [ct (aV b s.s).high (iZ b.atoms s.s (aV b s.s).body)]=some ((dp b.atoms s.s (aV b s.s).body).atom,(dp b.atoms s.s (aV b s.s).body).done);rw[iZ,aq hso,dp,aq hso,dE,iQ];simp only[goP,ct,Xs.cut,Xs.bN,fe,hag];rw[hag]at h6;rw[aq ⟨⟨h3,h4⟩,trivial,trivial,trivial,by omega,trivial,trivial,by omega⟩];by_cases e:s.s.done+min (b.atoms[a].h-s.s.done) (aV b s.s).body=b.atoms[a].h
    .have H':¬(s.s.done+min (b.atoms[a].h-s.s.done) (aV b s.s).body<b.atoms[a].h):=by omega
     rw[aq e,ao H']
    .have H':s.s.done+min (b.atoms[a].h-s.s.done) (aV b s.s).body<b.atoms[a].h:=by omega
     rw[ao e,aq H'];simp
def CB{x:T'}{r:List T'}:∀(p:List T') (i:Nat),(x::r).Sublist p->∃k:Nat,mq x p i=((i+k:Nat):Int)/\r.Sublist (p.drop (k+1))
 |[],i,h=>by cases h
 |q::p,i,h=>by
  rw[mq];by_cases e:x=q
  .subst e;rw[aq rfl];exact⟨0,rfl,List.cons_sublist_cons.1 h⟩
  .rw[ao e];have h':(x::r).Sublist p:=by
    cases h with
    |cons _ h=>exact h
    |cons_cons _ h=>exact absurd rfl e
   obtain⟨k,h1,h2⟩:=CB p (i+1) h';exact⟨k+1,by rw[h1];congr 1;omega,by simpa using h2⟩
def BR{M':List T'}:∀(p:List T') (Xg:Nat),p.Sublist (M'.drop Xg)->nA M' p Xg=true
 |[],Xg,_=>rfl
 |x::r,Xg,h=>by
  obtain⟨k,h1,h2⟩:=CB _ 0 h;rw[iV]at h1;rw[nA,h1,ao (by omega),fc];refine BR r _ ?_;rw[List.drop_drop]at h2;rw[show Xg+k+1=Xg+(k+1) by omega];exact h2
def BJ{x:T'}:∀(p:List T') (i k:Nat),mq x p i=((i+k:Nat):Int)->p[k]?=some x
 |[],i,k,h=>by simp[mq]at h;omega
 |q::p,i,k,h=>by
  rw[mq]at h;split at h
  .rename_i e;obtain rfl:k=0:=by omega
   simp[e]
  .rcases qK x p (i+1)with h2|⟨m,h2,_⟩
   .rw[h2]at h;omega
   .have hk:k=m+1:=by rw[h2]at h;omega
    subst hk;rw[uP];exact BJ p (i+1) m h2
def rh{M':List T'}:∀(p:List T') (Xg:Nat),nA M' p Xg=true->p.Sublist (M'.drop Xg)
 |[],Xg,_=>List.nil_sublist _
 |x::r,Xg,h=>by
  rw[nA]at h;split at h
  .cases h
  .rename_i hk;rcases qK x (M'.drop Xg) 0 with e|⟨k,e,ZO⟩
   .exact absurd (by rw[e];decide) hk
   .rw[e,iV,fc]at h;have hx:=BJ _ 0 k e;obtain⟨hl,hg⟩:=jn.1 hx;have hr:=rh r _ h;have e1:M'.drop Xg=(M'.drop Xg).take k++x::(M'.drop Xg).drop (k+1):=by
     conv=>lhs;rw[<-uR k (M'.drop Xg)]
     rw[gF hl,hg]
    rw[e1,List.drop_drop,show Xg+(k+1)=Xg+k+1 by omega];exact(List.Sublist.cons_cons x hr).trans (List.sublist_append_right _ _)
def BQ{body:Int}:∀(l:List T') (sh:Int),(cC body l sh).2.1.Sublist l
 |[],_=>by simp[cC]
 |f::r,sh=>by
  rw[cC];split
  .exact List.Sublist.refl _
  .exact(BQ r _).trans (List.sublist_cons_self _ _)
def F1{top shift body:Int}(L:List T'):(jw top shift body L).2.Sublist L:=by
 suffices key:∀(L L0:List T') (x:List T'×List T'),x.2.Sublist L0->(L.foldl (λx f=>lC body x f (dY top shift f)) x).2.Sublist (L0++L)from by have h:=key L [] ([],[]) (List.Sublist.refl _);rw[j6]at h;exact h
 intro L
 induction L with
 |nil=>intro L0 x h;simpa using h
 |cons f L ih=>
  intro L0 x h;rw[jm,show L0++f::L=(L0++[f])++L by simp];refine ih _ _ ?_;simp only[lC];split
  .exact h.append (List.Sublist.refl _)
  .exact h.trans (List.sublist_append_left _ _)
def zh{b:Bk}{s:Xp}{to kept shift body:Int}:(cu b.atoms b.M' s to kept shift body).2.Sublist b.M':=by
 unfold cu;split
 .exact(F1 _).trans List.filter_sublist
 .exact List.nil_sublist _
def wA{b:Bk}(hb:bJ b){s:XE}(he:¬cH b s):gr b (aG b s).2:=by
 have Xq:gr b s:=Decidable.byContradiction λh=>he (.inl h);have hg:=eu hb he;have hp:s.bx.Sublist b.M':=rh _ 0 Xq.1;refine⟨BR _ 0 ?_,?_⟩
 .rw[wV];unfold aG;split
  .exact List.dropWhile_sublist _
  .split
   .exact(BQ _ _).trans hp
   .show(dQ b (bP b s)).bx.Sublist b.M';unfold dQ;split
    .exact zh
    .exact zh
 .rcases hg.kd with k|k
  .obtain⟨hm,-,-,hc⟩:=hg.cut k;have hm0:=hm;obtain⟨⟨h0,h1⟩,h2,h3⟩:=hm;cases hc with
   |more q1 q2 q3 q4 q5=>
    left;unfold iy at q3;rw[aq hm0]at q3;have:=(rO hb.toBkFull s.s h0).2.1;refine⟨by omega,by omega,.inr ?_⟩;rw[q1];omega
   |whole c r y q1 q2 q3 q4 q5 q6 q7 q8 q9=>
    rw[q1];by_cases XH:c=b.atoms.length
    .exact .inr ⟨by simp only;omega,rfl⟩
    .exact .inl ⟨⟨by simp only;omega,by simp only;omega⟩,Int.le_refl _,.inl rfl⟩
  .have hf:=hg.no' k;have Zd:=pS hb he;rw[hf,goP]at Zd;have e:=Option.some.inj Zd;have e1:(aG b s).2.s.atom=s.s.atom:=(congrArg Prod.fst e).symm;have e2:(aG b s).2.s.done=s.s.done:=(congrArg Prod.snd e).symm;unfold bS;rw[e1,e2];exact Xq.2
def rX(b:Bk)(Ye:∀a∈b.atoms,1<=a.h):gr b ⟨⟨0,0,true⟩,[]⟩:=by
 refine⟨rfl,?_⟩;by_cases h:b.atoms.length=0
 .exact .inr ⟨by simp only;omega,rfl⟩
 .exact .inl ⟨⟨Int.le_refl _,by simp only;omega⟩,Int.le_refl _,.inl rfl⟩
structure AkI(s:WS):Prop where
 pw:s.B'.Pairwise λf g=>f.anchor<=g.anchor
 q:∀f∈s.B',f.anchor<=s.atoms.length
def AkI.more{s t:WS}(h:AkI s)(hf:t.B'=s.B')(ha:s.atoms.length<=t.atoms.length):AkI t:=⟨by rw[hf];exact h.pw,λf ZW=>by rw[hf]at ZW;have:=h.q f ZW;omega⟩
def F5(fs:List T')(f:T')(y:Int)(s:XR):∃g,sJ fs f y s=fs++[g]/\g.anchor=f.anchor:=⟨_,rfl,by unfold ji;(repeat' split)<;>rfl⟩
def AkI.put{s:WS}(h:AkI s)(a:Xv):AkI (s.put a):=h.more rfl (by simp[WS.put])
def AkI.text{rs:List Rm}{s:WS}(h:AkI s)(a:Nat)(n:Nd):AkI (s.text rs a n):=by
 unfold WS.text;generalize dc _ _ _ _ _ _ _ _=L
 induction L generalizing s with
 |nil=>exact h
 |cons x L ih=>exact ih (h.put _)
def AkI.float{rs:List Rm}{s:WS}(h:AkI s)(a:Nat)(n:Nd):AkI (s.float rs a n):=by
 obtain⟨g,e,ha⟩:=F5 s.B' ⟨a,n.side,s.atoms.length,0,0,n.w,n.h⟩ (s.WV.y+s.WV.m) (ee rs a);have e':(s.float rs a n).B'=s.B'++[g]:=e;refine⟨?_,λf hf=>?_⟩
 .rw[e',List.pairwise_append];refine⟨h.pw,by simp,λf hf y hy=>?_⟩;rw[jV.1 hy,ha];exact h.q f hf
 .rw[e']at hf;rcases dD.1 hf with hf|hf
  .exact h.q f hf
  .rw[jV.1 hf,ha];exact Int.le_refl _
def lX{l:List Nd}{rs:List Rm}:∀(k a e:Nat) (s:WS),AkI s->AkI (df l rs k a e s)
 |0,a,e,s,h=>h
 |k+1,a,e,s,h=>by
  rw[df];split
  .split
   .exact lX k _ _ _ ((lX k _ _ (s.enter (Xf l a).st) (h.more rfl (Xm _))).more rfl (Xm _))
   .split
    .exact lX k _ _ _ (h.text _ _)
    .split
     .exact lX k _ _ _ (h.put _)
     .exact lX k _ _ _ (h.float _ _)
  .exact h
def Lk(l:List Nd)(w:Int):((cB l w).B'.Pairwise λf g=>f.anchor<=g.anchor)/\∀f∈(cB l w).B',0<=f.anchor/\(0<(cB l w).atoms.length->f.anchor<(cB l w).atoms.length):=by
 have h:=lX (l:=l) (rs:=gH l w) l.length 0 l.length ⟨[],[],0,⟨0,0⟩⟩ ⟨by simp,by simp⟩;have e1:(cB l w).atoms=(df l (gH l w) l.length 0 l.length ⟨[],[],0,⟨0,0⟩⟩).atoms:=rfl;have e2:(cB l w).B'=(df l (gH l w) l.length 0 l.length ⟨[],[],0,⟨0,0⟩⟩).B'.map (oD (df l (gH l w) l.length 0 l.length ⟨[],[],0,⟨0,0⟩⟩).atoms.length):=rfl;rw[e1,e2];generalize df l (gH l w) l.length 0 l.length ⟨[],[],0,⟨0,0⟩⟩=s at*;refine⟨?_,λf hf=>?_⟩
 .rw[List.pairwise_map];refine h.pw.imp λhab=>?_;simp only[oD];omega
 .obtain⟨g,hg,rfl⟩:=gM.1 hf;simp only[oD];omega
def C0{top shift body:Int}(L:List T'):∃j,j<=L.length/\(jw top shift body L).1=(L.take j).map (dY top shift)/\(jw top shift body L).2=L.drop j:=by
 suffices key:∀(L A:List T') (x:List T'×List T'),(∃j,j<=A.length/\x.1=(A.take j).map (dY top shift)/\x.2=A.drop j)->
  ∃j,j<=(A++L).length/\(L.foldl (λx f=>lC body x f (dY top shift f)) x).1=((A++L).take j).map (dY top shift)/\(L.foldl (λx f=>lC body x f (dY top shift f)) x).2=(A++L).drop j from by
  have h:=key L [] ([],[]) ⟨0,by simp,by simp,by simp⟩;rw[j6]at h;exact h
 intro L
 induction L with
 |nil=>intro A x h;simpa using h
 |cons f L ih=>
  intro A x ⟨j,h1,h2,h3⟩;rw[jm,show A++f::L=(A++[f])++L by simp];refine ih _ _ ?_;simp only[lC];by_cases hl:pA x.2 (dY top shift f) body=true
  .rw[aq hl,aq hl];refine⟨j,by simp;omega,?_,?_⟩
   .rw[h2,MW h1]
   .rw[h3,Eb h1]
  .rw[ao hl,ao hl];have hx:x.2=[]:=Decidable.byContradiction λhn=>hl (by unfold pA;exact XJ (.inl hn));have hj:j=A.length:=by
    rw[h3]at hx;have:=congrArg List.length hx;simp at this;omega
   subst hj;refine⟨A.length+1,by simp,?_,?_⟩
   .rw[h2,lg (Xm _),lg (by simp),gB,List.map_singleton]
   .rw[h3];simp
def wK{body:Int}:∀(l:List T') (sh:Int),∃j,j<=l.length/\(cC body l sh).2.1=l.drop j/\(cC body l sh).1.length=j/\∀i f m,i<j->l[i]?=some f->(cC body l sh).1[i]?=some m->m.node=f.node/\m.x=f.x/\m.w=f.w/\m.h<=f.h
 |[],sh=>⟨0,by simp,by simp[cC],by simp[cC],λi f m h=>by omega⟩
 |g::r,sh=>by
  rw[cC];split
  .exact⟨0,by simp,by simp,by simp,λi f m h=>by omega⟩
  .obtain⟨j,h1,h2,h3,h4⟩:=wK (body:=body) r (sh+min g.h body);refine⟨j+1,by simp only[XX];omega,by simpa using h2,by simp only[XX,h3],λi f m hi hf hm=>?_⟩;cases i with
   |zero=>
    simp only[L4,aI]at hf hm;subst hf;subst hm;exact⟨rfl,rfl,rfl,by simp only;omega⟩
   |succ i=>
    rw[uP]at hf hm;exact h4 i f m (by omega) hf hm
def gQ(L:List T')(B:Int):Nat:=(L.filter λf=>decide (f.anchor<B)).length
def rV{B:Int}{L:List T'}(h:∀g∈L,B<=g.anchor):(L.filter λf=>decide (f.anchor<B))=[]:=by
 rw[List.filter_eq_nil_iff];intro g hg;have:=h g hg;simp;omega
def Ax{B:Int}:∀{L:List T'},(L.Pairwise λf g=>f.anchor<=g.anchor)->(L.filter λf=>decide (f.anchor<B))=L.take (gQ L B)
 |[],_=>rfl
 |x::L,h=>by
  have hp:=List.pairwise_cons.1 h;unfold gQ;by_cases e:x.anchor<B
  .have ih:=Ax (B:=B) hp.2;unfold gQ at ih;rw[List.filter_cons_of_pos (by simpa using e),XX,px,<-ih]
  .have hn:((x::L).filter λf=>decide (f.anchor<B))=[]:=rV λg hg=>by
    rcases db.1 hg with rfl|hg
    .omega
    .have:=hp.1 g hg;omega
   rw[hn];rfl
def uk{fr to:Int}(hft:fr<=to):∀{L:List T'},(L.Pairwise λf g=>f.anchor<=g.anchor)->tP L fr to=(L.take (gQ L to)).drop (gQ L fr)
 |[],_=>by simp[tP]
 |x::L,h=>by
  have hp:=List.pairwise_cons.1 h;have ih:=uk hft hp.2;unfold tP mf at ih|-;by_cases e:x.anchor<fr
  .have h1:pQ fr to x=true:=by unfold pQ;exact XJ (.inl e)
   have c1:gQ (x::L) fr=gQ L fr+1:=by unfold gQ;rw[List.filter_cons_of_pos (by simpa using e),XX]
   have c2:gQ (x::L) to=gQ L to+1:=by unfold gQ;rw[List.filter_cons_of_pos (by simp;omega),XX]
   rw[List.filter_cons_of_neg (by simp[h1]),c1,c2,px,Em,ih]
  .have hge:∀g∈x::L,fr<=g.anchor:=λg hg=>by
    rcases db.1 hg with rfl|hg
    .omega
    .have:=hp.1 g hg;omega
   have c1:gQ (x::L) fr=0:=by unfold gQ;rw[rV hge];rfl
   rw[c1,wV,<-Ax h];refine List.filter_congr λg hg=>?_;have:=hge g hg;unfold pQ;by_cases e2:g.anchor<to
   .rw[XJ e2,Xr (show¬(g.anchor<fr\/g.anchor>=to) by omega)];rfl
   .rw[Xr e2,XJ (show g.anchor<fr\/g.anchor>=to by omega)];rfl
def Gk{L:List T'}{a b:Int}(h:a<=b):gQ L a<=gQ L b:=by
 unfold gQ
 induction L with
 |nil=>simp
 |cons x L ih=>
  by_cases e:x.anchor<a
  .rw[List.filter_cons_of_pos (by simpa using e),List.filter_cons_of_pos (by simp;omega)];simp only[XX];omega
  .rw[List.filter_cons_of_neg (by simpa using e)];by_cases e2:x.anchor<b
   .rw[List.filter_cons_of_pos (by simpa using e2)];simp only[XX];omega
   .rw[List.filter_cons_of_neg (by simpa using e2)];exact ih
def ED(L:List T')(B:Int):gQ L B<=L.length:=List.length_filter_le _ _
def fQ(s:Xp):Int:=if s.done>0 then s.atom+1 else s.atom
def calls(b:Bk)(s:Xp):Nat:=if b.atoms=[]then(if s.free=true then 0 else b.M'.length)else gQ b.M' (fQ s)
structure od(b:Bk)(ls:List Xs)(m j:Nat):Prop where
 len:ls.length=j
 fit:∀i x f,ls[i]?=some x->b.M'[m+i]?=some f->x.node=f.node/\x.atom=-1/\x.x=f.x/\x.w=f.w/\x.h<=f.h
def CI(b:Bk)(s:Xp):calls b s<=b.M'.length:=by
 unfold calls;split
 .split<;>omega
 .exact ED _ _
def od.app{b:Bk}{l1 l2:List Xs}{m j k:Nat}(h1:od b l1 m j)(h2:od b l2 (m+j) k):od b (l1++l2) m (j+k):=by
 refine⟨by rw[iz,h1.len,h2.len],λi x f hx hf=>?_⟩;by_cases h:i<j
 .rw[Cv (by rw[h1.len];exact h)]at hx;exact h1.fit i x f hx hf
 .rw[KO (by rw[h1.len];omega),h1.len]at hx;exact h2.fit (i-j) x f hx (by rw[show m+j+(i-j)=m+i by omega];exact hf)
def BS{L:List T'}{C m i:Nat}{f:T'}(h:((L.take C).drop m)[i]?=some f):L[m+i]?=some f:=by
 rw[Mg,List.getElem?_take]at h;split at h
 .exact h
 .cases h
def L3{b:Bk}{body high:Int}{C m:Nat}{p:List T'}(hp:p=(b.M'.take C).drop m)(hC:C<=b.M'.length)(hm:m<=C):∃j,m+j<=C/\(cC body p 0).2.1=(b.M'.take C).drop (m+j)/\od b ((cC body p 0).1.map (mG high)) m j:=by
 obtain⟨j,h1,h2,h3,h4⟩:=wK (body:=body) p 0;have hl:p.length=C-m:=by rw[hp,oG,gO];omega
 refine⟨j,by omega,by rw[h2,hp,List.drop_drop],by rw[dd,h3],λi x f hx hf=>?_⟩;rw[qX,Zq8]at hx;obtain⟨mv,e1,rfl⟩:=hx;have hi:i<j:=by rw[<-h3];exact(jn.1 e1).1
 obtain⟨g,hg⟩:∃g,p[i]?=some g:=⟨p[i],ZF (by omega)⟩
 have hg':=hg;rw[hp]at hg';have:=BS hg';rw[this]at hf;obtain rfl:=Option.some.inj hf;obtain⟨g1,g2,g3,g4⟩:=h4 i _ mv hi hg e1;exact⟨g1,rfl,g2,g3,g4⟩
def HO{b:Bk}(ha:b.M'.Pairwise λf g=>f.anchor<=g.anchor){s:Xp}(hm:bS b.atoms s){to kept shift body high:Int}(hto:fQ s<=to):
 ∃j,gQ b.M' (fQ s)+j<=gQ b.M' to/\(cu b.atoms b.M' s to kept shift body).2=(b.M'.take (gQ b.M' to)).drop (gQ b.M' (fQ s)+j)/\od b ((cu b.atoms b.M' s to kept shift body).1.map (mG high)) (gQ b.M' (fQ s)) j:=by
 have hc:dG b.M' s to=(b.M'.take (gQ b.M' to)).drop (gQ b.M' (fQ s)):=uk hto ha;have h1:=Gk (L:=b.M') hto;have h2:=ED b.M' to;unfold cu;rw[aq hm];obtain⟨j,g1,g2,g3⟩:=C0 (top:=sQ b.atoms s kept) (shift:=shift) (body:=body) (dG b.M' s to);have hl:(dG b.M' s to).length=gQ b.M' to-gQ b.M' (fQ s):=by rw[hc,oG,gO];omega
 refine⟨j,by omega,by rw[g3,hc,List.drop_drop],by rw[g2];simp;omega,λi x f hx hf=>?_⟩;rw[g2,List.map_map,qX,Zq8]at hx;obtain⟨g,e1,rfl⟩:=hx;rw[List.getElem?_take]at e1;split at e1
 .rw[hc]at e1;have:=BS e1;rw[this]at hf;obtain rfl:=Option.some.inj hf;exact⟨rfl,rfl,rfl,rfl,Int.le_refl _⟩
 .cases e1
def B4{b:Bk}(hb:bJ b)(ha:b.M'.Pairwise λf g=>f.anchor<=g.anchor){s:XE}(he:¬cH b s){m:Nat}(hm:m<=calls b s.s)(hp:s.bx=(b.M'.take (calls b s.s)).drop m):
 ∃j,m+j<=calls b (aG b s).2.s/\(aG b s).2.bx=(b.M'.take (calls b (aG b s).2.s)).drop (m+j)/\od b (aG b s).1.ls m j:=by
 have Xq:gr b s:=Decidable.byContradiction λh=>he (.inl h);have hg:=eu hb he;have hcut:=hg.cut;obtain⟨j0,t1,t2,t3⟩:=L3 (body:=(aV b s.s).body) (high:=(aV b s.s).high) hp (CI b s.s) hm;revert hcut;unfold aG;split
 .rename_i h0;intro _;obtain⟨h1,h2⟩:=h0;have hc0:calls b s.s=0:=by rw[calls,aq h1,aq h2]
  have hc1:calls b (lq b (bB b s.s .ay)).s=b.M'.length:=by rw[calls,aq h1];rfl
  rw[hc0]at hm;obtain rfl:m=0:=by omega
  have hle:(b.M'.takeWhile (kf (bB b s.s .ay).body)).length<=b.M'.length:=(List.takeWhile_sublist _).length_le;have hsp:b.M'.takeWhile (kf (bB b s.s .ay).body)++b.M'.dropWhile (kf (bB b s.s .ay).body)=b.M':=List.takeWhile_append_dropWhile;refine⟨(b.M'.takeWhile (kf (bB b s.s .ay).body)).length,by show _<=calls b (lq b (bB b s.s .ay)).s;rw[hc1];omega,?_,?_⟩
  .show b.M'.dropWhile _=(b.M'.take (calls b (lq b (bB b s.s .ay)).s)).drop _;rw[hc1,iR,iV]
   conv=>rhs;rw[<-hsp]
   rw[Eb (by simp[hsp]),List.drop_of_length_le (by simp[hsp])];simp
  .show od b ([]++(b.M'.takeWhile (kf (bB b s.s .ay).body)).map (mG (bB b s.s .ay).high)) 0 _;rw[j6];refine⟨by simp,λi x f hx hf=>?_⟩;rw[qX,Zq8]at hx;obtain⟨g,e1,rfl⟩:=hx;have:b.M'[i]?=some g:=by
    rw[<-hsp,Cv (jn.1 e1).1];exact e1
   rw[iV,this]at hf;obtain rfl:=Option.some.inj hf;exact⟨rfl,rfl,rfl,rfl,Int.le_refl _⟩
 .rename_i hn0;split
  .intro _;have hcs:calls b (⟨s.s.atom,s.s.done,s.s.free&&decide (s.s.atom<b.atoms.length)⟩:Xp)=calls b s.s:=by
    unfold calls;split
    .rename_i h1;have:¬s.s.free=true:=λh=>hn0 ⟨h1,h⟩;simp[this]
    .rfl
   refine⟨j0,?_,?_,?_⟩
   .show m+j0<=calls b (⟨s.s.atom,s.s.done,s.s.free&&decide (s.s.atom<b.atoms.length)⟩:Xp);rw[hcs];exact t1
   .show(cC (aV b s.s).body s.bx 0).2.1=(b.M'.take (calls b (⟨s.s.atom,s.s.done,s.s.free&&decide (s.s.atom<b.atoms.length)⟩:Xp))).drop _;rw[hcs];exact t2
   .exact t3
  .rename_i hf;intro hcut;have hfm:bS b.atoms s.s:=Xq.2.resolve_right λh=>hf (.inl h.1);have W6:b.atoms≠[]:=λh=>by have:=hfm.1;rw[h]at this;simp at this;omega
   have hC:calls b s.s=gQ b.M' (fQ s.s):=by rw[calls,ao W6]
   have hleft:(cC (aV b s.s).body s.bx 0).2.1=[]:=Decidable.byContradiction λh=>hf (.inr (.inl h));have hCl:=CI b s.s;have hmj:m+j0=gQ b.M' (fQ s.s):=by
    rw[hleft]at t2;have:=congrArg List.length t2;simp only[List.length_nil,oG,gO]at this;omega
   have hrl:cj b (bP b s)<=b.atoms.length:=oZ;have XU:=hb.brk;have hbody:=gv hb.toBkFull s.s hfm.1.1;have key:∀(to kept shift body:Int) (t:Xp),fQ s.s<=to->fQ t=to->∀(hls:List Xs) (hpd:List T'),hls=(bP b s).ls++(cu b.atoms b.M' s.s to kept shift body).1.map (mG (aV b s.s).high)->hpd=(cu b.atoms b.M' s.s to kept shift body).2->
    ∃j,m+j<=calls b t/\hpd=(b.M'.take (calls b t)).drop (m+j)/\od b hls m j:=λto kept shift body t g1 g2 hls hpd g3 g4=>by
    obtain⟨j1,u1,u2,u3⟩:=HO ha hfm (kept:=kept) (shift:=shift) (body:=body) (high:=(aV b s.s).high) g1;have hct:calls b t=gQ b.M' to:=by rw[calls,ao W6,g2]
    rw[<-hmj]at u1 u2 u3;refine⟨j0+j1,by rw[hct];omega,by rw[g4,u2,hct,Nat.add_assoc],?_⟩;rw[g3];exact od.app t3 u3
   show∃j,m+j<=calls b (dQ b (bP b s)).s/\(dQ b (bP b s)).bx=(b.M'.take (calls b (dQ b (bP b s)).s)).drop (m+j)/\od b (cZ b (bP b s)).ls m j;have hcb:fQ s.s<=s.s.atom+1:=by unfold fQ;split<;>omega
   unfold cZ dQ;by_cases WL:eD b.L' (bP b s).s.atom (cj b (bP b s))
   .rw[aq WL,aq WL];obtain⟨c,c1,c2,c3⟩:=qL WL (by omega);rw[show p9 b (bP b s)=c from c1,fc];have c2':s.s.atom<c:=c2;exact key c (cD b (bP b s)) (bP b s).shift (bP b s).body _ (by omega) (by show fQ ⟨c,0,_⟩=c;rfl) _ _ rfl rfl
   .rw[ao WL,ao WL];have hso:kZ b.atoms s.s (aV b s.s).body:=⟨hfm,hbody⟩
    refine key (s.s.atom+1) 0 0 (bP b s).body _ hcb ?_ _ _ rfl rfl;show fQ (dp b.atoms s.s (aV b s.s).body)=_;rw[dp,aq hso,iQ];obtain⟨⟨h3,h4⟩,h5,h6⟩:=hfm;split
    .rename_i H';simp only[dE,Xs.cut,Xs.bN,fe]at H'|-;unfold fQ;simp only;rw[aq];obtain⟨k,hk⟩:∃k:Nat,s.s.atom=k:=⟨s.s.atom.toNat,by omega⟩
     have hp:=hb.pos _ (XI (show k<b.atoms.length by omega));rw[hk,bg (show k<b.atoms.length by omega)]at h6 H'|-;omega
    .rfl
def wN(L:List (Option Xd))(i:Nat):(qS L)[i]?=(L[i]?).map (pgN i):=by
 unfold qS;rw[qX];by_cases h:i<L.length
 .rw[List.getElem?_range h,ZF h];simp[h]
 .rw[oE (by simpa using h),oE (by omega)];rfl
structure NdI(s:WS)(a:Nat):Prop where
 pw:s.B'.Pairwise λf g=>f.node<g.node
 q:∀f∈s.B',f.node<a
def NdI.more{s t:WS}{a b:Nat}(h:NdI s a)(hf:t.B'=s.B')(ha:a<=b):NdI t b:=⟨by rw[hf];exact h.pw,λf ZW=>by rw[hf]at ZW;have:=h.q f ZW;omega⟩
def Gm(fs:List T')(f:T')(y:Int)(s:XR):∃g,sJ fs f y s=fs++[g]/\g.node=f.node:=⟨_,rfl,by unfold ji;(repeat' split)<;>rfl⟩
def CL{rs:List Rm}(s:WS)(a:Nat)(n:Nd):(s.text rs a n).B'=s.B':=by
 unfold WS.text;generalize dc _ _ _ _ _ _ _ _=L
 induction L generalizing s with
 |nil=>rfl
 |cons x L ih=>exact ih (s.put _)
def NdI.float{rs:List Rm}{s:WS}{a b:Nat}(h:NdI s a)(n:Nd)(hab:a<b):NdI (s.float rs a n) b:=by
 obtain⟨g,e,ha⟩:=Gm s.B' ⟨a,n.side,s.atoms.length,0,0,n.w,n.h⟩ (s.WV.y+s.WV.m) (ee rs a);have e':(s.float rs a n).B'=s.B'++[g]:=e;have ha':g.node=(a:Int):=ha;refine⟨?_,λf hf=>?_⟩
 .rw[e',List.pairwise_append];refine⟨h.pw,by simp,λf hf y hy=>?_⟩;rw[jV.1 hy,ha'];exact h.q f hf
 .rw[e']at hf;rcases dD.1 hf with hf|hf
  .have:=h.q f hf;omega
  .rw[jV.1 hf,ha'];omega
def lU{l:List Nd}{rs:List Rm}:∀(k a e:Nat) (s:WS),e<=l.length->bW l a e=true->a<=e->NdI s a->NdI (df l rs k a e s) e
 |0,a,e,s,_,_,hae,h=>h.more rfl hae
 |k+1,a,e,s,he,hr,hae,h=>by
  rw[df];split
  .rename_i H';obtain⟨h1,h2⟩:=cL he hr (Xm a) H';obtain⟨h3,h4⟩:=dB he hr H';have h5:a+(Xl l a).toNat<=e:=by omega
   have h6:a+1<=a+(Xl l a).toNat:=by omega
   split
   .exact lU k _ _ _ he h3 h5 ((lU k _ _ (s.enter (Xf l a).st) (by omega) h4 h6 (h.more rfl (by omega))).more rfl (Xm _))
   .split
    .exact lU k _ _ _ he h3 h5 (h.more (CL _ _ _) (by omega))
    .split
     .exact lU k _ _ _ he h3 h5 (h.more rfl (by omega))
     .exact lU k _ _ _ he h3 h5 (h.float _ (by omega))
  .exact h.more rfl hae
def KL{l:List Nd}(hb:Xw l=true)(w:Int):(cB l w).B'.Pairwise λf g=>f.node<g.node:=by
 have hr:bW l 0 l.length=true:=by simp only[Xw,Ba]at hb;exact hb.2
 have h:=lU (l:=l) (rs:=gH l w) l.length 0 l.length ⟨[],[],0,⟨0,0⟩⟩ (Xm _) hr (Nat.zero_le _) ⟨by simp,by simp⟩;have e2:(cB l w).B'=(df l (gH l w) l.length 0 l.length ⟨[],[],0,⟨0,0⟩⟩).B'.map (oD (df l (gH l w) l.length 0 l.length ⟨[],[],0,⟨0,0⟩⟩).atoms.length):=rfl;rw[e2,List.pairwise_map];exact h.pw.imp λhab=>hab
structure X6 where
 last:Xs
 parts:Nat
 B':Nat
 shown:Int->Nat
def X6.nil:X6:=⟨⟨0,0,0,0,0,0,0⟩,0,0,λ_=>0⟩
def eX(t:X6)(p:Xd):X6:=⟨p.fs.getLast?.getD t.last,t.parts+p.fs.length,t.B'+(if p.kind=2 then 1 else 0),λn=>t.shown n+(p.ls.filter λf=>decide (f.node=n)).length⟩
def nB(n:Int):Prop:=n< -1152921504606846976\/n>1152921504606846976
instance (n:Int):Decidable (nB n):=by unfold nB;infer_instance
def gZ(b:Bk)(t:X6):Option Xp:=
 if t.parts=0 then some ⟨0,0,decide ((b.atoms.length:Int)>0\/t.B'=0)⟩
 else if t.last.atom<0\/t.last.atom>=b.atoms.length\/nB t.last.fr\/nB t.last.h then none
 else if t.last.fr+t.last.h<(XV b.atoms t.last.atom).h then(if t.last.fr+t.last.h>0 then some ⟨t.last.atom,t.last.fr+t.last.h,false⟩else none)
 else some ⟨t.last.atom+1,0,decide (t.last.atom+1<b.atoms.length/\(Yt b.L' (t.last.atom+1).toNat).forced≠0)⟩
def iC(b:Bk)(f:T')(s:Xp):Bool:=if(b.atoms.length:Int)=0 then !s.free else decide (f.anchor<s.atom\/f.anchor=s.atom/\s.done>0)
def stateT(b:Bk)(t:X6):Option XE:=(gZ b t).map λs=>⟨s,b.M'.filter λf=>iC b f s&&decide (t.shown f.node=0)⟩
def fv(b:Bk)(p:Xd)(s:Xp)(no:Int):Prop:=p.kind=1/\¬s.done>0/\((Yt b.L' s.atom.toNat).forced=3/\no%2=1\/(Yt b.L' s.atom.toNat).forced=4/\no%2=0)
instance (b:Bk) (p:Xd) (s:Xp) (no:Int):Decidable (fv b p s no):=by unfold fv;infer_instance
def dH(b:Bk)(t:X6)(no:Int):Option Xd:=
 if(b.atoms.length:Int)+b.M'.length=0 then(if no=1 then some ⟨no,3,[],[],[]⟩else none)
 else match stateT b t with
 |none=>none
 |some s=>if cH b s then none else if fv b (aG b s).1 s.s no then some ⟨no,3,[],[],[]⟩else some { (aG b s).1 with no:=no }
def Bg{l:List Xv}:∀{fs:List Xs} {a d a' d':Int} {f:Xs},goP l a d fs=some (a',d')->fs.getLast?=some f->0<=d->
 (0<=f.atom/\f.atom<l.length)/\0<=f.fr/\1<=f.h/\f.fr+f.h<=(XV l f.atom).h/\(if f.fr+f.h=(XV l f.atom).h then a'=f.atom+1/\d'=0 else a'=f.atom/\d'=f.fr+f.h)
 |[],_,_,_,_,_,_,h,_=>by simp at h
 |x::r,a,d,a',d',f,hg,hl,hd=>by
  rw[goP]at hg;split at hg
  .rename_i hx;obtain⟨h1,h2,h3,h4,h5,h6,h7,h8⟩:=hx;cases r with
   |nil=>
    simp only[List.getLast?_singleton,aI]at hl;subst hl;rw[h2,h4];refine⟨h1,hd,h5,h8,?_⟩;split at hg
    .rename_i he;rw[aq he];simp only[goP,aI,Prod.mk.injEq]at hg;omega
    .rename_i he;rw[ao he];simp only[if_true,aI,Prod.mk.injEq]at hg;omega
   |cons y r=>
    rw[List.getLast?_cons_cons]at hl;split at hg
    .exact Bg hg hl (Int.le_refl _)
    .simp at hg
  .cases hg
structure Told(b:Bk)(t:X6)(s:XE)(m:Nat):Prop where
 st:gZ b t=some s.s
 sh:∀i f,b.M'[i]?=some f->(t.shown f.node=0↔m<=i)
 le:m<=calls b s.s
 pe:s.bx=(b.M'.take (calls b s.s)).drop m
 n0:b.atoms=[]->t.parts=0/\s.s.atom=0/\s.s.done=0
def tU{α:Type}{p:α->Bool}:∀{L:List α} {m:Nat},(∀i f,L[i]?=some f->(p f=true↔m<=i))->L.filter p=L.drop m
 |[],m,_=>by simp
 |x::L,0,h=>by
  rw[wV,List.filter_eq_self];intro a ha;obtain⟨i,hi⟩:=DE ha;exact(h i a hi).2 (Nat.zero_le i)
 |x::L,m+1,h=>by
  have h0:¬(p x=true):=λe=>by have:=(h 0 x rfl).1 e;omega
  rw[List.filter_cons_of_neg h0,Em];exact tU λi f hf=>by rw[h (i+1) f hf];omega
def CE{b:Bk}(ha:b.M'.Pairwise λf g=>f.anchor<=g.anchor)(s:Xp):(b.M'.filter λf=>iC b f s)=b.M'.take (calls b s):=by
 unfold calls iC;by_cases h0:b.atoms=[]
 .rw[aq h0];simp only[h0,List.length_nil,Int.ofNat_zero,if_true];cases s.free<;>simp
 .rw[ao h0];have hp:=py.2 h0;rw[<-Ax ha];refine List.filter_congr λf _=>?_;rw[ao (by omega)];unfold fQ;rw[decide_eq_decide];split<;>omega
def wX{b:Bk}(ha:b.M'.Pairwise λf g=>f.anchor<=g.anchor){t:X6}{s:XE}{m:Nat}(h:Told b t s m):stateT b t=some s:=by
 unfold stateT;rw[h.st,Option.map_some];have h1:(b.M'.filter λf=>iC b f s.s&&decide (t.shown f.node=0))=(b.M'.take (calls b s.s)).drop m:=by
  have h2:(b.M'.filter λf=>iC b f s.s&&decide (t.shown f.node=0))=(b.M'.filter λf=>iC b f s.s).filter λf=>decide (t.shown f.node=0):=by
   rw[List.filter_filter];exact List.filter_congr λf _=>Bool.and_comm _ _
  rw[h2,CE ha];refine tU λi f hf=>?_;rw[List.getElem?_take]at hf;split at hf
  .rw[Zs];exact h.sh i f hf
  .cases hf
 rw[h1,<-h.pe]
def Hx{b:Bk}{s:XE}(h:(aG b s).1.kind=1)(hd:(aG b s).2.s.done>0):(aG b s).2.s.free=false:=by
 revert h hd;unfold aG;split
 .intro _ _;rfl
 .split
  .intro h _;simp[kH]at h
  .intro _;unfold dQ;split
   .intro h;simp[xJ]at h
   .intro _;simp only[uv,dp,iQ]
    (repeat' split)<;>rfl
def Ef{b:Bk}(hb:bJ b)(hz:(Yt b.L' b.atoms.length).forced=0){t:X6}{s:XE}(he:¬cH b s)(n0:b.atoms=[]->t.parts=0/\s.s.atom=0/\s.s.done=0)(WY:gZ b t=some s.s)(no:Int):
 gZ b (eX t { (aG b s).1 with no:=no })=some (aG b s).2.s:=by
 have hg:=eu hb he;have hpp:=pS hb he;rcases hg.kd with k|k
 .obtain⟨hm,h1,h2,hc⟩:=hg.cut k;have hfr:=Hx k;generalize aG b s=x at*;obtain⟨p,u⟩:=x;simp only at*;obtain⟨f,hf⟩:∃f,p.fs.getLast?=some f:=by
   cases hl:p.fs with
   |nil=>rw[hl]at h1;simp at h1
   |cons a r=>exact⟨_,List.getLast?_cons⟩
  obtain⟨g1,g2,g3,g4,g5⟩:=Bg hpp hf hm.2.1;have hH:(XV b.atoms f.atom).h<=18014398509481984:=by
   obtain⟨k',Yc⟩:∃k':Nat,f.atom=k':=⟨f.atom.toNat,by omega⟩
   have Yn:k'<b.atoms.length:=by omega
   rw[Yc,bg Yn];exact(hb.tight _ (XI Yn)).2.2.2
  have e1:(eX t { p with no:=no }).parts=t.parts+p.fs.length:=rfl;have e2:(eX t { p with no:=no }).last=f:=by
   show p.fs.getLast?.getD t.last=f;rw[hf];rfl
  unfold gZ;rw[e1,e2,ao (by omega),ao (by unfold nB;omega)];obtain⟨⟨ua,ud,uf⟩,up⟩:=u;simp only at*;by_cases hq:f.fr+f.h=(XV b.atoms f.atom).h
  .rw[aq hq]at g5;obtain⟨rfl,rfl⟩:=g5;rw[ao (by omega)];cases hc with
   |more q1 q2 q3 q4 q5=>
    cases hl:p.fs with
    |nil=>rw[hl]at h1;simp at h1
    |cons a r=>
     have hr:r=[]:=by rw[hl]at q2;simpa using q2
     subst hr;rw[hl]at hf;simp only[List.getLast?_singleton,aI]at hf;subst hf;have:=q4 a (by rw[hl];rfl);have:=hm.2.1;simp only at q5;omega
   |whole c r y q1 q2 q3 q4 q5 q6 q7 q8 q9=>
    simp only[Xp.mk.injEq]at q1;obtain⟨qa,-,qf⟩:=q1;rw[qf];congr 2;rw[decide_eq_decide,show(f.atom+1).toNat=c by omega];constructor
    .exact λh=>h.2
    .intro h;refine⟨?_,h⟩;rcases Nat.lt_or_ge c b.atoms.length with h'|h'
     .omega
     .have:c=b.atoms.length:=by omega
      rw[this]at h;exact absurd hz h
  .rw[ao hq]at g5;obtain⟨rfl,rfl⟩:=g5;rw[aq (by omega),aq (by omega),hfr (by omega)]
 .have Xa:=hg.no' k;have e1:(eX t { (aG b s).1 with no:=no }).parts=t.parts:=by show t.parts+(aG b s).1.fs.length=_;rw[Xa];rfl
  have e2:(eX t { (aG b s).1 with no:=no }).last=t.last:=by show(aG b s).1.fs.getLast?.getD t.last=_;rw[Xa];rfl
  have e3:(eX t { (aG b s).1 with no:=no }).B'=t.B'+1:=by show t.B'+(if(aG b s).1.kind=2 then 1 else 0)=_;rw[aq k]
  have hst':=WY;unfold gZ at WY|-;rw[e1,e2,e3];have hu:(b.atoms=[]/\(aG b s).2.s=⟨0,0,false⟩)\/(aG b s).2.s=⟨s.s.atom,s.s.done,s.s.free&&decide (s.s.atom<b.atoms.length)⟩:=by
   unfold aG at k|-;split
   .rename_i h0;exact .inl ⟨h0.1,rfl⟩
   .rename_i h0;rw[ao h0]at k;split
    .exact .inr rfl
    .rename_i hf;rw[ao hf]at k;have hk:=(iu b (bP b s)).2;have:(cZ b (bP b s)).kind=2:=k;rw[hk]at this;cases this
  clear e1 e2 e3;rcases hu with⟨h0,hu⟩|hu
  .rw[aq (n0 h0).1,h0,hu];simp
  .rw[hu];by_cases hp:t.parts=0
   .rw[aq hp]at WY|-;simp only[aI]at WY;rw[<-WY];simp only[<-Bool.decide_and];congr 2;rw[decide_eq_decide];omega
   .rw[ao hp]at WY|-;split at WY
    .cases WY
    .rename_i hq;rw[ao hq];split at WY
     .rename_i hr;rw[aq hr];split at WY
      .rename_i hr';rw[aq hr'];simp only[aI]at WY;rw[<-WY];simp
      .cases WY
     .rename_i hr;rw[ao hr];simp only[aI]at WY;rw[<-WY];simp only[<-Bool.decide_and];congr 2;rw[decide_eq_decide];exact⟨λh=>⟨h,h.1⟩,λh=>h.1⟩
def LM{L:List T'}(hn:L.Pairwise λf g=>f.node<g.node){i j:Nat}{f g:T'}(hi:L[i]?=some f)(hj:L[j]?=some g)(h:f.node=g.node):i=j:=by
 obtain⟨h1,h2⟩:=jn.1 hi;obtain⟨h3,h4⟩:=jn.1 hj;have hp:=List.pairwise_iff_getElem.1 hn;rcases Nat.lt_trichotomy i j with hl|hl|hl
 .have:=hp i j h1 h3 hl;rw[h2,h4]at this;omega
 .exact hl
 .have:=hp j i h3 h1 hl;rw[h2,h4]at this;omega
def G5{b:Bk}(hb:bJ b)(hz:(Yt b.L' b.atoms.length).forced=0)(ha:b.M'.Pairwise λf g=>f.anchor<=g.anchor)(hn:b.M'.Pairwise λf g=>f.node<g.node){t:X6}{s:XE}{m:Nat}(h:Told b t s m)(he:¬cH b s)(no:Int):
 ∃j,Told b (eX t { (aG b s).1 with no:=no }) (aG b s).2 (m+j):=by
 obtain⟨j,g1,g2,g3⟩:=B4 hb ha he h.le h.pe;have WY:=Ef hb hz he h.n0 h.st no;refine⟨j,WY,λi f hf=>?_,g1,g2,λh0=>?_⟩
 .have hi:=(jn.1 hf).1;have e:(eX t { (aG b s).1 with no:=no }).shown f.node=t.shown f.node+((aG b s).1.ls.filter λx=>decide (x.node=f.node)).length:=rfl;rw[e];have hs:=h.sh i f hf;constructor
  .intro h1;have h2:t.shown f.node=0:=by omega
   have h3:=hs.1 h2;refine Nat.le_of_not_lt λH'=>?_;have Zy:i-m<(aG b s).1.ls.length:=by rw[g3.len];omega
   have hx:=g3.fit (i-m) _ f (ZF Zy) (by rw[show m+(i-m)=i by omega];exact hf);have hmem:(aG b s).1.ls[i-m]∈(aG b s).1.ls.filter λx=>decide (x.node=f.node):=tm.2 ⟨XI Zy,by simpa using hx.1⟩;have:=List.length_pos_of_mem hmem;omega
  .intro h1;have h2:t.shown f.node=0:=hs.2 (by omega);have h3:((aG b s).1.ls.filter λx=>decide (x.node=f.node))=[]:=by
    rw[List.filter_eq_nil_iff];intro x hx hxe;obtain⟨k,hk⟩:=DE hx;have Yn:=(jn.1 hk).1;rw[g3.len]at Yn;have hml:m+k<b.M'.length:=by omega
    have:=g3.fit k x _ hk (ZF hml);have hq:(b.M'[m+k]).node=f.node:=by rw[<-this.1];simpa using hxe
    have:=LM hn (ZF hml) hf hq;omega
   rw[h2,h3];rfl
 .obtain⟨z1,z2,z3⟩:=h.n0 h0;have hg:=eu hb he;have Yu:(aG b s).1.fs=[]:=by
   rcases hg.kd with k|k
   .have:=(hg.cut k).1.1;rw[h0]at this;simp at this;omega
   .exact hg.no' k
  have hpp:=pS hb he;rw[Yu]at hpp;simp only[goP,aI,Prod.mk.injEq]at hpp;refine⟨?_,by omega,by omega⟩;show t.parts+(aG b s).1.fs.length=0;rw[Yu,z1];rfl
def DD{b:Bk}{t:X6}{s:XE}{m:Nat}(h:Told b t s m)(no:Int):Told b (eX t ⟨no,3,[],[],[]⟩) s m:=by
 have e:eX t ⟨no,3,[],[],[]⟩=t:=by
  unfold eX;simp
 rw[e];exact h
def jL:Nat->List (Option Xd)->List Xd
 |_,[]=>[]
 |k,x::r=>pgN k x::jL (k+1) r
def Da:∀(L:List (Option Xd)) (k i:Nat),(jL k L)[i]?=(L[i]?).map (pgN (k+i))
 |[],k,i=>by simp[jL]
 |x::r,k,0=>by simp[jL]
 |x::r,k,i+1=>by
  rw[jL,uP,uP,Da r (k+1) i,show k+1+i=k+(i+1) by omega]
def zq(L:List (Option Xd)):jL 0 L=qS L:=by
 refine List.ext_getElem? λi=>?_;rw[Da,wN,iV]
def cd(t:X6)(P:List Xd)(i:Nat):X6:=(P.take i).foldl eX t
def mr{b:Bk}{s:XE}(no:Int):fv b (aG b s).1 s.s no↔0<=gN b s/\no%2≠gN b s:=by
 unfold fv gN tX;split
 .constructor
  .intro h;omega
  .intro h;omega
 .split
  .omega
  .split
   .omega
   .constructor
    .intro h;omega
    .intro h;omega
def pX{b:Bk}(h0:¬((b.atoms.length:Int)+b.M'.length=0))(ha:b.M'.Pairwise λf g=>f.anchor<=g.anchor){t:X6}{s:XE}{m:Nat}(h:Told b t s m)(no:Int):
 dH b t no=if cH b s then none else if fv b (aG b s).1 s.s no then some ⟨no,3,[],[],[]⟩else some { (aG b s).1 with no:=no }:=by
 unfold dH;rw[ao h0,wX ha h]
def Cx{b:Bk}(hb:bJ b){L:Int}(hL:oV b L)(hz:(Yt b.L' b.atoms.length).forced=0)(h0:¬((b.atoms.length:Int)+b.M'.length=0))(ha:b.M'.Pairwise λf g=>f.anchor<=g.anchor)(hn:b.M'.Pairwise λf g=>f.node<g.node):
 ∀(f:Nat) (s:XE) (k:Nat) (t:X6) (m:Nat),Told b t s m->mu2 b L s<f->∀i,i<=(ZE b f s k).length->dH b (cd t (jL k (ZE b f s k)) i) ((k:Int)+i+1)=(jL k (ZE b f s k))[i]?/\∃s' m',Told b (cd t (jL k (ZE b f s k)) i) s' m'
 |0,s,k,t,m,_,h,_,_=>by omega
 |f+1,s,k,t,m,ht,h,i,hi=>by
  rw[ZE]at hi|-;by_cases he:cH b s
  .rw[aq he]at hi|-;have hi0:i=0:=by simpa using hi
   subst hi0;have e:cd t (jL k []) 0=t:=rfl;rw[e];refine⟨?_,s,m,ht⟩;rw[pX h0 ha ht,aq he];rfl
  .rw[ao he]at hi|-;have W6:=wT hb hL he;have one:∀(k':Nat) (t':X6) (m':Nat),Told b t' s m'->¬fv b (aG b s).1 s.s ((k':Int)+1)->∀i,i<=(some (aG b s).1::ZE b f (aG b s).2 ((k':Int)+1)).length->
    dH b (cd t' (jL k' (some (aG b s).1::ZE b f (aG b s).2 ((k':Int)+1))) i) ((k':Int)+i+1)=(jL k' (some (aG b s).1::ZE b f (aG b s).2 ((k':Int)+1)))[i]?/\
    ∃s' m'',Told b (cd t' (jL k' (some (aG b s).1::ZE b f (aG b s).2 ((k':Int)+1))) i) s' m'':=by
    intro k' t' m' ht' hsd i hi;cases i with
    |zero=>
     refine⟨?_,s,m',ht'⟩;have e:cd t' (jL k' (some (aG b s).1::ZE b f (aG b s).2 ((k':Int)+1))) 0=t':=rfl;rw[e,pX h0 ha ht',ao he,Int.ofNat_zero,Int.add_zero,ao hsd];rfl
    |succ i=>
     obtain⟨j,hj⟩:=G5 hb hz ha hn ht' he ((k':Int)+1);have e:cd t' (jL k' (some (aG b s).1::ZE b f (aG b s).2 ((k':Int)+1))) (i+1)=cd (eX t' { (aG b s).1 with no:=(k':Int)+1 }) (jL (k'+1) (ZE b f (aG b s).2 ((k':Int)+1))) i:=rfl;have e2:(jL k' (some (aG b s).1::ZE b f (aG b s).2 ((k':Int)+1)))[i+1]?=(jL (k'+1) (ZE b f (aG b s).2 ((k':Int)+1)))[i]?:=by rw[jL,uP]
     rw[e,e2];have:=Cx hb hL hz h0 ha hn f (aG b s).2 (k'+1) _ _ hj (by omega) i (by simp at hi;rw[show((k'+1:Nat):Int)=(k':Int)+1 by omega];omega);rw[show((k'+1:Nat):Int)=(k':Int)+1 by omega]at this;rw[show(k':Int)+((i+1:Nat):Int)+1=(k':Int)+1+i+1 by omega];exact this
   by_cases hw:0<=gN b s/\((k:Int)+1)%2≠gN b s
   .rw[aq hw]at hi|-;have hsd:=(mr (b:=b) (s:=s) ((k:Int)+1)).2 hw;cases i with
    |zero=>
     refine⟨?_,s,m,ht⟩;have e:∀P,cd t (jL k P) 0=t:=λP=>rfl;rw[e,pX h0 ha ht,ao he,Int.ofNat_zero,Int.add_zero,aq hsd];rfl
    |succ i=>
     have ZO:(k:Int)+2=((k+1:Nat):Int)+1:=by omega
     rw[ZO]at hi|-;have e:∀P,cd t (jL k (none::P)) (i+1)=cd (eX t ⟨(k:Int)+1,3,[],[],[]⟩) (jL (k+1) P) i:=λP=>rfl;have e2:∀P,(jL k (none::P))[i+1]?=(jL (k+1) P)[i]?:=λP=>by rw[jL,uP]
     rw[e,e2];have hsd2:¬fv b (aG b s).1 s.s (((k+1:Nat):Int)+1):=by
      rw[mr];have:gN b s=0\/gN b s=1:=by
       unfold gN tX at hw|-;split at hw
       .omega
       .rename_i hc;rw[ao hc];split
        .omega
        .split
         .omega
         .rename_i h3 h4;rw[ao h3,ao h4]at hw;omega
      omega
     have:=one (k+1) _ m (DD ht ((k:Int)+1)) hsd2 i (by simp at hi|-;omega);rw[show(k:Int)+((i+1:Nat):Int)+1=((k+1:Nat):Int)+i+1 by omega];exact this
   .rw[ao hw]at hi|-;exact one k t m ht (λhs=>hw ((mr _).1 hs)) i hi
def mC{l:List Nd}(hl:cT l){w h:Int}(he:cE l w h=0)(i:Nat)(hi:i<=(bL (aP l w h)).length):
 dH (aP l w h) (cd .nil (bL (aP l w h)) i) ((i:Int)+1)=(bL (aP l w h))[i]?/\(stateT (aP l w h) (cd .nil (bL (aP l w h)) i)).isSome=true:=by
 have hb:=de hl he;have hL:=mV he;obtain⟨g1,g2⟩:=Lk l w;have hn:(aP l w h).M'.Pairwise λf g=>f.node<g.node:=KL hb.isb w;have hz:(Yt (aP l w h).L' (aP l w h).atoms.length).forced=0:=by
  have h1:(aP l w h).L'=rf l (ofR l w):=rfl;have h2:(aP l w h).atoms.length=(ofR l w).length:=by unfold ofR aP;simp
  rw[h1,h2];unfold Yt rf;rw[pW,qX,List.getElem?_range (by omega)];simp[bkR,jJ,jI,cV]
 have ha:(aP l w h).M'.Pairwise λf g=>f.anchor<=g.anchor:=g1;have h0a:∀f∈(aP l w h).M',0<=f.anchor:=λf hf=>(g2 f hf).1;clear g1 g2;generalize aP l w h=b at*;unfold bL at hi|-;by_cases h0:(b.atoms.length:Int)+b.M'.length=0
 .rw[aq h0]at hi|-;simp only[List.length_singleton]at hi;have WY:∀t:X6,t.parts=0->(stateT b t).isSome=true:=λt ht=>by
   unfold stateT gZ;rw[aq ht];rfl
  rcases Nat.lt_or_ge i 1 with h1|h1
  .have:i=0:=by omega
   subst this;refine⟨?_,WY _ rfl⟩;unfold dH;rw[aq h0];rfl
  .have:i=1:=by omega
   subst this;refine⟨?_,WY _ rfl⟩;unfold dH;rw[aq h0];rfl
 .rw[ao h0,<-zq]at hi|-;have hc:calls b (⟨0,0,true⟩:Xp)=0:=by
   unfold calls;split
   .rfl
   .show gQ b.M' 0=0;unfold gQ;rw[rV h0a];rfl
  have ht:Told b .nil ⟨⟨0,0,true⟩,[]⟩ 0:=by
   refine⟨?_,λi f _=>by simp[X6.nil],Nat.zero_le _,?_,λ_=>⟨rfl,rfl,rfl⟩⟩
   .unfold gZ;simp[X6.nil]
   .show[]=(b.M'.take (calls b (⟨0,0,true⟩:Xp))).drop 0;rw[hc];rfl
  have Zy:i<=(ZE b 1000000001 ⟨⟨0,0,true⟩,[]⟩ 0).length:=by
   rw[zq,wi]at hi;exact hi
  obtain⟨q1,s',m',q2⟩:=Cx hb hL hz h0 ha hn 1000000001 ⟨⟨0,0,true⟩,[]⟩ 0 .nil 0 ht (by have:=sW hL;omega) i Zy;refine⟨?_,by
   have:=wX ha q2;simp only[Int.ofNat_zero]at this|-;rw[this];rfl⟩
  rw[show((0:Nat):Int)+i+1=(i:Int)+1 by omega]at q1;exact q1
instance:DecidableEq Xd:=λa b=>decidable_of_iff (a.no=b.no/\a.kind=b.kind/\a.hs=b.hs/\a.fs=b.fs/\a.ls=b.ls) (by cases a;cases b;simp)
def uK(f:Xs):Int×Int×Int×Int:=(f.node,f.atom,f.fr,f.h)
def fi(j p:Xd):Int:=
 if p.no≠j.no then 1
 else if¬(j.kind≠3\/p.kind=3)then 2
 else if¬(p.kind=j.kind/\(j.kind≠3\/¬((p.hs.length:Int)+p.fs.length+p.ls.length>0)))then 3
 else if p.hs≠j.hs then 4
 else if p.fs.map uK≠j.fs.map uK then 5
 else if p.fs≠j.fs then 6
 else if p.ls.map (·.node)≠j.ls.map (·.node)then 7
 else if p.ls≠j.ls then 8 else 0
def DF(j p:Xd):0<=fi j p/\fi j p<=8:=by
 unfold fi
 (repeat' split)<;>omega
def BF{j p:Xd}(hj:j.kind=3->j.hs=[]/\j.fs=[]/\j.ls=[]):fi j p=0↔j=p:=by
 constructor
 .intro h;unfold fi at h;split at h
  .cases h
  .rename_i h1;split at h
   .cases h
   .split at h
    .cases h
    .rename_i h3;split at h
     .cases h
     .rename_i h4;split at h
      .cases h
      .split at h
       .cases h
       .rename_i h6;split at h
        .cases h
        .split at h
         .cases h
         .rename_i h8;simp only[Decidable.not_not]at h1 h3 h4 h6 h8;cases j;cases p;simp only at*;simp[h1,h3.1,h4,h6,h8]
 .rintro rfl;have h3:j.kind=j.kind/\(j.kind≠3\/¬((j.hs.length:Int)+j.fs.length+j.ls.length>0)):=by
   refine⟨rfl,?_⟩;by_cases h:j.kind=3
   .obtain⟨a,b,c⟩:=hj h;exact .inr (by rw[a,b,c];simp)
   .exact .inl h
  unfold fi;rw[ao (by simp),ao (by simpa using h2),ao (by rw[Decidable.not_not];exact h3),ao (by simp),ao (by simp),ao (by simp),ao (by simp),ao (by simp)]
def jA:List Xd->List Xd->Nat->Int×Int
 |[],[],_=>(0,0)
 |_::_,[],i=>((i:Int)+1,9)
 |[],_::_,i=>((i:Int)+1,9)
 |a::R,p::r,i=>if a=p then jA R r (i+1)else((i:Int)+1,fi a p)
def B6{b:Bk}(hb:bJ b){t:X6}{no:Int}{p:Xd}(h:dH b t no=some p)(hk:p.kind=3):p.hs=[]/\p.fs=[]/\p.ls=[]:=by
 unfold dH at h;split at h
 .split at h
  .simp only[aI]at h;subst h;exact⟨rfl,rfl,rfl⟩
  .cases h
 .split at h
  .cases h
  .split at h
   .cases h
   .rename_i he;split at h
    .simp only[aI]at h;subst h;exact⟨rfl,rfl,rfl⟩
    .simp only[aI]at h;subst h;have:=(eu hb he).kd;simp only at hk;omega
def sd{t:X6}{P:List Xd}{i:Nat}{p:Xd}(h:P[i]?=some p):cd t P (i+1)=eX (cd t P i) p:=by
 unfold cd;rw[List.take_succ,h,Option.toList_some,vz];rfl
def yL:∀(R r:List Xd) (i:Nat),(∀a∈R,a.kind=3->a.hs=[]/\a.fs=[]/\a.ls=[])->(jA R r i=(0,0)↔r=R)
 |[],[],_,_=>by simp[jA]
 |_::_,[],i,_=>by simp[jA]
 |[],_::_,i,_=>by simp[jA]
 |a::R,p::r,i,h=>by
  rw[jA];split
  .rename_i e;rw[yL R r (i+1) λx hx=>h x (by simp[hx]),e];simp
  .rename_i e;simp only[Prod.mk.injEq,List.cons.injEq];constructor
   .intro h;omega
   .intro h;exact absurd h.1.symm e
def tV{l:List Nd}(hl:cT l){w h:Int}(he:cE l w h=0):∀a∈bL (aP l w h),a.kind=3->a.hs=[]/\a.fs=[]/\a.ls=[]:=λa ha hk=>by
 obtain⟨i,hi⟩:=DE ha;have:=(mC hl he i (by have:=(jn.1 hi).1;omega)).1;exact B6 (de hl he) (this.trans hi) hk
def dj(b:Bk)(s:XE)(kind:Int):Int:=
 if kind≠1 then s.s.atom
 else jD b.atoms s.s (iW b.atoms s.s ((aV b s.s).body-(cC (aV b s.s).body s.bx 0).2.2)) (cC (aV b s.s).body s.bx 0).2.2 (aV b s.s).body
structure gn(a b:Bk)(s:Xp)(r:Int):Prop where
 r0:0<=r
 Xg:∀k:Nat,(k:Int)<=r->a.atoms[k]?=b.atoms[k]?
 bk:∀k:Nat,(k:Int)<=r->Yt a.L' k=Yt b.L' k
 fl:(a.M'.filter λf=>decide (f.anchor<=r))=b.M'.filter λf=>decide (f.anchor<=r)
 hd:(aV a s).WQ=(aV b s).WQ
 st:∀n∈(aV a s).WQ,(YG a.nodes n).head=(YG b.nodes n).head
 w:a.w=b.w
 h:a.h=b.h
def Gc{l m:List Nd}{w:Int}{L:List Int}(h:∀n∈L,(YG l n).head=(YG m n).head):hdK l w L=hdK m w L:=by
 unfold hdK
 suffices key:∀(L:List Int) (p:List Xs×Int),(∀n∈L,(YG l n).head=(YG m n).head)->L.foldl (hdS l w) p=L.foldl (hdS m w) p from key L _ h
 intro L
 induction L with
 |nil=>intro p _;rfl
 |cons x L ih=>
  intro p h;have e:hdS l w p x=hdS m w p x:=by unfold hdS;rw[h x (by simp)]
  rw[jm,jm,e];exact ih _ λn hn=>h n (by simp[hn])
def gn.hdk{a b:Bk}{s:Xp}{r:Int}(h:gn a b s r):hdK a.nodes a.w (aV a s).WQ=hdK b.nodes b.w (aV b s).WQ:=by
 rw[Gc h.st,h.w,h.hd]
def gn.aV{a b:Bk}{s:Xp}{r:Int}(h:gn a b s r)(ha:BkFull a)(hb:BkFull b)(h0:0<=s.atom):aV a s=Go.Vc.aV b s:=by
 obtain⟨-,-,a3,-,a5⟩:=rO ha s h0;obtain⟨-,-,b3,-,b5⟩:=rO hb s h0;rw[h.hdk,b5]at a5;have:=h.h;have e:=h.hd;revert a3 a5 b3 e;generalize Go.Vc.aV a s=x;generalize Go.Vc.aV b s=y;intro a3 a5 b3 e;obtain⟨x1,x2,x3⟩:=x;obtain⟨y1,y2,y3⟩:=y;simp only at*;subst e;have e2:x2=y2:=by omega
 have e3:x3=y3:=by omega
 rw[e2,e3]
def gn.XV{a b:Bk}{s:Xp}{r:Int}(h:gn a b s r){k:Int}(hk:k<=r):XV a.atoms k=Go.Vc.XV b.atoms k:=by
 have h0:=h.r0;have:=h.Xg k.toNat (by omega);unfold Go.Vc.XV;rw[pW,pW,this]
def gn.lt{a b:Bk}{s:Xp}{r:Int}(h:gn a b s r){k:Int}(h0:0<=k)(hk:k<=r):k<a.atoms.length↔k<b.atoms.length:=by
 have:=h.Xg k.toNat (by omega);constructor
 .intro H';rw[ZF (show k.toNat<a.atoms.length by omega)]at this;have:=(jn.1 this.symm).1;omega
 .intro H';rw[ZF (show k.toNat<b.atoms.length by omega)]at this;have:=(jn.1 this).1;omega
def gn.bS{a b:Bk}{s:Xp}{r:Int}(h:gn a b s r)(h1:s.atom<=r):bS a.atoms s↔Go.Vc.bS b.atoms s:=by
 unfold Go.Vc.bS;rw[h.XV h1];constructor
 .rintro⟨⟨g1,g2⟩,g3⟩;exact⟨⟨g1,(h.lt g1 h1).1 g2⟩,g3⟩
 .rintro⟨⟨g1,g2⟩,g3⟩;exact⟨⟨g1,(h.lt g1 h1).2 g2⟩,g3⟩
def gn.gap{a b:Bk}{s:Xp}{r:Int}(h:gn a b s r){k:Int}(hk:k<=r):mX a.atoms k=mX b.atoms k:=by
 unfold mX;by_cases h0:0<=k
 .have hb:fN a.atoms (k-1)=fN b.atoms (k-1):=by
   unfold fN;by_cases h1:0<=k-1
   .have:=h.lt h1 (by omega);rw[h.XV (show k-1<=r by omega)];by_cases h2:k-1<a.atoms.length
    .rw[aq ⟨h1,h2⟩,aq ⟨h1,this.1 h2⟩]
    .rw[ao λg=>h2 g.2,ao λg=>h2 (this.2 g.2)]
   .rw[ao λg=>h1 g.1,ao λg=>h1 g.1]
  have:=h.lt h0 hk;rw[h.XV hk,hb];by_cases h2:k<a.atoms.length
  .rw[aq ⟨h0,h2⟩,aq ⟨h0,this.1 h2⟩]
  .rw[ao λg=>h2 g.2,ao λg=>h2 (this.2 g.2)]
 .rw[ao λg=>h0 g.1,ao λg=>h0 g.1]
def gn.kept{a b:Bk}{s:Xp}{r:Int}(h:gn a b s r)(h1:s.atom<=r)(Xh:Int):iW a.atoms s Xh=iW b.atoms s Xh:=by
 unfold iW;rw[h.gap h1,h.XV h1];by_cases hm:Go.Vc.bS a.atoms s
 .have hm':=(h.bS h1).1 hm;simp only[hm,hm',true_and]
 .have hm':¬Go.Vc.bS b.atoms s:=λg=>hm ((h.bS h1).2 g);simp only[hm,hm',false_and]
def gn.left{a b:Bk}{s:Xp}{r:Int}(h:gn a b s r)(h1:s.atom<=r):iy a.atoms s=iy b.atoms s:=by
 unfold iy;rw[h.XV h1];by_cases hm:Go.Vc.bS a.atoms s
 .rw[aq hm,aq ((h.bS h1).1 hm)]
 .rw[ao hm,ao λg=>hm ((h.bS h1).2 g)]
def gn.place{a b:Bk}{s:Xp}{r:Int}(h:gn a b s r)(h1:s.atom<=r)(kept shift:Int){k:Int}(hk:k<=r):dh a.atoms s kept shift k=dh b.atoms s kept shift k:=by
 unfold dh;by_cases hm:Go.Vc.bS a.atoms s
 .have hm':=(h.bS h1).1 hm;have h0:=hm.1.1;by_cases hsk:s.atom<=k
  .have hl:=h.lt (show 0<=k by omega) hk;by_cases h2:k<a.atoms.length
   .rw[aq ⟨hm,hsk,h2⟩,aq ⟨hm',hsk,hl.1 h2⟩];unfold gu;rw[aq ⟨hm.1,by omega,h2⟩,aq ⟨hm'.1,by omega,hl.1 h2⟩,h.XV h1,h.XV hk]
   .rw[ao λg=>h2 g.2.2,ao λg=>h2 (hl.2 g.2.2)]
  .rw[ao λg=>hsk g.2.1,ao λg=>hsk g.2.1]
 .rw[ao λg=>hm g.1,ao λg=>hm ((h.bS h1).2 g.1)]
def gn.whole{a b:Bk}{s:Xp}{r:Int}(h:gn a b s r)(h1:s.atom<=r)(kept shift:Int){k:Int}(hk:k<=r):cF a.atoms s kept shift k=cF b.atoms s kept shift k:=by
 unfold cF;have hp:∀y,kK a.atoms k y=kK b.atoms k y:=λy=>by unfold kK fe;rw[h.XV hk]
 by_cases hm:Go.Vc.bS a.atoms s
 .have hm':=(h.bS h1).1 hm;have h0:=hm.1.1;by_cases hsk:s.atom<=k
  .have hl:=h.lt (show 0<=k by omega) hk;by_cases h2:k<a.atoms.length
   .have c1:Go.Vc.bS a.atoms s/\s.atom<=k/\k<a.atoms.length:=⟨hm,hsk,h2⟩
    have c2:Go.Vc.bS b.atoms s/\s.atom<=k/\k<b.atoms.length:=⟨hm',hsk,hl.1 h2⟩
    rw[aq c1,aq c2,h.place h1 kept shift hk,hp]
   .rw[ao λg=>h2 g.2.2,ao λg=>h2 (hl.2 g.2.2)]
  .rw[ao λg=>hsk g.2.1,ao λg=>hsk g.2.1]
 .rw[ao λg=>hm g.1,ao λg=>hm ((h.bS h1).2 g.1)]
def gn.reach{a b:Bk}(ha:bJ a)(hb:bJ b){s:Xp}{r:Int}(h:gn a b s r)(h1:s.atom<=r)(kept shift body:Int)(hm:Go.Vc.bS a.atoms s)(hr:jD a.atoms s kept shift body=r):jD b.atoms s kept shift body=r:=by
 have hm':=(h.bS h1).1 hm;obtain⟨x,x1,x2,x3,x4,x5⟩:=gW ha.Zg ha.pos hm kept shift body;obtain⟨y,y1,y2,y3,y4,y5⟩:=gW hb.Zg hb.pos hm' kept shift body;rw[y1,<-hr,x1];rcases Nat.lt_trichotomy x y with hl|hl|hl
 ·
  exfalso;have hxb:x<b.atoms.length:=by omega
  have hxa:x<a.atoms.length:=by have:=(h.lt (k:=x) (by omega) (by omega)).2 (by omega);omega
  have q1:=x5 hxa;have q2:=y4 x hxb (by omega) hl;have e:=h.Xg x (by omega);rw[ZF hxa,ZF hxb,aI]at e;rw[h.place h1 kept shift (by omega),e]at q1;omega
 .rw[hl]
 .exfalso;have hya:y<a.atoms.length:=by omega
  have hyb:y<b.atoms.length:=by have:=(h.lt (k:=y) (by omega) (by omega)).1 (by omega);omega
  have q1:=y5 hyb;have q2:=x4 y hya (by omega) hl;have e:=h.Xg y (by omega);rw[ZF hya,ZF hyb,aI]at e;rw[h.place h1 kept shift (by omega),e]at q2;omega
def gn.called{a b:Bk}{s:Xp}{r:Int}(h:gn a b s r){to:Int}(ht:to<=r+1):dG a.M' s to=dG b.M' s to:=by
 unfold dG tP mf pQ;generalize (if s.done>0 then s.atom+1 else s.atom)=fr;have key:∀L:List T',(L.filter λf=>!decide (f.anchor<fr\/f.anchor>=to))=(L.filter λf=>decide (f.anchor<=r)).filter λf=>!decide (f.anchor<fr\/f.anchor>=to):=λL=>by
  rw[List.filter_filter];refine List.filter_congr λf _=>?_;by_cases hc:f.anchor<fr\/f.anchor>=to
  .simp[hc]
  .have:f.anchor<=r:=by omega
   simp[hc,this]
 rw[key a.M',key b.M',h.fl]
def gn.here{a b:Bk}{s:Xp}{r:Int}(h:gn a b s r)(h1:s.atom<=r){to:Int}(ht:to<=r+1)(kept shift body:Int):cu a.atoms a.M' s to kept shift body=cu b.atoms b.M' s to kept shift body:=by
 unfold cu sQ;rw[h.called ht,h.XV h1];by_cases hm:Go.Vc.bS a.atoms s
 .rw[aq hm,aq ((h.bS h1).1 hm)]
 .rw[ao hm,ao λg=>hm ((h.bS h1).2 g)]
end Go.Vc
