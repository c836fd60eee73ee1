import Derived.Test.YtompjkkmfibkiaaGreatW9
set_option linter.all false
set_option maxHeartbeats 8000000
set_option maxRecDepth 100000
open Go.Proofs.Tryz
namespace Go.Vc
open Go.Proofs
def ij(body:Int)(f:T'):Bool:=decide (f.y+f.h<=body)
def uS(b:Bk)(x:Wx):Wx:={ (x.put (b.WA.takeWhile (ij x.body)))with kind:=2 }
def mP(b:Bk)(x:Wx):YG:=⟨⟨0,0,false⟩,b.WA.dropWhile (ij x.body)⟩
def sU{P:List T'}{j:Nat}(h:j<=P.length):∀U,iE U 7 (ax P) none (some (.int .i64 j)) none=some (ax (P.take j)):=λU=>by
 have h1:(j:Int)<=P.length:=by omega
 simp only[ax,iE,fc,cJ];rw[ak ⟨Int.le_refl _,by omega,h1,Int.le_refl _,trivial⟩];simp[List.map_take]
def qk{α:Type}{p:α->Bool}:∀{l:List α} {j:Nat},(∀x∈l.take j,p x=true)->(∀x,l[j]?=some x->p x=false)->j<=l.length->l.takeWhile p=l.take j/\l.dropWhile p=l.drop j
 |[],j,_,_,h=>by simp
 |x::l,0,_,h2,_=>by
  have:=h2 x rfl;simp[this]
 |x::l,j+1,h1,h2,h=>by
  have hx:=h1 x (by simp);have ih:=qk (p:=p) (l:=l) (j:=j) (λy hy=>h1 y (by simp[hy])) (λy hy=>h2 y (by simpa using hy)) (by simpa using h);simp[hx,ih.1,ih.2]
def Hb(b:Bk)(hb:BkOk b)(x:Wx)(hxl:x.ls.length<=1000000)(hh:0<=x.high/\x.high<=1125899906842624){K U:ad}{i1:Nat}{vh vf vl:V}(hJ:Zu b K i1 x U vh vf vl):
 av prog 54 [.ptr i1 0 0] U λr Z'=>∃vl',r=bP (mP b x)/\Zu b K i1 (uS b x) Z' vh vf vl':=by
 refine e54.q ?_;have hs:=aa.refl U;have Ze:br b=.agg [ay b.nodes,vI b.w,vI b.h,aT b.atoms,ax b.WA,vI b.U',aY b.WT]:=rfl;have a1:=hJ.row;rw[dC]at a1;obtain⟨ch,sh⟩:=hJ.oh.vc;obtain⟨cf,sf⟩:=hJ.of.vc;obtain⟨cl,sl⟩:=hJ.ol.vc;have hfn:=hb.flen;have hlp:=cF b.WA;unfold uS mP;refine mS 5 ?_;simp only[go_sem,seval,c54];refine al hs λi2 Z2 s2 a2 f2 _ hs=>?_;obtain⟨n12,a1⟩:=WG a1 f2 s2;have k2:K i2=none:=hJ.sub.none f2;have hJ2:=hJ.oY s2 f2 a2;simp only[go_sem,seval,a1,Ze,Eg];refine ag.fP (λst=>∃j:Nat,j<=b.WA.length/\b.WA.takeWhile (ij x.body)=b.WA.take j/\b.WA.dropWhile (ij x.body)=b.WA.drop j/\st.U=Z2/\st.s 0=.ptr i1 0 0/\st.s 2=.ptr i2 0 0/\st.s 3=vI j/\st.s 4=ax b.WA)
  (λm st=>∃j:Nat,j<=b.WA.length/\m=b.WA.length-j/\(∀f∈b.WA.take j,ij x.body f=true)/\st.U=Z2/\st.s 0=.ptr i1 0 0/\st.s 2=.ptr i2 0 0/\st.s 3=vI j/\st.s 4=ax b.WA) b.WA.length ?_ ?_ ?_
 .exact⟨0,by omega,rfl,by simp,rfl,rfl,rfl,rfl,rfl⟩
 .rintro m ⟨S,J⟩ ⟨j,hj,rfl,XR,WY,t0,t2,t3,t4⟩;simp only at WY t0 t2 t3 t4;subst WY;refine ag.mix 5 ?_;by_cases B':j<b.WA.length
  .have q:=qT B';have Wz:=λU=>dO (U:=U) B';have Zh:az b.WA[j]=.agg [vI b.WA[j].node,vI b.WA[j].side,vI b.WA[j].anchor,vI b.WA[j].x,vI b.WA[j].y,vI b.WA[j].w,vI b.WA[j].h]:=rfl;obtain⟨_,⟨o1,o2⟩,_,o3,o4⟩:=hb.flo _ (Xo B');have W4:b.WA.take (j+1)=b.WA.take j++[b.WA[j]]:=Yz B';have YJ:b.WA[j]?=some b.WA[j]:=Zq6 B';generalize b.WA[j]=f at*;have r1:WI .i64 (f.y+f.h):=ae;have r2:=rI j;by_cases hle:f.y+f.h<=x.body
   .have q1:(f.y+f.h<=x.body)=True:=L' hle;apply sR;simp only[go_sem,seval,t0,t2,t3,t4,hlp,q,Wz,Zh,a1,r1,q1,r2];refine⟨_,?_,j+1,by omega,rfl,?_,by simp⟩
    .omega
    .rw[W4];intro g hg;rcases dH.1 hg with hg|hg
     .exact XR g hg
     .simp at hg;subst hg;exact XK hle
   .have q1:(f.y+f.h<=x.body)=False:=H' hle;apply sR;simp only[go_sem,seval,t0,t2,t3,t4,hlp,q,Wz,Zh,a1,r1,q1];obtain⟨e1,e2⟩:=qk XR (λg hg=>by rw[YJ]at hg;cases hg;exact XJ hle) hj;exact⟨j,hj,e1,e2,by simp⟩
  .have q:=qF B';apply sR;simp only[go_sem,seval,t0,t2,t3,t4,hlp,q];obtain⟨e1,e2⟩:=qk XR (λg hg=>by rw[xi (by omega)]at hg;cases hg) hj;exact⟨j,hj,e1,e2,by simp⟩
 .rintro⟨S,J⟩ ⟨j,hj,e1,e2,WY,t0,t2,t3,t4⟩;simp only at WY t0 t2 t3 t4;subst WY;rw[e1,e2];have hsl:=sU hj;have hsl2:=jx hj;refine mS 5 ?_;simp only[BB,seval,aZ,eD,aD,Yi.nothing,t0,t3,t4,hsl];refine Yn rfl (n7 b (b.WA.take j) (by rw[jb];omega) x hxl (λf hf=>by
   obtain⟨_,⟨o1,o2⟩,_,o3,o4⟩:=hb.flo f (rB hf);exact ae) hJ2) ?_
  rintro r Z' ⟨vl',ZC⟩;have b1:=ZC.row;have n12':i1≠i2:=n12;rw[dC]at b1;generalize x.put (b.WA.take j)=y at*;have hJs:=ZC.set { y with kind:=2 } rfl rfl rfl;rw[dC]at hJs;apply sR;simp only[BB,seval,aZ,eD,aD,jg,jJ,gd,fo,lQ,V.cells,V.stays,Yi.nothing,t0,t3,t4,b1,hsl2];generalize hq1:C' Z' i1 _=Y1 at*;replace c2:=hJs.sub _ _ af;refine pS rfl (AL (b.WA.drop j) (by rw[re];omega) _) ?_;simp only[go_sem,seval,c2,t2,bU,bT];exact XX ⟨vl',rfl,hJs.drop k2 _⟩
open Go.Proofs
def bN.lt:bN->bN
 |.seq a _=>a
 |c=>c
def bN.bd:bN->bN
 |.block _ a=>a
 |c=>c
structure BkFull(b:Bk):Prop extends BkOk b where
 qQ:dz b.nodes
 isb:Xh b.nodes=true
 h1:1<=b.h
 h2:b.h<=1099511627776
 nod:∀a∈b.atoms,0<=a.node/\a.node<b.nodes.length
def aU(b:Bk)(s:XP):Kp:=if b.atoms=[]then⟨[],0,b.h⟩else rK b.nodes (atG b.atoms (min s.atom ((b.atoms.length:Int)-1))).node b.h
def hdS(l:List Nd)(w:Int)(p:List Yx×Int)(a:Int):List Yx×Int:=(p.1++[⟨a,-1,0,0,p.2,w,(Yw l a).head⟩],p.2+(Yw l a).head)
def ZK(l:List Nd)(w:Int)(L:List Int):List Yx×Int:=L.foldl (hdS l w) ([],0)
def uR(l:List Nd)(w:Int)(L:List Int)(a:Int):ZK l w (L++[a])=hdS l w (ZK l w L) a:=by
 unfold ZK;rw[kN];rfl
def zK(l:List Nd)(w:Int):∀(L:List Int),(ZK l w L).1.length=L.length:=by
 have key:∀(L:List Int) (p:List Yx×Int),(L.foldl (hdS l w) p).1.length=p.1.length+L.length:=by
  intro L
  induction L with
  |nil=>intro p;rfl
  |cons a L ih=>intro p;rw[gg,ih];simp[hdS];omega
 intro L;have:=key L ([],0);simpa[ZK]using this
def Aj(l:List Nd)(w:Int)(L:List Int)(h:∀a∈L,0<=(Yw l a).head)(j:Nat):0<=(ZK l w (L.take j)).2/\(ZK l w (L.take j)).2<=(ZK l w L).2:=by
 have key:∀(L:List Int),(∀a∈L,0<=(Yw l a).head)->∀(p:List Yx×Int),p.2<=(L.foldl (hdS l w) p).2:=by
  intro L
  induction L with
  |nil=>intro _ p;exact Int.le_refl _
  |cons a L ih=>
   intro h p;rw[gg];have h1:=ih (λx hx=>h x (by simp[hx])) (hdS l w p a);have h2:=h a (by simp);simp only[hdS]at h1|-;omega
 refine⟨key (L.take j) (λa ha=>h a (rB ha)) ([],0),?_⟩;have e:ZK l w L=(L.drop j).foldl (hdS l w) (ZK l w (L.take j)):=by
  rw[ZK,ZK,<-kN,rZ]
 rw[e];exact key _ (λa ha=>h a (List.mem_of_mem_drop ha)) _
def wo{l:List Nd}{L:List Int}{h:Int}:∀m,m<=L.length->∀a∈(gM l L h m).WU,a∈L
 |0,_,a,ha=>by simp[gM]at ha
 |m+1,hm,a,ha=>by
  rw[gM,gP]at ha;split at ha
  .exact wo m (by omega) a ha
  .simp only[dH,ja]at ha;rcases ha with ha|ha
   .exact wo m (by omega) a ha
   .rw[ha];have B':L.length-1-m<L.length:=by omega
    have hg:L.getD (L.length-1-m) 0=L[L.length-1-m]:=by simp[B']
    rw[hg];exact Xo B'
def rM{l:List Nd}{L:List Int}{h w:Int}:∀m,(ZK l w (gM l L h m).WU).2=(gM l L h m).high
 |0=>rfl
 |m+1=>by
  rw[gM,gP];split
  .exact rM m
  .simp only[uR,hdS];rw[rM m]
structure Pm(b:Bk)(k:Kp):Prop where
 len:k.WU.length<=1000000
 mem:∀a∈k.WU,∃n:Nat,a=n/\n<b.nodes.length
 sum:(ZK b.nodes b.w k.WU).2=k.high
 high:0<=k.high/\k.high<=1099511627776
 body:0<=k.body/\k.body<=1099511627776
def qh{b:Bk}(hb:BkFull b)(s:XP):Pm b (aU b s):=by
 have h1:=hb.h1;have h2:=hb.h2;have hn:b.nodes.length<=100000:=by have:=hb.qQ.1;omega
 unfold aU;split
 .exact⟨by simp,by simp,rfl,by simp,by simp;omega⟩
 .unfold rK;split
  .rename_i hc;obtain⟨_,h3,h4⟩:=hc;generalize (atG b.atoms (min s.atom ((b.atoms.length:Int)-1))).node=a at*;have ha:a.toNat<b.nodes.length:=by omega
   have hrg:∀x∈abv b.nodes a.toNat,∃n:Nat,x=n/\n<b.nodes.length:=λx hx=>by
    obtain⟨n,h1,h2⟩:=qO ha x hx;exact⟨n,h1,by omega⟩
   have hi:=qX hb.isb hrg (by omega:0<=b.h) (abv b.nodes a.toNat).length (Xc _);have hl:(abv b.nodes a.toNat).length<=b.nodes.length+1:=jW _ _ _;unfold px;exact⟨by omega,λx hx=>hrg x (wo _ (Xc _) x hx),rM _,by omega,by omega⟩
  .exact⟨by simp,by simp,rfl,by simp,by simp⟩
def bW(b:Bk)(s:XP)(hv:V):Wx:=⟨hv,(aU b s).high,(aU b s).body,s,0,(ZK b.nodes b.w (aU b s).WU).1,[],[],0⟩
def H5(b:Bk)(hb:BkFull b)(s:XP)(Xn:0<=s.atom)(U:ad):
 av prog 53 [.rp (br b),aL s] U λr Z'=>∃i1 vh hv,r=.ptr i1 0 0/\Zu b U i1 (bW b s hv) Z' vh .aB .aB:=by
 refine e53.q ?_;have hs:=aa.refl U;have Ze:br b=.agg [ay b.nodes,vI b.w,vI b.h,aT b.atoms,ax b.WA,vI b.U',aY b.WT]:=rfl;have hsc:(aL s).cells=[vI s.atom,vI s.done,.bool s.free]:=rfl;have hss:(aL s).stays=true:=rfl;have Yp:=eL b.atoms;have hlen:=hb.len;refine mS 11 ?_;simp only[go_sem,seval,c53,hsc,hss];refine al hs λi3 Z3 s3 a3 f3 z3 hs=>?_;rw[aL]at a3;simp only[go_sem,seval,a3,Ze];refine vS hs λi19 Y19 s19 a19 f19 z19 hs=>?_;obtain⟨n319,a3⟩:=WG a3 f19 s19;have hr:=qh hb s;unfold bW;have hJ0:∀(hv:V) (k:Kp) (J:ad),J i19=some (dC b ⟨hv,k.high,k.body,s,0,[],[],[],0⟩ .aB .aB .aB)->aa U J->Zu b U i19 ⟨hv,k.high,k.body,s,0,[],[],[],0⟩ J .aB .aB .aB:=λhv k J h h2=>
  ⟨h,aq.start,aq.start,aq.start,bL.aB _,bL.aB _,bL.aB _,h2,z19⟩
 have fin:∀(S:Nat->V) (J:ad) (hv:V),dv false hv=some (.int .i64 (aU b s).WU.length)->(∀(j:Nat) (h:j<(aU b s).WU.length) (U:ad),bp U 1 hv (.int .i64 j)=some (.rp (vI (aU b s).WU[j])))->
  J i19=some (dC b ⟨hv,(aU b s).high,(aU b s).body,s,0,[],[],[],0⟩ .aB .aB .aB)->aa U J->S 0=.rp (br b)->S 5=.ptr i19 0 0->S 7=vI 0->S 57=hv->S 58=vI (aU b s).WU.length->S 59=vI 0->
  ag prog 96 [It.code c53.code.rt.rt.rt.rt.lt.rt.bd,It.inBlock 0,It.code c53.code.rt.rt.rt.rt.rt] ⟨S,J⟩ λst=>Ret [.tmp (.t 4)] st λr Z'=>∃i1 vh hv,r=.ptr i1 0 0/\Zu b U i1 ⟨hv,(aU b s).high,(aU b s).body,s,0,(ZK b.nodes b.w (aU b s).WU).1,[],[],0⟩ Z' vh .aB .aB:=by
  intro S J hv hlL Xx h19 hsY t0 t5 t7 t57 t58 t59;have hJ:=hJ0 _ _ _ h19 hsY;clear hJ0 h19 hsY hs a3 a19;generalize aU b s=k at*;obtain⟨L,high,body⟩:=k;obtain⟨r1,r2,r3,⟨r4,r5⟩,_⟩:=hr;simp only at r1 r2 r3 r4 r5 hJ hlL Xx t58|-;have hh0:∀a∈L,0<=(Yw b.nodes a).head:=λa ha=>by
   obtain⟨n,rfl,hn⟩:=r2 a ha;rw[eG hn];exact(ec hb.isb hn).st.head.1
  have a19:=hJ.row;rw[dC]at a19;refine ag.mix 60 ?_;simp only[c53,bN.rt,bN.lt,bN.bd];refine ag.loop (λm st=>∃(j:Nat) (vh:V),j<=L.length/\m=L.length-j/\Zu b U i19 ⟨hv,high,body,s,0,(ZK b.nodes b.w (L.take j)).1,[],[],0⟩ st.U vh .aB .aB/\st.s 0=.rp (br b)/\st.s 5=.ptr i19 0 0/\st.s 7=vI (ZK b.nodes b.w (L.take j)).2/\st.s 57=hv/\st.s 58=vI L.length/\st.s 59=vI j) L.length ?_ ?_
  .exact⟨0,.aB,by omega,rfl,hJ,t0,t5,t7,t57,t58,t59⟩
  .clear hJ a19 t0 t5 t7 t57 t58 t59;rintro m ⟨S,J⟩ ⟨j,vh,hj,rfl,hJ,t0,t5,t7,t57,t58,t59⟩;simp only at hJ t0 t5 t7 t57 t58 t59;refine ag.mix 60 ?_;by_cases B':j<L.length
   .have q:=qT B';obtain⟨n,hn,Yb⟩:=r2 _ (Xo B');have Wz:=Xx j B';have XO:=λU=>gJ b.nodes Yb U;have eI:=Aj b.nodes b.w L hh0 j;have hsum1:=Aj b.nodes b.w L hh0 (j+1);have hlk:=zK b.nodes b.w (L.take j);have YR:(L.take j).length=j:=by rw[jb];omega
    have W4:L.take (j+1)=L.take j++[(n:Int)]:=by rw[Yz B',hn]
    have Zo:ZK b.nodes b.w (L.take (j+1))=hdS b.nodes b.w (ZK b.nodes b.w (L.take j)) n:=by rw[W4,uR]
    rw[r3]at eI hsum1;rw[Zo]at hsum1;rw[hn]at Wz;generalize ZK b.nodes b.w (L.take j)=X at*;obtain⟨F,y⟩:=X;simp only[hdS,eG Yb]at eI hsum1 hlk hJ t7 Zo;have q1:WI .i64 (y+b.nodes[n].st.head):=ae;have q2:=rI j;have a19:=hJ.row;rw[dC]at a19;obtain⟨cv,sv⟩:=hJ.oh.vc;generalize b.nodes[n]=nd at*;apply sR;simp only[go_sem,seval,t0,t5,t7,t57,t58,t59,q,Wz,XO,Nd.cells,a19,Ze,O6];refine bF λi86 Z86 s86 a86 f86=>?_;have hJ5:=hJ.mono s86;obtain⟨idA,Xg,hgr⟩:=Cf hJ5.sub hJ5.no hJ5.row hJ5.oh;have Zh:(F.map aJ).length<=1000000:=by rw[cJ];omega
    generalize hrw:F.map aJ=rows at*;have W1:(rows.length+1)*57<=140737488355328:=by omega
    simp only[go_sem,seval,Xg,bl a86,W1];refine eu λi87 Z87 s87 a87 f87=>?_;obtain⟨b1,hg⟩:=hgr Z87 i87 _ s87 a87 f87;rw[dC]at b1;obtain⟨g1,g2,g3⟩:=hg (dC b ⟨hv,high,body,s,0,F++[⟨n,-1,0,0,y,b.w,nd.st.head⟩],[],[],0⟩ (.own i87 0 (rows.length+1)) .aB .aB);simp only[go_sem,seval,b1,t0,t5,t7,t57,t58,t59,q1,q2];refine⟨_,?_,j+1,.own i87 0 (rows.length+1),by omega,rfl,?_,rfl,?_,rfl⟩
    .omega
    .rw[Zo];rw[gn]at g2;refine⟨af,?_,aq.start,aq.start,(bL.aB _).symm,(bL.aB _).symm,bL.aB _,g1,hJ.no⟩;show aq _ _ _ _ _ ((F++[_]).map aJ);rw[cX,hrw];exact g2
    .rw[Zo]
   .have q:=qF B';have YK:j=L.length:=by omega
    rw[YK,dR]at hJ;apply sR;simp only[go_sem,seval,t5,t58,t59,q];exact XX ⟨i19,vh,hv,rfl,hJ⟩
 by_cases he:b.atoms=[]
 .have q:((b.atoms.length:Int)>0)=False:=by rw[he];simp
  have hre:aU b s=⟨[],0,b.h⟩:=ak he;simp only[go_sem,seval,a19,kU,Yp,q];rw[hre]at fin|-;rw[<-Ze]at a19;refine fin _ _ .aB rfl (λj h=>by simp at h) a19 hs ?_ ?_ ?_ ?_ ?_ ?_<;>rfl
 .have hl0:0<b.atoms.length:=rW.2 he;have q:((b.atoms.length:Int)>0)=True:=L';have r1:WI .i64 ((b.atoms.length:Int)-1):=ae;obtain⟨k,hk⟩:∃k:Nat,min s.atom ((b.atoms.length:Int)-1)=k:=⟨(min s.atom ((b.atoms.length:Int)-1)).toNat,by omega⟩
  have Zb:k<b.atoms.length:=by omega
  have Wz:=λU=>dS (U:=U) Zb;have hre:aU b s=rK b.nodes b.atoms[k].node b.h:=by rw[aU,au he,hk,aV Zb]
  have hc:=OX b.nodes hb.qQ b.atoms[k].node b.h;rw[<-hre]at hc;simp only[go_sem,seval,kU,Yp,q,cm];refine ag.tT (by kernel_rfl) [0,1,2,3,4,5,6,7,8,9,10,11,12,13,14,15,16,17,18,19,20,21,22,23,24,25] [[],[],[1],[1,2],[1,2,3],[],[5],[5,6],[5,6,7],[5,6,7,8],[],[10],[],[12],[10,11,12,13],[5,6,7,8,9,10,11,12,13,14],[5,6,7,8,9,10,11,12,13,14,15],[5,6,7,8,9,10,11,12,13,14,15,16],[],[18],[18,19],[18,19,20],[1,2,3,4,5,6,7,8,9,10,11,12,13,14,15,16,17,18,19,20,21],[0,1,2,3,4,5,6,7,8,9,10,11,12,13,14,15,16,17,18,19,20,21,22],[0,1,2,3,4,5,6,7,8,9,10,11,12,13,14,15,16,17,18,19,20,21,22,23],[0,1,2,3,4,5,6,7,8,9,10,11,12,13,14,15,16,17,18,19,20,21,22,23,24]] [0,2,4,6,8,10,12,14,16,18,20,22,24,26,28,30,32,34,36,38,40,42,44,46,48,50] (by kernel_rfl) (by kernel_rfl) ?_;refine cI (n:=0) [44,46,48,50] [0,2,4,6,8,10,12,14,16,18,20,22,24,26,28,30,32,34,36,38,40,42] [_,_,_,_,_,_,_,_,_,_,_,_,_,_,_,_,_,_,_,_,_,_] rfl rfl ?_;simp only[go_sem,seval,a3,kU,O6,r1,dN,hk,Wz,bE];rw[jL]at hc;refine reP rfl (hc _) ?_;refine cI (n:=0) [] [46,48,50] [_,_,_] rfl rfl ?_;simp only[go_sem,seval,a19];have hlL:=cV (aU b s).WU;apply sR;simp only[go_sem,seval,hlL];rw[<-Ze];refine fin _ _ (aN (aU b s).WU) hlL (λj h U=>de h) af (hs.ao z19) ?_ ?_ ?_ ?_ ?_ ?_<;>rfl
open Go.Proofs
def bkE(b:Bk):br b=.agg [ay b.nodes,vI b.w,vI b.h,aT b.atoms,ax b.WA,vI b.U',aY b.WT]:=rfl
def uh(b:Bk)(hb:1<=b.h):aE prog 47 [.rp (br b)] (.bool false):=λU=>by
 refine e47.q ?_;have q:(b.h=0)=False:=H';refine mS 3 ?_;simp only[go_sem,seval,c47,bkE,q,G1];exact ai.same rfl
def FO(b:Bk)(hb:BkFull b)(U:ad):av prog 14 [.rp (br b)] U λr Z'=>aa U Z'/\aq U Z' 102 3 r (b.WT.map bX):=by
 refine e14.q ?_;have h1:=hb.brk;have h2:=hb.len;refine mS 3 ?_;simp only[go_sem,seval,c14];refine pS rfl (uh b hb.h1 _) ?_;simp only[go_sem,seval,bkE,Hs];refine Yn rfl (vE func50 (e50.b.trans rfl) e50.c (b.WT.map bX) (by simp;omega) _) ?_;rintro r Z' ⟨hs,ho⟩;apply sR;simp only[go_sem,seval];exact XX ⟨hs,ho⟩
def Ho(b:Bk):V:=.agg [aT b.atoms,ax b.WA,vI b.U']
def FA(b:Bk)(hb:BkFull b):aE prog 12 [.rp (br b)] (Ho b):=λU=>by
 refine e12.q ?_;have hs:=aa.refl U;have h2:=hb.len;have h3:=hb.flen;refine mS 4 ?_;simp only[go_sem,seval,c12];refine al hs λi2 Z2 s2 a2 f2 z2 hs=>?_;simp only[go_sem,seval];refine pS rfl (uh b hb.h1 _) ?_;simp only[go_sem,seval,bkE];refine al hs λi3 Z3 s3 a3 f3 z3 hs=>?_;obtain⟨n23,a2⟩:=WG a2 f3 s3;simp only[go_sem,seval,a3];generalize hq3:C' _ i3 _=X3;replace a3:=XD hq3;replace a2:=WQ hq3 n23 a2;replace hs:=Xz hq3 hs z3;refine pJ rfl (JB b.atoms (by omega)) ?_;apply sG;simp only[go_sem,seval,a3];refine pJ rfl (AL b.WA (by omega)) ?_;apply sG;simp only[go_sem,seval,a3,a2,df,bU,iP,bT,ab n23];exact ai.pure ((hs.ao z3).ao z2) rfl
def Gc(b:Bk)(hb:BkFull b):aE prog 16 [.rp (br b)] (bP ⟨⟨0,0,true⟩,[]⟩):=λU=>by
 refine e16.q ?_;have hs:=aa.refl U;refine mS 4 ?_;simp only[go_sem,seval,c16];refine al hs λi2 Z2 s2 a2 f2 z2 hs=>?_;simp only[go_sem,seval];refine pS rfl (uh b hb.h1 _) ?_;simp only[go_sem,seval,a2];refine⟨_,U,hs.ao z2,Wk.agg (vs':=[vI 0,vI 0,.bool true,ax []]) ⟨Wk.refl (hs.ao z2) _,Wk.refl (hs.ao z2) _,Wk.refl (hs.ao z2) _,Wk.aB 7,trivial⟩,rfl,rfl⟩
def ri(a:T'):∀(p:List T') (i:Nat),kg a p i=-1\/∃k:Nat,kg a p i=((i+k:Nat):Int)/\k<p.length
 |[],_=>.inl rfl
 |q::r,i=>by
  rw[kg];split
  .exact .inr ⟨0,rfl,by simp⟩
  .rcases ri a r (i+1)with h|⟨k,h1,h2⟩
   .exact .inl h
   .exact .inr ⟨k+1,by rw[h1];congr 1;omega,by simp;omega⟩
def iR(WA:List T'):List T'->Nat->Bool
 |[],_=>true
 |x::r,W3=>if kg x (WA.drop W3) 0<0 then false else iR WA r (W3+(kg x (WA.drop W3) 0).toNat+1)
def iZ(b:Bk)(s:YG):Prop:=iR b.WA s.bu 0=true/\(cT b.atoms s.s\/s.s.atom=b.atoms.length/\s.s.done=0)
instance (b:Bk) (s:YG):Decidable (iZ b s):=by unfold iZ;infer_instance
def K5(b:Bk)(hb:BkFull b)(s:YG)(hp:s.bu.length<=1000000):aE prog 59 [.rp (br b),bP s] (.bool (decide (iZ b s))):=λU=>by
 refine e59.q ?_;have hs:=aa.refl U;have h3:=hb.flen;have hlp:=cF s.bu;have Yo:=eL b.atoms;refine mS 13 ?_;simp only[go_sem,seval,c59,bP];refine al hs λi3 Z3 s3 a3 f3 _ hs=>?_;simp only[go_sem,seval,a3,hlp];refine ag.loop (λm st=>∃(j W3:Nat),j<=s.bu.length/\m=s.bu.length-j/\W3<=b.WA.length/\iR b.WA s.bu 0=iR b.WA (s.bu.drop j) W3/\aa U st.U/\st.U i3=some ⟨27,4,[.agg [vI s.s.atom,vI s.s.done,.bool s.s.free,ax s.bu]]⟩/\st.s 0=.rp (br b)/\st.s 3=.ptr i3 0 0/\st.s 5=vI W3/\st.s 10=ax s.bu/\st.s 11=vI s.bu.length/\st.s 12=vI j) s.bu.length ?_ ?_
 .exact⟨0,0,by omega,rfl,by omega,rfl,hs,a3,rfl,rfl,rfl,rfl,rfl,rfl⟩
 .clear hs a3;rintro m ⟨S,J⟩ ⟨j,W3,hj,rfl,Yg,heq,hs,a3,t0,t3,t5,t10,t11,t12⟩;simp only at hs a3 t0 t3 t5 t10 t11 t12;refine ag.mix 13 ?_;by_cases B':j<s.bu.length
  .have q:=qT B';have Wz:=λU=>dO (U:=U) B';have Zh:az s.bu[j]=.agg [vI s.bu[j].node,vI s.bu[j].side,vI s.bu[j].anchor,vI s.bu[j].x,vI s.bu[j].y,vI s.bu[j].w,vI s.bu[j].h]:=rfl;have hd:s.bu.drop j=s.bu[j]::s.bu.drop (j+1):=iT B';rw[hd,iR]at heq;have hsl:=jx Yg;generalize s.bu[j]=f at*;have hic:=JE (b.WA.drop W3) (by rw[re];omega) f;rw[Zh]at hic;have r1:=rI j;apply sR;simp only[go_sem,seval,t10,t11,t12,q,Wz,Zh];refine al hs λi7 Z7 s7 a7 f7 z7 hs=>?_;obtain⟨n37,a3⟩:=WG a3 f7 s7;simp only[BB,seval,aZ,eD,aD,jg,cP,jJ,gd,fo,lQ,V.cells,V.stays,a7,bkE,Eg,t0,t5,hsl];generalize Yl:C' _ i7 _=Y7;replace a7:=XD Yl;replace a3:=WQ Yl n37 a3;replace hs:=Xz Yl hs z7;refine pJ rfl hic ?_;have Yp:(b.WA.drop W3).length=b.WA.length-W3:=re;rcases ri f (b.WA.drop W3) 0 with h|⟨k,h,hk⟩
   .rw[h]at heq|-;rw[ak (by omega)]at heq;have hf:decide (iZ b s)=false:=XJ λhm=>by rw[iZ,heq]at hm;cases hm.1
    apply sG;simp only[go_sem,seval];rw[hf];exact ai.pure hs rfl
   .rw[h,kf]at heq|-;rw[au (by omega),eU]at heq;have q1:((k:Int)<0)=False:=H';have r2:=rI k;have r3:WI .i64 ((W3:Int)+(k+1)):=ae;apply sG;simp only[go_sem,seval,t0,t3,t5,t10,t11,t12,q1,r1,r2,r3];refine⟨_,?_,j+1,W3+k+1,by omega,rfl,by omega,heq,hs,a3,rfl,?_,rfl⟩
    .omega
    .show V.int _ _=V.int _ _;congr 1
  .have q:=qF B';have YK:j=s.bu.length:=by omega
   rw[YK,xD,iR]at heq;have hmc:=rG b.atoms s.s;rw[aL]at hmc;apply sR;simp only[go_sem,seval,t0,t3,t11,t12,q,a3,bkE,kU];refine pJ rfl hmc ?_;have fin:∀v:Bool,decide (iZ b s)=v->ai (.bool v) J λr Z'=>r=.bool (decide (iZ b s))/\Z'=U:=λv h=>by rw[h];exact ai.pure hs rfl
   by_cases hm:cT b.atoms s.s
   .have f:=fin true (XK ⟨heq,.inl hm⟩);rw[XK hm];generalize decide (iZ b s)=B at*;apply sG;simp only[go_sem,seval];exact f
   rw[XJ hm];by_cases ha:s.s.atom=b.atoms.length
   .by_cases hd:s.s.done=0
    .have f:=fin true (XK ⟨heq,.inr ⟨ha,hd⟩⟩);generalize decide (iZ b s)=B at*;have q1:(s.s.atom=(b.atoms.length:Int))=True:=L' ha;have q2:(s.s.done=0)=True:=L' hd;apply sG;simp only[go_sem,seval,t0,t3,a3,bkE,kU,Yo,q1,q2];exact f
    .have f:=fin false (XJ λh=>by rcases h.2 with h|h;exact hm h;exact hd h.2)
     generalize decide (iZ b s)=B at*;have q1:(s.s.atom=(b.atoms.length:Int))=True:=L' ha;have q2:(s.s.done=0)=False:=H' hd;apply sG;simp only[go_sem,seval,t0,t3,a3,bkE,kU,Yo,q1,q2];exact f
   .have f:=fin false (XJ λh=>by rcases h.2 with h|h;exact hm h;exact ha h.1)
    generalize decide (iZ b s)=B at*;have q1:(s.s.atom=(b.atoms.length:Int))=False:=H' ha;apply sG;simp only[go_sem,seval,t0,t3,a3,bkE,kU,Yo,q1];exact f
def gA(b:Bk)(s:YG):Prop:=¬iZ b s\/s.s.atom=b.atoms.length/\s.s.free=false/\s.bu=[]
instance (b:Bk) (s:YG):Decidable (gA b s):=by unfold gA;infer_instance
def Ea(b:Bk)(hb:BkFull b)(s:YG)(hp:s.bu.length<=1000000):aE prog 19 [.rp (br b),bP s] (.bool (decide (gA b s))):=λU=>by
 refine e19.q ?_;have hs:=aa.refl U;have hlp:=cF s.bu;have Yo:=eL b.atoms;have hmc:=K5 b hb s hp;rw[bP]at hmc;refine mS 5 ?_;simp only[go_sem,seval,c19,bP];refine al hs λi3 Z3 s3 a3 f3 z3 hs=>?_;simp only[go_sem,seval];refine pS rfl (uh b hb.h1 _) ?_;simp only[go_sem,seval,a3];refine pR rfl (hmc _) ?_;have fin:∀v:Bool,decide (gA b s)=v->ai (.bool v) Z3 λr Z'=>r=.bool (decide (gA b s))/\Z'=U:=λv h=>by rw[h];exact ai.pure hs rfl
 by_cases hm:iZ b s
 .rw[XK hm];by_cases ha:s.s.atom=b.atoms.length
  .have q1:(s.s.atom=(b.atoms.length:Int))=True:=L' ha;by_cases hf:s.s.free=true
   .have f:=fin false (XJ λh=>by rcases h with h|h;exact h hm;rw[hf]at h;cases h.2.1)
    generalize decide (gA b s)=B at*;rw[hf]at a3;apply sR;simp only[go_sem,seval,a3,bkE,kU,Yo,q1];exact f
   .have hf':s.s.free=false:=by simpa using hf
    by_cases hn:s.bu=[]
    .have f:=fin true (XK (.inr ⟨ha,hf',hn⟩));generalize decide (gA b s)=B at*;have q2:((s.bu.length:Int)=0)=True:=L' (by rw[hn];rfl);rw[hf']at a3;apply sR;simp only[go_sem,seval,a3,bkE,kU,Yo,q1,hlp,q2];exact f
    .have f:=fin false (XJ λh=>by rcases h with h|h;exact h hm;exact hn h.2.2)
     generalize decide (gA b s)=B at*;have q2:((s.bu.length:Int)=0)=False:=H' (by have:=rW.2 hn;omega);rw[hf']at a3;apply sR;simp only[go_sem,seval,a3,bkE,kU,Yo,q1,hlp,q2];exact f
  .have f:=fin false (XJ λh=>by rcases h with h|h;exact h hm;exact ha h.1)
   generalize decide (gA b s)=B at*;have q1:(s.s.atom=(b.atoms.length:Int))=False:=H' ha;apply sR;simp only[go_sem,seval,a3,bkE,kU,Yo,q1];exact f
 .rw[XJ hm];have f:=fin true (XK (.inl hm));generalize decide (gA b s)=B at*;apply sR;simp only[go_sem,seval];exact f
open Go.Proofs
structure YN where
 (no kind:Int)
 (hs fs ls:List Yx)
def aG(l:List Yx):V:=.sl 7 (l.map aJ)
def bB(p:YN):V:=.agg [vI p.no,vI p.kind,aG p.hs,aG p.fs,aG p.ls]
def uw{s:Nat->V}{U:ad}{a1 a2:Bool}{n1 n2 d e t:Nat}{Post:V->ad->Prop}:
 Ret [.cell a1 n1 (.t d),.cell a2 n2 (.t e),.tmp (.t t)] ⟨s,U⟩ Post=ed (bO U a1 n1 (s d)) λv=>ed (bO U a2 n2 (s e)) λw=>ai (.WC [v,w,s t]) U Post:=by
 unfold Ret ai oT;simp only[fq,iy,VX.ev];cases bO U a1 n1 (s d)<;>cases bO U a2 n2 (s e)<;>simp[ed]
def nY{body:Int}:∀(l:List T') (sh:Int),0<=sh->sh<=body->(∀f∈l,0<=f.h)->(bZ body l sh).1.length<=l.length/\(∀m∈(bZ body l sh).1,0<=m.y/\m.y<=body)/\0<=(bZ body l sh).2.2/\(bZ body l sh).2.2<=body
 |[],sh,h0,h1,_=>by simp[bZ];omega
 |f::r,sh,h0,h1,hh=>by
  rw[bZ];have hf:=hh f (by simp);split
  .simp;omega
  .rename_i hc;obtain⟨g1,g2,g3,g4⟩:=nY (body:=body) r (sh+min f.h body) (by omega) (by omega) (λg hg=>hh g (by simp[hg]));refine⟨by simp;omega,λm hm=>?_,g3,g4⟩;rcases dJ.1 hm with rfl|hm
   .simp only;omega
   .exact g2 m hm
def Dw{l:List Nd}{x:Kp}{a:Int}(h:1<=x.body):1<=(gP l x a).body:=by
 unfold gP;split
 .exact h
 .simp only;omega
def si{l:List Nd}{L:List Int}{h:Int}(hh:1<=h):∀m,1<=(gM l L h m).body
 |0=>hh
 |m+1=>Dw (si hh m)
def jn{b:Bk}(hb:BkFull b)(s:XP)(h0:0<=s.atom):1<=(aU b s).body:=by
 have h1:=hb.h1;unfold aU;split
 .exact h1
 .rename_i he;have hl0:0<b.atoms.length:=rW.2 he;obtain⟨k,hk⟩:∃k:Nat,min s.atom ((b.atoms.length:Int)-1)=k:=⟨(min s.atom ((b.atoms.length:Int)-1)).toNat,by omega⟩
  have Zb:k<b.atoms.length:=by omega
  have hn:=hb.nod _ (Xo Zb);rw[hk,aV Zb];have hm:gj b.nodes b.h=true:=by simp[gj,hb.isb,hb.h1,hb.h2]
  unfold rK;rw[ak ⟨hm,hn⟩];exact si h1 _
def kA{WA:List T'}:∀(p:List T') (W3:Nat),iR WA p W3=true->∀f∈p,f∈WA
 |[],_,_,f,hf=>by cases hf
 |x::r,W3,h,f,hf=>by
  rw[iR]at h;split at h
  .cases h
  .rename_i hk;rcases dJ.1 hf with rfl|hf
   .have key:∀(l:List T') (i:Nat),¬kg f l i<0->f∈l:=by
     intro l
     induction l with
     |nil=>intro i h;simp[kg]at h
     |cons q l ih=>
      intro i h;rw[kg]at h;split at h
      .rename_i e;simp[e]
      .exact List.mem_cons_of_mem _ (ih _ h)
    exact List.mem_of_mem_drop (key _ _ hk)
   .exact kA r _ h f hf
def mo(x:Wx):YN:=⟨0,x.kind,x.hs,x.fs,x.ls⟩
def er(b:Bk)(s:YG):Wx:={ (({ bW b s.s .aB with shift:=(bZ (aU b s.s).body s.bu 0).2.2 }:Wx).put (bZ (aU b s.s).body s.bu 0).1)with kind:=0 }
def mG(b:Bk)(s:YG):Prop:=s.s.atom=b.atoms.length\/(bZ (aU b s.s).body s.bu 0).2.1≠[]\/(bZ (aU b s.s).body s.bu 0).2.2>0/\eY b.atoms s.s>(aU b s.s).body-(bZ (aU b s.s).body s.bu 0).2.2
instance (b:Bk) (s:YG):Decidable (mG b s):=by unfold mG;infer_instance
def bY(b:Bk)(s:YG):YN×YG:=
 if b.atoms=[]/\s.s.free=true then(mo (uS b (bW b s.s .aB)),mP b (bW b s.s .aB))
 else if mG b s then(mo { er b s with kind:=2 },⟨⟨s.s.atom,s.s.done,s.s.free&&decide (s.s.atom<b.atoms.length)⟩,(bZ (aU b s.s).body s.bu 0).2.1⟩)
 else(mo (fM b (er b s)),iJ b (er b s))
def tj(b:Bk)(x:Wx)(h:V):mo (fM b { x with WU:=h })=mo (fM b x)/\iJ b { x with WU:=h }=iJ b x:=by
 unfold fM iJ;by_cases hc:ei b.WT x.s.atom (fa b x)
 .rw[ak (show ei b.WT ({ x with WU:=h }:Wx).s.atom (fa b { x with WU:=h })from hc),ak (show ei b.WT ({ x with WU:=h }:Wx).s.atom (fa b { x with WU:=h })from hc),ak hc,ak hc];exact⟨rfl,rfl⟩
 .rw[au (show¬ei b.WT ({ x with WU:=h }:Wx).s.atom (fa b { x with WU:=h })from hc),au (show¬ei b.WT ({ x with WU:=h }:Wx).s.atom (fa b { x with WU:=h })from hc),au hc,au hc];exact⟨rfl,rfl⟩
def Zu.ao{b:Bk}{K:ad}{ix:Nat}{x:Wx}{U:ad}{vh vf vl:V}(h:Zu b K ix x U vh vf vl){i:Nat}{o:Ob}(hi:K i=some o)(o':Ob):Zu b (C' K i o') ix x (C' U i o') vh vf vl:=by
 have hn:ix≠i:=λe=>by have:=h.no;subst e;rw[this]at hi;cases hi
 have key:∀{v rows},aq (bj K ix) U 123 7 v rows->aq (bj (C' K i o') ix) (C' U i o') 123 7 v rows:=λhv=>by
  rcases hv with h|⟨a,e,h3,h4⟩
  .exact .inl h
  .have hk:=(aF.1 h4).2;have ha:a≠i:=λe=>by subst e;rw[hk]at hi;cases hi
   exact .inr ⟨a,e,(Vc.ab ha).trans h3,aF.2 ⟨(aF.1 h4).1,(Vc.ab ha).trans hk⟩⟩
 refine⟨(Vc.ab hn).trans h.row,key h.oh,key h.of,key h.ol,h.hf,h.hl,h.fl,λa q ha=>?_,(Vc.ab hn).trans h.no⟩;by_cases e:a=i
 .subst e;rw[Vc.af]at ha|-;exact ha
 .rw[Vc.ab e]at ha|-;exact h.sub _ _ ha
def Zu.ret{b:Bk}{K Z0:ad}{ix:Nat}{x:Wx}{U:ad}{vh vf vl:V}(h:Zu b K ix x U vh vf vl)(h0:aa Z0 K)(S:V)(e:Int):
 ai (.WC [.agg [vI 0,vI x.kind,vh,vf,vl],S,vI e]) U λr Z'=>r=.WC [bB (mo x),S,vI e]/\Z'=Z0:=by
 have hs:=h0.trans h.sub;have hK:aa Z0 (bj K ix):=λi o hh=>by
  rw[bj,au (λe=>by rw[e]at hh;have:=h0 _ _ hh;rw[h.no]at this;cases this)];exact h0 _ _ hh
 exact⟨_,Z0,hs,Wk.WC (vs':=[bB (mo x),S,vI e]) ⟨Wk.agg (vs':=[vI 0,vI x.kind,aG x.hs,aG x.fs,aG x.ls]) ⟨Wk.refl hs _,Wk.refl hs _,h.oh.wk hK hs,h.of.wk hK hs,h.ol.wk hK hs,trivial⟩,Wk.refl hs _,Wk.refl hs _,trivial⟩,rfl,rfl⟩
def Ma(b:Bk)(hb:BkFull b)(hfh:∀f∈b.WA,0<=f.h)(s:YG)(hp:s.bu.length<=1000000):
 aE prog 18 [.rp (br b),bP s] (if gA b s then .WC [bB ⟨0,0,[],[],[]⟩,bP ⟨⟨0,0,false⟩,[]⟩,vI 4]else .WC [bB (bY b s).1,bP (bY b s).2,vI 0]):=λU=>by
 refine e18.q ?_;have hs:=aa.refl U;have h2:=hb.len;have Yo:=eL b.atoms;have hec:=Ea b hb s hp;rw[bP]at hec;refine mS 12 ?_;simp only[go_sem,seval,c18,bP];refine al hs λi3 Z3 s3 a3 f3 _ hs=>?_;simp only[go_sem,seval];refine al hs λi4 Z4 s4 a4 f4 z4 hs=>?_;replace a3:=s4 _ _ a3;simp only[go_sem,seval];refine al hs λi5 Z5 s5 a5 f5 z5 hs=>?_;obtain⟨n35,a3⟩:=WG a3 f5 s5;obtain⟨ZW,a4⟩:=WG a4 f5 s5;simp only[go_sem,seval,a3];refine pR rfl (hec _) ?_;by_cases hm:gA b s
 .rw[ak hm,XK hm];have n54:=ZW.symm;apply sR;simp only[go_sem,seval,a4,a5,ab ZW,ab n54,uw];have W2:=(hs.ao (o:=⟨58,5,[.agg [vI 0,vI 0,.aB,.aB,.aB]]⟩) z4).ao (o:=⟨27,4,[.agg [vI 0,vI 0,.bool false,.aB]]⟩) z5;exact⟨_,U,W2,Wk.WC (vs':=[bB ⟨0,0,[],[],[]⟩,bP ⟨⟨0,0,false⟩,[]⟩,vI 4]) ⟨Wk.agg (vs':=[vI 0,vI 0,aG [],aG [],aG []]) ⟨Wk.refl W2 _,Wk.refl W2 _,Wk.aB 7,Wk.aB 7,Wk.aB 7,trivial⟩,Wk.agg (vs':=[vI 0,vI 0,.bool false,ax []]) ⟨Wk.refl W2 _,Wk.refl W2 _,Wk.refl W2 _,Wk.aB 7,trivial⟩,Wk.refl W2 _,trivial⟩,rfl,rfl⟩
 .rw[au hm,XJ hm];have X9:iZ b s:=Decidable.byContradiction λh=>hm (.inl h);have Yg:0<=s.s.atom:=by rcases X9.2 with h|h;exact h.1.1;omega
  have hph:∀f∈s.bu,0<=f.h:=λf hf=>hfh f (kA _ _ X9.1 f hf);have YU:=qh hb s.s;have hr1:=jn hb s.s Yg;have hbc:=H5 b hb s.s Yg Z5;rw[aL]at hbc;apply sR;simp only[go_sem,seval,a3,bkE,kU];refine Yn rfl hbc ?_;rintro r Z6 ⟨i1,vh,hv,rfl,hJ⟩;have c3:=hJ.sub _ _ a3;have xs:(bW b s.s hv).s=s.s:=rfl;have xb:(bW b s.s hv).body=(aU b s.s).body:=rfl;have xh:(bW b s.s hv).high=(aU b s.s).high:=rfl;have xl:(bW b s.s hv).ls=[]:=rfl;have xf:(bW b s.s hv).fs=[]:=rfl;have xk:(bW b s.s hv).kind=0:=rfl;have hs5:aa U Z5:=hs;by_cases h0:b.atoms=[]/\s.s.free=true
  .obtain⟨h01,h02⟩:=h0;have q1:((b.atoms.length:Int)=0)=True:=L' (by rw[h01];rfl);rw[bY,ak ⟨h01,h02⟩];have hlc:=Hb b hb.toBkOk (bW b s.s hv) (by rw[xl];simp) (by rw[xh];have:=YU.high;omega) hJ;have e1:mo (uS b (bW b s.s .aB))=mo (uS b (bW b s.s hv)):=rfl;have e2:mP b (bW b s.s .aB)=mP b (bW b s.s hv):=rfl;rw[e1,e2];generalize uS b (bW b s.s hv)=X at*;generalize mP b (bW b s.s hv)=Z at*;rw[h02]at c3;apply sR;simp only[go_sem,seval,q1,Yo,c3];refine Yn rfl hlc ?_;rintro r Z7 ⟨vl',rfl,hJ7⟩;have d5:=hJ7.sub _ _ a5;apply sR;simp only[go_sem,seval,d5,bP,cm];have YB:=hJ7.ao a5 ⟨27,4,[.agg [vI Z.s.atom,vI Z.s.done,.bool Z.s.free,ax Z.bu]]⟩;generalize Yc:C' Z7 i5 _=Y8 at*;have b1:=YB.row;rw[dC]at b1;have b5:=YB.sub _ _ af;have b4:=YB.sub i4 _ ((ab ZW).trans a4);obtain⟨ch,sh⟩:=YB.oh.vc;obtain⟨cf,sf⟩:=YB.of.vc;obtain⟨cl,sl⟩:=YB.ol.vc;have n54:=ZW.symm;refine ag.tT (by kernel_rfl) [0,1,2,3,4,5,6,7] [[],[0],[0,1],[0,1,2],[],[0,1,2,3],[0,1,2,3,4,5],[0,1,2,3,4,5,6]] [0,2,4,6,8,10,9,12,14] (by kernel_rfl) (by kernel_rfl) ?_;refine cI (n:=0) [9,12,14] [0,2,4,6,8,10] [_,_,_,_,_,_] rfl rfl ?_;simp only[go_sem,seval,b1,b4,b5];refine dy rfl (by simp only[go_sem,seval,b5,ab n54]) ?_;refine cI (n:=0) [] [12,14] [_,_] rfl rfl ?_;simp only[go_sem,seval,b5,ab n54];apply sR;simp only[go_sem,seval,uw,ab ZW];exact((YB.ao ((ab ZW).trans a4) _).ao ((ab n54).trans af) _).ret (((hs5.ao z5).ao z4).ao z5) _ _
  .have hpr:bY b s=if mG b s then(mo { er b s with kind:=2 },⟨⟨s.s.atom,s.s.done,s.s.free&&decide (s.s.atom<b.atoms.length)⟩,(bZ (aU b s.s).body s.bu 0).2.1⟩)else(mo (fM b (er b s)),iJ b (er b s)):=by rw[bY,au h0]
   have htc:=NS s.bu hp (aU b s.s).body hr1 (by have:=YU.body;omega) hph;obtain⟨g1,g2,g3,g4⟩:=nY (body:=(aU b s.s).body) s.bu 0 (Int.le_refl _) (by omega) hph;have hlc:=Lr b.atoms hb.W3 s.s (by
    rcases X9.2 with h|h
    .have:=rD hb.toBkOk h;omega
    .omega)
   rw[aL]at hlc;have b1:=hJ.row;simp only[dC,bW]at b1;have hfw:=KP b hb.toBkOk;have hX:∀x:Wx,x=({ bW b s.s hv with shift:=(bZ (aU b s.s).body s.bu 0).2.2 }:Wx).put (bZ (aU b s.s).body s.bu 0).1->mo { x with kind:=2 }=mo { er b s with kind:=2 }/\mo (fM b x)=mo (fM b (er b s))/\iJ b x=iJ b (er b s):=λx hx=>by
    subst hx;exact⟨rfl,(tj b (er b s) hv).1,(tj b (er b s) hv).2⟩
   have hp1:mG b s->bY b s=_:=λh=>hpr.trans (ak h);have hp2:¬mG b s->bY b s=_:=λh=>hpr.trans (au h);clear hpr;unfold mG at hp1 hp2;generalize er b s=TX at*;generalize bZ (aU b s.s).body s.bu 0=T at*;obtain⟨put,left,sh'⟩:=T;simp only at htc g1 g2 g3 g4 hX hp1 hp2;have hll:=cF left;have hq:(((b.atoms.length:Int)=0)=True/\s.s.free=false)\/(((b.atoms.length:Int)=0)=False/\True):=by
    by_cases he:b.atoms=[]
    .exact .inl ⟨L' (by rw[he];rfl),by
      cases hfr:s.s.free
      .rfl
      .exact absurd ⟨he,hfr⟩ h0⟩
    .exact .inr ⟨H' (by have:=rW.2 he;omega),trivial⟩
   rcases hq with⟨q,hf⟩|⟨q,hf⟩
   all_goals
    apply sR;simp only[go_sem,seval,q,hf,Yo,c3,b1,bkE];refine pJ rfl htc ?_;apply sG;simp only[go_sem,seval,b1];generalize Yl:C' Z6 i1 _=Y7;have hJ7:Zu b Z5 i1 { bW b s.s hv with shift:=sh' } Y7 vh .aB .aB:=by
     rw[<-Yl];exact hJ.set _ rfl rfl rfl
    refine Yn rfl (n7 b put (by omega) { bW b s.s hv with shift:=sh' } (by simp[bW]) (λf hf=>by
     have:=g2 f hf;have:=YU.high;have:=YU.body;exact ae (by show _<=f.y+(aU b s.s).high;omega) (by show f.y+(aU b s.s).high<=_;omega)) hJ7) ?_
    rintro-Z8 ⟨vl',YB⟩;obtain⟨x1,x2,x3⟩:=hX _ rfl;have c3:=YB.sub _ _ a3;have d5:=YB.sub _ _ a5;have b1:=YB.row;have ys:(Wx.put { bW b s.s hv with shift:=sh' } put).s=s.s:=rfl;have yb:(Wx.put { bW b s.s hv with shift:=sh' } put).body=(aU b s.s).body:=rfl;have yh:(Wx.put { bW b s.s hv with shift:=sh' } put).high=(aU b s.s).high:=rfl;have yw:(Wx.put { bW b s.s hv with shift:=sh' } put).shift=sh':=rfl;have yf:(Wx.put { bW b s.s hv with shift:=sh' } put).fs.length<=1000000:=by simp[Wx.put,bW]
    have yl:(Wx.put { bW b s.s hv with shift:=sh' } put).ls.length<=1000000:=by simp[Wx.put,bW];omega
    generalize Wx.put { bW b s.s hv with shift:=sh' } put=Y at*;rw[dC]at b1;have n15:i1≠i5:=λe=>by have:=YB.no;rw[e,a5]at this;cases this
    have n51:=n15.symm;have n54:=ZW.symm;have r1:WI .i64 ((aU b s.s).body-sh'):=ae (by omega) (by have:=YU.body;omega);rw[<-yb]at r1 hp1 hp2;by_cases hfull:s.s.atom=b.atoms.length\/left≠[]\/sh'>0/\eY b.atoms s.s>Y.body-sh'
    .rw[hp1 hfull,<-x1];have hw:((s.s.atom=(b.atoms.length:Int))=True/\True/\True/\True)\/((s.s.atom=(b.atoms.length:Int))=False/\((left.length:Int)>0)=True/\True/\True)\/
      ((s.s.atom=(b.atoms.length:Int))=False/\((left.length:Int)>0)=False/\(sh'>0)=True/\(eY b.atoms s.s>Y.body-sh')=True):=by
      by_cases hA:s.s.atom=b.atoms.length
      .exact .inl ⟨L' hA,trivial,trivial,trivial⟩
      by_cases hB:left=[]
      .obtain⟨hC,hD⟩:=(hfull.resolve_left hA).resolve_left (λh=>h hB);exact .inr (.inr ⟨H' hA,H' (by rw[hB];simp),L' hC,L' hD⟩)
      .exact .inr (.inl ⟨H' hA,L' (by have:=rW.2 hB;omega),trivial,trivial⟩)
     obtain⟨VAL,hV⟩:∃VAL:Bool,VAL=(s.s.free&&decide (s.s.atom<b.atoms.length)):=⟨_,rfl⟩
     have n13:i3≠i1:=λe=>by have:=YB.no;rw[<-e,a3]at this;cases this
     cases hfr:s.s.free
     all_goals
      simp only[hfr,Bool.false_and,Bool.true_and]at hV;rw[hfr]at hlc;rcases hw with⟨qA,qB,qC,qD⟩|⟨qA,qB,qC,qD⟩|⟨qA,qB,qC,qD⟩
      all_goals
       apply sR;simp only[go_sem,seval,c3,d5,b1,Yo,hll,qA,qB,qC,bkE,hfr,ab n51,ab n13,ab n35,cm,bU,bT]
       try
        refine pJ rfl hlc ?_;apply sG;simp only[go_sem,seval,c3,d5,b1,r1,qD,Yo,bkE,hfr,ab n51,ab n13,ab n35,cm,bU,bT]
       generalize Yc:C' (C' Z8 i1 _) i5 _=Y8;have YB:Zu b (C' Z5 i5 ⟨27,4,[.agg [vI s.s.atom,vI s.s.done,.bool VAL,ax left]]⟩) i1 { Y with kind:=2 } Y8 vh .aB vl':=by
        rw[<-Yc,hV];exact(YB.set { Y with kind:=2 } rfl rfl rfl).ao a5 _
       clear Yc;have b1:=YB.row;rw[dC]at b1;have b5:=YB.sub _ _ af;rw[hV]at b5;have b4:=YB.sub i4 _ ((ab ZW).trans a4);obtain⟨ch,sh⟩:=YB.oh.vc;obtain⟨cf,sf⟩:=YB.of.vc;obtain⟨cl,sl⟩:=YB.ol.vc;refine ag.tT (by kernel_rfl) [0,1,2,3,4,5,6,7] [[],[0],[0,1],[0,1,2],[],[0,1,2,3],[0,1,2,3,4,5],[0,1,2,3,4,5,6]] [0,2,4,6,8,10,9,12,14] (by kernel_rfl) (by kernel_rfl) ?_;refine cI (n:=0) [9,12,14] [0,2,4,6,8,10] [_,_,_,_,_,_] rfl rfl ?_;simp only[go_sem,seval,b1,b4,b5];refine dy rfl (by simp only[go_sem,seval,b5,ab n54]) ?_;refine cI (n:=0) [] [12,14] [_,_] rfl rfl ?_;simp only[go_sem,seval,b5,ab n54];apply sR;simp only[go_sem,seval,uw,ab ZW];exact((YB.ao ((ab ZW).trans a4) _).ao ((ab n54).trans af) _).ret (((hs5.ao z5).ao z4).ao z5) _ _
    .rw[hp2 hfull,<-x2,<-x3];have hA:¬s.s.atom=b.atoms.length:=λh=>hfull (.inl h);have hm':cT b.atoms s.s:=X9.2.resolve_right λh=>hA h.1;have hw:((s.s.atom=(b.atoms.length:Int))=False/\((left.length:Int)>0)=False/\(sh'>0)=False/\True)\/((s.s.atom=(b.atoms.length:Int))=False/\((left.length:Int)>0)=False/\(sh'>0)=True/\(eY b.atoms s.s>Y.body-sh')=False):=by
      have hB:left=[]:=Decidable.byContradiction λh=>hfull (.inr (.inl h));have hB':((left.length:Int)>0)=False:=H' (by rw[hB];simp);by_cases hC:sh'>0
      .exact .inr ⟨H' hA,hB',L' hC,H' λh=>hfull (.inr (.inr ⟨hC,h⟩))⟩
      .exact .inl ⟨H' hA,hB',H' hC,trivial⟩
     have hwf:=hfw Y (by rw[ys];exact hm') yf yl (by rw[yh];have:=YU.high;omega) (by rw[yb];have:=YU.body;omega) (by rw[yw];have:=YU.body;omega) YB;generalize fM b Y=X at*;generalize iJ b Y=Z at*;rcases hw with⟨qA,qB,qC,qD⟩|⟨qA,qB,qC,qD⟩
     all_goals
      apply sR;simp only[go_sem,seval,c3,Yo,qA,hll,qB,qC]
      try
       refine pJ rfl hlc ?_;apply sG;simp only[go_sem,seval,b1,r1,qD]
      refine Yn rfl hwf ?_;rintro-Z9 ⟨vf',vl'',rfl,YW⟩;have e5:=YW.sub _ _ a5;apply sR;simp only[go_sem,seval,e5,bP,cm];have YB:=YW.ao a5 ⟨27,4,[.agg [vI Z.s.atom,vI Z.s.done,.bool Z.s.free,ax Z.bu]]⟩;generalize Yc:C' Z9 i5 _=Y8 at*;have b1:=YB.row;rw[dC]at b1;have b5:=YB.sub _ _ af;have b4:=YB.sub i4 _ ((ab ZW).trans a4);obtain⟨ch,sh⟩:=YB.oh.vc;obtain⟨cf,sf⟩:=YB.of.vc;obtain⟨cl,sl⟩:=YB.ol.vc;refine ag.tT (by kernel_rfl) [0,1,2,3,4,5,6,7] [[],[0],[0,1],[0,1,2],[],[0,1,2,3],[0,1,2,3,4,5],[0,1,2,3,4,5,6]] [0,2,4,6,8,10,9,12,14] (by kernel_rfl) (by kernel_rfl) ?_;refine cI (n:=0) [9,12,14] [0,2,4,6,8,10] [_,_,_,_,_,_] rfl rfl ?_;simp only[go_sem,seval,b1,b4,b5];refine dy rfl (by simp only[go_sem,seval,b5,ab n54]) ?_;refine cI (n:=0) [] [12,14] [_,_] rfl rfl ?_;simp only[go_sem,seval,b5,ab n54];apply sR;simp only[go_sem,seval,uw,ab ZW];exact((YB.ao ((ab ZW).trans a4) _).ao ((ab n54).trans af) _).ret (((hs5.ao z5).ao z4).ao z5) _ _
def blk(cnt:Nat->Nat)(a n:Nat):List Int:=(List.range' a n).flatMap λi=>List.replicate (cnt i) (i:Int)
def kP(cnt:Nat->Nat)(a:Nat):blk cnt a 0=[]:=rfl
def iY(cnt:Nat->Nat)(a n:Nat):blk cnt a (n+1)=List.replicate (cnt a) (a:Int)++blk cnt (a+1) n:=by
 simp[blk,List.range'_succ]
def oM{f g:Nat->Nat}:∀(n a:Nat),(∀i,a<=i->i<a+n->f i=g i)->blk f a n=blk g a n
 |0,_,_=>rfl
 |n+1,a,h=>by
  rw[iY,iY,h a (Xc a) (by omega),oM n (a+1) (λi h1 h2=>h i (by omega) (by omega))]
def Cb(cnt:Nat->Nat):∀(n a m:Nat),blk cnt a (n+m)=blk cnt a n++blk cnt (a+n) m
 |0,a,m=>by simp[kP]
 |n+1,a,m=>by
  rw[show n+1+m=(n+m)+1 by omega,iY,iY,Cb cnt n (a+1) m,lh,show a+1+n=a+(n+1) by omega]
def Lx(f g:Nat->Nat)(a n m:Nat):blk f a n++blk g (a+n) m=blk (λi=>if i<a+n then f i else g i) a (n+m):=by
 rw[Cb];congr 1
 .exact oM n a λi h1 h2=>by simp[h2]
 .exact oM m (a+n) λi h1 h2=>by simp[show¬i<a+n by omega]
structure AtI(C:Int)(x:XA):Prop where
 y0:0<=x.y
 y1:x.y<=C
 h0:1<=x.h
 h1:x.h<=1099511627776
def AtI.mono{B C:Int}{x:XA}(h:AtI B x)(hB:B<=C):AtI C x:=⟨h.y0,Int.le_trans h.y1 hB,h.h0,h.h1⟩
def nW(a:Nat)(h:Int):∀(L:List Ln) (s:WS),(eK a h s L).atoms=s.atoms++L.map (eQ a h)
 |[],s=>by simp[eK]
 |x::L,s=>by
  have:=nW a h L (s.put (eQ a h x));simp only[eK,gg]at this|-;rw[this];simp[WS.put]
def LB(a:Nat)(h:Int)(L:List Ln):(L.map (eQ a h)).map (·.node)=List.replicate L.length (a:Int):=by
 rw[List.map_map]
 induction L with
 |nil=>rfl
 |cons x L ih=>rw[eV,ih];rfl
def Gk{l:List Nd}{a e:Nat}(he:e<=l.length)(h:bG l a e=true)(hae:a<e)(hk:(W7 l a).kind≠1):WJ l a<=1:=by
 have ha:a<l.length:=by omega
 rw[gF ha]at hk;rw[bG,dif_pos hae]at h;simp only[Zq6 ha]at h;split at h
 .simp only[Ba,lG,YX]at h;have:=h.1.1.resolve_left hk;simp only[WJ,Zq6 ha,Option.map_some,Option.getD_some];omega
 .cases h
structure BL(l:List Nd)(s t:WS)(a e C:Nat):Prop where
 W3:∀x∈t.atoms,AtI (1099511627776*(C:Int)) x
 nodes:∃cnt,t.atoms.map (·.node)=s.atoms.map (·.node)++blk cnt a (e-a)/\∀i,a<=i->i<e->okN (W7 l i) (cnt i)=true
def BL.join{l:List Nd}{s t u:WS}{a m e C D:Nat}(h1:a<=m)(h2:m<=e)(hA:BL l s t a m C)(hB:BL l t u m e D):BL l s u a e D:=by
 obtain⟨_,f,hf,hfo⟩:=hA;obtain⟨Yg,g,hg,Zq⟩:=hB;refine⟨Yg,λi=>if i<m then f i else g i,?_,λi h3 h4=>?_⟩
 .rw[hg,hf,lh];congr 1;obtain⟨n,rfl⟩:∃n,m=a+n:=⟨m-a,by omega⟩
  obtain⟨k,rfl⟩:∃k,e=a+n+k:=⟨e-(a+n),by omega⟩
  rw[show a+n-a=n by omega,show a+n+k-(a+n)=k by omega,show a+n+k-a=n+k by omega,Lx]
 .simp only;split
  .exact hfo i h3 (by omega)
  .exact Zq i (by omega) h4
def uC{l:List Nd}{rs:List Rm}(hD:DOk l rs):∀(k a e:Nat) (s:WS) (C:Nat),e-a<=k->a<=e->e<=l.length->bG l a e=true->fk s C->(∀x∈s.atoms,AtI (1099511627776*(C:Int)) x)->BL l s (cU l rs k a e s) a e (C+Xv l a e)
 |0,a,e,s,C,hk,hae,_,_,h,hx=>by
  obtain rfl:a=e:=by omega
  refine⟨λx Xp=>(hx x Xp).mono (by omega),λ_=>0,by simp[cU,kP],λi h1 h2=>by omega⟩
 |k+1,a,e,s,C,hk,hae,he,hr,h,hx=>by
  rw[cU];by_cases B':a<e
  .rw[ak B'];obtain⟨h1,h2⟩:=bV he hr (Xc a) B';obtain⟨h3,h4⟩:=cK he hr B';have Xa:NOk (W7 l a):=by rw[gF (by omega)];exact ec hD.isb (by omega)
   have hc1:Xv l a e=Xv l a (a+(WJ l a).toNat)+Xv l (a+(WJ l a).toNat) e:=eA (by omega) (by omega) he;have hc2:Xv l a (a+(WJ l a).toNat)=4+(W7 l a).words.length+Xv l (a+1) (a+(WJ l a).toNat):=nm (by omega) (by omega);have step:∀t,fk t (C+Xv l a (a+(WJ l a).toNat))->BL l s t a (a+(WJ l a).toNat) (C+Xv l a (a+(WJ l a).toNat))->BL l s (cU l rs k (a+(WJ l a).toNat) e t) a e (C+Xv l a e):=λt ht hA=>by
    rw[hc1,<-Nat.add_assoc];exact hA.join (by omega) (by omega) (uC hD k _ e t _ (by omega) (by omega) he h3 ht hA.W3)
   have one:∀(t:WS) (n:Nat),okN (W7 l a) n=true->(WJ l a).toNat=1->t.atoms.map (·.node)=s.atoms.map (·.node)++List.replicate n (a:Int)->(∀x∈t.atoms,AtI (1099511627776*((C+Xv l a (a+(WJ l a).toNat):Nat):Int)) x)->BL l s t a (a+(WJ l a).toNat) (C+Xv l a (a+(WJ l a).toNat)):=λt n hn X7 hm Yg=>by
    refine⟨Yg,λ_=>n,?_,λi h5 h6=>?_⟩
    .rw[hm,X7,show a+1-a=1 by omega,iY,kP,iN]
    .obtain rfl:i=a:=by omega
     exact hn
   obtain⟨⟨hf,p1,p2,p3,p4⟩,p5,p6⟩:=h;have hI:fk s C:=⟨⟨hf,p1,p2,p3,p4⟩,p5,p6⟩
   by_cases k1:(W7 l a).kind=1
   .rw[ak k1];have hI2:=gG hD k (a+1) (a+(WJ l a).toNat) _ _ (by omega) (by omega) (by omega) h4 (et hI Xa.st);have hA2:=uC hD k (a+1) (a+(WJ l a).toNat) (s.enter (W7 l a).st) (C+2) (by omega) (by omega) (by omega) h4 (et hI Xa.st) (λx Xp=>(hx x Xp).mono (by omega));refine step _ ((jD hI2 Xa.st).more (by omega)) ?_;obtain⟨Yg,cnt,hc,hco⟩:=hA2;refine⟨λx Xp=>(Yg x Xp).mono (by omega),λi=>if i=a then 0 else cnt i,?_,λi h5 h6=>?_⟩
    .have e1:(s.enter (W7 l a).st).atoms=s.atoms:=rfl;rw[e1]at hc;show(cU l rs k (a+1) (a+(WJ l a).toNat) (s.enter (W7 l a).st)).atoms.map (·.node)=_;rw[hc];congr 1;obtain⟨m,hm⟩:∃m,(WJ l a).toNat=m+1:=⟨(WJ l a).toNat-1,by omega⟩
     rw[hm,show a+(m+1)-(a+1)=m by omega,show a+(m+1)-a=m+1 by omega,iY];simp only[if_true,List.replicate_zero,jE];exact oM m (a+1) λi h5 h6=>by simp[show i≠a by omega]
    .simp only;split
     .rename_i e;subst e;simp[okN,k1]
     .exact hco i (by omega) h6
   .rw[au k1];have X7:(WJ l a).toNat=1:=by
     have:=Gk he hr B' k1;omega
    by_cases k2:(W7 l a).kind=2
    .rw[ak k2];refine step _ ((ky hI Xa a).more (by omega)) ?_;have hl:=Xa.line;obtain⟨hw0,hl1⟩:=Xa.text k2;have hLl:=jq s.u' (W7 l a).words (W7 l a).space (W7 l a).line (ep rs a) (W7 l a).words.length 0 (s.Wy.y+s.Wy.m);have hLb:=iV (ws:=(W7 l a).words) (space:=(W7 l a).space) (s:=ep rs a) (λf hf'=>(hf f hf').yB) hl.1 (W7 l a).words.length 0 (s.Wy.y+s.Wy.m);have hLn:cz s.u' (W7 l a).words (W7 l a).space (W7 l a).line (ep rs a) (W7 l a).words.length 0 (s.Wy.y+s.Wy.m)≠[]:=by
      obtain⟨m,hm⟩:∃m,(W7 l a).words.length=m+1:=⟨(W7 l a).words.length-1,by omega⟩
      rw[hm,cz,ak (by omega)];simp
     have hte:(s.text rs a (W7 l a)).atoms=s.atoms++(cz s.u' (W7 l a).words (W7 l a).space (W7 l a).line (ep rs a) (W7 l a).words.length 0 (s.Wy.y+s.Wy.m)).map (eQ a (W7 l a).line):=nW a _ _ s;generalize cz s.u' (W7 l a).words (W7 l a).space (W7 l a).line (ep rs a) (W7 l a).words.length 0 (s.Wy.y+s.Wy.m)=L at*;have hL0:=rW.2 hLn;have hmul:(W7 l a).line*((W7 l a).words.length:Int)<=1099511627776*((W7 l a).words.length:Int):=Int.mul_le_mul_of_nonneg_right hl.2 (by omega);refine one _ L.length (by simp only[okN,k2,if_true,YX];omega) X7 (by rw[hte,cX,LB]) (λx Xp=>?_);rw[hte]at Xp;rcases dH.1 Xp with Xp|Xp
     .exact(hx x Xp).mono (by omega)
     .obtain⟨y,hy,rfl⟩:=gb.1 Xp;have:=hLb y hy;refine⟨?_,?_,hl1,hl.2⟩<;>simp only[eQ]<;>omega
    .rw[au k2];by_cases k3:(W7 l a).kind=3
     .rw[ak k3];refine step _ ((ku hI Xa a).more (by omega)) ?_;have hyr:=eS (w:=(W7 l a).w) (high:=(W7 l a).h) (y:=s.Wy.y+s.Wy.m) (s:=ep rs a) (λf hf'=>(hf f hf').yB);have hbx:=Xa.box (.inl k3);have hh:=Xa.h;refine one _ 1 (by simp[okN,k3]) X7 (by simp[WS.mono,WS.put]) (λx Xp=>?_);simp only[WS.mono,WS.put]at Xp;rcases dH.1 Xp with Xp|Xp
      .exact(hx x Xp).mono (by omega)
      .simp only[ja]at Xp;subst Xp;refine⟨?_,?_,?_,?_⟩<;>simp only<;>omega
     .rw[au k3];have k4:(W7 l a).kind=4:=by rcases Xa.kind with h|h|h|h;exact absurd h k1;exact absurd h k2;exact absurd h k3;exact h
      refine step _ ((jG hD hI (by omega) Xa k4).more (by omega)) ?_;exact one _ 0 (by simp[okN,k4]) X7 (by simp[WS.float]) (λx Xp=>(hx x Xp).mono (by omega))
  .rw[au B'];obtain rfl:a=e:=by omega
   exact⟨λx Xp=>(hx x Xp).mono (by omega),λ_=>0,by simp[kP],λi h1 h2=>by omega⟩
def JO(i:Int)(L:List Int)(h:∀x∈L,x≠i):∀k,tG i (List.replicate k i++L)=k
 |0=>by
  cases L with
  |nil=>rfl
  |cons x L=>rw[List.replicate_zero,jE,tG,au (h x (by simp))]
 |k+1=>by rw[List.replicate_succ,List.cons_append,tG,ak rfl,JO i L h k]
def y6{cnt:Nat->Nat}:∀{n a:Nat} {x:Int},x∈blk cnt a n->∃i:Nat,x=i/\a<=i/\i<a+n
 |0,_,_,h=>by simp[kP]at h
 |n+1,a,x,h=>by
  rw[iY]at h;rcases dH.1 h with h|h
  .exact⟨a,(List.mem_replicate.1 h).2,by omega,by omega⟩
  .obtain⟨i,h1,h2,h3⟩:=y6 h;exact⟨i,h1,by omega,by omega⟩
def Ci{cnt:Nat->Nat}{of:List Int}:∀(r:List Nd) (i W3:Nat),of.drop W3=blk cnt i r.length->W3<=of.length->(∀j (h:j<r.length),okN r[j] (cnt (i+j))=true)->Aw of r i W3=true
 |[],i,W3,h,hl,_=>by
  have:of.length<=W3:=by
   have:=congrArg List.length h;simp[kP]at this;omega
  simp[Aw];omega
 |x::r,i,W3,h,hl,ho=>by
  rw[YI,iY]at h;have ht:mB of W3 i=cnt i:=by
   rw[mB,h];exact JO _ _ (λy hy=>by obtain⟨j,h1,h2,_⟩:=y6 hy;omega) _
  rw[Aw,ht];have h0:=ho 0 (by simp);simp only[List.getElem_cons_zero,Nat.add_zero]at h0;rw[h0,Bool.true_and];have hd:of.drop (W3+cnt i)=blk cnt (i+1) r.length:=by
   rw[<-List.drop_drop,h,CR (by simp)];simp
  refine Ci r (i+1) _ hd ?_ (λj hj=>?_)
  .have:=congrArg List.length h;simp at this;omega
  .have:=ho (j+1) (by simpa using hj);simp only[List.getElem_cons_succ]at this
   rwa [show i+1+j=i+(j+1) by omega]
structure Pe(l:List Nd)(w:Int):Prop where
 may:rC l ((cY l w).atoms.map (·.node))=true
 nod:∀a∈(cY l w).atoms,0<=a.node/\a.node<l.length
 W3:∀x∈(cY l w).atoms,AtI (1099511627776*((Xv l 0 l.length:Nat):Int)) x
 len:(cY l w).atoms.length<=Xv l 0 l.length
 flen:(cY l w).u'.length<=Xv l 0 l.length
 flo:∀f∈(cY l w).u',FOk (1099511627776*((Xv l 0 l.length:Nat):Int)) f
def wa{l:List Nd}(hb:Xh l=true)(hn:l.length<=2000){w:Int}(h1:1<=w)(h2:w<=1099511627776):Pe l w:=by
 have hD:=pn hb hn h1 h2;have hr:bG l 0 l.length=true:=by simp only[Xh,Ba]at hb;exact hb.2
 have hI:fk ⟨[],[],0,⟨0,0⟩⟩ 0:=⟨⟨by simp,by simp,by simp,by simp,by simp⟩,by simp,by simp⟩
 have hA:=uC hD l.length 0 l.length ⟨[],[],0,⟨0,0⟩⟩ 0 (by omega) (by omega) (Xc _) hr hI (by simp);have hJ:=gG hD l.length 0 l.length ⟨[],[],0,⟨0,0⟩⟩ 0 (by omega) (by omega) (Xc _) hr hI;rw[kf]at hA hJ;have ha:(cY l w).atoms=(cU l (cB l w) l.length 0 l.length ⟨[],[],0,⟨0,0⟩⟩).atoms:=rfl;have hf:(cY l w).u'=(cU l (cB l w) l.length 0 l.length ⟨[],[],0,⟨0,0⟩⟩).u'.map (lP (cU l (cB l w) l.length 0 l.length ⟨[],[],0,⟨0,0⟩⟩).atoms.length):=rfl;obtain⟨Yg,cnt,hc,hco⟩:=hA;rw[List.map_nil,jE,Nat.sub_zero]at hc;refine⟨?_,λa hm=>?_,by rw[ha];exact Yg,by rw[ha];exact hJ.W3,by rw[hf,cJ];exact hJ.fl,λf hm=>?_⟩
 .rw[ha,hc];refine Ci (cnt:=cnt) l 0 0 (by simpa using hc) (Nat.zero_le _) (λj hj=>?_);have:=hco j (Nat.zero_le _) hj;rw[gF hj]at this
  rwa [kf]
 .have hm':a.node∈blk cnt 0 l.length:=by rw[<-hc,<-ha];exact List.mem_map_of_mem hm
  obtain⟨i,e,_,hi⟩:=y6 hm';omega
 .rw[hf]at hm;obtain⟨g,hg,rfl⟩:=gb.1 hm;have:=hJ.bd.fl g hg;exact⟨this.1,this.2,this.3,this.4,this.5,this.6,this.7,this.8⟩
def uL:∀(l:List Nd),(∀x∈l,NOk x)->((l.map λn=>4+n.words.length).sum:Nat)<=4*(l.length:Int)+lA l/\∀x∈l,(x.words.length:Int)<=lA l
 |[],_=>by simp[lA]
 |x::l,h=>by
  obtain⟨h1,h2⟩:=uL l (λy hy=>h y (by simp[hy]));have hx:=h x (by simp);have hp:(x.words.length:Int)<=pof x/\0<=pof x:=by
   unfold pof;by_cases k1:x.kind=1
   .have:=hx.nowords (by omega);simp[k1,this]
   .by_cases k2:x.kind=2
    .simp[k2]
    .have:=hx.nowords k2;simp[k1,k2,this]
  have hp0:0<=lA l:=by
   have:∀l:List Nd,0<=lA l:=by
    intro l
    induction l with
    |nil=>simp[lA]
    |cons y l ih=>
     have:0<=pof y:=by unfold pof;split;omega;split;omega;omega
     simp only[lA];omega
   exact this l
  refine⟨by simp only[eV,List.sum_cons,YI,lA];omega,λy hy=>?_⟩;rcases dJ.1 hy with rfl|hy
  .simp only[lA];omega
  .have:=h2 y hy;simp only[lA];omega
structure QV(l:List Nd):Prop where
 isb:Xh l=true
 len:l.length<=2000
 words:∀x∈l,x.words.length<=2000
 Xv:Xv l 0 l.length<=10000
def nK{l:List Nd}(h:dZ l=0):QV l:=by
 unfold dZ at h;split at h
 .rename_i hb;split at h
  .cases h
  .rename_i hc;have XR:l.all Nd.ok=true:=by simp only[Xh,Ba]at hb;exact hb.1
   rw[gl,ak hb,wZ l XR l.length (Xc _),dR]at hc;simp only[not_or]at hc;obtain⟨h1,h2⟩:=uL l (λx hx=>by obtain⟨i,hi,rfl⟩:=List.getElem_of_mem hx;exact ec hb hi);refine⟨hb,by omega,λx hx=>by have:=h2 x hx;omega,?_⟩;have:Vc.Xv l 0 l.length=(l.map λn=>4+n.words.length).sum:=by unfold Vc.Xv;rw[dR,Du]
   omega
 .cases h
open Go.Proofs
def ag.EP{P:Program}{n:Nat}{Q:St->Prop}{s:Nat->V}{U K:ad}{todo:List It}(l ds:List Nat){e sz:Nat}{v:V}{rows:List V}(hK:aa K U)(ho:aq K U e sz v rows)
 (hs:∀d∈ds,s d=v)(hr:ag P n todo ⟨λi=>if ds.contains i then .sl sz rows else wq l s i,K⟩ Q):ag P n todo ⟨s,U⟩ Q:=by
 refine ag.weaken ⟨hK,λi=>?_⟩ hr;show Wk U K (s i) _;by_cases hi:ds.contains i=true
 .simp only[ak hi];rw[hs i (by simpa using hi)];exact ho.wk (aa.refl K) hK
 .simp only[au hi];unfold wq;split
  .exact Wk.refl hK _
  .exact Wk.undef _
def ofR(l:List Nd)(w:Int):List Int:=(cY l w).atoms.map (·.node)
def dX(l:List Nd)(w h:Int):Bk:=⟨l,w,h,(cY l w).atoms,(cY l w).u',(cY l w).U',oU l (ofR l w)⟩
def mO(n:Int):Prop:=1<=n/\n<=1099511627776
instance (n:Int):Decidable (mO n):=by unfold mO;infer_instance
def fK(l:List Nd)(w h:Int):Int:=if¬(mO w/\mO h)then 3 else if dZ l≠0 then dZ l else if(gl l).1.V'>mulR (cM l h) 32768 then 2 else 0
def Gh(l:List Nd)(w h:Int):V:=if fK l w h=0 then .rp (br (dX l w h))else .nilp
def gu.G8{K U:ad}{id:Nat}{o:Ob}(hK:K id≠none):∀{l:List Nd} {rows:List V},gu K U l rows->gu K (C' U id o) l rows
 |[],[],_=>trivial
 |_::_,_::_,⟨⟨w,h1,h2⟩,h⟩=>⟨⟨w,h1,h2.ab hK⟩,gu.G8 hK h⟩
 |[],_::_,h=>h.elim
 |_::_,[],h=>h.elim
def AH.G8{K U:ad}{id:Nat}{o:Ob}(hK:K id≠none){v:V}{l:List Nd}(h:AH K U v l):AH K (C' U id o) v l:=by
 obtain⟨rows,ho,hr⟩:=h;exact⟨rows,ho.ab hK,hr.G8 hK⟩
def nA{α:Type}{f:α->V}(h:∀a,(f a).fw=true):∀l:List α,gU (l.map f)=true
 |[]=>rfl
 |a::l=>by simp only[eV,gU,h a,nA h l,Bool.and_self]
def TA(l:List Int)(U:ad):bO U false 1 (.rp (aN l))=some (aN l):=rfl
def uT(vn:V)(w h:Int)(va vf:V)(ht:Int)(vb:V):Ob:=⟨85,7,[.agg [vn,vI w,vI h,va,vf,vI ht,vb]]⟩
def Hi{U J:ad}{ib:Nat}{b:Bk}{vn:V}(hs:aa U J)(z:U ib=none)(hr:J ib=some (uT vn b.w b.h (aT b.atoms) (ax b.WA) b.U' (aY b.WT)))(ho:AH (bj U ib) J vn b.nodes):
 ai (.WC [.ptr ib 0 0,vI 0]) J λr Z'=>r=.WC [.rp (br b),vI 0]/\Z'=U:=by
 have hN:∀id,bj U ib id=none->U id=none:=λid h=>(aF.1 h).2;have n1:gU [aT b.atoms,ax b.WA,vI b.U',aY b.WT]=true:=by
  have a1:(aT b.atoms).fw=true:=nA (f:=bE) (λ_=>rfl) b.atoms;have a2:(ax b.WA).fw=true:=nA (f:=az) (λ_=>rfl) b.WA;have a3:(aY b.WT).fw=true:=nA (f:=bX) (λ_=>rfl) b.WT;simp only[gU,a1,a2,a3];rfl
 have hf:Fz J (λid=>U id=none) (.WC [.ptr ib 0 0,vI 0]) (.WC [.rp (br b),vI 0]):=by
  refine .WC _ _ (.cons _ _ _ _ (.ptr ib 0 _ _ _ hr z rfl (.agg _ _ ?_)) (Za.same [vI 0] rfl));exact .cons _ _ _ _ (ho.fz hN) (.cons _ _ _ _ (.same _ rfl) (.cons _ _ _ _ (.same _ rfl) (Za.same _ n1)))
 exact⟨_,U,hs,hf.wk hs (λ_ h=>h),rfl,rfl⟩
def Qa(l:List Nd)(hl:dz l)(w h:Int):aE prog 8 [ay l,vI w,vI h] (.WC [Gh l w h,vI (fK l w h)]):=λU=>by
 refine e8.q ?_;have hs:=aa.refl U;have bad:∀n:Int,fK l w h=n->n≠0->(Gh l w h=.nilp/\fK l w h=n):=λn hn h0=>⟨by rw[Gh,au (by rw[hn];exact h0)],hn⟩
 refine ag.mix 16 ?_;by_cases hw:mO w
 .have mw:=rO w;rw[show decide (1<=w/\w<=1099511627776)=true from XK hw]at mw;apply sR;simp only[go_sem,seval,c8];refine pS rfl (mw _) ?_;simp only[go_sem,seval];by_cases hh:mO h
  .have mh:=rO h;rw[show decide (1<=h/\h<=1099511627776)=true from XK hh]at mh;refine pS rfl (mh _) ?_;simp only[go_sem,seval];refine pR rfl (B0 l hl _) ?_;by_cases hc:dZ l=0
   .have q:(dZ l≠0)=False:=H' (λh=>h hc);have hck:=B0 l hl;rw[hc]at hck q|-;apply sR;simp only[go_sem,seval,q];refine pS rfl (Bw l hl _) ?_;simp only[go_sem,seval,Sm.cells];refine al hs λi9 Z9 s9 a9 f9 z9 hs=>?_;simp only[go_sem,seval,a9];generalize Xw:C' _ i9 _=Y9;replace a9:=XD Xw;replace hs:=Xz Xw hs z9;refine pJ rfl (Hu l hl h) ?_;apply sG;simp only[go_sem,seval];refine pJ rfl (Qy (cM l h) 32768) ?_;have hE:fK l w h=if(gl l).1.V'>mulR (cM l h) 32768 then 2 else 0:=by rw[fK,au (λh=>h ⟨hw,hh⟩),au (λh=>h hc)]
    by_cases hlim:(gl l).1.V'>mulR (cM l h) 32768
    .have q1:((gl l).1.V'>mulR (cM l h) 32768)=True:=L' hlim;obtain⟨e1,e2⟩:=bad 2 (by rw[hE,ak hlim]) (by decide);rw[e1,e2];apply sG;simp only[go_sem,seval,q1];exact ai.pure hs rfl
    have q1:((gl l).1.V'>mulR (cM l h) 32768)=False:=H' hlim;have e2:fK l w h=0:=by rw[hE,au hlim]
    have e1:Gh l w h=.rp (br (dX l w h)):=by rw[Gh,ak e2]
    rw[e1,e2];obtain⟨hisb,hn2,hwo,hcs⟩:=nK hc;have hG:=wa hisb hn2 hw.1 hw.2;have Zh:=Oz l hl hisb hn2 (λx hx=>by have:=hwo x hx;omega) (by omega) hck w hw.1 hw.2;apply sG;simp only[go_sem,seval,q1];refine Yn rfl (K7 l hl.1 _) ?_;rintro vn Z10 ⟨hs10,ho10⟩;replace ho10:=ho10.pj hs;replace hs:=hs.trans hs10;obtain⟨cn,sn⟩:=ho10.vc;have Yb:=ho10.len;rw[cJ]at Yb;apply sR;simp only[go_sem,seval,cn,sn];refine al hs λi46 Z46 s46 a46 f46 z46 hs=>?_;have ho46:aq (bj U i46) Z46 48 20 vn (l.map dW):=by
     rcases ho10 with h|⟨id,h3,h4,h5⟩
     .exact .inl h
     .exact .inr ⟨id,h3,s46 _ _ h4,aF.2 ⟨λe=>(by rw[e,f46]at h4;cases h4),h5⟩⟩
    have k46:bj U i46 i46≠none:=λh=>(aF.1 h).1 rfl;simp only[go_sem,seval,a46,Yb];refine ag.fP (λst=>aa U st.U/\AH (bj U i46) st.U vn l/\st.U i46=some (uT vn w h .aB .aB 0 .aB)/\st.s 0=ay l/\st.s 1=vI w/\st.s 11=.ptr i46 0 0)
     (λm st=>∃(i:Nat) (rows:List V),i<=l.length/\m=l.length-i/\aa U st.U/\aq (bj U i46) st.U 48 20 vn rows/\rows.length=l.length/\gu (bj U i46) st.U (l.take i) (rows.take i)/\rows.drop i=(l.drop i).map dW/\st.U i46=some (uT vn w h .aB .aB 0 .aB)/\
       st.s 0=ay l/\st.s 1=vI w/\st.s 11=.ptr i46 0 0/\st.s 51=vI l.length/\st.s 52=vI i) l.length ?_ ?_ ?_
    .exact⟨0,l.map dW,by omega,rfl,hs,ho46,by simp,trivial,by simp,a46,rfl,rfl,rfl,rfl,rfl⟩
    .clear hs ho46 a46 ho10 a9;rintro m ⟨S,J⟩ ⟨i,rows,hi,rfl,hs,ho,hn,hr,hd,hb,t0,t1,t11,t51,t52⟩;simp only at hs ho hr hb t0 t1 t11 t51 t52;refine ag.mix 60 ?_;by_cases B':i<l.length
     .have q:=qT B';obtain⟨id,rfl,M',hkid⟩:∃id,vn=.own id 0 rows.length/\J id=some ⟨48,20,rows⟩/\bj U i46 id=none:=by
       rcases ho with⟨_,h0⟩|h
       .rw[h0]at hn;simp at hn;omega
       .exact h
      have hdc:(l.drop i)=l[i]::l.drop (i+1):=iT B';have hw':=hwo _ (Xo B');have W4:l.take (i+1)=l.take i++[l[i]]:=Yz B';have XO:=λU=>gJ l B' U;generalize hxe:l[i]=x at*;have hrow':rows[i]?=some (.agg x.cells):=by
       have:(rows.drop i)[0]?=some (dW x):=by rw[hd,hdc];rfl
       rw[M6]at this;exact this
      have WZ:id≠i46:=(aF.1 hkid).1;have hio:∀X':ad,X' id=some ⟨48,20,rows⟩->bp X' 20 (.own id 0 rows.length) (.int .i64 i)=some (.ptr id i 0):=λX' h=>kc h (by omega);have r1:=rI i;rw[uT]at hb;apply sR;simp only[go_sem,seval,t51,t52,q,cm];refine ag.tT (by kernel_rfl) [0,1,2,3,4,5,6,7,8,9,10,11,12,13] [[],[0],[0,1],[0,1,2],[],[],[],[5,6],[5,6,7],[5,6,7,8],[5,6,7,8,9],[0,1,2,3,4,5,6,7,8,9,10],[0,1,2,3,4,5,6,7,8,9,10,11],[0,1,2,3,4,5,6,7,8,9,10,11,12]] [0,2,4,6,8,10,12,14,16,18,20,7,22,24,26] (by kernel_rfl) (by kernel_rfl) ?_;refine cI (n:=0) [20,7,22,24,26] [0,2,4,6,8,10,12,14,16,18] [_,_,_,_,_,_,_,_,_,_] rfl rfl ?_;simp only[go_sem,seval,t0,t11,hb,XO,Nd.cells,TA];refine RE.call rfl rfl rfl rfl rfl (JV x.words (by omega) _) ?_;rintro wv Z2 ⟨Zm,hw2⟩;simp only at Zm hw2;have hid2:=Zm _ _ M';have W1:=Zm _ _ hb;obtain⟨cw,sw⟩:=hw2.vc;have hio2:=hio _ hid2;refine dy rfl (by simp only[go_sem,seval,W1]) ?_;refine cI (n:=0) [] [22,24,26] [_,_,_] rfl rfl ?_;simp only[go_sem,seval,hio2,hid2,hrow',Nd.cells,cw,sw];have hsf:aa U (C' Z2 id ⟨48,20,rows.set i (ndW x wv)⟩):=(hs.trans Zm).ao (aF.1 hkid).2;have Yf:∀j,j≠id->∀o,Z2 j=some o->C' Z2 id ⟨48,20,rows.set i (ndW x wv)⟩ j=some o:=λj hj o hjo=>by rw[ab hj];exact hjo
      have h1:=(hr.mono Zm).kept hid2 Yf;have h2:aq (bj U i46) (C' Z2 id ⟨48,20,rows.set i (ndW x wv)⟩) 3 1 wv (x.words.map vI):=by
       rcases hw2 with h|⟨iw,e1,e2,e3⟩
       .exact .inl h
       .have n1:iw≠id:=λe=>by rw[e,hid2]at e2;simp at e2
        refine .inr ⟨iw,e1,by rw[ab n1];exact e2,aF.2 ⟨λe=>(by rw[e,hb]at e3;cases e3),hs.none e3⟩⟩
      have h3:(rows.set i (ndW x wv)).take (i+1)=rows.take i++[ndW x wv]:=by
       rw[Yz (by simp;omega),List.take_set_of_le (by omega)];simp
      apply sR;simp only[go_sem,seval,t0,t1,t11,t51,t52,r1];refine⟨_,?_,i+1,rows.set i (ndW x wv),by omega,rfl,hsf,.inr ⟨id,by rw[List.length_set],af,hkid⟩,by simp[hn],?_,?_,?_,rfl⟩
      .omega
      .rw[h3,W4];exact h1.app ⟨⟨wv,rfl,h2⟩,trivial⟩
      .rw[List.drop_set_of_lt (by omega)];have:rows.drop (i+1)=(rows.drop i).drop 1:=by simp
       rw[this,hd,hdc];rfl
      .exact(ab WZ.symm).trans W1
     .have q:=qF B';have YP:i=l.length:=by omega
      subst YP;rw[dR,lf (by omega)]at hr;apply sR;simp only[go_sem,seval,t0,t1,t11,t51,t52,q];exact⟨hs,⟨rows,ho,hr⟩,hb⟩
    .clear hs ho46 a46 ho10 a9;rintro⟨S,J⟩ ⟨hs,how,hb,t0,t1,t11⟩;simp only at hs how hb t0 t1 t11;have Yo:=eL (cY l w).atoms;have ZN:=hG.len;have hbr:=N1 l hl hisb (ofR l w) (by rw[ofR,cJ];omega) (λx hx=>by
      obtain⟨a,ha,rfl⟩:=gb.1 hx;exact hG.nod a ha) hG.may
     have hofe:ofR l w=(cY l w).atoms.map (·.node):=rfl;rw[uT]at hb;rw[x6]at Zh;refine mS 16 ?_;simp only[go_sem,seval,t0,t1,t11];refine pS rfl (Zh _) ?_;simp only[go_sem,seval,t11,hb,Yo];generalize hq:C' J i46 _=Y0;have hb0:Y0 i46=some (uT vn w h (aT (cY l w).atoms) (ax (cY l w).u') (cY l w).U' .aB):=by rw[<-hq];exact af
     have Xn:aa U Y0:=hq▸hs.ao z46;have how0:AH (bj U i46) Y0 vn l:=hq▸how.G8 k46;clear hq hs how hb;refine ag.fP (λst=>aa Y0 st.U/\aq Y0 st.U 3 1 (st.s 13) ((ofR l w).map vI)/\st.s 0=ay l/\st.s 11=.ptr i46 0 0)
      (λm st=>∃j:Nat,j<=(cY l w).atoms.length/\m=(cY l w).atoms.length-j/\aa Y0 st.U/\aq Y0 st.U 3 1 (st.s 13) ((((cY l w).atoms.take j).map (·.node)).map vI)/\st.s 0=ay l/\st.s 11=.ptr i46 0 0/\st.s 82=aT (cY l w).atoms/\st.s 83=vI (cY l w).atoms.length/\st.s 84=vI j) (cY l w).atoms.length ?_ ?_ ?_
     .exact⟨0,by omega,rfl,aa.refl _,aq.start,t0,t11,rfl,rfl,rfl⟩
     .clear t0 t1 t11;rintro m ⟨S,J⟩ ⟨j,hj,rfl,hsj,ho,t0,t11,t82,t83,t84⟩;simp only at hsj ho t0 t11 t82 t83 t84;generalize hv13:S 13=v13 at ho;refine ag.mix 85 ?_;by_cases B':j<(cY l w).atoms.length
      .have q:((j:Int)<(cY l w).atoms.length)=True:=L';have Wz:=λU=>dS (U:=U) B';have W8:(((cY l w).atoms.take (j+1)).map (·.node)).map vI=(((cY l w).atoms.take j).map (·.node)).map vI++[vI (cY l w).atoms[j].node]:=by
        rw[Yz B',cX,cX];rfl
       have Yd:((((cY l w).atoms.take j).map (·.node)).map vI).length=j:=by rw[cJ,cJ,jb];omega
       have Yg:bE (cY l w).atoms[j]=.agg [vI (cY l w).atoms[j].kind,vI (cY l w).atoms[j].node,vI (cY l w).atoms[j].fr,vI (cY l w).atoms[j].to,vI (cY l w).atoms[j].x,vI (cY l w).atoms[j].y,vI (cY l w).atoms[j].w,vI (cY l w).atoms[j].h]:=rfl;generalize (((cY l w).atoms.take j).map (·.node)).map vI=rows at*;generalize (cY l w).atoms[j]=x at*;have r1:=rI j;have hs:=aa.refl J;apply sR;simp only[go_sem,seval,t82,t83,t84,q,Wz,Yg];refine al hs λi15 Y15 s15 a15 f15 z15 hs=>?_;simp only[go_sem,seval,a15,hv13];generalize YQ:C' _ i15 _=Z15;replace a15:=XD YQ;replace hs:=Xz YQ hs z15;refine aj λi91 Z91 s91 a91 f91=>?_;obtain⟨idA,Xg,WK⟩:=ho.dst (hs.trans s91);have W1:(rows.length+1)*9<=140737488355328:=by omega
       simp only[go_sem,seval,Xg,bl a91,W1];refine aX λi92 Z92 s92 a92 f92=>?_;have k92:=(WK Y0 (aa.refl _) Z91 (hsj.trans (hs.trans s91))).trans s92;have n92:Y0 i92=none:=(hsj.trans (hs.trans s91)).none f92;simp only[go_sem,seval,t0,t11,t82,t83,t84,r1];refine⟨_,?_,j+1,by omega,rfl,k92,?_,rfl⟩
       .omega
       .rw[W8];exact aq.new (by simp) a92 n92
      .have q:((j:Int)<(cY l w).atoms.length)=False:=H';have YK:j=(cY l w).atoms.length:=by omega
       rw[YK,dR,<-hofe]at ho;apply sR;simp only[go_sem,seval,t0,t11,t83,t84,hv13,q];exact⟨hsj,ho⟩
     .clear t0 t1 t11;rintro⟨S,J⟩ ⟨hsj,ho,t0,t11⟩;simp only at hsj ho t0 t11;refine ag.EP [0,11] [13] hsj ho (by simp) ?_;generalize hS:(λi=>if[13].contains i then V.sl 1 ((ofR l w).map vI)else wq [0,11] S i)=S';have u0:S' 0=ay l:=by rw[<-hS];exact t0
      have u11:S' 11=.ptr i46 0 0:=by rw[<-hS];exact t11
      have u13:S' 13=aN (ofR l w):=by rw[<-hS];rfl
      clear hS t0 t11;refine ag.mix 16 ?_;rw[uT]at hb0;apply sR;simp only[go_sem,seval,u0,u11,u13];refine pS rfl (hbr _) ?_;simp only[go_sem,seval,u11,hb0,j8,j6];exact Hi (b:=dX l w h) (Xn.ao z46) z46 af (how0.G8 k46)
   .have q:(dZ l≠0)=True:=L' hc;obtain⟨e1,e2⟩:=bad (dZ l) (by rw[fK,au (λh=>h ⟨hw,hh⟩),ak hc]) hc;rw[e1,e2];apply sR;simp only[go_sem,seval,q];exact ai.pure hs rfl
  .have mh:=rO h;rw[show decide (1<=h/\h<=1099511627776)=false from XJ hh]at mh;obtain⟨e1,e2⟩:=bad 3 (by rw[fK,ak (λh=>hh h.2)]) (by decide);rw[e1,e2];refine pS rfl (mh _) ?_;simp only[go_sem,seval];exact ai.pure hs rfl
 .have mw:=rO w;rw[show decide (1<=w/\w<=1099511627776)=false from XJ hw]at mw;obtain⟨e1,e2⟩:=bad 3 (by rw[fK,ak (λh=>hw h.1)]) (by decide);rw[e1,e2];apply sR;simp only[go_sem,seval,c8];refine pS rfl (mw _) ?_;simp only[go_sem,seval];exact ai.pure hs rfl
def oD{l:List Nd}{w h:Int}(he:fK l w h=0):mO w/\mO h/\dZ l=0:=by
 unfold fK at he;split at he
 .cases he
 .rename_i h1;split at he
  .rename_i h2;exact absurd he h2
  .rename_i h2;exact⟨Decidable.byContradiction λh=>h1 (λg=>h g.1),Decidable.byContradiction λh=>h1 (λg=>h g.2),Decidable.byContradiction h2⟩
def F1{l:List Nd}(hl:dz l){w h:Int}(he:fK l w h=0):BkFull (dX l w h)/\∀f∈(dX l w h).WA,0<=f.h:=by
 obtain⟨hw,hh,hc⟩:=oD he;obtain⟨hisb,hn,hwo,hcs⟩:=nK hc;have hG:=wa hisb hn hw.1 hw.2;have hl1:=hG.len;have hl2:=hG.flen;have ht:∀a∈(cY l w).atoms,-18014398509481984<=a.y/\a.y<=18014398509481984/\0<=a.h/\a.h<=18014398509481984:=λa ha=>by
  have:=hG.W3 a ha;have h0:=this.y0;have h1:=this.y1;have h2:=this.h0;have h3:=this.h1;omega
 refine⟨⟨⟨⟨?_,λa ha=>?_⟩,ht,?_,?_,λf hf=>(hG.flo f hf).ok (by omega),?_⟩,hl,hisb,hh.1,hh.2,hG.nod⟩,λf hf=>(hG.flo f hf).h0⟩
 .show(cY l w).atoms.length<=_;omega
 .have:=ht a ha;omega
 .show(cY l w).atoms.length<=_;omega
 .show(cY l w).u'.length<=_;omega
 .show(oU l (ofR l w)).length=(cY l w).atoms.length+1;unfold oU ofR;simp
def fH(b:Bk)(a:Nat):Int:=((b.atoms.drop a).map (·.h)).sum
def uI{b:Bk}{a:Nat}(h:a<b.atoms.length):fH b a=(b.atoms[a]).h+fH b (a+1):=by
 unfold fH;rw[iT h,eV,List.sum_cons]
def qW{b:Bk}(hp:∀a∈b.atoms,1<=a.h)(a:Nat):0<=fH b a:=by
 have key:∀l:List XA,(∀a∈l,1<=a.h)->0<=(l.map (·.h)).sum:=by
  intro l
  induction l with
  |nil=>intro _;simp
  |cons x l ih=>
   intro h;have h1:=h x (by simp);have h2:=ih (λy hy=>h y (by simp[hy]));simp only[eV,List.sum_cons];omega
 exact key _ λx hx=>hp x (List.mem_of_mem_drop hx)
def BF{b:Bk}(hp:∀a∈b.atoms,1<=a.h)(a:Nat):∀n,fH b (a+n)<=fH b a
 |0=>Int.le_refl _
 |n+1=>by
  have ih:=BF hp a n;by_cases h:a+n<b.atoms.length
  .have h1:=uI h;have h2:=hp _ (Xo h);rw[<-Nat.add_assoc];omega
  .have:fH b (a+(n+1))=fH b (a+n):=by
    unfold fH;rw[List.drop_of_length_le (by omega),List.drop_of_length_le (by omega)]
   omega
def rV{body:Int}(f:T')(r:List T'):(bZ body (f::r) 0).2.1.length<(f::r).length:=by
 have key:∀(l:List T') (sh:Int),(bZ body l sh).2.1.length<=l.length:=by
  intro l
  induction l with
  |nil=>intro sh;simp[bZ]
  |cons g l ih=>
   intro sh;rw[bZ];split
   .simp
   .have:=ih (sh+min g.h body);simp only[YI];omega
 rw[bZ,au (by omega)];have:=key r (0+min f.h body);simp only[YI];omega
def nE{b:Bk}{s:XP}{to kept shift body:Int}:(dG b.atoms b.WA s to kept shift body).2.length<=b.WA.length:=by
 unfold dG;split
 .have h1:=ou (tY b.atoms s kept) shift body (cN b.WA s to);have h2:(cN b.WA s to).length<=b.WA.length:=kx _ _ _;omega
 .simp
inductive kW(b:Bk)(x:Wx):YG->Prop
 |whole (c:Nat) (fr:Bool) (p:List T') (h1:x.s.atom<c) (h2:c<=b.atoms.length) (h3:p.length<=b.WA.length):kW b x ⟨⟨c,0,fr⟩,p⟩
 |more (d:Int) (p:List T') (h1:x.s.done<d) (h2:d<(atG b.atoms x.s.atom).h) (h3:p.length<=b.WA.length):kW b x ⟨⟨x.s.atom,d,false⟩,p⟩
def rT{b:Bk}(hb:BkOk b){x:Wx}(hm:cT b.atoms x.s)(XH:∀a∈b.atoms,1<=a.h)(hbody:1<=x.body):kW b x (iJ b x):=by
 have hrl:fa b x<=b.atoms.length:=oC;have XW:=hb.brk;unfold iJ;split
 .rename_i WB;obtain⟨c,h1,h2,h3⟩:=rb WB (by omega);rw[show ze b x=c from h1,eU];exact .whole c _ _ h2 (by omega) nE
 .unfold xT fm;have hso:tS b.atoms x.s x.body:=⟨hm,hbody⟩
  rw[ak (show tS b.atoms ({ x with kind:=1 }:Wx).s ({ x with kind:=1 }:Wx).body from hso)];obtain⟨⟨h0,h1⟩,h2,h3⟩:=hm;obtain⟨k,hk⟩:∃k:Nat,x.s.atom=k:=⟨x.s.atom.toNat,by omega⟩
  have Zb:k<b.atoms.length:=by omega
  have hp:=XH _ (Xo Zb);have ha:atG b.atoms x.s.atom=b.atoms[k]:=by rw[hk,aV Zb]
  rw[ha]at h3;have hph:(ia b.atoms x.s.atom).h=b.atoms[k].h:=by rw[ia,ha]
  unfold jI;have e1:(eZ b.atoms x.s x.body).fr=x.s.done:=rfl;have e2:(eZ b.atoms x.s x.body).atom=x.s.atom:=rfl;have e3:(eZ b.atoms x.s x.body).h=min (b.atoms[k].h-x.s.done) x.body:=by rw[<-hph];rfl
  split
  .rename_i B';have Xf:x.s.done+min (b.atoms[k].h-x.s.done) x.body<(atG b.atoms x.s.atom).h:=by rw[<-e3];exact B'
   have:=kW.more (b:=b) (x:=x) (x.s.done+min (b.atoms[k].h-x.s.done) x.body) (dG b.atoms b.WA x.s (x.s.atom+1) 0 0 x.body).2 (by omega) Xf nE;rw[<-e3]at this;exact this
  .have:=kW.whole (b:=b) (x:=x) (k+1) false (dG b.atoms b.WA x.s (x.s.atom+1) 0 0 x.body).2 (by omega) (by omega) nE;have e4:((k+1:Nat):Int)=x.s.atom+1:=by omega
   rw[e4]at this;exact this
structure SkI(s:WS):Prop where
 pw:s.atoms.Pairwise λa b=>a.y+a.h<=b.y
 q:∀a∈s.atoms,a.y+a.h<=s.Wy.y
def SkI.put{s:WS}(h:SkI s){a:XA}(h1:s.Wy.y<=a.y)(h2:0<=a.h):SkI (s.put a):=by
 refine⟨?_,λx hx=>?_⟩
 .simp only[WS.put];rw[List.pairwise_append];refine⟨h.pw,by simp,λx hx y hy=>?_⟩;simp only[ja]at hy;subst hy;have:=h.q x hx;omega
 .simp only[WS.put]at hx|-;rcases dH.1 hx with hx|hx
  .have:=h.q x hx;omega
  .simp only[ja]at hx;subst hx;omega
def SkI.Wy{s:WS}(h:SkI s){p:Pn}(hp:s.Wy.y<=p.y):SkI { s with Wy:=p }:=⟨h.pw,λa ha=>by have:=h.q a ha;simp only;omega⟩
def EU{p:Pn}{m d:Int}(h0:0<=p.m)(hd:0<=d):p.y<=(dF p m d).y:=by
 simp only[dF,kX];(repeat' split)<;>omega
def Mi{p:Pn}{m d:Int}(h0:0<=p.m)(hd:0<=d):p.y<=(j9 p m d).y:=by
 simp only[j9,kX];(repeat' split)<;>(try simp only)<;>omega
def SkI.enter{s:WS}(h:SkI s)(h0:0<=s.Wy.m){t:Ye}(ht:SOk t):SkI (s.enter t):=by
 have hp:=ht.WD.1;unfold WS.enter;simp only;refine h.Wy ?_;split
 .have hc:s.Wy.y<=(eH s.Wy (cy (fS t.clear) s.u').1).y/\0<=(eH s.Wy (cy (fS t.clear) s.u').1).m:=by
   unfold eH;split<;>(try simp only)<;>omega
  exact Int.le_trans hc.1 (EU hc.2 hp)
 .exact EU h0 hp
def SkI.leave{s:WS}(h:SkI s)(h0:0<=s.Wy.m){t:Ye}(ht:SOk t):SkI (s.leave t):=h.Wy (Mi h0 ht.O'.1)
def SkI.text{rs:List Rm}{s:WS}{C:Nat}(h:fk s C)(hk:SkI s){n:Nd}(hn:NOk n)(a:Nat):SkI (s.text rs a n):=by
 obtain⟨⟨hf,h1,h2,h3,h4⟩,h5,h6⟩:=h;have hl:=hn.line;have key:∀(k i:Nat) (y:Int) (t:WS),t.Wy.y<=y->SkI t->SkI ((cz s.u' n.words n.space n.line (ep rs a) k i y).foldl (λs x=>s.put (eQ a n.line x)) t):=by
  intro k
  induction k with
  |zero=>intro i y t _ ht;exact ht
  |succ k ih=>
   intro i y t hy ht;rw[cz];split
   .rw[gg];have hyr:y<=(lZ s.u' n.words n.space n.line i y (ep rs a)).y:=(eS (λf hf'=>(hf f hf').yB)).1;refine ih _ _ _ ?_ (ht.put (by simp only[eQ];omega) hl.1);simp only[WS.put,eQ];omega
   .exact ht
 exact key _ _ _ s (by omega) hk
def uP{l:List Nd}{rs:List Rm}(hD:DOk l rs):∀(k a e:Nat) (s:WS) (C:Nat),e-a<=k->a<=e->e<=l.length->bG l a e=true->fk s C->SkI s->SkI (cU l rs k a e s)
 |0,a,e,s,C,_,hae,_,_,_,h=>h
 |k+1,a,e,s,C,hk,hae,he,hr,h,hs=>by
  rw[cU];by_cases B':a<e
  .rw[ak B'];obtain⟨h1,h2⟩:=bV he hr (Xc a) B';obtain⟨h3,h4⟩:=cK he hr B';have Xa:NOk (W7 l a):=by rw[gF (by omega)];exact ec hD.isb (by omega)
   have step:∀t,(∃D,fk t D)->SkI t->SkI (cU l rs k (a+(WJ l a).toNat) e t):=λt ⟨D,ht⟩ hA=>
    uP hD k _ e t D (by omega) (by omega) he h3 ht hA
   have hm:=h.bd.m0;split
   .have hI2:=gG hD k (a+1) (a+(WJ l a).toNat) _ _ (by omega) (by omega) (by omega) h4 (et h Xa.st);have hS2:=uP hD k (a+1) (a+(WJ l a).toNat) _ _ (by omega) (by omega) (by omega) h4 (et h Xa.st) (hs.enter hm Xa.st);exact step _ ⟨_,jD hI2 Xa.st⟩ (hS2.leave hI2.bd.m0 Xa.st)
   .split
    .exact step _ ⟨_,ky h Xa a⟩ (SkI.text h hs Xa a)
    .split
     .refine step _ ⟨_,ku h Xa a⟩ ?_;have hyr:=eS (w:=(W7 l a).w) (high:=(W7 l a).h) (y:=s.Wy.y+s.Wy.m) (s:=ep rs a) (λf hf'=>(h.bd.fl f hf').yB);exact hs.put (by simp only;omega) Xa.h.1
     .have k4:(W7 l a).kind=4:=by rename_i g1 g2 g3;rcases Xa.kind with h|h|h|h;exact absurd h g1;exact absurd h g2;exact absurd h g3;exact h
      exact step _ ⟨_,jG hD h (by omega) Xa k4⟩ ⟨hs.pw,hs.q⟩
  .rw[au B'];exact hs
def J9{l:List Nd}(hb:Xh l=true)(hn:l.length<=2000){w:Int}(h1:1<=w)(h2:w<=1099511627776):(cY l w).atoms.Pairwise λa b=>a.y+a.h<=b.y:=by
 have hD:=pn hb hn h1 h2;have hr:bG l 0 l.length=true:=by simp only[Xh,Ba]at hb;exact hb.2
 have hI:fk ⟨[],[],0,⟨0,0⟩⟩ 0:=⟨⟨by simp,by simp,by simp,by simp,by simp⟩,by simp,by simp⟩
 exact(uP hD l.length 0 l.length ⟨[],[],0,⟨0,0⟩⟩ 0 (by omega) (by omega) (Xc _) hr hI ⟨by simp,by simp⟩).pw
def y8{l:List XA}(h:l.Pairwise λa b=>a.y+a.h<=b.y){i j:Nat}(hij:i<j)(hj:j<l.length):l[i].y+l[i].h<=l[j].y:=List.pairwise_iff_getElem.1 h i j (by omega) hj hij
def ru{p:Nat->Bool}{n:Nat}(hm:∀i j,i<=j->j<n->p i=true->p j=true):∀(f i j:Nat),j-i<=f->i<=j->j<=n->(∀x,x<i->p x=false)->(j<n->p j=true)->
 (∀x,x<lD p f i j->p x=false)/\(lD p f i j<n->p (lD p f i j)=true)/\lD p f i j<=j
 |0,i,j,hf,hij,_,h1,h2=>by
  obtain rfl:i=j:=by omega
  exact⟨h1,h2,Xc _⟩
 |f+1,i,j,hf,hij,hjn,h1,h2=>by
  rw[lD];split
  .rename_i B';split
   .rename_i hp;obtain⟨g1,g2,g3⟩:=ru hm f i ((i+j)/2) (by omega) (by omega) (by omega) h1 (λ_=>hp);exact⟨g1,g2,by omega⟩
   .rename_i hp;have hp':p ((i+j)/2)=false:=by simpa using hp
    refine ru hm f ((i+j)/2+1) j (by omega) (by omega) hjn (λx hx=>?_) h2;cases Xp:p x with
    |false=>rfl
    |true=>rw[hm x ((i+j)/2) (by omega) (by omega) Xp]at hp';cases hp'
  .obtain rfl:i=j:=by omega
   exact⟨h1,h2,Xc _⟩
def pA{b:Bk}(hk:b.atoms.Pairwise λx y=>x.y+x.h<=y.y)(XH:∀a∈b.atoms,1<=a.h){s:XP}(hm:cT b.atoms s)(kept shift body:Int):
 ∃r:Nat,iz b.atoms s kept shift body=r/\s.atom<=r/\r<=b.atoms.length/\(∀k (h:k<b.atoms.length),s.atom<=k->k<r->cj b.atoms s kept shift k+b.atoms[k].h<=body)/\∀h:r<b.atoms.length,cj b.atoms s kept shift r+b.atoms[r].h>body:=by
 have hm0:=hm;obtain⟨⟨h0,h1⟩,h2,h3⟩:=hm;obtain⟨a,ha⟩:∃a:Nat,s.atom=a:=⟨s.atom.toNat,by omega⟩
 have ZN:a<b.atoms.length:=by omega
 have ZE:∀k (h:k<b.atoms.length),a<=k->cj b.atoms s kept shift k=b.atoms[k].y-b.atoms[a].y-s.done+kept+shift:=λk h hak=>by
  rw[cj,ak ⟨hm0,by omega,by omega⟩,fp,ak ⟨⟨h0,h1⟩,by omega,by omega⟩,ha,aV h,aV ZN]
 have hby:∀n (h:a+n<b.atoms.length),gk b.atoms s kept shift body n=decide (b.atoms[a+n].y-b.atoms[a].y-s.done+kept+shift+b.atoms[a+n].h>body):=λn h=>by
  have e:s.atom+(n:Int)=((a+n:Nat):Int):=by omega
  rw[gk,e,ZE _ h (by omega),aV h]
 have hmono:∀i j,i<=j->j<b.atoms.length-a->gk b.atoms s kept shift body i=true->gk b.atoms s kept shift body j=true:=λi j hij hj hb=>by
  rcases Nat.eq_or_lt_of_le hij with rfl|B'
  .exact hb
  .have hi2:a+i<b.atoms.length:=by omega
   have hj2:a+j<b.atoms.length:=by omega
   rw[hby i hi2]at hb;rw[hby j hj2];have h5:=y8 hk (show a+i<a+j by omega) hj2;have h6:=XH _ (Xo hj2);have ZV:=of_decide_eq_true hb;exact XK (by omega)
 have hs:=ru hmono (b.atoms.length-a) 0 (b.atoms.length-a) (by omega) (by omega) (Xc _) (λx hx=>by omega) (λh=>by omega);have hsr:lD (gk b.atoms s kept shift body) (b.atoms.length-a) 0 (b.atoms.length-a)=C8 (gk b.atoms s kept shift body) (b.atoms.length-a):=rfl;rw[hsr]at hs;obtain⟨g1,g2,g3⟩:=hs;refine⟨a+C8 (gk b.atoms s kept shift body) (b.atoms.length-a),?_,by omega,by omega,λk h hak hkr=>?_,λh=>?_⟩
 .rw[iz,ak hm0,ha,eU];rfl
 .have hka:a<=k:=by omega
  have:=g1 (k-a) (by omega);rw[hby (k-a) (by omega)]at this;have h5:=of_decide_eq_false this;rw[ZE k h hka];have e:a+(k-a)=k:=by omega
  simp only[e]at h5;omega
 .have:=g2 (by omega);rw[hby _ h]at this;have h5:=of_decide_eq_true this;rw[ZE _ h (by omega)];omega
def ml{l:List Nd}{a:Nat}:∀(k:Nat) (x:Int),x∈dt l a k->cd l x a=true
 |0,_,h=>by simp[dt]at h
 |k+1,x,h=>by
  rw[dt]at h;split at h
  .rename_i hk;rcases dJ.1 h with rfl|h
   .exact hk
   .exact ml k x h
  .exact ml k x h
def IT(l:List Nd)(of:List Int)(k:Nat):0<=dB l of k 3/\dB l of k 3<=7:=by
 simp only[dB,BH];cases kQ l of k 0<;>cases kQ l of k 1<;>cases kQ l of k 2<;>simp
def zH:∀(all:List Int),cS all=0\/2<=cS all/\cS all<=4:=by
 have key:∀(all:List Int) (o:Int),(o=0\/2<=o/\o<=4)->(all.foldl j5 o=0\/2<=all.foldl j5 o/\all.foldl j5 o<=4):=by
  intro all
  induction all with
  |nil=>intro o h;exact h
  |cons x all ih=>
   intro o h;rw[gg];refine ih _ ?_;unfold j5 mH
   (repeat' split)<;>omega
 exact λall=>key all 0 (.inl rfl)
def Lk{l:List Nd}(hb:Xh l=true){of:List Int}(Xt:∀x∈of,0<=x/\x<l.length):nX (oU l of)=true:=by
 have hlen:(oU l of).length=of.length+1:=by simp[oU]
 simp only[nX,Ba,fC,List.mem_range,YX];refine⟨λk hk=>?_,by omega⟩;rw[hlen]at hk;have hg:XB (oU l of) k=bkR l of k:=by simp[XB,oU,hk]
 unfold gH;rw[hg,hlen];refine XK ?_;have Zl:0<k->k<of.length->of.getD k 0=of.getD (k-1) 0->iO l of k=0:=λh0 h1 he=>by
  have X6:of.getD k 0=of[k]:=by simp[h1]
  have hr:=Xt _ (Xo h1);have hh:∀x∈abv l (of.getD k 0).toNat,hAt l of x k=true/\hAt l of x ((k:Int)-1)=true:=λx hx=>by
   rw[X6]at hx;have B':of[k].toNat<l.length:=by omega
   rw[DT hb B']at hx;have Xp:=ml _ _ hx;rw[iu]at Xp;have e1:((k:Int)-1).toNat=k-1:=by omega
   have e2:((k:Int)).toNat=k:=by omega
   have e3:(of[k].toNat:Int)=of[k]:=by omega
   rw[e3]at Xp;unfold hAt wH;rw[ak (by omega),ak (by omega),e1,e2,<-he,X6];exact⟨XK ⟨Xp.2.2.1,Xp.2.2.2⟩,XK ⟨Xp.2.2.1,Xp.2.2.2⟩⟩
  have e1:((k:Int)-1).toNat=k-1:=by omega
  have e2:((k:Int)).toNat=k:=by omega
  have he1:chR l of ((k:Int)-1) (λb=>!hAt l of b k)=[]:=by
   unfold chR;rw[ak (by omega),e1,<-he,List.filter_eq_nil_iff];intro x hx;rw[(hh x hx).1];simp
  have he2:chR l of k (λb=>!hAt l of b ((k:Int)-1))=[]:=by
   unfold chR;rw[ak (by omega),e2,List.filter_eq_nil_iff];intro x hx;rw[(hh x hx).2];simp
  unfold iO gX;rw[au (by omega),cq,he1,he2];rfl
 have hend:k=of.length->iO l of k=0:=λh=>by
  unfold iO gX;rw[ak h];rfl
 have hfv:=zH (gX l of k);have hbr:=IT l of k;change iO l of k=0\/2<=iO l of k/\iO l of k<=4 at hfv;unfold nJ bkR;simp only[YX,decide_eq_false_iff_not];unfold dj mC;by_cases h0:k=0
 .rw[ak h0,ak (show k=0\/k=of.length from .inl h0)];refine⟨λ_=>rfl,λh=>absurd (by omega) h,λh=>absurd (by omega) h,?_,.inl (by split<;>rfl)⟩;rcases hfv with h|h
  .exact .inl h
  .exact .inr ⟨h.1,h.2,by omega,by omega⟩
 .rw[au h0];by_cases h1:k=of.length
  .rw[ak h1,ak (show k=0\/k=of.length from .inr h1)];exact⟨λh=>absurd h (by omega),λ_ _=>rfl,λ_ h=>absurd (by omega) h,.inl (hend h1),.inl (by split<;>rfl)⟩
  .rw[au h1,au (show¬(k=0\/k=of.length) by omega)];by_cases h2:of.getD k 0=of.getD (k-1) 0
   .rw[ak h2];have hf:=Zl (by omega) (by omega) h2;refine⟨λh=>absurd h (by omega),λ_ h=>absurd h (by omega),λ_ _=>.inr rfl,.inl hf,?_⟩;rw[ak hf];rcases Int.lt_or_le 0 (dB l of k 3)with h|h
    .exact .inr ⟨.inr rfl,hf,h,by omega⟩
    .exact .inl (by omega)
   .rw[au h2];refine⟨λh=>absurd h (by omega),λ_ h=>absurd h (by omega),λ_ _=>.inl rfl,?_,?_⟩
    .rcases hfv with h|h
     .exact .inl h
     .exact .inr ⟨h.1,h.2,by omega,by omega⟩
    .by_cases hf:iO l of k=0
     .rw[ak hf];rcases Int.lt_or_le 0 (dB l of k 3)with h|h
      .exact .inr ⟨.inl rfl,hf,h,by omega⟩
      .exact .inl (by omega)
     .rw[au hf];exact .inl rfl
def inF(top e:Int)(l:List Yx):Prop:=∀f∈l,top<=f.y/\0<=f.h/\f.y+f.h<=e
def za{top e:Int}{l m:List Yx}(h1:inF top e l)(h2:inF top e m):inF top e (l++m):=λf hf=>(dH.1 hf).elim (h1 f) (h2 f)
def AR{l:List Nd}{x:Kp}{a:Int}(h:∀n∈x.WU,1<=(Yw l n).head):∀n∈(gP l x a).WU,1<=(Yw l n).head:=λn hn=>by
 unfold gP at hn;split at hn
 .exact h n hn
 .rename_i hc;rcases dH.1 hn with hn|hn
  .exact h n hn
  .rw[ja.1 hn];omega
def vH{l:List Nd}{L:List Int}{h:Int}:∀m,∀n∈(gM l L h m).WU,1<=(Yw l n).head
 |0=>λn hn=>by simp[gM]at hn
 |m+1=>by rw[gM];exact AR (vH m)
def Ov{l:List Nd}{w:Int}:∀(L:List Int),(∀n∈L,1<=(Yw l n).head)->0<=(ZK l w L).2/\(∀f∈(ZK l w L).1,0<=f.y/\0<=f.h/\f.y+f.h<=(ZK l w L).2)/\((ZK l w L).1.map (·.h)).sum=(ZK l w L).2:=λL=>by
 suffices key:∀(L:List Int) (p:List Yx×Int),(∀n∈L,1<=(Yw l n).head)->0<=p.2->(∀f∈p.1,0<=f.y/\0<=f.h/\f.y+f.h<=p.2)->(p.1.map (·.h)).sum=p.2->
  0<=(L.foldl (hdS l w) p).2/\(∀f∈(L.foldl (hdS l w) p).1,0<=f.y/\0<=f.h/\f.y+f.h<=(L.foldl (hdS l w) p).2)/\((L.foldl (hdS l w) p).1.map (·.h)).sum=(L.foldl (hdS l w) p).2 from
  λh=>key L ([],0) h (Int.le_refl _) (λf hf=>by cases hf) rfl
 intro L
 induction L with
 |nil=>intro p _ h1 h2 h3;exact⟨h1,h2,h3⟩
 |cons a L ih=>
  intro p h h1 h2 h3;have ha:=h a (by simp);refine ih _ (λn hn=>h n (by simp[hn])) ?_ (λf hf=>?_) ?_
  .simp only[hdS];omega
  .simp only[hdS]at hf|-;rcases dH.1 hf with hf|hf
   .have:=h2 f hf;omega
   .rw[ja.1 hf];simp only;omega
  .simp only[hdS,cX,List.sum_append,h3,eV,List.map_nil,List.sum_cons,List.sum_nil];omega
def Jw{b:Bk}(hb:BkFull b)(s:XP)(h0:0<=s.atom):0<=(aU b s).high/\1<=(aU b s).body/\(aU b s).high+(aU b s).body=b.h/\inF 0 (aU b s).high (ZK b.nodes b.w (aU b s).WU).1/\((ZK b.nodes b.w (aU b s).WU).1.map (·.h)).sum=(aU b s).high:=by
 have hk:=qh hb s;have hbd:=jn hb s h0;have hh:∀n∈(aU b s).WU,1<=(Yw b.nodes n).head:=by
  unfold aU;split
  .intro n hn;cases hn
  .unfold rK;split
   .exact vH _
   .intro n hn;cases hn
 obtain⟨g1,g2,g3⟩:=Ov (l:=b.nodes) (w:=b.w) _ hh;rw[hk.sum]at g2 g3;refine⟨hk.high.1,hbd,?_,g2,g3⟩;have h1:=hb.h1;revert hbd;unfold aU;split
 .intro _;simp
 .unfold rK;split
  .rename_i hc;intro _;obtain⟨_,h3,h4⟩:=hc;generalize (atG b.atoms (min s.atom ((b.atoms.length:Int)-1))).node=a at*;have ha:a.toNat<b.nodes.length:=by omega
   have hrg:∀x∈abv b.nodes a.toNat,∃n:Nat,x=n/\n<b.nodes.length:=λx hx=>by
    obtain⟨n,h1,h2⟩:=qO ha x hx;exact⟨n,h1,by omega⟩
   exact(qX hb.isb hrg (by omega:0<=b.h) (abv b.nodes a.toNat).length (Xc _)).2.2.2
  .intro h;exact absurd h (by simp)
def D2{body:Int}(hb:0<=body):∀(l:List T') (sh:Int),0<=sh->sh<=body->(∀f∈l,0<=f.h)->∀m∈(bZ body l sh).1,0<=m.y/\0<=m.h/\m.y+m.h<=body
 |[],sh,_,_,_=>λm hm=>by simp[bZ]at hm
 |f::r,sh,h0,h1,hf=>λm hm=>by
  rw[bZ]at hm;have:=hf f (by simp);split at hm
  .cases hm
  .rename_i hc;rcases dJ.1 hm with rfl|hm
   .simp only;omega
   .exact D2 hb r _ (by omega) (by omega) (λg hg=>hf g (by simp[hg])) m hm
def Ic{top shift body:Int}(ZR:0<=shift):∀{L:List T'},(∀f∈L,0<=f.h)->∀m∈(jh top shift body L).1,0<=m.y/\0<=m.h/\m.y+m.h<=body:=by
 suffices key:∀(L:List T') (x:List T'×List T'),(∀f∈L,0<=f.h)->(∀m∈x.1,0<=m.y/\0<=m.h/\m.y+m.h<=body)->
  ∀m∈(L.foldl (λx f=>jd body x f (bJ top shift f)) x).1,0<=m.y/\0<=m.h/\m.y+m.h<=body from
  λ{L} h=>key L ([],[]) h (λm hm=>by cases hm)
 intro L
 induction L with
 |nil=>intro x _ h m hm;exact h m hm
 |cons f L ih=>
  intro x hL h;refine ih _ (λg hg=>hL g (by simp[hg])) λm hm=>?_;have hf:=hL f (by simp);simp only[jd]at hm;split at hm
  .exact h m hm
  .rename_i hl;rcases dH.1 hm with hm|hm
   .exact h m hm
   .rw[ja.1 hm];unfold mI at hl;have hl':¬(x.2≠[]\/(bJ top shift f).y+(bJ top shift f).h>body):=λh=>hl (XK h);simp only[bJ]at hl'|-;omega
def Gz:∀{l:List T'} {a b:Int} {f:T'},f∈Bi l a b->f∈l:=λh=>(sD.1 h).1
def Ce{b:Bk}(hfh:∀f∈b.WA,0<=f.h){s:XP}{to kept shift body:Int}(ZR:0<=shift):∀m∈(dG b.atoms b.WA s to kept shift body).1,0<=m.y/\0<=m.h/\m.y+m.h<=body:=by
 unfold dG;split
 .exact Ic ZR λf hf=>hfh f (Gz hf)
 .intro m hm;cases hm
def zN{high body:Int}{l:List T'}(h:∀m∈l,0<=m.y/\0<=m.h/\m.y+m.h<=body):inF high (high+body) (l.map (cO high)):=λf hf=>by
 obtain⟨m,hm,rfl⟩:=gb.1 hf;have:=h m hm;simp only[cO];omega
def vt:∀(xs:List Fd) (d:Fd),(eT fF xs d=(d,false)/\∀x∈xs,x.b.forced=0)\/∃L x R,xs=L++x::R/\(∀y∈L,y.b.forced=0)/\x.b.forced≠0/\eT fF xs d=(x,true)
 |[],d=>.inl ⟨rfl,λx h=>(by cases h)⟩
 |a::xs,d=>by
  have stay:∀(l:List Fd) (x:Fd),l.foldl (fB fF) (x,true)=(x,true):=by
   intro l
   induction l with
   |nil=>intro x;rfl
   |cons y l ih=>intro x;rw[gg];exact ih x
  by_cases h:a.b.forced=0
  .have e:eT fF (a::xs) d=eT fF xs d:=by
    unfold eT;rw[gg,fB,fF];simp[h]
   rw[e];rcases vt xs d with⟨h1,h2⟩|⟨L,x,R,h1,h2,h3,h4⟩
   .exact .inl ⟨h1,λx hx=>(dJ.1 hx).elim (λe=>e▸h) (h2 x)⟩
   .exact .inr ⟨a::L,x,R,by rw[h1];rfl,λy hy=>(dJ.1 hy).elim (λe=>e▸h) (h2 y),h3,h4⟩
  .refine .inr ⟨[],a,xs,rfl,λy hy=>(by cases hy),h,?_⟩;unfold eT;rw[gg,fB,fF];simp only[h,Bool.not_false,ne_eq,not_false_eq_true,decide_true,Bool.and_self,if_true];exact stay xs a
def FJ(d:Fd):∀(xs:List Fd) (a:Fd),∃L x R,xs++[a]=L++x::R/\eT im (xs++[a]) d=(x,true)/\(∀y∈L,x.b.W6<=y.b.W6)/\∀y∈R,x.b.W6<y.b.W6:=by
 suffices key:∀n (xs:List Fd) (a:Fd),xs.length=n->∃L x R,xs++[a]=L++x::R/\eT im (xs++[a]) d=(x,true)/\(∀y∈L,x.b.W6<=y.b.W6)/\∀y∈R,x.b.W6<y.b.W6 from
  λxs a=>key _ xs a rfl
 intro n
 induction n with
 |zero=>
  intro xs a h;obtain rfl:=List.length_eq_zero_iff.1 h;exact⟨[],a,[],rfl,by simp[eT,fB,im],λy h=>(by cases h),λy h=>by cases h⟩
 |succ n ih=>
  intro xs a h;rcases List.eq_nil_or_concat xs with rfl|⟨ys,z,rfl⟩
  .cases h
  .rw[List.concat_eq_append]at h|-;obtain⟨L,x,R,h1,h2,h3,h4⟩:=ih ys z (by simpa using h);rw[pK,h2];unfold fB im;by_cases hr:a.b.W6<=x.b.W6
   .refine⟨ys++[z],a,[],rfl,by simp[hr],λy hy=>?_,λy hy=>by cases hy⟩;rw[h1]at hy;rcases dH.1 hy with hy|hy
    .have:=h3 y hy;omega
    .rcases dJ.1 hy with rfl|hy
     .exact hr
     .have:=h4 y hy;omega
   .refine⟨L,x,R++[a],by rw[h1];simp,by simp[hr],h3,λy hy=>?_⟩;rcases dH.1 hy with hy|hy
    .exact h4 y hy
    .rw[ja.1 hy];omega
def yN{b:List Yr}{fr to:Int}{L R:List Fd}{x:Fd}(h:(btw b fr to).map (jc b)=L++x::R):
 ∃c:Nat,x=jc b c/\max fr 0<=c/\c<max fr 0+mj b fr to/\(∀k:Nat,max fr 0<=k->k<c->jc b k∈L)/\∀k:Nat,c<k->k<max fr 0+mj b fr to->jc b k∈R:=by
 have hlen:=congrArg List.length h;simp only[btw,cJ,List.length_range',gn,YI]at hlen;have YJ:∀k:Nat,max fr 0<=k->k<max fr 0+mj b fr to->(L++x::R)[k-(max fr 0).toNat]?=some (jc b k):=λk h1 h2=>by
  rw[<-h,btw,xc,List.getElem?_range' (by omega)];simp only[Option.map_some,Nat.one_mul];rw[show(max fr 0).toNat+(k-(max fr 0).toNat)=k by omega]
 refine⟨(max fr 0).toNat+L.length,?_,by omega,by omega,λk h1 h2=>?_,λk h1 h2=>?_⟩
 .have:=YJ ((max fr 0).toNat+L.length) (by omega) (by omega);rw[show(max fr 0).toNat+L.length-(max fr 0).toNat=L.length by omega]at this;simpa using this
 .have:=YJ k h1 (by omega);rw[GU (by omega)]at this;exact xB this
 .have:=YJ k (by omega) (by omega);rw[Mn (by omega),show k-(max fr 0).toNat-L.length=(k-((max fr 0).toNat+L.length)-1)+1 by omega,GC]at this;exact xB this
def Ie{b:List Yr}{i fit:Int}(h:ei b i fit)(hf:fit<=(b.length:Int)-1):
 ∃c:Nat,pT b i fit=c/\i<c/\(c:Int)<=fit/\∀k:Nat,i<k->(k:Int)<=fit->(k<c->(XB b k).forced=0)/\((XB b c).forced=0->k≠c->(XB b k).forced=0/\(XB b c).W6<=(XB b k).W6/\(c<k->(XB b k).W6≠(XB b c).W6)):=by
 obtain⟨_,h1,h2,h3⟩:=h;have hn:max (i+1) 0=i+1:=by omega
 have hb:mj b (i+1) fit=(fit-i).toNat:=by unfold mj;omega
 unfold pT ju A7;rcases vt ((btw b (i+1) fit).map (jc b)) uf with⟨e,hz⟩|⟨L,x,R,e1,e2,e3,e4⟩
 .rw[e,ak (show uf.i<0 by decide)];have hz':∀k:Nat,i<k->(k:Int)<=fit->(XB b k).forced=0:=λk g1 g2=>by
   refine hz (jc b k) (gb.2 ⟨k,?_,rfl⟩);rw[btw,List.mem_range'_1];omega
  have WZ:(btw b (i+1) fit).map (jc b)≠[]:=λe=>by
   have:=congrArg List.length e;simp[btw,hb]at this;omega
  rcases List.eq_nil_or_concat ((btw b (i+1) fit).map (jc b))with e|⟨ys,z,e⟩
  .exact absurd e WZ
  .rw[List.concat_eq_append]at e;obtain⟨L,x,R,f1,f2,f3,f4⟩:=FJ uf ys z;rw[<-e]at f1 f2;obtain⟨c,rfl,g1,g2,g3,g4⟩:=yN f1;rw[f2];refine⟨c,rfl,by omega,by omega,λk k1 k2=>⟨λ_=>hz' k k1 k2,λ_ hk=>⟨hz' k k1 k2,?_,λB'=>?_⟩⟩⟩
   .rcases Nat.lt_or_gt_of_ne hk with hk|hk
    .exact f3 _ (g3 k (by omega) hk)
    .exact Int.le_of_lt (f4 _ (g4 k hk (by omega)))
   .have:=f4 _ (g4 k B' (by omega));exact λe=>by simp only[jc]at this;omega
 .obtain⟨c,rfl,g1,g2,g3,g4⟩:=yN e1;rw[e4,au (show¬(jc b c).i<0 from λh=>by simp only[jc]at h;omega)];exact⟨c,rfl,by omega,by omega,λk k1 k2=>⟨λhk=>e2 _ (g3 k (by omega) hk),λhc=>absurd hc e3⟩⟩
inductive Ab(b:Bk)(s t:XP)(fs:List Yx)(top body:Int):Prop
 |more (h1:t.atom=s.atom) (h2:fs.length=1) (h3:eY b.atoms s>body) (h4:∀f,fs[0]?=some f->f.h=body) (h5:t.done=s.done+body)
 |whole (c r:Nat) (y:Int) (h1:t=⟨c,0,decide ((XB b.WT c).forced≠0)⟩) (h2:s.atom<c) (h3:c<=r) (h4:r<=b.atoms.length) (h5:fs.length+s.atom=c) (h6:∀f,fs[0]?=some f->f.y=top+y)
    (h7:∀k (h:k<b.atoms.length),s.atom<=k->k<r->(if s.atom<k then y+(b.atoms[k].y-(atG b.atoms s.atom).y-s.done)else y)+(if k=s.atom then eY b.atoms s else b.atoms[k].h)<=body)
    (h8:∀(h:r<b.atoms.length),(if s.atom<r then y+(b.atoms[r].y-(atG b.atoms s.atom).y-s.done)else y)+(if r=s.atom then eY b.atoms s else b.atoms[r].h)>body)
    (h9:∀k:Nat,s.atom<k->k<=r->(k<c->(XB b.WT k).forced=0)/\((XB b.WT c).forced=0->k≠c->(XB b.WT k).forced=0/\(XB b.WT c).W6<=(XB b.WT k).W6/\(c<k->(XB b.WT k).W6≠(XB b.WT c).W6)))
structure Hz(b:Bk)(x:Wx)(fs:List Yx)(t:XP):Prop where
 ne:0<fs.length
 fin:inF x.high (x.high+x.body) fs
 fst:∀f,fs[0]?=some f->f.atom=x.s.atom/\f.fr=x.s.done
 cut:Ab b x.s t fs x.high x.body
structure jH(b:Bk):Prop extends BkFull b where
 ZG:b.atoms.Pairwise λx y=>x.y+x.h<=y.y
 pos:∀a∈b.atoms,1<=a.h
 top:∀a∈b.atoms,0<=a.y
 mayb:nX b.WT=true
 fh:∀f∈b.WA,0<=f.h
 fy:∀f∈b.WA,0<=f.y
def Dk{b:Bk}(hb:jH b)(k:Int):0<=kS b.atoms k:=by
 unfold kS;split
 .rename_i h;obtain⟨n,rfl⟩:∃n:Nat,k=n:=⟨k.toNat,by omega⟩
  have hn:n<b.atoms.length:=by omega
  rw[aV hn];unfold fQ;split
  .rename_i h2;have e:(n:Int)-1=((n-1:Nat):Int):=by omega
   rw[e,aV (by omega)];have:=y8 hb.ZG (show n-1<n by omega) hn;omega
  .have:=hb.top _ (Xo hn);omega
 .exact Int.le_refl _
def FK{b:Bk}(hb:jH b){x:Wx}(hm:cT b.atoms x.s)(hx:x.fs=[])
 (hbody:1<=x.body)(ZR:0<=x.shift)(hnf:¬(x.shift>0/\eY b.atoms x.s>x.body-x.shift)):Hz b x (fM b x).fs (iJ b x).s:=by
 have hk:=hb.ZG;have XH:=hb.pos;have Ze:=hb.mayb;obtain⟨r,hr,hr1,hr2,hr3,hr4⟩:=pA hk XH hm (eJ b x) x.shift x.body;have hm0:=hm;obtain⟨⟨h0,h1⟩,h2,h3⟩:=hm;obtain⟨a,ha⟩:∃a:Nat,x.s.atom=a:=⟨x.s.atom.toNat,by omega⟩
 have ZN:a<b.atoms.length:=by omega
 have hag:atG b.atoms x.s.atom=b.atoms[a]:=by rw[ha,aV ZN]
 have hpa:=XH _ (Xo ZN);have XW:=hb.brk;have hleft:eY b.atoms x.s=b.atoms[a].h-x.s.done:=by rw[eY,ak hm0,hag]
 rw[hag]at h3;have hl0:1<=eY b.atoms x.s:=by rw[hleft];omega
 have ZE:∀kept sh k (h:k<b.atoms.length),a<=k->cj b.atoms x.s kept sh k=b.atoms[k].y-b.atoms[a].y-x.s.done+kept+sh:=λkept sh k h hak=>by
  rw[cj,ak ⟨hm0,by omega,by omega⟩,fp,ak ⟨⟨h0,h1⟩,by omega,by omega⟩,hag,aV h]
 have hkept:eJ b x=0\/0<=eJ b x/\x.s.done=0/\eJ b x+eY b.atoms x.s<=x.body-x.shift:=by
  unfold eJ gw;split
  .rename_i hc;obtain⟨_,_,hd,hg⟩:=hc;rw[hleft];rw[hag]at hg;exact .inr ⟨Dk hb _,hd,hg⟩
  .exact .inl rfl
 have hrX:fa b x=r:=hr;unfold fM iJ;by_cases WB:ei b.WT x.s.atom (fa b x)
 .rw[ak WB,ak WB];obtain⟨c,c1,c2,c3,c4⟩:=Ie WB (by rw[hrX];omega);rw[show ze b x=c from c1,eU];rw[hrX]at c3 c4;have hlen:(cE b { x with kind:=1 } (eJ b x) (c-x.s.atom.toNat)).length=c-a:=by
   rw[cE,cJ,List.length_range,ha,eU]
  have hfs:(vO b { x with kind:=1 } (eJ b x) c).fs=cE b { x with kind:=1 } (eJ b x) (c-x.s.atom.toNat):=by
   simp only[vO,Wx.put,Wx.add,hx,jE]
  have Yg:∀i (h:i<c-a),(cE b { x with kind:=1 } (eJ b x) (c-x.s.atom.toNat))[i]?=some (cH x.high (dK b.atoms x.s (eJ b x) x.shift ((a+i:Nat):Int))):=λi h=>by
   rw[cE,xc,List.getElem?_range (by rw[ha];omega),Option.map_some,ha];rfl
  have hwh:∀k (h:k<b.atoms.length),a<=k->(dK b.atoms x.s (eJ b x) x.shift k).y=cj b.atoms x.s (eJ b x) x.shift k+(if k=a then x.s.done else 0)/\(dK b.atoms x.s (eJ b x) x.shift k).h=b.atoms[k].h-(if k=a then x.s.done else 0)/\(dK b.atoms x.s (eJ b x) x.shift k).atom=k/\(dK b.atoms x.s (eJ b x) x.shift k).fr=if k=a then x.s.done else 0:=λk h hak=>by
   rw[dK,ak ⟨hm0,by omega,by omega⟩];by_cases e:k=a
   .rw[ak (by omega),ak e];simp only[Yx.bS,nr,ia,aV h];exact⟨trivial,trivial,trivial,trivial⟩
   .rw[au (by omega),au e];simp only[nr,ia,aV h];exact⟨(Int.add_zero _).symm,(Int.sub_zero _).symm,trivial,trivial⟩
  have hfirst:(cE b { x with kind:=1 } (eJ b x) (c-x.s.atom.toNat))[0]?=some (cH x.high (dK b.atoms x.s (eJ b x) x.shift ((a:Nat):Int))):=Yg 0 (by omega);obtain⟨w1,w2,w3,w4⟩:=hwh a ZN (Xc _);rw[ak rfl]at w1 w2 w4;have hpa0:=ZE (eJ b x) x.shift a ZN (Xc _);have hk0:0<=eJ b x:=by rcases hkept with h|h<;>omega
  refine⟨by rw[hfs,hlen];omega,λf hf=>?_,λf hf=>?_,?_⟩
  .rw[hfs]at hf;obtain⟨i,hi⟩:=Kr hf;have Yv:i<c-a:=by
    rw[<-hlen];exact(oR.1 hi).1
   rw[Yg i Yv]at hi;obtain rfl:=Option.some.inj hi;obtain⟨v1,v2,-,-⟩:=hwh (a+i) (by omega) (by omega);have hpl':=ZE (eJ b x) x.shift (a+i) (by omega) (by omega);have YO:=hr3 (a+i) (by omega) (by omega) (by omega);have hph:=XH _ (Xo (show a+i<b.atoms.length by omega));simp only[cH];rw[v1,v2];rw[hpl']at YO|-;by_cases e:i=0
   .subst e;simp only[Nat.add_zero,if_true]at YO|-;omega
   .rw[au (by omega)];have WM:=y8 hk (show a<a+i by omega) (by omega);omega
  .rw[hfs,hfirst]at hf;obtain rfl:=Option.some.inj hf;simp only[cH];rw[w3,w4];exact⟨ha.symm,rfl⟩
  .refine .whole c r (eJ b x+x.shift) rfl c2 (by omega) hr2 (by rw[hfs,hlen];omega) (λf hf=>?_) (λk h h1 h2=>?_) (λh=>?_) (λk h1 h2=>c4 k h1 (by omega))
   .rw[hfs,hfirst]at hf;obtain rfl:=Option.some.inj hf;simp only[cH];rw[w1,hpa0];omega
   .have:=hr3 k h h1 h2;rw[ZE _ _ k h (by omega)]at this;rw[hag];by_cases e:(k:Int)=x.s.atom
    .obtain rfl:k=a:=by omega
     rw[au (by omega),ak e,hleft];omega
    .rw[ak (by omega),au e];omega
   .have:=hr4 h;rw[ZE _ _ r h (by omega)]at this;rw[hag];by_cases e:(r:Int)=x.s.atom
    .obtain rfl:r=a:=by omega
     rw[au (by omega),ak e,hleft];omega
    .rw[ak (by omega),au e];omega
 .rw[au WB,au WB];have hra:r=a:=by
   have:¬x.s.atom<fa b x:=λh=>WB ⟨Ze,h0,by omega,h⟩;omega
  have hgt:=hr4 (by omega);subst hra;rw[ZE _ _ r ZN (Xc _)]at hgt;have hk0:eJ b x=0/\x.shift=0:=by
   rw[hleft]at hkept hnf;rcases hkept with h|h<;>omega
  have hso:tS b.atoms ({ x with kind:=1 }:Wx).s ({ x with kind:=1 }:Wx).body:=⟨hm0,hbody⟩
  have hfs:(vY b { x with kind:=1 }).fs=[cH x.high (jV b.atoms x.s x.body)]:=by
   simp only[vY,Wx.put,Wx.add,hx,jE]
  have hsl:jV b.atoms x.s x.body=⟨b.atoms[r].node,x.s.atom,x.s.done,b.atoms[r].x,0,b.atoms[r].w,x.body⟩:=by
   rw[jV,ak (show tS b.atoms x.s x.body from hso),eZ];simp only[Yx.cut,Yx.bS,ia,hag];congr 1;omega
  have hnx:fm b.atoms x.s x.body=⟨x.s.atom,x.s.done+x.body,false⟩:=by
   rw[fm,ak (show tS b.atoms x.s x.body from hso)];rw[jV,ak (show tS b.atoms x.s x.body from hso)]at hsl;rw[hsl];simp only[jI,hag];rw[ak (by omega)]
  rw[hsl]at hfs;refine⟨by rw[hfs];exact Nat.one_pos,λf hf=>?_,λf hf=>?_,.more ?_ (by rw[hfs];rfl) (by rw[hleft];omega) (λf hf=>?_) ?_⟩
  .rw[hfs,ja]at hf;subst hf;simp only[cH];omega
  .rw[hfs]at hf;obtain rfl:=Option.some.inj hf;exact⟨rfl,rfl⟩
  .show(fm b.atoms x.s x.body).atom=_;rw[hnx]
  .rw[hfs]at hf;obtain rfl:=Option.some.inj hf;rfl
  .show(fm b.atoms x.s x.body).done=_;rw[hnx]
def UR(s t:YG)(n:Int):Prop:=t.s.atom>s.s.atom\/t.s.atom=s.s.atom/\t.s.done>s.s.done\/t.s.atom=s.s.atom/\t.s.done=s.s.done/\(t.bu.length<s.bu.length\/t.s.atom=n/\t.s.free=false)
structure Hg(b:Bk)(s:YG)(p:YN)(t:YG):Prop where
 no:p.no=0
 onw:UR s t b.atoms.length
 sum:(p.hs.map (·.h)).sum=(aU b s.s).high
 hd:inF 0 (aU b s.s).high p.hs
 fl:inF (aU b s.s).high b.h p.fs
 lo:inF (aU b s.s).high b.h p.ls
 kd:p.kind=1\/p.kind=2
 no':p.kind=2->p.fs=[]
 cut:p.kind=1->cT b.atoms s.s/\0<p.fs.length/\(∀f,p.fs[0]?=some f->f.atom=s.s.atom/\f.fr=s.s.done)/\Ab b s.s t.s p.fs (aU b s.s).high (aU b s.s).body
def Jf{α:Type}{p:α->Bool}:∀(l:List α),∀x∈l.takeWhile p,p x=true
 |[],x,h=>by cases h
 |a::l,x,h=>by
  rw[List.takeWhile_cons]at h;split at h
  .rename_i ha;rcases dJ.1 h with rfl|h
   .exact ha
   .exact Jf l x h
  .cases h
def Hp{b:Bk}(hb:jH b){x:Wx}(ZR:0<=x.shift)(h:inF x.high (x.high+x.body) x.ls):inF x.high (x.high+x.body) (fM b x).ls:=by
 unfold fM;split
 .exact za h (zN (Ce hb.fh ZR))
 .exact za h (zN (Ce hb.fh (Int.le_refl _)))
def nb(b:Bk)(x:Wx):(fM b x).hs=x.hs/\(fM b x).kind=1:=by
 unfold fM;split<;>exact⟨rfl,rfl⟩
def yg{b:Bk}(hb:jH b){s:YG}(he:¬gA b s):Hg b s (bY b s).1 (bY b s).2:=by
 have X9:iZ b s:=Decidable.byContradiction λh=>he (.inl h);have Yg:0<=s.s.atom:=by rcases X9.2 with h|h;exact h.1.1;omega
 obtain⟨r1,r2,r3,r4,r5⟩:=Jw hb.toBkFull s.s Yg;have hpf:∀f∈s.bu,0<=f.h:=λf hf=>hb.fh f (kA _ _ X9.1 f hf);have htop:inF (aU b s.s).high ((aU b s.s).high+(aU b s.s).body) ((bZ (aU b s.s).body s.bu 0).1.map (cO (aU b s.s).high)):=zN (D2 (by omega) _ 0 (Int.le_refl _) (by omega) hpf);have ZR:=(nY (body:=(aU b s.s).body) s.bu 0 (Int.le_refl _) (by omega) hpf).2.2;unfold bY;split
 .rename_i h0;obtain⟨h1,h2⟩:=h0;have hn:s.s.atom=0/\s.s.done=0:=by
   rcases X9.2 with h|h
   .have:=h.1;rw[h1]at this;simp at this;omega
   .rw[h1]at h;simpa using h
  refine⟨rfl,.inr (.inr ⟨?_,?_,.inr ⟨?_,rfl⟩⟩),r5,r4,λf hf=>(by cases hf),?_,.inr rfl,λ_=>rfl,λh=>?_⟩
  .simp[mP,hn]
  .simp[mP,hn]
  .simp[mP,h1]
  .rw[<-r3];refine zN (high:=(aU b s.s).high) (body:=(aU b s.s).body) λm hm=>?_;have h4:m.y+m.h<=(aU b s.s).body:=of_decide_eq_true (Jf _ m hm);have h5:m∈b.WA:=(List.takeWhile_sublist _).mem hm;exact⟨hb.fy m h5,hb.fh m h5,h4⟩
  .exact absurd h (show¬((2:Int)=1) by decide)
 .split
  .rename_i hf;refine⟨rfl,?_,r5,r4,λf hf=>(by cases hf),by rw[<-r3];exact htop,.inr rfl,λ_=>rfl,λh=>absurd h (show¬((2:Int)=1) by decide)⟩;refine .inr (.inr ⟨rfl,rfl,?_⟩);cases hp:s.bu with
   |cons f r=>exact .inl (rV f r)
   |nil=>
    unfold mG at hf;rw[hp]at hf;simp only[bZ]at hf;have ha:s.s.atom=b.atoms.length:=by
     rcases hf with h|h|h
     .exact h
     .exact absurd rfl h
     .omega
    exact .inr ⟨ha,by simp[ha]⟩
  .rename_i hf;have hm:cT b.atoms s.s:=X9.2.resolve_right λh=>hf (.inl h.1);have hfn:=rT (x:=er b s) hb.toBkOk hm hb.pos r2;have hfg:=FK hb (x:=er b s) hm rfl r2 ZR.1 (λh=>hf (.inr (.inr h)));have hls:=Hp hb (x:=er b s) ZR.1 (za (l:=[]) (λf hf=>(by cases hf)) htop);have hoth:=nb b (er b s);have xs:(er b s).s=s.s:=rfl;have xh:(er b s).high=(aU b s.s).high:=rfl;have xb:(er b s).body=(aU b s.s).body:=rfl;rw[xh,xb,r3]at hls;obtain⟨f1,f2,f3,f4⟩:=hfg;rw[xh,xb]at f2 f4;rw[r3]at f2;refine⟨rfl,?_,?_,?_,f2,hls,.inl hoth.2,λh=>?_,λ_=>⟨hm,f1,f3,f4⟩⟩
   .generalize iJ b (er b s)=z at hfn;cases hfn with
    |whole c fr p g1 g2 g3=>exact .inl g1
    |more d p g1 g2 g3=>exact .inr (.inl ⟨rfl,g1⟩)
   .show((fM b (er b s)).hs.map _).sum=_;rw[hoth.1];exact r5
   .show inF _ _ (fM b (er b s)).hs;rw[hoth.1];exact r4
   .have:(fM b (er b s)).kind=2:=h;rw[hoth.2]at this;cases this
def oK{l:List Nd}(hl:dz l){w h:Int}(he:fK l w h=0):jH (dX l w h):=by
 obtain⟨hw,hh,hc⟩:=oD he;obtain⟨hisb,hn,hwo,hcs⟩:=nK hc;have hG:=wa hisb hn hw.1 hw.2;obtain⟨h1,h2⟩:=F1 hl he;refine⟨h1,J9 hisb hn hw.1 hw.2,λa ha=>(hG.W3 a ha).h0,λa ha=>(hG.W3 a ha).y0,?_,h2,λf hf=>(hG.flo f hf).y0⟩;show nX (oU l (ofR l w))=true;refine Lk hisb λx hx=>?_;unfold ofR at hx;obtain⟨a,ha,rfl⟩:=gb.1 hx;exact hG.nod a ha
open Go.Proofs
def vy(b:List Yr)(p:YN)(s:XP):Int:=
 if p.kind≠1\/s.done>0 then -1 else if(XB b s.atom.toNat).forced=3 then 0 else if(XB b s.atom.toNat).forced=4 then 1 else -1
def Ka(b:List Yr)(hb:b.length<=1000000)(p:YN)(s:XP)(h0:0<=s.atom)(h1:s.atom<b.length):aE prog 120 [aY b,bB p,aL s] (vI (vy b p s)):=λU=>by
 refine UN.q ?_;have hs:=aa.refl U;obtain⟨no,kd,hh,ff,ll⟩:=p;obtain⟨a,d,fr⟩:=s;obtain⟨k,rfl⟩:∃k:Nat,a=k:=⟨a.toNat,by simp only at h0;omega⟩
 have hk:k<b.length:=by simp only at h1;omega
 have hpc:(bB ⟨no,kd,hh,ff,ll⟩).cells=[vI no,vI kd,aG hh,aG ff,aG ll]:=rfl;have hpp:(bB ⟨no,kd,hh,ff,ll⟩).stays=true:=rfl;have hsc:(aL ⟨k,d,fr⟩).cells=[vI k,vI d,.bool fr]:=rfl;have hss:(aL ⟨k,d,fr⟩).stays=true:=rfl;have Ys:=j6 b;have hbc:=j8 b;obtain⟨⟨c,f,r⟩,hf⟩:∃x,b[k]=x:=⟨_,rfl⟩
 have Wz:∀U,bp U 3 (aY b) (.int .i64 k)=some (.rp (.agg [vI c,vI f,vI r])):=λU=>by rw[nN hk,hf,bX]
 have hg:XB b ((k:Int)).toNat=⟨c,f,r⟩:=by simp[XB,hk,hf]
 have hR:vy b ⟨no,kd,hh,ff,ll⟩ ⟨k,d,fr⟩=if kd≠1\/d>0 then -1 else if f=3 then 0 else if f=4 then 1 else -1:=by simp only[vy,hg]
 generalize vy b ⟨no,kd,hh,ff,ll⟩ ⟨k,d,fr⟩=R at*;refine mS 6 ?_;simp only[go_sem,seval,Qz,hpc,hpp];refine al hs λi4 Z4 s4 a4 f4 z4 hs=>?_;simp only[go_sem,seval,hsc];refine al hs λi5 Z5 s5 a5 f5 z5 hs=>?_;obtain⟨ZW,a4⟩:=WG a4 f5 s5;by_cases q1:kd=1
 .have q1':(kd≠1)=False:=by simp[q1]
  by_cases q2:d>0
  .have q2':(d>0)=True:=L' q2;simp only[go_sem,seval,a4,a5,q1',q2',hpc,hsc];rw[ak (.inr q2)]at hR;exact ai.pure hs (congrArg vI hR.symm)
  .have q2':(d>0)=False:=H' q2;rw[au (λh=>h.elim (λh=>h q1) q2)]at hR;by_cases q3:f=3
   .have q3':(f=3)=True:=L' q3;simp only[go_sem,seval,a4,a5,q1',q2',q3',Wz,hpc,hsc];rw[ak q3]at hR;exact ai.pure hs (congrArg vI hR.symm)
   .have q3':(f=3)=False:=H' q3;rw[au q3]at hR;by_cases q4:f=4
    .have q4':(f=4)=True:=L' q4;simp only[go_sem,seval,a4,a5,q1',q2',q3',q4',Wz,hpc,hsc];rw[ak q4]at hR;exact ai.pure hs (congrArg vI hR.symm)
    .have q4':(f=4)=False:=H' q4;simp only[go_sem,seval,a4,a5,q1',q2',q3',q4',Wz,hpc,hsc];rw[au q4]at hR;exact ai.pure hs (congrArg vI hR.symm)
 .have q1':(kd≠1)=True:=L' q1;simp only[go_sem,seval,a4,q1',hpc];rw[ak (.inl q1)]at hR;exact ai.pure hs (congrArg vI hR.symm)
open Go.Proofs
def zz{Xk i1 i2 e1 e2:Nat}{n:Int}{x:V}{U:ad}{Post:Bool->ad->Prop}(r1:WI .i64 (n+1))(h1:U i1=some ⟨e1,1,[vI n]⟩)(h2:U i2=some ⟨e2,1,[.yl Xk]⟩)(WZ:i1≠i2)
 (hy:YC prog Xk [x] (C' U i1 ⟨e1,1,[vI (n+1)]⟩) Post):av prog 119 [x,.ptr i1 0 0,.ptr i2 0 0] U λr Z'=>∃b,r=.bool b/\Post b Z':=by
 refine UB.q ?_;refine mS 6 ?_;simp only[go_sem,seval,RD,h1,r1,h2,ab WZ,ab WZ.symm];refine ag.ny (Post:=Post) rfl rfl rfl hy ?_;intro b Z' hb;apply sR;simp only[go_sem,seval];exact⟨_,Z',aa.refl _,Wk.refl (aa.refl _) _,b,rfl,hb⟩
def htN(x:Nd):Int:=if x.kind=2 then x.line*x.words.length else if x.kind=3 then x.h else 0
def hts(l:List Nd):Nat->Int
 |0=>0
 |i+1=>hts l i+htN (W7 l i)
def pN{x:Nd}(h:NOk x):0<=htN x:=by
 have h1:=h.line.1;have h2:=h.h.1;unfold htN;split
 .exact Int.mul_nonneg h1 (by omega)
 .split<;>omega
def AU{l:List Nd}(hb:Xh l=true){a:Nat}:∀n,a+n<=l.length->hts l a<=hts l (a+n)
 |0,_=>Int.le_refl _
 |n+1,h=>by
  have ih:=AU (a:=a) hb n (by omega);have h1:NOk (W7 l (a+n)):=by rw[gF (show a+n<l.length by omega)];exact ec hb _
  have h2:=pN h1;rw[<-Nat.add_assoc,hts];omega
def htA(l:List XA):Int:=(l.map (·.h)).sum
def Fg(l m:List XA):htA (l++m)=htA l+htA m:=by unfold htA;rw[cX,List.sum_append]
def zo{l:List Nd}{rs:List Rm}(hD:DOk l rs):∀(k a e:Nat) (s:WS) (C:Nat),e-a<=k->a<=e->e<=l.length->bG l a e=true->fk s C->htA s.atoms<=hts l a->htA (cU l rs k a e s).atoms<=hts l e
 |0,a,e,s,C,hk,hae,_,_,_,h=>by
  obtain rfl:a=e:=by omega
  exact h
 |k+1,a,e,s,C,hk,hae,he,hr,h,hs=>by
  rw[cU];by_cases B':a<e
  .rw[ak B'];obtain⟨h1,h2⟩:=bV he hr (Xc a) B';obtain⟨h3,h4⟩:=cK he hr B';have Xa:NOk (W7 l a):=by rw[gF (by omega)];exact ec hD.isb (by omega)
   have step:∀t,(∃D,fk t D)->htA t.atoms<=hts l (a+(WJ l a).toNat)->htA (cU l rs k (a+(WJ l a).toNat) e t).atoms<=hts l e:=λt ⟨D,ht⟩ hA=>
    zo hD k _ e t D (by omega) (by omega) he h3 ht hA
   have X7:htN (W7 l a)+htA s.atoms<=hts l (a+1):=by rw[hts];omega
   have one:hts l (a+1)<=hts l (a+(WJ l a).toNat):=by
    obtain⟨m,hm⟩:∃m,(WJ l a).toNat=1+m:=⟨(WJ l a).toNat-1,by omega⟩
    rw[hm,<-Nat.add_assoc];exact AU hD.isb m (by omega)
   split
   .rename_i k1;have hz:htN (W7 l a)=0:=by rw[htN,au (by omega),au (by omega)]
    have hI2:=gG hD k (a+1) (a+(WJ l a).toNat) _ _ (by omega) (by omega) (by omega) h4 (et h Xa.st);have hS2:=zo hD k (a+1) (a+(WJ l a).toNat) _ _ (by omega) (by omega) (by omega) h4 (et h Xa.st) (show htA s.atoms<=_ by omega);exact step _ ⟨_,jD hI2 Xa.st⟩ hS2
   .split
    .rename_i k1 k2;refine step _ ⟨_,ky h Xa a⟩ (Int.le_trans ?_ one);have hp:=nW a (W7 l a).line (cz s.u' (W7 l a).words (W7 l a).space (W7 l a).line (ep rs a) (W7 l a).words.length 0 (s.Wy.y+s.Wy.m)) s;have hlen:=jq s.u' (W7 l a).words (W7 l a).space (W7 l a).line (ep rs a) (W7 l a).words.length 0 (s.Wy.y+s.Wy.m);have e:(s.text rs a (W7 l a)).atoms=_:=hp;rw[e,Fg];generalize cz s.u' (W7 l a).words (W7 l a).space (W7 l a).line (ep rs a) (W7 l a).words.length 0 (s.Wy.y+s.Wy.m)=L at*;have eI:htA (L.map (eQ a (W7 l a).line))=(W7 l a).line*L.length:=by
      clear e hp hlen
      induction L with
      |nil=>simp[htA]
      |cons x L ih=>
       have:htA ((x::L).map (eQ a (W7 l a).line))=(W7 l a).line+htA (L.map (eQ a (W7 l a).line)):=rfl;rw[this,ih,YI,Int.natCast_add,Int.mul_add];omega
     have hle:(W7 l a).line*(L.length:Int)<=(W7 l a).line*((W7 l a).words.length:Int):=Int.mul_le_mul_of_nonneg_left (by omega) Xa.line.1;have hz:htN (W7 l a)=(W7 l a).line*((W7 l a).words.length:Int):=by rw[htN,ak k2]
     omega
    .split
     .rename_i k1 k2 k3;refine step _ ⟨_,ku h Xa a⟩ (Int.le_trans ?_ one);have hz:htN (W7 l a)=(W7 l a).h:=by rw[htN,au k2,ak k3]
      have e:(WS.mono l rs s a (W7 l a)).atoms=s.atoms++[⟨2,a,0,0,(bM s.u' (fX s.u' (W7 l a).w (W7 l a).h (ep rs a) (s.Wy.y+s.Wy.m)) (W7 l a).h (ep rs a)).a,fX s.u' (W7 l a).w (W7 l a).h (ep rs a) (s.Wy.y+s.Wy.m),(W7 l a).w,(W7 l a).h⟩]:=rfl;rw[e,Fg];simp only[htA,eV,List.map_nil,List.sum_cons,List.sum_nil];simp only[htA]at X7;omega
     .have k4:(W7 l a).kind=4:=by rename_i g1 g2 g3;rcases Xa.kind with h|h|h|h;exact absurd h g1;exact absurd h g2;exact absurd h g3;exact h
      have hz:=pN Xa;exact step _ ⟨_,jG hD h (by omega) Xa k4⟩ (show htA s.atoms<=_ by omega)
  .rw[au B'];obtain rfl:a=e:=by omega
   exact hs
def MZ{l:List Nd}(hb:Xh l=true)(hn:l.length<=2000){w:Int}(h1:1<=w)(h2:w<=1099511627776):htA (cY l w).atoms<=hts l l.length:=by
 have hD:=pn hb hn h1 h2;have hr:bG l 0 l.length=true:=by simp only[Xh,Ba]at hb;exact hb.2
 have hI:fk ⟨[],[],0,⟨0,0⟩⟩ 0:=⟨⟨by simp,by simp,by simp,by simp,by simp⟩,by simp,by simp⟩
 exact zo hD l.length 0 l.length ⟨[],[],0,⟨0,0⟩⟩ 0 (by omega) (by omega) (Xc _) hr hI (by simp[htA,hts])
def Ay{l:List Nd}(hb:Xh l=true){s:Sm}(hs:0<=s.V'/\s.V'<=1099511627777):∀i,i<=l.length->0<=(fL l s i).V'/\(fL l s i).V'<=1099511627777/\min (hts l i) 1099511627777<=(fL l s i).V'
 |0,_=>⟨hs.1,hs.2,by simp only[hts,fL];omega⟩
 |i+1,hi=>by
  obtain⟨h1,h2,h3⟩:=Ay hb hs i (by omega);have Xa:NOk (W7 l i):=by rw[gF (by omega)];exact ec hb (by omega)
  have hz:=pN Xa;have WM:=Xa.st;rw[fL,hts,Zq6 (by omega)];rw[gF (show i<l.length by omega)]at Xa hz WM|-;simp only;unfold mc;split
  .rename_i k1;have e:htN l[i]=0:=by rw[htN,au (by omega),au (by omega)]
   have g1:=WM.top.1;have g2:=WM.WV.1;have g3:=WM.WD.1;have g4:=WM.O'.1;have g5:=WM.head.1;simp only[ji];omega
  .split
   .rename_i k1 k2;have e:htN l[i]=l[i].line*l[i].words.length:=by rw[htN,ak k2]
    simp only;rw[um ⟨h1,h2⟩ Xa.line.1];omega
   .rename_i k1 k2;have hh:=Xa.h.1;have e:htN l[i]<=l[i].h:=by rw[htN,au k2];split<;>omega
    simp only[ji];omega
def C3{l:List Nd}(hb:Xh l=true)(h:(gl l).1.V'<=1099511627776):hts l l.length<=(gl l).1.V':=by
 unfold gl at h|-;rw[ak hb]at h|-;have:=(Ay hb (s:=⟨0,0,l.length,0⟩) ⟨Int.le_refl _,(by decide:(0:Int)<=1099511627777)⟩ l.length (Xc _)).2.2;simp only at h|-;omega
def Fj{cnt:Nat->Nat}:∀{n a:Nat} {x:Int},x∈blk cnt a n->∃i:Nat,x=i/\a<=i/\i<a+n/\0<cnt i
 |0,a,x,h=>by rw[kP]at h;cases h
 |n+1,a,x,h=>by
  rw[iY]at h;rcases dH.1 h with h|h
  .obtain⟨h1,rfl⟩:=List.mem_replicate.1 h;exact⟨a,rfl,Xc _,by omega,by omega⟩
  .obtain⟨i,h1,h2,h3,h4⟩:=Fj h;exact⟨i,h1,by omega,by omega,h4⟩
def A9{l:List Nd}(hb:Xh l=true)(hn:l.length<=2000){w:Int}(h1:1<=w)(h2:w<=1099511627776):∀a∈(cY l w).atoms,∃i:Nat,a.node=i/\i<l.length/\((W7 l i).kind=2\/(W7 l i).kind=3):=λa ha=>by
 have hD:=pn hb hn h1 h2;have hr:bG l 0 l.length=true:=by simp only[Xh,Ba]at hb;exact hb.2
 have hI:fk ⟨[],[],0,⟨0,0⟩⟩ 0:=⟨⟨by simp,by simp,by simp,by simp,by simp⟩,by simp,by simp⟩
 obtain⟨-,cnt,hc,hco⟩:=uC hD l.length 0 l.length ⟨[],[],0,⟨0,0⟩⟩ 0 (by omega) (by omega) (Xc _) hr hI (by simp);have hm:a.node∈(cU l (cB l w) l.length 0 l.length ⟨[],[],0,⟨0,0⟩⟩).atoms.map (·.node):=gb.2 ⟨a,ha,rfl⟩;rw[hc]at hm;simp only[List.map_nil,jE]at hm;obtain⟨i,e,_,h3,h4⟩:=Fj hm;refine⟨i,e,by omega,?_⟩;have:=hco i (Nat.zero_le _) (by omega);unfold okN at this;split at this
 .rename_i k;exact .inl k
 .split at this
  .rename_i k;exact .inr k
  .have:=of_decide_eq_true this;omega
def least_le{l:List Nd}{h:Int}:∀{n j:Nat},j<n->((W7 l j).kind=2\/(W7 l j).kind=3)->fD l h n<=(px l j h).body
 |0,j,hj,_=>by omega
 |n+1,j,hj,hk=>by
  rw[fD];by_cases e:j=n
  .subst e;rw[ak hk];omega
  .have:=least_le (l:=l) (h:=h) (show j<n by omega) hk;split<;>omega
def rv{l:List Nd}{h:Int}(hh:1<=h):∀n,1<=fD l h n
 |0=>hh
 |n+1=>by
  have h1:=rv (l:=l) hh n;have h2:1<=(px l n h).body:=si hh _;rw[fD];split<;>omega
def EE{l:List Nd}{h:Int}(hb:Xh l=true)(h1:1<=h)(h2:h<=1099511627776):gj l h=true:=by
 unfold gj;rw[hb];simp[h1,h2]
structure uu(b:Bk)(L:Int):Prop where
 pos:1<=L
 body:∀s:XP,0<=s.atom->b.atoms≠[]->L<=(aU b s).body
 rest:fH b 0<=L*32768
 na:b.atoms.length<=10000
 nf:b.WA.length<=10000
def Ky{L:Int}(h1:1<=L):mulR L 32768<=L*32768:=by
 have e:du 32768=32768:=by decide
 have e2:(1099511627776:Int).tdiv (max 32768 (-32768))=33554432:=by decide
 unfold mulR;rw[e,e2];have hc:du L<=L/\0<=du L:=by unfold du;(repeat' split)<;>omega
 split
 .rename_i h;obtain⟨_,h|h⟩:=h
  .split<;>omega
  .exact absurd h (by have:(-1099511627776:Int).tdiv (max 32768 (-32768))=-33554432:=by decide
                      rw[this];omega)
 .have:=hc.1;omega
def wb{l:List Nd}{w h:Int}(he:fK l w h=0):uu (dX l w h) (cM l h):=by
 have he0:=he;obtain⟨hw,hh,hc⟩:=oD he;obtain⟨hisb,hn,hwo,hcs⟩:=nK hc;have hG:=wa hisb hn hw.1 hw.2;have hl1:=hG.len;have hl2:=hG.flen;have hm:=EE hisb hh.1 hh.2;have hL:cM l h=fD l h l.length:=by rw[cM,ak hm]
 have hp:1<=cM l h:=by rw[hL];exact rv hh.1 _
 refine⟨hp,λs h0 WZ=>?_,?_,by show(cY l w).atoms.length<=_;omega,by show(cY l w).u'.length<=_;omega⟩
 .unfold aU;rw[au WZ];have hlen:0<(dX l w h).atoms.length:=rW.2 WZ;obtain⟨k,hk⟩:∃k:Nat,min s.atom (((dX l w h).atoms.length:Int)-1)=k:=⟨(min s.atom (((dX l w h).atoms.length:Int)-1)).toNat,by omega⟩
  have Zb:k<(dX l w h).atoms.length:=by omega
  rw[hk,aV Zb];obtain⟨i,e1,e2,e3⟩:=A9 hisb hn hw.1 hw.2 _ (Xo (show k<(cY l w).atoms.length from Zb));have e4:(dX l w h).atoms[k].node=i:=e1;rw[e4,rK,hL];have hm':gj (dX l w h).nodes (dX l w h).h=true:=hm;rw[ak ⟨hm',by omega,show((i:Nat):Int)<(l.length:Nat) by omega⟩,eU];exact least_le e2 e3
 .have h1:fH (dX l w h) 0=htA (cY l w).atoms:=rfl;have h2:=MZ hisb hn hw.1 hw.2;have h3:(gl l).1.V'<=1099511627776:=by
   unfold dZ at hc;rw[ak hisb]at hc;split at hc
   .cases hc
   .omega
  have h4:=C3 hisb h3;have h5:¬(gl l).1.V'>mulR (cM l h) 32768:=λh=>by
   unfold fK at he0;rw[au (λg=>g ⟨hw,hh⟩),au (λg=>g hc),ak h]at he0;cases he0
  have h6:=Ky hp;omega
def rj(b:Bk)(L:Int)(s:YG):Int:=((b.atoms.length:Int)-s.s.atom)+(fH b s.s.atom.toNat-s.s.done)/L
def mu2(b:Bk)(L:Int)(s:YG):Nat:=(rj b L s).toNat*(2*b.WA.length+3)+(if s.s.free=true then b.WA.length+1 else 0)+s.bu.length
def kW.bu{b:Bk}{x:Wx}{t:YG}(h:kW b x t):t.bu.length<=b.WA.length:=by
 cases h with
 |whole c fr p h1 h2 h3=>exact h3
 |more d p h1 h2 h3=>exact h3
def Cg{b:Bk}(hb:jH b){L:Int}(hL:uu b L){s:YG}(he:¬gA b s):mu2 b L (bY b s).2<mu2 b L s:=by
 have X9:iZ b s:=Decidable.byContradiction λh=>he (.inl h);have hnot:¬(s.s.atom=b.atoms.length/\s.s.free=false/\s.bu=[]):=λh=>he (.inr h);have Yg:0<=s.s.atom:=by rcases X9.2 with h|h;exact h.1.1;omega
 have XH:=hb.pos;have hg:=yg hb he;have hcut:=hg.cut;revert hcut;unfold bY;split
 .rename_i h0;intro _;obtain⟨h1,h2⟩:=h0;have hr:∀a,fH b a=0:=λa=>by unfold fH;rw[h1];simp
  have hd:s.s.done=0/\s.s.atom=0:=by
   rcases X9.2 with h|h
   .have:=h.1;rw[h1]at this;simp at this;omega
   .rw[h1]at h;simp at h;omega
  have hdl:(b.WA.dropWhile (ij (bW b s.s .aB).body)).length<=b.WA.length:=(List.dropWhile_sublist _).length_le;simp only[mu2,rj,mP,hr,h2,hd,h1,if_true];simp;omega
 .split
  .rename_i hf;intro _;unfold mu2 rj;simp only;cases hp:s.bu with
   |cons f r=>
    have:=rV (body:=(aU b s.s).body) f r;simp only[YI]at this;cases s.s.free<;>by_cases h:s.s.atom<b.atoms.length<;>simp[h]<;>omega
   |nil=>
    unfold mG at hf;rw[hp]at hf;simp only[bZ]at hf;have ha:s.s.atom=b.atoms.length:=by
     rcases hf with h|h|h
     .exact h
     .exact absurd rfl h
     .omega
    have hfr:s.s.free=true:=by
     cases h:s.s.free
     .exact absurd ⟨ha,h,hp⟩ hnot
     .rfl
    simp[bZ,ha,hfr]
  .rename_i hf;have hm:cT b.atoms s.s:=X9.2.resolve_right λh=>hf (.inl h.1);have WZ:b.atoms≠[]:=λh=>by have:=hm.1;rw[h]at this;simp at this;omega
   have hbd:=hL.body s.s Yg WZ;have hL1:=hL.pos;have hpd:=(rT (x:=er b s) hb.toBkOk hm XH (jn hb.toBkFull s.s Yg)).bu;intro hcut;have hkind:(mo (fM b (er b s))).kind=1:=(nb b (er b s)).2;obtain⟨-,-,-,hcg⟩:=hcut hkind;obtain⟨⟨h0,h1⟩,h2,h3⟩:=hm;obtain⟨k,hk⟩:∃k:Nat,s.s.atom=k:=⟨s.s.atom.toNat,by omega⟩
   have Zb:k<b.atoms.length:=by omega
   have hph:=XH _ (Xo Zb);have WM:=uI Zb;have hnn:=qW XH (k+1);have hlf:eY b.atoms s.s=b.atoms[k].h-s.s.done:=by rw[eY,ak ⟨⟨h0,h1⟩,h2,h3⟩,hk,aV Zb]
   rw[hk,aV Zb]at h3;have key:∀t:YG,t.bu.length<=b.WA.length->0<=rj b L t->rj b L t+1<=rj b L s->mu2 b L t<mu2 b L s:=λt hp g1 g2=>by
    unfold mu2;have B':(rj b L t).toNat+1<=(rj b L s).toNat:=by omega
    have hmul:((rj b L t).toNat+1)*(2*b.WA.length+3)<=(rj b L s).toNat*(2*b.WA.length+3):=Nat.mul_le_mul_right _ B';rw[Nat.add_mul,Nat.one_mul]at hmul;have:(if t.s.free=true then b.WA.length+1 else 0)<=b.WA.length+1:=by split<;>omega
    omega
   refine key _ hpd ?_ ?_
   all_goals
    change Ab b s.s (iJ b (er b s)).s _ _ _ at hcg;generalize iJ b (er b s)=z at*;unfold rj;simp only;cases hcg with
    |more q1 q2 q3 q4 q5=>
     rw[q1,q5,hk,eU];rw[hlf]at q3;have e1:0<=(fH b k-(s.s.done+(aU b s.s).body))/L:=Int.ediv_nonneg (by omega) (by omega);have e2:(fH b k-(s.s.done+(aU b s.s).body))/L<=(fH b k-s.s.done-L)/L:=Int.ediv_le_ediv (by omega) (by omega);have e3:(fH b k-s.s.done-L)/L=(fH b k-s.s.done)/L-1:=by
      have:=Int.add_mul_ediv_right (fH b k-s.s.done) (-1) (show L≠0 by omega);rw[show fH b k-s.s.done-L=fH b k-s.s.done+-1*L by omega,this];omega
     omega
    |whole c r y q1 q2 q3 q4 q5 q6 q7 q8 q9=>
     rw[hk]at q2;simp only[q1,hk,eU];have e0:=BF XH (k+1) (c-(k+1));rw[show k+1+(c-(k+1))=c by omega]at e0;have e1:0<=(fH b c-0)/L:=Int.ediv_nonneg (by have:=qW XH c;omega) (by omega);have e2:(fH b c-0)/L<=(fH b k-s.s.done)/L:=Int.ediv_le_ediv (by omega) (by omega);omega
def x8{b:Bk}{L:Int}(hL:uu b L):mu2 b L ⟨⟨0,0,true⟩,[]⟩<=1000000000:=by
 have h1:=hL.rest;have h2:=hL.na;have h3:=hL.nf;have h4:=hL.pos;have e:(fH b 0-0)/L<=32768:=by
  have:(fH b 0-0)/L<=(32768*L)/L:=Int.ediv_le_ediv (by omega) (by omega);rw[Int.mul_ediv_cancel _ (by omega)]at this;exact this
 have hw:(rj b L ⟨⟨0,0,true⟩,[]⟩).toNat<=42768:=by
  unfold rj;simp only;have:(0:Int).toNat=0:=rfl;rw[this];omega
 unfold mu2;simp only[if_true,List.length_nil];have:(rj b L ⟨⟨0,0,true⟩,[]⟩).toNat*(2*b.WA.length+3)<=42768*20003:=Nat.mul_le_mul hw (by omega);omega
open Go.Proofs
def jO(b:Bk)(s:YG):Int:=vy b.WT (bY b s).1 s.s
def shK(b:Bk):Nat->YG->Int->List (Option YN)
 |0,_,_=>[]
 |f+1,s,no=>if gA b s then[]else
  if 0<=jO b s/\(no+1)%2≠jO b s then none::some (bY b s).1::shK b f (bY b s).2 (no+2)else some (bY b s).1::shK b f (bY b s).2 (no+1)
def shV:Option YN->V
 |none=>.iface 141 (.agg [])
 |some p=>.iface 139 (bB p)
structure ShJ(Xk e2 i2 i4 i6:Nat)(no:Int)(s:YG)(ZJ U:ad):Prop where
 sub:aa ZJ U
 y:U i2=some ⟨e2,1,[.yl Xk]⟩
 n:U i4=some ⟨3,1,[vI no]⟩
 st:U i6=some ⟨27,4,[bP s]⟩
 n2:ZJ i2=none
 n4:ZJ i4=none
 n6:ZJ i6=none
 e24:i2≠i4
 e26:i2≠i6
 e46:i4≠i6
def ShJ.mono{Xk e2 i2 i4 i6:Nat}{no:Int}{s:YG}{ZJ U J:ad}(h:ShJ Xk e2 i2 i4 i6 no s ZJ U)(hs:aa U J):ShJ Xk e2 i2 i4 i6 no s ZJ J:=
 ⟨h.sub.trans hs,hs _ _ h.y,hs _ _ h.n,hs _ _ h.st,h.n2,h.n4,h.n6,h.e24,h.e26,h.e46⟩
def ShJ.given{Xk e2 i2 i4 i6:Nat}{no:Int}{s:YG}{ZJ U Xj Z':ad}(h:ShJ Xk e2 i2 i4 i6 no s ZJ U)(hb:bb ZJ (C' U i4 ⟨3,1,[vI (no+1)]⟩) Xj Z'):ShJ Xk e2 i2 i4 i6 (no+1) s Xj Z':=by
 obtain⟨a1,a2⟩:=hb.2 i2 _ h.n2 (by rw[ab h.e24];exact h.y);obtain⟨b1,b2⟩:=hb.2 i4 _ h.n4 af;obtain⟨c1,c2⟩:=hb.2 i6 _ h.n6 (by rw[ab h.e46.symm];exact h.st);exact⟨hb.1,a1,b1,c1,a2,b2,c2,h.e24,h.e26,h.e46⟩
def ShJ.next{Xk e2 i2 i4 i6:Nat}{no:Int}{s:YG}{ZJ U Z10:ad}{i10:Nat}{o:Ob}(h:ShJ Xk e2 i2 i4 i6 no s ZJ U)(hs:aa (C' U i6 o) Z10)(hf:C' U i6 o i10=none)(t:YG):
 ShJ Xk e2 i2 i4 i10 no t ZJ (C' Z10 i10 ⟨27,4,[bP t]⟩):=by
 have h1:=(h.sub.ao (o:=o) h.n6)
 have y':=hs _ _ ((ab h.e26 (o:=o)).trans h.y);have n':=hs _ _ ((ab h.e46 (o:=o)).trans h.n);have k2:i2≠i10:=λe=>by rw[<-e,ab h.e26,h.y]at hf;cases hf
 have k4:i4≠i10:=λe=>by rw[<-e,ab h.e46,h.n]at hf;cases hf
 have nn:ZJ i10=none:=h1.none hf;exact⟨(h1.trans hs).ao nn,(ab k2).trans y',(ab k4).trans n',af,h.n2,h.n4,nn,h.e24,k2,k4⟩
def yP{b:Bk}(hb:jH b){s:YG}(hp:s.bu.length<=1000000)(he:¬gA b s):(bY b s).2.bu.length<=1000000:=by
 have X9:iZ b s:=Decidable.byContradiction λh=>he (.inl h);have Zh:=hb.flen;have Yg:0<=s.s.atom:=by rcases X9.2 with h|h;exact h.1.1;omega
 unfold bY;split
 .have:(b.WA.dropWhile (ij (bW b s.s .aB).body)).length<=b.WA.length:=(List.dropWhile_sublist _).length_le;show(b.WA.dropWhile (ij (bW b s.s .aB).body)).length<=_;omega
 .split
  .show(bZ (aU b s.s).body s.bu 0).2.1.length<=_;cases hpp:s.bu with
   |cons f r=>have:=rV (body:=(aU b s.s).body) f r;rw[hpp]at hp;simp only[YI]at this hp;omega
   |nil=>simp[bZ]
  .rename_i hf;have hm:cT b.atoms s.s:=X9.2.resolve_right λh=>hf (.inl h.1);have:=(rT (x:=er b s) hb.toBkOk hm hb.pos (jn hb.toBkFull s.s Yg)).bu;show(iJ b (er b s)).bu.length<=_;omega
def FP(b:Bk)(hb:BkFull b):aE prog 14 [.rp (br b)] (aY b.WT):=λU=>
 (FO b hb U).GW λ_ _ h=>h.2.ni h.1 rfl
def Bp(b:Bk)(hb:jH b){L:Int}(hL:uu b L):Iter prog 118 [.rp (.rp (br b))] ((shK b 1000000001 ⟨⟨0,0,true⟩,[]⟩ 0).map λx=>[shV x]):=by
 refine⟨Ql.c,λXk τ Jx Z0 hy hJ=>?_⟩;refine(Ql.q ?_).2;have hs:=aa.refl Z0;have hmu:=x8 hL;have XW:=hb.brk;have ZN:=hb.len;have hsc:∀s:YG,(bP s).cells=[vI s.s.atom,vI s.s.done,.bool s.s.free,ax s.bu]:=λ_=>rfl;have hss:∀s:YG,(bP s).stays=true:=λ_=>rfl;have hpc:∀p:YN,(bB p).cells=[vI p.no,vI p.kind,aG p.hs,aG p.fs,aG p.ls]:=λ_=>rfl;have hps:∀p:YN,(bB p).stays=true:=λ_=>rfl;have ldB:∀U:ad,bO U false 1 (.rp (.rp (br b)))=some (.rp (br b)):=λU=>rfl;generalize hXS:(shK b 1000000001 ⟨⟨0,0,true⟩,[]⟩ 0).map (λx=>[shV x])=XS at*;refine mS 8 ?_;simp only[go_sem,seval,Sl];refine al hs λi2 Z2 s2 a2 f2 z2 hs=>?_;simp only[go_sem,seval,ldB];refine pS rfl (FP b hb.toBkFull _) ?_;simp only[go_sem,seval];refine al hs λi4 Z4 s4 a4 f4 z4 hs=>?_;obtain⟨n24,a2⟩:=WG a2 f4 s4;simp only[go_sem,seval,a4];generalize hq4:C' _ i4 _=Y4;replace a4:=XD hq4;replace a2:=WQ hq4 n24 a2;replace hs:=Xz hq4 hs z4;apply sR;simp only[go_sem,seval];refine pS rfl (Gc b hb.toBkFull _) ?_;simp only[go_sem,seval];refine al hs λi6 Z6 s6 a6 f6 z6 hs=>?_;obtain⟨n46,a4⟩:=WG a4 f6 s6;obtain⟨n26,a2⟩:=WG a2 f6 s6;simp only[go_sem,seval,a6,hsc,hss];generalize hq6:C' _ i6 _=Y6;replace a6:=XD hq6;replace a4:=WQ hq6 n46 a4;replace a2:=WQ hq6 n26 a2;replace hs:=Xz hq6 hs z6;apply sR;simp only[go_sem,seval];have hJ0:ShJ Xk 188 i2 i4 i6 0 ⟨⟨0,0,true⟩,[]⟩ Z0 Y6:=⟨hs,a2,a4,a6,z2,z4,z6,n24,n26,n46⟩
 clear hs a2 a4 a6;generalize Y6=J at*;refine ag.loop (λm st=>∃(s:YG) (no:Int) (pre:List (List V)) (ZJ:ad) (i6':Nat),mu2 b L s<m/\XS=pre++(shK b m s no).map (λx=>[shV x])/\τ pre ZJ/\
  ShJ Xk 188 i2 i4 i6' no s ZJ st.U/\st.s 0=.yl Xk/\st.s 1=.rp (.rp (br b))/\st.s 3=aY b.WT/\st.s 4=.ptr i4 0 0/\st.s 5=.fn 119 [.ptr i4 0 0,.ptr i2 0 0]/\st.s 6=.ptr i6' 0 0/\
  0<=no/\no+2*m<=2000000002/\s.bu.length<=1000000) 1000000001 ?_ ?_
 .exact⟨⟨⟨0,0,true⟩,[]⟩,0,[],Z0,i6,by omega,by rw[jE,hXS],hJ,hJ0,rfl,rfl,rfl,rfl,rfl,rfl,by omega,by omega,by simp⟩
 clear hJ0 hJ;rintro m ⟨S,J⟩ ⟨s,no,pre,ZJ,i6,hm,hx,YM,hJs,t0,t1,t3,t4,t5,t6,hn0,hn1,hp⟩;simp only at hJs t0 t1 t3 t4 t5 t6;obtain⟨f,rfl⟩:∃f,m=f+1:=⟨m-1,by omega⟩
 have r6:=hJs.st;refine mS 8 ?_;simp only[go_sem,seval,t1,t6,ldB,r6];refine pR rfl (Ea b hb.toBkFull s hp _) ?_;by_cases he:gA b s
 .rw[XK he];apply sR;simp only[go_sem,seval];rw[shK,ak he,List.map_nil,iN]at hx;subst hx;exact⟨_,ZJ,hJs.sub,Wk.refl hJs.sub _,.inl YM⟩
 rw[XJ he];apply sR;simp only[go_sem,seval,t1,t6,ldB,r6];refine pR rfl (Ma b hb.toBkFull hb.fh s hp _) ?_;rw[au he];apply sR;simp only[go_sem,seval];have hs:=aa.refl J;refine al hs λi7 Z7 s7 a7 f7 z7 hs=>?_;simp only[go_sem,seval];refine al hs λi8 Z8 s8 a8 f8 z8 hs=>?_;obtain⟨n78,a7⟩:=WG a7 f8 s8;simp only[go_sem,seval,a7,hpc,hps];generalize Yl:C' _ i7 _=Y7;replace a7:=XD Yl;replace a8:=WQ Yl n78.symm a8;replace hs:=Xz Yl hs z7;simp only[go_sem,seval,a8,hsc,hss];generalize Yc:C' _ i8 _=Y8;replace a8:=XD Yc;replace a7:=WQ Yc n78 a7;replace hs:=Xz Yc hs z8;have YB:=hJs.mono hs;have r6':=YB.st;have r4:=YB.n;have X9:iZ b s:=Decidable.byContradiction λh=>he (.inl h);have Yg:0<=s.s.atom/\s.s.atom<b.WT.length:=by
  rcases X9.2 with h|h
  .have:=h.1;omega
  .omega
 simp only[go_sem,seval,t3,t6,r6',a7,hpc,hsc];refine pR rfl (Ka b.WT (by omega) (bY b s).1 s.s Yg.1 Yg.2 _) ?_;rw[show vy b.WT (bY b s).1 s.s=jO b s from rfl];have hmn:=Cg hb hL he;have hpn:=yP hb hp he;have r5:WI .i64 (no+1):=ae;have m7:ZJ i7=none:=hJs.sub.none z7;have m8:ZJ i8=none:=hJs.sub.none z8;have d47:i7≠i4:=λe=>by have:=hJs.n;rw[<-e,z7]at this;cases this
 have d48:i8≠i4:=λe=>by have:=hJs.n;rw[<-e,z8]at this;cases this
 have htm:(no+1).tmod 2=(no+1)%2:=Int.tmod_eq_emod_of_nonneg (by omega);by_cases hw:0<=jO b s/\(no+1)%2≠jO b s
 .rw[shK,au he,ak hw]at hx;have q1:(jO b s>=0)=True:=L' hw.1;have q2:((no+1).tmod 2≠jO b s)=True:=L' (by rw[htm];exact hw.2);generalize jO b s=W at*;apply sR;simp only[go_sem,seval,t4,t5,r4,r5,q1,q2];refine Yn rfl (zz (x:=.iface 141 (.agg [])) r5 YB.n YB.y YB.e24.symm (hy pre _ _ ZJ _ hx YM (YB.sub.ao YB.n4))) ?_;rintro _ Z8b ⟨b',rfl,ZJ8,Ys,XT⟩;have hJ8b:=YB.given Ys;obtain⟨a7b,k7⟩:=Ys.2 i7 _ m7 (by rw[ab d47];exact a7);obtain⟨a8b,k8⟩:=Ys.2 i8 _ m8 (by rw[ab d48];exact a8);have r55:WI .i64 (no+1+1):=ae;have hlast:XS=(pre++[[shV none]])++[.iface 139 (bB (bY b s).1)]::(shK b f (bY b s).2 (no+1+1)).map (λx=>[shV x]):=by
   rw[hx,show no+2=no+1+1 by omega];simp[shV]
  rcases XT with⟨rfl,XT⟩|⟨rfl,XT⟩
  .apply sR;simp only[go_sem,seval,t5,a7b,hpc];refine Yn rfl (zz (x:=.iface 139 (bB (bY b s).1)) r55 hJ8b.n hJ8b.y hJ8b.e24.symm (hy (pre++[[shV none]]) _ _ ZJ8 _ hlast XT (hJ8b.sub.ao hJ8b.n4))) ?_;rintro _ Z9 ⟨b',rfl,ZJ9,Ys,XT⟩;have YW:=hJ8b.given Ys;obtain⟨a8',k8⟩:=Ys.2 i8 _ k8 (by rw[ab d48];exact a8b);have r9:=YW.st;rcases XT with⟨rfl,XT⟩|⟨rfl,XT⟩
   .apply sR;simp only[go_sem,seval,t6,a8',r9,hsc];refine aj λi10 Z10 Yt Xm f10=>?_;simp only[go_sem,seval,Xm];refine⟨f,by omega,(bY b s).2,(no+1)+1,(pre++[[shV none]])++[[shV (some (bY b s).1)]],ZJ9,i10,by omega,?_,XT,YW.next Yt f10 _,?_⟩
    .rw[hlast];simp[shV]
    .simp[t0,t1,t3,t4,t5];exact⟨by omega,by omega,hpn⟩
   .apply sR;simp only[go_sem,seval];refine⟨_,ZJ9,YW.sub,Wk.refl YW.sub _,.inr ⟨_,?_,XT⟩⟩;rw[hlast];exact⟨(shK b f (bY b s).2 ((no+1)+1)).map λx=>[shV x],by simp⟩
  .apply sR;simp only[go_sem,seval];refine⟨_,ZJ8,hJ8b.sub,Wk.refl hJ8b.sub _,.inr ⟨_,?_,XT⟩⟩;rw[hx];exact⟨(some (bY b s).1::shK b f (bY b s).2 (no+2)).map λx=>[shV x],by simp[shV]⟩
 .rw[shK,au he,au hw]at hx;have hq:(jO b s>=0)=False\/(jO b s>=0)=True/\((no+1).tmod 2≠jO b s)=False:=by
   by_cases h:jO b s>=0
   .exact .inr ⟨L' h,H' (λg=>hw ⟨h,by rw[<-htm];exact g⟩)⟩
   .exact .inl (H' h)
  generalize jO b s=W at*;have hlast:XS=pre++[.iface 139 (bB (bY b s).1)]::(shK b f (bY b s).2 (no+1)).map (λx=>[shV x]):=hx;rcases hq with q1|⟨q1,q2⟩
  .apply sR;simp only[go_sem,seval,t5,a7,hpc,q1];refine Yn rfl (zz (x:=.iface 139 (bB (bY b s).1)) r5 YB.n YB.y YB.e24.symm (hy pre _ _ ZJ _ hlast YM (YB.sub.ao YB.n4))) ?_;rintro _ Z9 ⟨b',rfl,ZJ9,Ys,XT⟩;have YW:=YB.given Ys;obtain⟨a8',k8⟩:=Ys.2 i8 _ m8 (by rw[ab d48];exact a8);have r9:=YW.st;rcases XT with⟨rfl,XT⟩|⟨rfl,XT⟩
   .apply sR;simp only[go_sem,seval,t6,a8',r9,hsc];refine aj λi10 Z10 Yt Xm f10=>?_;simp only[go_sem,seval,Xm];refine⟨f,by omega,(bY b s).2,no+1,pre++[[shV (some (bY b s).1)]],ZJ9,i10,by omega,?_,XT,YW.next Yt f10 _,?_⟩
    .rw[hlast];simp[shV]
    .simp[t0,t1,t3,t4,t5];exact⟨by omega,by omega,hpn⟩
   .apply sR;simp only[go_sem,seval];refine⟨_,ZJ9,YW.sub,Wk.refl YW.sub _,.inr ⟨_,?_,XT⟩⟩;rw[hlast];exact⟨(shK b f (bY b s).2 (no+1)).map λx=>[shV x],by simp⟩
  .apply sR;simp only[go_sem,seval,t4,t5,r4,r5,a7,hpc,q1,q2];refine Yn rfl (zz (x:=.iface 139 (bB (bY b s).1)) r5 YB.n YB.y YB.e24.symm (hy pre _ _ ZJ _ hlast YM (YB.sub.ao YB.n4))) ?_;rintro _ Z9 ⟨b',rfl,ZJ9,Ys,XT⟩;have YW:=YB.given Ys;obtain⟨a8',k8⟩:=Ys.2 i8 _ m8 (by rw[ab d48];exact a8);have r9:=YW.st;rcases XT with⟨rfl,XT⟩|⟨rfl,XT⟩
   .apply sR;simp only[go_sem,seval,t6,a8',r9,hsc];refine aj λi10 Z10 Yt Xm f10=>?_;simp only[go_sem,seval,Xm];refine⟨f,by omega,(bY b s).2,no+1,pre++[[shV (some (bY b s).1)]],ZJ9,i10,by omega,?_,XT,YW.next Yt f10 _,?_⟩
    .rw[hlast];simp[shV]
    .simp[t0,t1,t3,t4,t5];exact⟨by omega,by omega,hpn⟩
   .apply sR;simp only[go_sem,seval];refine⟨_,ZJ9,YW.sub,Wk.refl YW.sub _,.inr ⟨_,?_,XT⟩⟩;rw[hlast];exact⟨(shK b f (bY b s).2 (no+1)).map λx=>[shV x],by simp⟩
variable {P:Program} {n:Nat}
def DK{o:Op}{xs:List VX}(h:Xb P n o=.more .vm xs):∃t,o=.alloc t/\o9 P t=true:=by
 cases o
 case alloc t=>
  simp only[Xb]at h;split at h
  .cases h
  .split at h
   .rename_i hn;exact⟨t,rfl,hn⟩
   .cases h
 case call c=>
  obtain⟨callee,args,argTypes⟩:=c;cases callee
  case builtin b=>cases b<;>simp only[Xb]at h<;>(repeat' split at h)<;>cases h
  all_goals (simp only[Xb]at h;cases h)
 case unOp op t x=>cases op<;>simp only[Xb]at h<;>cases h
 case makeFunc f a b=>cases f<;>simp only[Xb]at h<;>(repeat' split at h)<;>cases h
 case binOp op t x y yt=>cases op<;>simp only[Xb,cG]at h<;>(repeat' split at h)<;>cases h
 all_goals (simp only[Xb]at h;(repeat' split at h)<;>cases h)
def CO{o:Op}{xs:List VX}(h:Xb P n o=.more .vQ xs):∃t x y,o=.store t x y/\o9 P t=true/\xs=[cx n x,cx n y]:=by
 cases o
 case store t x y=>
  simp only[Xb]at h;split at h
  .cases h
  .split at h
   .rename_i hn;simp only[Xd.more.injEq,true_and]at h;exact⟨t,x,y,rfl,hn,h.symm⟩
   .cases h
 case call c=>
  obtain⟨callee,args,argTypes⟩:=c;cases callee
  case builtin b=>cases b<;>simp only[Xb]at h<;>(repeat' split at h)<;>cases h
  all_goals (simp only[Xb]at h;cases h)
 case unOp op t x=>cases op<;>simp only[Xb]at h<;>cases h
 case makeFunc f a b=>cases f<;>simp only[Xb]at h<;>(repeat' split at h)<;>cases h
 case binOp op t x y yt=>cases op<;>simp only[Xb,cG]at h<;>(repeat' split at h)<;>cases h
 all_goals (simp only[Xb]at h;(repeat' split at h)<;>cases h)
def ag.vm{st:St}{Q:St->Prop}{k:List It}{i:aC}{l:List aC}(hw:bg st.s i.g=some true)(ho:i.op=.more .vm [])
 (h:ag P n (.ops l::k) ⟨aO st.s i.dst (.rp (.agg [])),st.U⟩ Q):ag P n (.ops (i::l)::k) st Q:=by
 refine ag.ins (by rw[ho];simp) hw λF hn I a w o all hi hs next Q' WN=>?_
 subst hn;obtain⟨WO,hd⟩:=ee hi;rw[ho]at WO;obtain⟨t,g1,hn⟩:=DK WO;have Xq:(execOp a.eval o).run P w=.ok (.value (.pointer (some ⟨w.heap.size,0,none⟩))) (w.alloc (.cells #[] t)):=by
  unfold execOp;rw[g1];simp[Instr.alloc,rz hn,newVar,newRow,Value.cells]
 unfold Oper.wp;rw[Xq];obtain⟨h1,hk⟩:=hs.sat.more (.cells #[] t);refine WN _ _ _ ⟨I,?_⟩ h;rw[<-hd];exact hs.step h1 (dx.refl I) hk (by simp) (by simp only[G'];exact⟨w.heap.size,0,rfl,by simp,.inl rfl,by simp[bw,aK]⟩)
def ag.vQ{st:St}{Q:St->Prop}{k:List It}{i:aC}{l:List aC}{xa xv:VX}{u:V}(hw:bg st.s i.g=some true)(ho:i.op=.more .vQ [xa,xv])(ha:xa.ev st.s=.rp u)(hv:xv.ev st.s=.agg [])
 (h:ag P n (.ops l::k) ⟨aO st.s i.dst (.WC []),st.U⟩ Q):ag P n (.ops (i::l)::k) st Q:=by
 refine ag.ins (by rw[ho];simp) hw λF hn I a w o all hi hs next Q' WN=>?_
 subst hn;obtain⟨WO,hd⟩:=ee hi;rw[ho]at WO;obtain⟨t,x,y,g1,hn,g2⟩:=CO WO;simp only[List.cons.injEq,and_true]at g2;obtain⟨rfl,rfl⟩:=g2;have R1:=cL hs x;have R2:=cL hs y;rw[ha]at R1;rw[hv]at R2;simp only[G']at R1 R2;obtain⟨b,off,e1,_⟩:=R1;obtain⟨WL,e2,e3,_⟩:=R2;simp only[ar]at e3;subst e3;obtain⟨ti,_,hti,Yh,_⟩:=oI hn;have Xq:(execOp a.eval o).run P w=.ok .skip w:=by
  unfold execOp;rw[g1];simp[Instr.storeAt,Instr.sureAddr,e1,e2,storeVar,sizeOf,typeInfo,hti,Yh,Value.cells,storeCells]
 unfold Oper.wp;rw[Xq];refine WN _ _ _ ⟨I,?_⟩ h;rw[<-hd];exact hs.pure (by simp[G',ar,undef])
open Go.Proofs
def G2(b:Bk):aE prog 76 [.rp (br b)] (.fn 118 [.rp (.rp (br b))]):=λU=>by
 refine e76.q ?_;refine mS 4 ?_;simp only[go_sem,seval,c76];refine aj λid1 Z1 s1 a1 f1=>?_;simp only[go_sem,seval];exact⟨_,U,s1,Wk.fn (vs':=[.rp (.rp (br b))]) ⟨Wk.ptr s1 a1 f1,trivial⟩,rfl,rfl⟩
def pgN(k:Nat)(x:Option YN):YN:=match x with
 |none=>⟨(k:Int)+1,3,[],[],[]⟩
 |some p=>{ p with no:=(k:Int)+1 }
def tX(L:List (Option YN)):List YN:=(List.range L.length).map λk=>pgN k (L.getD k none)
def pgV(k:Nat)(x:Option YN):V:=match x with
 |none=>.agg [vI ((k:Int)+1),vI 3,.aB,.aB,.aB]
 |some p=>bB { p with no:=(k:Int)+1 }
def kL(L:List (Option YN)):List V:=(List.range L.length).map λk=>pgV k (L.getD k none)
def og(L:List (Option YN))(x:Option YN):kL (L++[x])=kL L++[pgV L.length x]:=by
 unfold kL;rw[gn,List.length_singleton,List.range_succ,cX];congr 1
 .refine List.map_congr_left λk hk=>?_;have:=List.mem_range.1 hk;rw[sc,sc,GU this]
 .simp
def kY(L:List (Option YN)):(kL L).length=L.length:=by simp[kL]
def ug(b:Bk):∀(f:Nat) (s:YG) (no:Int),(shK b f s no).length<=2*f
 |0,_,_=>by simp[shK]
 |f+1,s,no=>by
  rw[shK];split
  .simp
  .split
   .have:=ug b f (bY b s).2 (no+2);simp only[YI];omega
   .have:=ug b f (bY b s).2 (no+1);simp only[YI];omega
def fv(b:Bk):List YN:=if(b.atoms.length:Int)+b.WA.length=0 then[⟨1,3,[],[],[]⟩]else tX (shK b 1000000001 ⟨⟨0,0,true⟩,[]⟩ 0)
open Go.Proofs
def bb.Qx{ZJ U Xj Z':ad}(h:bb ZJ U Xj Z'){id:Nat}{o:Ob}(hn:U id=none)(hj:Xj id=none):bb ZJ U Xj (C' Z' id o):=
 ⟨h.1.ao hj,λi x h1 h2=>by
  obtain⟨h3,h4⟩:=h.2 i x h1 h2;have:i≠id:=λe=>by rw[e,hn]at h2;cases h2
  simp[Vc.C',this,h3,h4]⟩
def Za.maps{α:Type}{U:ad}{N:Nat->Prop}{f g:α->V}:∀{l:List α},(∀a∈l,Fz U N (f a) (g a))->Za U N (l.map f) (l.map g)
 |[],_=>.nil
 |a::l,h=>.cons _ _ _ _ (h a (by simp)) (Za.maps λx hx=>h x (by simp[hx]))
def Ax(p:YN):(bB p).fw=true:=by
 have h:∀l:List Yx,(aG l).fw=true:=λl=>nA (f:=aJ) (λ_=>rfl) l;show gU [vI p.no,vI p.kind,aG p.hs,aG p.fs,aG p.ls]=true;simp only[gU,h];rfl
def Ah{U:ad}{N:Nat->Prop}(L:List (Option YN)):Za U N (kL L) ((tX L).map bB):=by
 unfold kL tX;rw[List.map_map];refine Za.maps λk _=>?_;simp only[Function.comp];cases L.getD k none with
 |none=>exact .agg _ _ (.cons _ _ _ _ (.same _ rfl) (.cons _ _ _ _ (.same _ rfl) (.cons _ _ _ _ (.nil 7) (.cons _ _ _ _ (.nil 7) (.cons _ _ _ _ (.nil 7) .nil)))))
 |some p=>exact .same _ (Ax _)
def aq.N3{K U:ad}{N:Nat->Prop}{e sz:Nat}{v:V}{rows WH:List V}(h:aq K U e sz v rows)(hN:∀id,K id=none->N id)(hr:Za U N rows WH):Fz U N v (.sl sz WH):=by
 rcases h with⟨rfl,rfl⟩|⟨id,rfl,ho,hk⟩
 .cases hr;exact .nil sz
 .exact .own id 0 rows.length ⟨e,sz,rows⟩ WH ho (hN id hk) (by simp) (by rw[Du,dR];exact hr)
def dg(L:List YN):V:=.sl 5 (L.map bB)
def ot(l:List Nd)(hl:dz l)(w h:Int):
 aE prog 24 [ay l,vI w,vI h] (if fK l w h=0 then .WC [dg (fv (dX l w h)),vI 0]else .WC [.aB,vI (fK l w h)]):=λU=>by
 refine e24.q ?_;have hs:=aa.refl U;refine mS 8 ?_;simp only[go_sem,seval,c24];refine pR rfl (Qa l hl w h _) ?_;by_cases he:fK l w h=0
 .have hb:=oK hl he;have hL:=wb he;rw[Gh,ak he,ak he,he];generalize dX l w h=b at*;generalize cM l h=L at*;have q1:((0:Int)≠0)=False:=H' (λh=>h rfl);apply sR;simp only[go_sem,seval,q1];refine al hs λi10 Z10 Yt Xm f10 Zn hs=>?_;simp only[go_sem,seval];refine pS rfl (G2 b _) ?_;simp only[go_sem,seval];generalize hS:mix 8 _ _=S;have S8:S 8=.rp (br b):=by rw[<-hS];rfl
  have S10:S 10=.ptr i10 0 0:=by rw[<-hS];rfl
  have S27:S 27=.fn 118 [.rp (.rp (br b))]:=by rw[<-hS];rfl
  clear hS;have hit:=Bp b hb hL;have hSl:=ug b 1000000001 ⟨⟨0,0,true⟩,[]⟩ 0;have hPR:fv b=if(b.atoms.length:Int)+b.WA.length=0 then[⟨1,3,[],[],[]⟩]else tX (shK b 1000000001 ⟨⟨0,0,true⟩,[]⟩ 0):=rfl
  generalize fv b=PR at*;generalize shK b 1000000001 ⟨⟨0,0,true⟩,[]⟩ 0=SH at*;refine ag.eN (g:=.t 27) (caps:=[.rp (.rp (br b))]) S27 hit (λx hx=>?_) [] (λpre ZJ=>∃v,ZJ i10=some ⟨67,1,[v]⟩/\aa U ZJ/\aq (bj U i10) ZJ 58 5 v (kL (SH.take pre.length)))
   (λ_ _ _=>False) ?_ ?_ ?_ ?_ ?_
  .obtain⟨t,_,rfl⟩:=gb.1 hx;rfl
  .exact⟨.aB,Xm,Yt,by simpa[kL]using aq.start⟩
  .rintro pre x post ZJ ZB ZL ⟨v,J10,Js,Jo⟩ E';obtain⟨t,hti,rfl⟩:=qY (f:=shV) ZL;have ZE:pre.length<SH.length:=(oR.1 hti).1;have hlen:(pre++[[shV t]]).length=pre.length+1:=by simp
   have W4:kL (SH.take (pre.length+1))=kL (SH.take pre.length)++[pgV pre.length t]:=by
    rw[Hm,hti,Option.toList_some,og,jb,Nat.min_eq_left (by omega)]
   rw[hlen,W4];have Yb:(kL (SH.take pre.length)).length=pre.length:=by rw[kY,jb];omega
   have hvc:=Jo.vc.1;have hvl:=Jo.len;rw[Yb]at hvl;generalize W8:kL (SH.take pre.length)=rows at*;have b10:=E' _ _ J10;generalize Zg:nh S [28] [shV t]=S0;have T10:S0 10=.ptr i10 0 0:=by rw[<-Zg];exact S10
   have T28:S0 28=shV t:=by rw[<-Zg];rfl
   clear Zg;refine mS 12 ?_;simp only[go_sem,seval,T28];apply sR;simp only[go_sem,seval];rw[bh];intro i12 f12;have m12:i10≠i12:=aQ b10 f12;have r1:WI .i64 ((pre.length:Int)+1):=ae;have hpc:∀p:YN,(bB p).cells=[vI p.no,vI p.kind,aG p.hs,aG p.fs,aG p.ls]:=λ_=>rfl;have hps:∀p:YN,(bB p).stays=true:=λ_=>rfl;have hBs:=(bb.refl E').rY (o:=⟨58,5,[.agg [vI 0,vI 3,.aB,.aB,.aB]]⟩) f12;have y10:C' ZB i12 ⟨58,5,[.agg [vI 0,vI 3,.aB,.aB,.aB]]⟩ i10=some ⟨67,1,[v]⟩:=by rw[ab m12];exact b10
   have a12:C' ZB i12 ⟨58,5,[.agg [vI 0,vI 3,.aB,.aB,.aB]]⟩ i12=some ⟨58,5,[.agg [vI 0,vI 3,.aB,.aB,.aB]]⟩:=af;have W1:(rows.length+1)*89<=140737488355328:=by omega
   have k2:bj U i10 i10≠none:=λh=>(aF.1 h).1 rfl;have n12:ZJ i12=none:=E'.none f12;cases t with
   |none=>
    simp only[go_sem,seval,shV,Kz];generalize C' ZB i12 ⟨58,5,[.agg [vI 0,vI 3,.aB,.aB,.aB]]⟩=X' at*;refine ag.vm rfl rfl ?_;refine ag.vQ (u:=.agg []) rfl rfl rfl rfl ?_;apply sR;simp only[go_sem,seval,T10,y10,a12,hvc,hvl,r1,ab m12];rw[bh];intro i45 f45;have y2:C' X' i12 (⟨58,5,[.agg [vI ((pre.length:Int)+1),vI 3,.aB,.aB,.aB]]⟩:Ob) i10=some ⟨67,1,[v]⟩:=by rw[ab m12];exact y10
    have hB2:bb ZJ ZB ZJ (C' X' i12 (⟨58,5,[.agg [vI ((pre.length:Int)+1),vI 3,.aB,.aB,.aB]]⟩:Ob)):=hBs.Qx f12 n12;generalize C' X' i12 (⟨58,5,[.agg [vI ((pre.length:Int)+1),vI 3,.aB,.aB,.aB]]⟩:Ob)=Y2 at*;have hB3:=hB2.rY (o:=(⟨58,5,[.agg [vI ((pre.length:Int)+1),vI 3,.aB,.aB,.aB]]⟩:Ob)) f45;have y3:C' Y2 i45 (⟨58,5,[.agg [vI ((pre.length:Int)+1),vI 3,.aB,.aB,.aB]]⟩:Ob) i10=some ⟨67,1,[v]⟩:=by rw[ab (aQ y2 f45)];exact y2
    have a45:C' Y2 i45 (⟨58,5,[.agg [vI ((pre.length:Int)+1),vI 3,.aB,.aB,.aB]]⟩:Ob) i45=some (⟨58,5,[.agg [vI ((pre.length:Int)+1),vI 3,.aB,.aB,.aB]]⟩:Ob):=af;generalize C' Y2 i45 (⟨58,5,[.agg [vI ((pre.length:Int)+1),vI 3,.aB,.aB,.aB]]⟩:Ob)=X3 at*;obtain⟨idA,Xg,hdA⟩:=Jo.FB hB3.1;have dne:∀(i:Nat) (Zx:ad),bj U i10 i≠none->Vc.bz Zx idA i=Zx i:=λi Zx hk=>by
     cases idA with
     |none=>rfl
     |some a=>exact cA (λe=>hk (by rw[e];exact(hdA a rfl).1))
    simp only[go_sem,seval,Xg,bl a45,W1];rw[bh];intro i46 f46;have f46:X3 i46=none:=f46;have m46:i10≠i46:=aQ y3 f46;have f46':Vc.bz X3 idA i46=none:=by
     cases idA with
     |none=>exact f46
     |some a=>simp only[Vc.bz,del];split<;>first|rfl|exact f46
    have y4:C' (Vc.bz X3 idA) i46 ⟨58,5,rows++[.agg [vI ((pre.length:Int)+1),vI 3,.aB,.aB,.aB]]⟩ i10=some ⟨67,1,[v]⟩:=by rw[ab m46,dne _ _ k2];exact y3
    have hB9:=((hB3.FG (e:=idA) λi h=>(hdA i h).2).new (o:=⟨58,5,rows++[.agg [vI ((pre.length:Int)+1),vI 3,.aB,.aB,.aB]]⟩) f46').set (id:=i10) (o:=⟨67,1,[v]⟩) (o':=⟨67,1,[.own i46 0 (rows.length+1)]⟩) (by rw[ab m46,dne _ _ k2];exact J10);simp only[go_sem,seval,hvc,y4,T10];refine⟨_,hB9,.own i46 0 (rows.length+1),af,?_,?_⟩
    .refine aa.ao (λi o h=>?_) Zn;have h1:=Js _ _ h;rw[ab (aQ (hB3.1 _ _ h1) f46),dne _ _ (λhk=>by rw[(aF.1 hk).2]at h;cases h)];exact h1
    .refine aq.new (by simp) (by rw[ab m46.symm,af];rfl) ?_;rw[aF];refine⟨m46.symm,?_⟩;cases h:U i46 with
     |none=>rfl
     |some o=>rw[hB3.1 _ _ (Js _ _ h)]at f46;cases f46
   |some p=>
    simp only[go_sem,seval,shV,Kz];generalize C' ZB i12 ⟨58,5,[.agg [vI 0,vI 3,.aB,.aB,.aB]]⟩=J at*;rw[bh];intro i13 f13;have m13:i12≠i13:=aQ a12 f13;have k13:i10≠i13:=aQ y10 f13;have hBs:=hBs.rY (o:=⟨139,5,[bB p]⟩) f13;have y10:C' J i13 ⟨139,5,[bB p]⟩ i10=some ⟨67,1,[v]⟩:=by rw[ab k13];exact y10
    have a12:C' J i13 ⟨139,5,[bB p]⟩ i12=some ⟨58,5,[.agg [vI 0,vI 3,.aB,.aB,.aB]]⟩:=by rw[ab m13];exact a12
    have XM:C' J i13 ⟨139,5,[bB p]⟩ i13=some ⟨139,5,[bB p]⟩:=af;simp only[go_sem,seval,hpc,hps];generalize C' J i13 ⟨139,5,[bB p]⟩=X' at*;simp only[go_sem,seval,T10,y10,a12,hvc,hvl,r1,ab m12];rw[bh];intro i45 f45;have y2:C' X' i12 (⟨58,5,[.agg [vI ((pre.length:Int)+1),vI p.kind,aG p.hs,aG p.fs,aG p.ls]]⟩:Ob) i10=some ⟨67,1,[v]⟩:=by rw[ab m12];exact y10
    have hB2:bb ZJ ZB ZJ (C' X' i12 (⟨58,5,[.agg [vI ((pre.length:Int)+1),vI p.kind,aG p.hs,aG p.fs,aG p.ls]]⟩:Ob)):=hBs.Qx f12 n12;generalize C' X' i12 (⟨58,5,[.agg [vI ((pre.length:Int)+1),vI p.kind,aG p.hs,aG p.fs,aG p.ls]]⟩:Ob)=Y2 at*;have hB3:=hB2.rY (o:=(⟨58,5,[.agg [vI ((pre.length:Int)+1),vI p.kind,aG p.hs,aG p.fs,aG p.ls]]⟩:Ob)) f45;have y3:C' Y2 i45 (⟨58,5,[.agg [vI ((pre.length:Int)+1),vI p.kind,aG p.hs,aG p.fs,aG p.ls]]⟩:Ob) i10=some ⟨67,1,[v]⟩:=by rw[ab (aQ y2 f45)];exact y2
    have a45:C' Y2 i45 (⟨58,5,[.agg [vI ((pre.length:Int)+1),vI p.kind,aG p.hs,aG p.fs,aG p.ls]]⟩:Ob) i45=some (⟨58,5,[.agg [vI ((pre.length:Int)+1),vI p.kind,aG p.hs,aG p.fs,aG p.ls]]⟩:Ob):=af;generalize C' Y2 i45 (⟨58,5,[.agg [vI ((pre.length:Int)+1),vI p.kind,aG p.hs,aG p.fs,aG p.ls]]⟩:Ob)=X3 at*;obtain⟨idA,Xg,hdA⟩:=Jo.FB hB3.1;have dne:∀(i:Nat) (Zx:ad),bj U i10 i≠none->Vc.bz Zx idA i=Zx i:=λi Zx hk=>by
     cases idA with
     |none=>rfl
     |some a=>exact cA (λe=>hk (by rw[e];exact(hdA a rfl).1))
    simp only[go_sem,seval,Xg,bl a45,W1];rw[bh];intro i46 f46;have f46:X3 i46=none:=f46;have m46:i10≠i46:=aQ y3 f46;have f46':Vc.bz X3 idA i46=none:=by
     cases idA with
     |none=>exact f46
     |some a=>simp only[Vc.bz,del];split<;>first|rfl|exact f46
    have y4:C' (Vc.bz X3 idA) i46 ⟨58,5,rows++[.agg [vI ((pre.length:Int)+1),vI p.kind,aG p.hs,aG p.fs,aG p.ls]]⟩ i10=some ⟨67,1,[v]⟩:=by rw[ab m46,dne _ _ k2];exact y3
    have hB9:=((hB3.FG (e:=idA) λi h=>(hdA i h).2).new (o:=⟨58,5,rows++[.agg [vI ((pre.length:Int)+1),vI p.kind,aG p.hs,aG p.fs,aG p.ls]]⟩) f46').set (id:=i10) (o:=⟨67,1,[v]⟩) (o':=⟨67,1,[.own i46 0 (rows.length+1)]⟩) (by rw[ab m46,dne _ _ k2];exact J10);simp only[go_sem,seval,hvc,y4,T10];refine⟨_,hB9,.own i46 0 (rows.length+1),af,?_,?_⟩
    .refine aa.ao (λi o h=>?_) Zn;have h1:=Js _ _ h;rw[ab (aQ (hB3.1 _ _ h1) f46),dne _ _ (λhk=>by rw[(aF.1 hk).2]at h;cases h)];exact h1
    .refine aq.new (by simp) (by rw[ab m46.symm,af];rfl) ?_;rw[aF];refine⟨m46.symm,?_⟩;cases h:U i46 with
     |none=>rfl
     |some o=>rw[hB3.1 _ _ (Js _ _ h)]at f46;cases f46
  .rintro Z' ⟨v,Xm,hs,Jo⟩;rw[cJ,dR]at Jo;have hvc:=Jo.vc.1;have hvs:=Jo.vc.2;have Yo:=eL b.atoms;have hlf:=cF b.WA;have Zh:=hb.flen;have ZN:=hb.len;have rr:WI .i64 ((b.atoms.length:Int)+b.WA.length):=ae;refine mS 12 ?_;simp only[go_sem,seval,S8];refine pS rfl (FA b hb.toBkFull _) ?_;simp only[go_sem,seval,Ho];have hK:aa U Z':=hs;have hs:=aa.refl Z';refine al hs λi15 Y15 s15 a15 f15 z15 hs=>?_;obtain⟨n1015,Xm⟩:=WG Xm f15 s15;simp only[go_sem,seval,a15];generalize YQ:C' _ i15 _=Z15;replace a15:=XD YQ;replace Xm:=WQ YQ n1015 Xm;replace hs:=Xz YQ hs z15;by_cases hz:(b.atoms.length:Int)+b.WA.length=0
   .have qz:((b.atoms.length:Int)+b.WA.length=0)=True:=L' hz;rw[ak hz]at hPR;simp only[go_sem,seval,a15,Yo,hlf,rr,qz];have a10':=Xm;refine al hs λi58 Z58 YS a58 f58 z58 hs=>?_;replace Xm:=YS _ _ Xm;simp only[go_sem,seval,Xm,S10,hvc];rw[hPR];have hs3:=(hK.trans hs).ao (id:=i10) (o:=⟨67,1,[.own i58 0 1]⟩) Zn;have m58:i10≠i58:=aQ a10' f58;have hf:Fz (C' Z58 i10 ⟨67,1,[.own i58 0 1]⟩) (λid=>U id=none) (.WC [.own i58 0 1,vI 0]) (.WC [dg [⟨1,3,[],[],[]⟩],vI 0]):=
     .WC _ _ (.cons _ _ _ _ (.own i58 0 1 ⟨58,5,[.agg [vI 1,vI 3,.aB,.aB,.aB]]⟩ _ ((ab m58.symm).trans a58) (hK.none z58) (by simp) (Za.one (.agg _ _ (.cons _ _ _ _ (.same _ rfl) (.cons _ _ _ _ (.same _ rfl) (.cons _ _ _ _ (.nil 7) (.cons _ _ _ _ (.nil 7) (.cons _ _ _ _ (.nil 7) .nil)))))))) (Za.same [vI 0] rfl))
    exact⟨_,U,hs3,hf.wk hs3 (λ_ h=>h),rfl,rfl⟩
   .have qz:((b.atoms.length:Int)+b.WA.length=0)=False:=H' hz;rw[au hz]at hPR;simp only[go_sem,seval,a15,Xm,S10,Yo,hlf,rr,qz,hvc];rw[hPR];have hf:Fz Z15 (λid=>U id=none) (.WC [v,vI 0]) (.WC [dg (tX SH),vI 0]):=
     .WC _ _ (.cons _ _ _ _ ((Jo.mono hs).N3 (λid h=>(aF.1 h).2) (Ah SH)) (Za.same [vI 0] rfl))
    exact⟨_,U,hK.trans hs,hf.wk (hK.trans hs) (λ_ h=>h),rfl,rfl⟩
  .intro id h;cases h
  .rintro pre Z' _ ⟨⟩
 .have q1:(fK l w h≠0)=True:=L' he;rw[au he];apply sR;simp only[go_sem,seval,q1];exact ai.pure hs rfl
def Cv{x:T'}:∀(p:List T') (i k:Nat),kg x p i=((i+k:Nat):Int)->p[k]?=some x
 |[],i,k,h=>by simp[kg]at h;omega
 |q::p,i,k,h=>by
  rw[kg]at h;split at h
  .rename_i e;obtain rfl:k=0:=by omega
   simp[e]
  .rcases ri x p (i+1)with h2|⟨m,h2,_⟩
   .rw[h2]at h;omega
   .have hk:k=m+1:=by rw[h2]at h;omega
    subst hk;rw[GC];exact Cv p (i+1) m h2
def BA{WA:List T'}:∀(p:List T') (W3:Nat),iR WA p W3=true->p.Sublist (WA.drop W3)
 |[],W3,_=>List.nil_sublist _
 |x::r,W3,h=>by
  rw[iR]at h;split at h
  .cases h
  .rename_i hk;rcases ri x (WA.drop W3) 0 with e|⟨k,e,Yf⟩
   .exact absurd (by rw[e];decide) hk
   .rw[e,kf,eU]at h;have hx:=Cv _ 0 k e;obtain⟨hl,hg⟩:=oR.1 hx;have hr:=BA r _ h;have e1:WA.drop W3=(WA.drop W3).take k++x::(WA.drop W3).drop (k+1):=by
     conv=>lhs;rw[<-rZ k (WA.drop W3)]
     rw[iT hl,hg]
    rw[e1,List.drop_drop,show W3+(k+1)=W3+k+1 by omega];exact(List.Sublist.cons_cons x hr).trans (List.sublist_append_right _ _)
def SdI(s:WS):Prop:=∀f∈s.u',f.side=1\/f.side=2
def SdI.same{s t:WS}(h:SdI s)(e:t.u'=s.u'):SdI t:=λf hf=>h f (e▸hf)
def ng(rs:List Rm)(s:WS)(a:Nat)(n:Nd):(s.text rs a n).u'=s.u':=by
 unfold WS.text;generalize cz s.u' n.words n.space n.line (ep rs a) n.words.length 0 (s.Wy.y+s.Wy.m)=L
 suffices key:∀(L:List Ln) (t:WS),(L.foldl (λs x=>s.put (eQ a n.line x)) t).u'=t.u' from key L s
 intro L
 induction L with
 |nil=>intro t;rfl
 |cons x L ih=>intro t;rw[gg,ih];rfl
def rS{l:List Nd}{rs:List Rm}(hb:Xh l=true):∀(k a e:Nat) (s:WS),a<=e->e<=l.length->bG l a e=true->SdI s->SdI (cU l rs k a e s)
 |0,a,e,s,_,_,_,h=>h
 |k+1,a,e,s,hae,he,hr,h=>by
  rw[cU];by_cases B':a<e
  .rw[ak B'];obtain⟨h1,h2⟩:=bV he hr (Xc a) B';obtain⟨h3,h4⟩:=cK he hr B';have Xa:NOk (W7 l a):=by rw[gF (by omega)];exact ec hb (by omega)
   have step:∀t,SdI t->SdI (cU l rs k (a+(WJ l a).toNat) e t):=λt hA=>rS hb k _ e t (by omega) he h3 hA;split
   .refine step _ (SdI.same (rS hb k (a+1) (a+(WJ l a).toNat) (s.enter (W7 l a).st) (by omega) (by omega) h4 (h.same rfl)) rfl)
   .split
    .exact step _ (h.same (ng _ _ _ _))
    .split
     .exact step _ (h.same rfl)
     .have k4:(W7 l a).kind=4:=by rename_i g1 g2 g3;rcases Xa.kind with h|h|h|h;exact absurd h g1;exact absurd h g2;exact absurd h g3;exact h
      refine step _ λf hf=>?_;have hf:f∈s.u'++[iC s.u' ⟨a,(W7 l a).side,s.atoms.length,0,0,(W7 l a).w,(W7 l a).h⟩ (s.Wy.y+s.Wy.m) (ep rs a)]:=hf;rcases dH.1 hf with hf|hf
      .exact h f hf
      .rw[ja.1 hf];show(W7 l a).side=1\/(W7 l a).side=2;have:=Xa.fl k4;have:=Xa.side.2;omega
  .rw[au B'];exact h
open Go.Proofs
def DA{y high:Int}{f:T'}:ew y high f=true↔f.h>0/\f.y<y+max high 1/\f.y+f.h>y:=by
 unfold ew nu;split
 .rename_i h;simp only at h;simp only[decide_true,Bool.not_true,fO,false_iff];omega
 .rename_i h;simp only at h;have WZ:¬((⟨max f.y y,min (f.y+f.h) (y+max high 1)⟩:Xr)=⟨0,0⟩):=by
   intro e;have e1:=congrArg Xr.a e;have e2:=congrArg Xr.b e;simp only at e1 e2;omega
  simp only[WZ,decide_false,Bool.not_false,true_iff];omega
def FV{f:T'}{s:Xr}:gN f s=s↔(f.side=1/\f.x+f.w<=s.a)\/(f.side≠1/\s.b<=f.x):=by
 obtain⟨a,b⟩:=s;unfold gN;by_cases h:f.side=1
 .rw[ak h];simp only[Xr.mk.injEq,h,true_and,and_true,not_true,false_and,or_false,ne_eq];omega
 .rw[au h];simp only[Xr.mk.injEq,h,true_and,false_and,false_or,ne_eq,not_false_eq_true];omega
def Dd{l:List T'}{y high:Int}{s:Xr}{i:Nat}(h:i<l.length):bM (l.take (i+1)) y high s=if ew y high l[i]=true then gN l[i] (bM (l.take i) y high s)else bM (l.take i) y high s:=by
 unfold bM;rw[lp _ _ h,kN];cases ew y high l[i]<;>rfl
def Dp{l:List T'}{y high:Int}{s:Xr}{i:Nat}(h:i<l.length):cC (l.take (i+1)) y high s=if ew y high l[i]=true then iK s (cC (l.take i) y high s) l[i]else cC (l.take i) y high s:=by
 unfold cC;rw[lp _ _ h,kN];cases ew y high l[i]<;>rfl
def wC{tell:T'->Int×Bool}{l:List T'}{i:Nat}(h:i<l.length):cy tell (l.take (i+1))=gQ tell (cy tell (l.take i)) l[i]:=by
 unfold cy;rw[Yz h,kN];rfl
def At{s:Xr}:∀{l:List T'} {t:Xr},s.a<=t.a->t.b<=s.b->(t≠s\/∃f∈l,gN f s≠s)->l.foldl (λs f=>gN f s) t≠s
 |[],t,_,_,h=>by simpa using h
 |f::l,t,h1,h2,h=>by
  have h3:=ED f t;rw[gg];refine At (Int.le_trans h1 h3.1) (Int.le_trans h3.2 h2) ?_;rcases h with h|⟨g,hg,h⟩
  .left;intro e;apply h;obtain⟨ta,tb⟩:=t;obtain⟨sa,sb⟩:=s;rw[e]at h3;simp only[Xr.mk.injEq]at h1 h2 h3|-;omega
  .rcases dJ.1 hg with rfl|hg
   .left;intro e;apply h;obtain⟨ta,tb⟩:=t;obtain⟨sa,sb⟩:=s;unfold gN at e|-;by_cases h4:g.side=1<;>simp only[h4,if_true,if_false,Xr.mk.injEq,true_and,and_true]at e h1 h2|-<;>omega
   .exact .inr ⟨g,hg,h⟩
def IG{l:List T'}{y high:Int}{s:Xr}:(cC l y high s).2=true↔bM l y high s≠s:=by
 refine⟨λh=>?_,mA⟩;refine At (Int.le_refl _) (Int.le_refl _) (.inr (Classical.byContradiction λhn=>?_));have XR:∀f∈l.filter (ew y high),gN f s=s:=λf hf=>Classical.byContradiction λhe=>hn ⟨f,hf,he⟩;have:∀(m:List T') (a:Int×Bool),(∀f∈m,gN f s=s)->m.foldl (iK s) a=a:=by
  intro m
  induction m with
  |nil=>intro a _;rfl
  |cons f m ih=>
   intro a hm;rw[gg,show iK s a f=a by unfold iK;rw[ak (.inl (hm f (by simp)))]];exact ih a λg hg=>hm g (by simp[hg])
 unfold cC at h;rw[this _ _ XR]at h;cases h
def lV{l:List T'}{w high y:Int}{s:Xr}:mF l w high s y=true↔(cC l y high s).2=false\/w<=fj (bM l y high s):=by
 have h:=IG (l:=l) (y:=y) (high:=high) (s:=s);simp only[mF,lG,YX];cases hn:(cC l y high s).2
 .rw[hn]at h;have:bM l y high s=s:=Classical.byContradiction λWZ=>by simpa using h.2 WZ
  simp[this]
 .rw[hn]at h;have:=h.1 rfl;simp[this]
def EV{l:List T'}{y high:Int}{s:Xr}(h:gtJ l y=0):(cC l y high s).2=false:=by
 cases hn:(cC l y high s).2
 .rfl
 .have:=mr (eR hn);omega
def wg{l:List T'}{w high:Int}{s:Xr}:∀(k k':Nat) (y:Int),gtJ l y<=k->gtJ l y<=k'->j3 l w high s k y=j3 l w high s k' y
 |0,k',y,h,_=>by
  have hf:mF l w high s y=true:=lV.2 (.inl (EV (by omega)));cases k'<;>simp[j3,hf]
 |k+1,0,y,_,h=>by
  have hf:mF l w high s y=true:=lV.2 (.inl (EV (by omega)));simp[j3,hf]
 |k+1,k'+1,y,h,h'=>by
  simp only[j3];by_cases hf:mF l w high s y=true
  .simp[hf]
  .simp only[hf,fO,if_false];have hn:(cC l y high s).2=true:=by
    cases hn:(cC l y high s).2
    .exact absurd (lV.2 (.inl hn)) hf
    .rfl
   have:=mr (eR hn);exact wg k k' _ (by omega) (by omega)
def HU(l:List T')(y:Int):gtJ l y<=l.length:=List.length_filter_le _ _
def JD{l:List T'}{w high y:Int}{s:Xr}:fX l w high s y=if(cC l y high s).2=false\/w<=fj (bM l y high s)then y else fX l w high s (cC l y high s).1:=by
 have e:fX l w high s y=j3 l w high s (l.length+1) y:=wg _ _ _ (HU l y) (by have:=HU l y;omega);rw[e,j3];by_cases hf:mF l w high s y=true
 .rw[ak hf,ak (lV.1 hf)]
 .rw[au hf,au (λh=>hf (lV.2 h))];rfl
def oJ{l:List T'}{w high y:Int}{s:Xr}:kT l w high s y=true↔(cC l y high s).2=false\/fj (bM l y high s)>=w:=by
 simp[kT]
def wL{l:List T'}{w high:Int}{s:Xr}{k:Nat}{y:Int}(h:kT l w high s y=true):iH l w high s k y=y:=by
 cases k<;>simp[iH,h]
def Jb{l:List T'}{w high:Int}{s:Xr}{k:Nat}{y:Int}(hk:gtJ l y<=k)(h:kT l w high s y=false):∃k',k=k'+1/\gtJ l (cC l y high s).1<=k'/\iH l w high s k y=iH l w high s k' (cC l y high s).1:=by
 have hn:(cC l y high s).2=true:=by
  cases hn:(cC l y high s).2
  .rw[oJ.2 (.inl hn)]at h;cases h
  .rfl
 have:=mr (eR hn);obtain⟨k',rfl⟩:∃k',k=k'+1:=⟨k-1,by omega⟩
 exact⟨k',rfl,by omega,by rw[iH,h];rfl⟩
open Go.Proofs
def vM(l:List Nd)(w:Int):Nat->Nat->Rm
 |0,_=>⟨0,w⟩
 |k+1,a=>if db l a<0 then⟨0,w⟩else jB (vM l w k (db l a).toNat) (tV l (db l a).toNat)
def ln(l:List Nd)(w:Int)(a:Nat):Rm:=vM l w (a+1) a
def vj{l:List Nd}{w:Int}:∀(k j a:Nat),a<k->a<j->vM l w k a=vM l w j a
 |0,_,_,h,_=>by omega
 |_+1,0,_,_,h=>by omega
 |k+1,j+1,a,h,h'=>by
  have hr:=dU l a;rw[vM,vM];split
  .rfl
  .rw[vj k j (db l a).toNat (by omega) (by omega)]
def AO{l:List Nd}{w:Int}{a:Nat}:ln l w a=if db l a<0 then⟨0,w⟩else jB (ln l w (db l a).toNat) (tV l (db l a).toNat):=by
 have hr:=dU l a;unfold ln;rw[vM];split
 .rfl
 .rw[vj a ((db l a).toNat+1) _ (by omega) (by omega)]
def zw(l:List Nd)(w:Int)(p:Int):Rm:=if p<0 then⟨0,w⟩else jB (ln l w p.toNat) (tV l p.toNat)
def sy{l:List Nd}{w:Int}:∀(k b a e:Nat) (p:Int) (r:Rm),e<=l.length->OA l p a e->r=zw l w p->e-b<=k->a<=b->b<=e->bG l b e=true->(∀i,a<=i->i<b->(i:Int)+WJ l i<=b)->
 ∀j,b<=j->j<e->(dc l k b e r)[j-b]?=some (ln l w j)
 |0,b,a,e,p,r,_,_,_,h,_,_,_,_,j,h1,h2=>by omega
 |k+1,b,a,e,p,r,he,hA,hr,hk,hab,hbe,hrw,hpre,j,h1,h2=>by
  have B':b<e:=by omega
  have hb:b<l.length:=by omega
  obtain⟨hend,Xe⟩:=bV he hrw (Xc b) B';obtain⟨hr2,hin⟩:=cK he hrw B';rw[dc,ak B'];have hp:db l b=p:=by
   rcases hA with⟨rfl,rfl⟩|⟨q,rfl,rfl,hq⟩
   .exact yJ hb b (Xc _) (λi hi=>hpre i (by omega) hi)
   .exact Es hb (by omega) b (by omega) (Xc _) (λi h1 h2=>hpre i (by omega) h2)
  have hrb:r=ln l w b:=by rw[hr,AO,hp];rfl
  by_cases e1:j=b
  .subst e1;rw[Nat.sub_self,LZ,hrb]
  .obtain⟨d,rfl⟩:∃d,j=b+1+d:=⟨j-b-1,by omega⟩
   rw[show b+1+d-b=d+1 by omega,GC];have Yp:=jy (l:=l) (e:=b+(WJ l b).toNat) (by omega) k (b+1) (jB r (tV l b)) (by omega) (by omega) hin;have hri:jB r (tV l b)=zw l w (b:Int):=by
    unfold zw;rw[au (by omega),hrb];rfl
   by_cases h3:b+1+d<b+(WJ l b).toNat
   .rw[GU (by omega)];have:=sy (w:=w) k (b+1) (b+1) (b+(WJ l b).toNat) b _ (by omega) (.inr ⟨b,rfl,rfl,by omega⟩) hri (by omega) (Xc _) (by omega) hin (λi h1 h2=>by omega) (b+1+d) (by omega) h3
    rwa [show b+1+d-(b+1)=d by omega]at this
   .rw[Mn (by omega),Yp];have:=sy (w:=w) k (b+(WJ l b).toNat) a e p r he hA hr (by omega) (by omega) (by omega) hr2 (λi h1 h2=>by
     by_cases e2:i<b
     .have:=hpre i h1 e2;omega
     .by_cases e3:i=b
      .subst e3;omega
      .have:=(bV (by omega) hin (k:=i) (by omega) h2).1;omega) (b+1+d) (by omega) h2
    rwa [show b+1+d-(b+(WJ l b).toNat)=d-(b+(WJ l b).toNat-(b+1)) by omega]at this
def yE{l:List Nd}(hb:Xh l=true){w:Int}{a:Nat}(ha:a<l.length):(cB l w).getD a ⟨0,0⟩=ln l w a:=by
 have hr:bG l 0 l.length=true:=by simp only[Xh,Ba]at hb;exact hb.2
 have:=sy (w:=w) l.length 0 0 l.length (-1) ⟨0,w⟩ (Xc _) (.inl ⟨rfl,rfl⟩) (by simp[zw]) (by omega) (Xc _) (by omega) hr (λi _ h=>by omega) a (by omega) ha;rw[Nat.sub_zero]at this;unfold cB;rw[sc,this];rfl
def Al{l:List Nd}(hb:Xh l=true)(hn:l.length<=2000){w:Int}(h1:1<=w)(h2:w<=1099511627776){a:Nat}(ha:a<l.length):(ln l w a).ok:=by
 have hr:bG l 0 l.length=true:=by simp only[Xh,Ba]at hb;exact hb.2
 have hlen:(cB l w).length=l.length:=by unfold cB;rw[jy (Xc _) _ _ _ (by omega) (by omega) hr];omega
 rw[<-yE hb ha,sc,Zq6 (by omega),Option.getD_some];exact oF hb _ _ _ _ (Xc _) hr ⟨by simp,by simp,h1,h2⟩ _ (Xo _)
def CV{l:List Nd}(hb:Xh l=true){w:Int}{a:Nat}(ha:a<l.length):ep (cB l w) a=⟨(ln l w a).x,(ln l w a).x+(ln l w a).w⟩:=by
 unfold ep;rw[yE hb ha]
def qq(l:List Nd)(rs:List Rm)(s:WS)(a:Nat):WS:=
 if(W7 l a).kind=1 then(cU l rs (a+(WJ l a).toNat-(a+1)) (a+1) (a+(WJ l a).toNat) (s.enter (W7 l a).st)).leave (W7 l a).st
 else if(W7 l a).kind=2 then s.text rs a (W7 l a)else if(W7 l a).kind=3 then WS.mono l rs s a (W7 l a)else s.float rs a (W7 l a)
def wB{l:List Nd}{rs:List Rm}{b e:Nat}(he:e<=l.length)(hr:bG l b e=true)(B':b<e)(s:WS):
 cU l rs (e-b) b e s=cU l rs (e-(b+(WJ l b).toNat)) (b+(WJ l b).toNat) e (qq l rs s b):=xW he hr B' s
def vw{l:List Nd}{rs:List Rm}{e:Nat}(s:WS):cU l rs (e-e) e e s=s:=by rw[Nat.sub_self];rfl
def hiF(h:Int)(l:List T'):Int:=l.foldl (λh f=>max h (f.y+f.h)) h
def Ee:∀(l:List T') (a:Int) (p:Int),(∀f∈l,f.side=1\/f.side=2)->(l.foldl (gQ (fS 3)) (a,true)).2=true/\max p (l.foldl (gQ (fS 3)) (a,true)).1=hiF (max p a) l
 |[],a,p,_=>⟨rfl,rfl⟩
 |f::l,a,p,h=>by
  have hf:(fS 3 f).2=true:=by
   rcases h f (by simp)with e|e<;>simp only[fS,e]<;>decide
  have h1:gQ (fS 3) (a,true) f=(max a (f.y+f.h),true):=by
   unfold gQ;rw[hf];simp only[fS,true_and,Bool.true_eq_false,false_or];split
   .congr 1;omega
   .congr 1;omega
  obtain⟨g1,g2⟩:=Ee l (max a (f.y+f.h)) p (λg hg=>h g (by simp[hg]));rw[gg,h1];refine⟨g1,?_⟩;rw[g2];unfold hiF;rw[gg];congr 1;omega
def LM{s:WS}(h:SdI s):vZ s=hiF (s.Wy.y+s.Wy.m) s.u':=by
 unfold vZ cy;unfold SdI at h;cases hl:s.u' with
 |nil=>simp[hiF]
 |cons f l=>
  rw[hl]at h;have hf:(fS 3 f).2=true:=by
   rcases h f (by simp)with e|e<;>simp only[fS,e]<;>decide
  have h1:gQ (fS 3) (0,false) f=(f.y+f.h,true):=by
   unfold gQ;rw[hf];simp[fS]
  obtain⟨g1,g2⟩:=Ee l (f.y+f.h) (s.Wy.y+s.Wy.m) (λg hg=>h g (by simp[hg]));rw[gg,h1,ak g1,g2];rfl
def IA{h:Int}{l:List T'}{i:Nat}(hi:i<l.length):hiF h (l.take (i+1))=max (hiF h (l.take i)) (l[i].y+l[i].h):=by
 unfold hiF;rw[Yz hi,kN];rfl
def AnI(s:WS):Prop:=∀f∈s.u',0<=f.anchor
def AnI.same{s t:WS}(h:AnI s)(e:t.u'=s.u'):AnI t:=λf hf=>h f (e▸hf)
def xy{l:List Nd}{rs:List Rm}:∀(k a e:Nat) (s:WS),AnI s->AnI (cU l rs k a e s)
 |0,_,_,_,h=>h
 |k+1,a,e,s,h=>by
  rw[cU];by_cases B':a<e
  .rw[ak B'];refine xy k _ e _ ?_;split
   .exact AnI.same (xy k _ _ _ (h.same (t:=s.enter (W7 l a).st) rfl)) rfl
   .split
    .exact h.same (ng _ _ _ _)
    .split
     .exact h.same rfl
     .intro f hf;simp only[WS.float,nU,dH,ja]at hf;rcases hf with hf|rfl
      .exact h f hf
      .simp[iC]
  .rw[au B'];exact h
def Jl{n:Nat}{f:T'}(h:0<=f.anchor):lP n f=if f.anchor>=n then{ f with anchor:=max ((n:Int)-1) 0 }else f:=by
 obtain⟨a,b,c,d,e,g,i⟩:=f;unfold lP;simp only at h|-;split
 .congr 1;omega
 .congr 1;omega
def iU(l:List Nd)(of:List Int)(i:Nat)(k:Int):Bool:=decide (0<=k/\k<of.length)&&cd l i (of.getD k.toNat 0)
def jT(l:List Nd)(p:Nat->Bool)(n:Nat):List Int:=((List.range n).filter λi=>decide (kdI l i=1)&&p i).map λ(i:Nat)=>(i:Int)
def l3{l:List Nd}{p:Nat->Bool}{n:Nat}:jT l p (n+1)=jT l p n++if kdI l n=1/\p n=true then[(n:Int)]else[]:=by
 unfold jT;rw[List.range_succ,List.filter_append,cX];congr 1;by_cases h1:kdI l n=1<;>cases h2:p n<;>simp[h1,h2]
def l9{l:List Nd}{a:Nat}:∀n:Nat,dt l a n=(((List.range n).filter λ(i:Nat)=>cd l i a).map λ(i:Nat)=>(i:Int)).reverse
 |0=>rfl
 |n+1=>by
  rw[dt,List.range_succ,List.filter_append,cX,List.reverse_append,<-l9 n];cases h:cd l n a<;>simp[h]
def BN{l:List Nd}(hb:Xh l=true){i a:Nat}(hia:i<a)(h:cd l i a=true):kdI l i=1:=by
 obtain⟨h1,h2,h3,h4⟩:=iu.1 h;have Yv:i<l.length:=by omega
 obtain⟨g1,g2,g3⟩:=uN hb Yv;rw[Oh Yv];rw[eU,gY Yv]at h4;rcases g3 with g3|g3
 .exact g3
 .omega
def EI{l:List Nd}{p:Nat->Bool}{a:Nat}:∀d:Nat,(∀i,a<=i->i<a+d->kdI l i=1->p i=false)->jT l p (a+d)=jT l p a
 |0,_=>rfl
 |d+1,h=>by
  rw[<-Nat.add_assoc,l3,EI d λi h1 h2=>h i h1 (by omega)];rw[au,iN];rintro⟨h1,h2⟩;rw[h (a+d) (by omega) (by omega) h1]at h2;cases h2
def nR(p:Int->Bool):∀L:List Nat,(L.map λ(i:Nat)=>(i:Int)).filter p=(L.filter λ(i:Nat)=>p i).map λ(i:Nat)=>(i:Int)
 |[]=>rfl
 |x::L=>by
  rw[eV,List.filter_cons,List.filter_cons,nR p L];cases p x<;>simp
def CW{l:List Nd}(hb:Xh l=true){of:List Int}(Xt:∀x∈of,(0<=x/\x<l.length)/\kdI l x.toNat≠1)(k:Int)(p:Int->Bool):
 chR l of k p=(jT l (λi=>iU l of i k&&p i) l.length).reverse:=by
 unfold chR;split
 .rename_i hk;have hkn:k.toNat<of.length:=by omega
  have hmem:=Xo hkn;obtain⟨⟨h1,h2⟩,h3⟩:=Xt _ hmem;have hgd:of.getD k.toNat 0=of[k.toNat]:=by simp[hkn]
  have hrf:∀i,iU l of i k=cd l i of[k.toNat]:=λi=>by
   unfold iU;rw[hgd,XK hk,Bool.true_and]
  rw[hgd];generalize of[k.toNat]=x at*;obtain⟨a,rfl⟩:∃a:Nat,x=a:=⟨x.toNat,by omega⟩
  rw[eU]at h3|-;have ZN:a<l.length:=by omega
  rw[DT hb ZN,l9,List.filter_reverse,nR,List.filter_filter];have hd:l.length=a+(l.length-a):=by omega
  rw[hd,EI (l.length-a) λi h4 h5 h6=>?_]
  .unfold jT;congr 2;refine List.filter_congr λi hi=>?_;rw[List.mem_range]at hi;simp only[hrf];cases hh:cd l i a
   .simp
   .simp[BN hb hi hh]
  .rw[hrf];have:cd l i a=false:=by
    cases hh:cd l i a
    .rfl
    .have:=iu.1 hh;have:i=a:=by omega
     subst this;exact absurd h6 h3
   rw[this];rfl
 .rename_i hk;have:jT l (λi=>iU l of i k&&p i) l.length=[]:=by
   unfold jT;rw[List.map_eq_nil_iff,List.filter_eq_nil_iff];intro i _;unfold iU;rw[XJ hk];simp
  rw[this];rfl
def zF{l:List Nd}{of:List Int}(Xt:∀x∈of,(0<=x/\x<l.length)/\kdI l x.toNat≠1){i:Nat}(hi:i<l.length)(k:Int):hAt l of i k=iU l of i k:=by
 unfold hAt iU;split
 .rename_i hk;have hkn:k.toNat<of.length:=by omega
  obtain⟨⟨h1,h2⟩,h3⟩:=Xt _ (Xo hkn);have hgd:of.getD k.toNat 0=of[k.toNat]:=by simp[hkn]
  rw[hgd,XK hk,Bool.true_and];rw[Bool.eq_iff_iff,iu];simp only[wH,YX];omega
 .rename_i hk;rw[XJ hk];rfl
def p9{l:List Nd}{p q:Nat->Bool}{n:Nat}(h:∀i,i<n->p i=q i):jT l p n=jT l q n:=by
 unfold jT;congr 1;exact List.filter_congr λi hi=>by rw[h i (List.mem_range.1 hi)]
def Lb{l:List Nd}(hb:Xh l=true){of:List Int}(Xt:∀x∈of,(0<=x/\x<l.length)/\kdI l x.toNat≠1)(k:Nat):
 cq l of k=⟨(jT l (λi=>iU l of i ((k:Int)-1)&&!iU l of i k) l.length).reverse,jT l (λi=>iU l of i k&&!iU l of i ((k:Int)-1)) l.length,
  (jT l (λi=>iU l of i ((k:Int)-1)&&iU l of i k) l.length).reverse,if 0<k/\k<of.length/\of.getD k 0=of.getD (k-1) 0 then of.getD k 0 else -1⟩:=by
 unfold cq;rw[CW hb Xt,CW hb Xt,CW hb Xt,List.reverse_reverse];refine congr (congr (congr (congrArg Kn.mk ?_) ?_) ?_) rfl
 .exact congrArg List.reverse (p9 λi hi=>by rw[zF Xt hi])
 .exact p9 λi hi=>by rw[zF Xt hi]
 .exact congrArg List.reverse (p9 λi hi=>by rw[zF Xt hi,Bool.and_comm])
def iW(all:List Int):Int:=match all.reverse.find? λn=>decide (n=3\/n=4)with
 |some n=>n
 |none=>if 2∈all then 2 else 0
def Ae(L:List Int)(n:Int):cS (L++[n])=j5 (cS L) n:=by unfold cS;rw[kN];rfl
def Af(L:List Int)(n:Int):iW (L++[n])=if n=3\/n=4 then n else if n=2 then(if iW L=0 then 2 else iW L)else iW L:=by
 unfold iW;rw[List.reverse_append,List.reverse_singleton,List.singleton_append,List.find?_cons];by_cases h:n=3\/n=4
 .rw[XK h,ak h]
 .rw[XJ h,au h];simp only[dH,ja];cases hf:L.reverse.find? λn=>decide (n=3\/n=4)with
  |some m=>
   have:=List.find?_some hf;simp only[YX]at this;simp only;split
   .rw[au (by omega)]
   .rfl
  |none=>
   simp only;by_cases h2:n=2
   .subst h2;simp only[or_true,if_true];by_cases h4:2∈L<;>simp[h4]
   .have:¬(2=n):=λe=>h2 e.symm;simp only[this,or_false,h2,if_false]
def yO:∀(n:Nat) (L:List Int),L.length=n->cS L=iW L
 |0,L,h=>by rw[rf h];rfl
 |n+1,L,h=>by
  have WZ:L≠[]:=λe=>by rw[e]at h;cases h
  rw[<-List.dropLast_concat_getLast WZ,Ae,Af,yO n _ (by rw[List.length_dropLast];omega)];generalize L.getLast WZ=m;generalize iW L.dropLast=q;unfold j5 mH;by_cases h1:m=3\/m=4
  .simp[h1]
  .by_cases h2:m=2
   .subst h2;simp
   .simp[h1,h2]
def UG(a b c:Bool):BH (BH (BH 0 0 a) 1 b) 2 c=(if a then 1 else 0)+2*(if b then 1 else 0)+4*(if c then 1 else 0):=by
 cases a<;>cases b<;>cases c<;>rfl
def KL{l:List Nd}{of:List Int}{k:Nat}:mC l of k=if k=0\/k=of.length then 0 else
 (if Fm l of (cq l of k).text k then 1 else 0)+2*(if qu l (cq l of k)then 1 else 0)+4*(if 1∈gX l of k then 1 else 0):=by
 unfold mC;split
 .rfl
 .simp only[dB,kQ,UG];simp
def Fk{α:Type}(f:α->Int):∀(L:List α) (m:Int),(m=0\/m=1)->(∀x∈L,0<=f x/\f x<=1)->L.foldl (λm x=>max m (f x)) m=if m=1\/(L.any λx=>decide (f x=1))=true then 1 else 0
 |[],m,h,_=>by rcases h with rfl|rfl<;>simp
 |x::L,m,h,hL=>by
  have hx:=hL x (by simp);rw[gg,Fk f L _ (by omega) λy hy=>hL y (by simp[hy])];rw[List.any_cons];by_cases e:f x=1
  .simp[e];have:max m 1=1:=by omega
   simp[this]
  .have:f x=0:=by omega
   have hm:max m (f x)=m:=by omega
   rw[hm];simp[e]
def je(l:List Nd)(a:Nat)(h:Int):Nat->Kp
 |0=>⟨[],0,h⟩
 |n+1=>if cd l n a=true then gP l (je l a h n) n else je l a h n
def yQ{l:List Nd}{L:List Int}{h:Int}:∀m,m<=L.length->gM l L h m=(L.reverse.take m).foldl (gP l) ⟨[],0,h⟩
 |0,_=>rfl
 |m+1,hm=>by
  have hml:m<L.reverse.length:=by rw[List.length_reverse];omega
  rw[gM,yQ m (by omega),Yz hml,kN];have:L.getD (L.length-1-m) 0=L.reverse[m]:=by
   rw[List.getElem_reverse];have:L.length-1-m<L.length:=by omega
   simp[this]
  rw[this];rfl
def uQ{l:List Nd}{a:Nat}{h:Int}:∀n,je l a h n=(((List.range n).filter λ(i:Nat)=>cd l i a).map λ(i:Nat)=>(i:Int)).foldl (gP l) ⟨[],0,h⟩
 |0=>rfl
 |n+1=>by
  rw[je,List.range_succ,List.filter_append,cX,kN,<-uQ n];cases hh:cd l n a<;>simp[hh]
def KY{l:List Nd}(hb:Xh l=true){a:Nat}(ha:a<l.length){h:Int}:px l a h=je l a h a:=by
 unfold px;rw[yQ _ (Xc _),lf (by rw[List.length_reverse];exact Xc _),DT hb ha,l9,List.reverse_reverse,uQ]
def An{l:List Nd}{x:Kp}{a:Int}(h0:0<=(Yw l a).head):gP l x a=if(Yw l a).head=0\/(Yw l a).head>=x.body then x else⟨x.WU++[a],x.high+(Yw l a).head,x.body-(Yw l a).head⟩:=by
 unfold gP;by_cases h:(Yw l a).head=0\/(Yw l a).head>=x.body
 .rw[ak (by omega),ak h]
 .rw[au (by omega),au h]
def yk{l:List Nd}(hb:Xh l=true){a:Nat}{h:Int}(hh:1<=h):∀n,n<=l.length->(je l a h n).WU.length<=n/\0<=(je l a h n).high/\1<=(je l a h n).body/\(je l a h n).high+(je l a h n).body=h
 |0,_=>by simp[je];omega
 |n+1,hn=>by
  obtain⟨h1,h2,h3,h4⟩:=yk hb hh (a:=a) n (by omega);have h0:0<=(Yw l (n:Int)).head:=by
   rw[eG (by omega)];exact(ec hb (by omega)).st.head.1
  rw[je];split
  .rw[An h0];split
   .exact⟨by omega,h2,h3,h4⟩
   .simp only[gn,YI,List.length_nil];omega
  .exact⟨by omega,h2,h3,h4⟩
def CJ{l:List Nd}{h:Int}{j:Nat}:fD l h (j+1)=if(W7 l j).kind=2\/(W7 l j).kind=3 then min (fD l h j) (px l j h).body else fD l h j:=rfl
def bq(b:List Yr)(i n:Nat):Fd×Bool:=eT im ((List.range' (i+1) n).map (jc b)) uf
def En{b:List Yr}{i n:Nat}:bq b i (n+1)=if im (jc b (i+1+n)) (bq b i n).1 (bq b i n).2 then(jc b (i+1+n),true)else bq b i n:=by
 unfold bq;rw[List.range'_concat,cX,List.map_singleton,pK,Nat.one_mul];rfl
def Db{b:List Yr}{i:Nat}:∀n,((bq b i n).2=false/\(bq b i n).1=uf/\n=0)\/∃c,(bq b i n).2=true/\(bq b i n).1=jc b c/\i+1<=c/\c<i+1+n
 |0=>.inl ⟨rfl,rfl,rfl⟩
 |n+1=>by
  right;rw[En];rcases Db (b:=b) (i:=i) n with⟨h1,_,rfl⟩|⟨c,h1,h2,h3,h4⟩
  .rw[ak (by simp[im,h1])];exact⟨_,rfl,rfl,by omega,by omega⟩
  .split
   .exact⟨_,rfl,rfl,by omega,by omega⟩
   .exact⟨c,h1,h2,h3,by omega⟩
def Li{b:List Yr}{i n:Nat}:(bq b i (n+1)).1.i=if(bq b i n).1.i<0\/(XB b (i+1+n)).W6<=(XB b (bq b i n).1.i.toNat).W6 then((i+1+n:Nat):Int)else(bq b i n).1.i:=by
 rw[En];rcases Db (b:=b) (i:=i) n with⟨h1,h2,rfl⟩|⟨c,h1,h2,h3,h4⟩
 .rw[ak (by simp[im,h1]),ak (.inl (by rw[h2];decide))];rfl
 .have e1:(jc b c).i=(c:Int):=rfl;have e2:(jc b c).b=XB b c:=rfl;have e3:(jc b (i+1+n)).b=XB b (i+1+n):=rfl;rw[h2,h1,e1,eU];unfold im;rw[e2,e3];simp only[Bool.not_true,Bool.false_or,YX];by_cases h:(XB b (i+1+n)).W6<=(XB b c).W6
  .rw[ak h,ak (.inr h)];rfl
  .rw[au h,au (by omega),h2];rfl
def Da(b:List Yr)(i:Nat)(to:Int):btw b ((i:Int)+1) to=List.range' (i+1) (mj b ((i:Int)+1) to):=by
 unfold btw;rw[show(max ((i:Int)+1) 0).toNat=i+1 by omega]
def Hq{b:List Yr}{i:Nat}{to:Int}:A7 b ((i:Int)+1) to=(bq b i (mj b ((i:Int)+1) to)).1.i:=by
 unfold A7 bq;rw[Da]
def Lg{b:List Yr}{i:Nat}{to:Int}:mj b ((i:Int)+1) to=(min to ((b.length:Int)-1)-i).toNat:=by
 unfold mj;congr 1;omega
def wi:∀(l:List Fd) (x:Fd),l.foldl (fB fF) (x,true)=(x,true)
 |[],x=>rfl
 |y::l,x=>by rw[gg];exact wi l x
def pD:∀(l:List Fd) (d:Fd),(∀x∈l,x.b.forced=0)->eT fF l d=(d,false)
 |[],d,_=>rfl
 |y::l,d,h=>by
  unfold eT;rw[gg,show fB fF (d,false) y=(d,false) by simp[fB,fF,h y (by simp)]];exact pD l d λx hx=>h x (by simp[hx])
def Cp{b:List Yr}{i:Nat}{to:Int}(h:∀k:Nat,i<k->k<=i+mj b ((i:Int)+1) to->(XB b k).forced=0):ju b ((i:Int)+1) to=-1:=by
 unfold ju;rw[Da,pD]
 .rfl
 .intro x hx;obtain⟨k,hk,rfl⟩:=gb.1 hx;rw[List.mem_range'_1]at hk;exact h k (by omega) (by omega)
def Fx{b:List Yr}{i j:Nat}{to:Int}(hj:j<mj b ((i:Int)+1) to)(h:∀k:Nat,i<k->k<=i+j->(XB b k).forced=0)(hf:(XB b (i+1+j)).forced≠0):ju b ((i:Int)+1) to=((i+1+j:Nat):Int):=by
 unfold ju;obtain⟨r,hr⟩:∃r,mj b ((i:Int)+1) to=j+(r+1):=⟨mj b ((i:Int)+1) to-j-1,by omega⟩
 rw[Da,hr,<-List.range'_append_1,cX];unfold eT;rw[kN];have h1:=pD ((List.range' (i+1) j).map (jc b)) uf λx hx=>by
  obtain⟨k,hk,rfl⟩:=gb.1 hx;rw[List.mem_range'_1]at hk;exact h k (by omega) (by omega)
 unfold eT at h1;rw[h1,List.range'_succ,eV,gg];have h2:fB fF (uf,false) (jc b (i+1+j))=(jc b (i+1+j),true):=by
  have e3:(jc b (i+1+j)).b=XB b (i+1+j):=rfl;simp[fB,fF,e3,hf]
 rw[h2,wi];rfl
def uM(b:List Yr)(i fit:Int):Int:=if ei b i fit then pT b i fit else -1
open Go.Proofs
def HG(l:List XA)(hl:jz l)(hpw:l.Pairwise λx y=>x.y+x.h<=y.y)(XH:∀a∈l,1<=a.h)(s:XP)(hm:cT l s)(hd:s.done<=1152921504606846976)(kept shift body:Int)(hk:-1152921504606846976<=kept/\kept<=1152921504606846976)(ZR:0<=shift/\shift<=1152921504606846976):
 aE prog 69 [aT l,aL s,vI kept,vI shift,vI body] (vI (iz l s kept shift body)):=λU=>by
 refine e69.q ?_;have hs:=aa.refl U;have hc:=lz l s;rw[XK hm]at hc;have Yp:=eL l;have hll:=hl.len;obtain⟨r,h1,h2,h3,h4,h5⟩:=pA (b:=⟨[],0,0,l,[],0,[]⟩) hpw XH hm kept shift body;simp only at h1 h3 h4 h5;rw[h1];have YO:=λ(k:Nat) (X6:s.atom<=k) (Yf:k<l.length)=>LN l hl s hm hd kept shift body k hk ZR X6 Yf;have hm0:=hm;obtain⟨a,d,fr⟩:=s;obtain⟨⟨g0,g1⟩,g2,g3⟩:=hm;simp only at g0 g1 g2 g3 hd h2 h4 h5 YO;obtain⟨n,rfl⟩:∃n:Nat,a=n:=⟨a.toNat,by omega⟩
 refine mS 12 ?_;simp only[go_sem,seval,c69,aL];refine al hs λi6 Z6 s6 a6 f6 _ hs=>?_;simp only[go_sem,seval,a6];refine pS rfl (hc _) ?_;simp only[go_sem,seval,a6];refine ag.loop (λm st=>∃k:Nat,n<=k/\k<=r/\m=r-k/\aa U st.U/\st.U i6=some ⟨24,3,[.agg [vI n,vI d,.bool fr]]⟩/\st.s 0=aT l/\st.s 2=vI kept/\st.s 3=vI shift/\st.s 4=vI body/\st.s 6=.ptr i6 0 0/\st.s 11=vI k) (r-n) ?_ ?_
 .exact⟨n,by omega,by omega,rfl,hs,a6,rfl,rfl,rfl,rfl,rfl,rfl⟩
 .clear a6;rintro m ⟨S,J⟩ ⟨k,hnk,hkr,rfl,hs,a6,k0,k2,k3,k4,k6,ZM⟩;simp only at hs a6 k0 k2 k3 k4 k6 ZM;refine ag.mix 12 ?_;by_cases B':k<l.length
  .have q:=qT B';have r1:=rI k;have hft:=YO k (by omega) B';apply sR;simp only[go_sem,seval,k0,k2,k3,k4,k6,ZM,q,Yp,a6];refine pR rfl (hft _) ?_;by_cases hkr2:k<r
   .have q2:(cj l ⟨n,d,fr⟩ kept shift k+l[k].h<=body)=True:=L' (h4 k B' (by omega) hkr2);apply sR;simp only[go_sem,seval,k0,k2,k3,k4,k6,ZM,q2,r1,a6];exact⟨_,by omega,k+1,by omega,by omega,rfl,hs,by simp⟩
   .obtain rfl:k=r:=by omega
    have q2:(cj l ⟨n,d,fr⟩ kept shift k+l[k].h<=body)=False:=H' (by have:=h5 B';omega);apply sR;simp only[go_sem,seval,ZM,q2];exact ai.pure hs rfl
  .have q:=qF B';obtain rfl:k=r:=by omega
   apply sR;simp only[go_sem,seval,k0,ZM,q,Yp];exact ai.pure hs rfl
def Kf(b:List Yr)(k m:Nat)(hk:k<b.length)(hm:m<k):aE prog 110 [aY b,vI k,vI m] (.bool (decide ((XB b k).W6<=(XB b m).W6))):=λU=>by
 refine UH.q ?_;have hs:=aa.refl U;have hn:dv false (aY b)=some (.int .i64 b.length):=by simp[aY,dv]
 have hml:m<b.length:=by omega
 have hik:∀U,bp U 3 (aY b) (.int .i64 k)=some (.rp (bX b[k])):=λU=>by simp[aY,bp,hk]
 have him:∀U,bp U 3 (aY b) (.int .i64 m)=some (.rp (bX b[m])):=λU=>by simp[aY,bp,hml]
 have e1:XB b k=b[k]:=by simp[XB,hk]
 have e2:XB b m=b[m]:=by simp[XB,hml]
 rw[e1,e2];generalize b[k]=x at*;generalize b[m]=z at*;have q1:((k:Int)<0)=False:=H';have q2:((m:Int)<0)=False:=H';have q3:((k:Int)>=b.length)=False:=H';have q4:((m:Int)>=b.length)=False:=H';have q5:((k:Int)>m)=True:=L';refine ag.mix 7 ?_;by_cases h1:x.W6<z.W6
 .have q6:(x.W6<z.W6)=True:=L' h1;apply sR;simp only[go_sem,seval,Ki,hn,q1,q2,q3,q4,q6,hik,him,bX];exact ai.pure hs (by rw[XK (show x.W6<=z.W6 by omega)])
 .have q6:(x.W6<z.W6)=False:=H' h1;by_cases h2:x.W6=z.W6
  .have q7:(x.W6=z.W6)=True:=L' h2;apply sR;simp only[go_sem,seval,Ki,hn,q1,q2,q3,q4,q5,q6,q7,hik,him,bX];exact ai.pure hs (by rw[XK (show x.W6<=z.W6 by omega)])
  .have q7:(x.W6=z.W6)=False:=H' h2;apply sR;simp only[go_sem,seval,Ki,hn,q1,q2,q3,q4,q6,q7,hik,him,bX];exact ai.pure hs (by rw[XJ (show¬x.W6<=z.W6 by omega)])
def G3(b:List Yr)(i:Nat):Prop:=
 ((0<i/\(i:Int)<(b.length:Int)-1)->(XB b i).cls=1\/(XB b i).cls=2)/\
 (¬(0<i/\(i:Int)<(b.length:Int)-1)->(XB b i).cls=if 0<i/\(i:Int)=(b.length:Int)-1 then 3 else 0)/\
 ((XB b i).forced=0\/(XB b i).forced=2\/(XB b i).forced=3\/(XB b i).forced=4)/\
 ((XB b i).forced≠0->(XB b i).cls≠2/\(XB b i).cls≠3/\(XB b i).W6=0)/\
 (0<=(XB b i).W6/\(XB b i).W6<=7)/\(¬(0<i/\(i:Int)<(b.length:Int)-1)->(XB b i).W6=0)
def sQ{b:List Yr}{i:Nat}(hi:i<b.length):gH b i=true↔G3 b i:=by
 unfold gH G3 nJ;generalize XB b i=x;obtain⟨c,f,r⟩:=x;simp only[YX,decide_eq_false_iff_not];by_cases h0:(i:Int)=0
 .have q0:((i:Int)=0)=True:=L' h0;have q1:(0<i)=False:=H';simp only[q0,q1,false_and,if_false,not_true,not_false_eq_true,true_implies,false_implies,true_and];omega
 .have q0:((i:Int)=0)=False:=H' h0;have q1:(0<i)=True:=L';by_cases h2:(i:Int)=(b.length:Int)-1
  .have q2:((i:Int)=(b.length:Int)-1)=True:=L' h2;have q3:((i:Int)<(b.length:Int)-1)=False:=H';simp only[q0,q1,q2,q3,true_and,and_false,if_true,not_true,not_false_eq_true,true_implies,false_implies,and_true];omega
  .have q2:((i:Int)=(b.length:Int)-1)=False:=H' h2;have q3:((i:Int)<(b.length:Int)-1)=True:=L';simp only[q0,q1,q2,q3,true_and,if_false,not_true,not_false_eq_true,true_implies,false_implies,and_true];omega
def IK{b:List Yr}:nX b=true↔(∀i,i<b.length->G3 b i)/\0<b.length:=by
 unfold nX;rw[Ba,fC,YX];constructor
 .rintro⟨h1,h2⟩;exact⟨λi hi=>(sQ hi).1 (h1 i (List.mem_range.2 hi)),by omega⟩
 .rintro⟨h1,h2⟩;exact⟨λi hi=>(sQ (List.mem_range.1 hi)).2 (h1 i (List.mem_range.1 hi)),by omega⟩
def xZ{top shift body:Int}:∀(L:List T') (p q:List T'),q≠[]->L.foldl (λx f=>jd body x f (bJ top shift f)) (p,q)=(p,q++L)
 |[],p,q,_=>by simp
 |f::L,p,q,h=>by
  have hl:jd body (p,q) f (bJ top shift f)=(p,q++[f]):=by
   unfold jd mI;simp[h]
  rw[gg,hl,xZ L p (q++[f]) (by simp)];simp
def Iv{top shift body:Int}{L:List T'}{j:Nat}(hj:j<L.length)(h:∀i (h:i<L.length),i<j->(bJ top shift L[i]).y+L[i].h<=body)(hf:(bJ top shift L[j]).y+L[j].h>body):
 jh top shift body L=((L.take j).map (bJ top shift),L.drop j):=by
 have h1:∀i,i<=j->(L.take i).foldl (λx f=>jd body x f (bJ top shift f)) ([],[])=((L.take i).map (bJ top shift),[]):=by
  intro i
  induction i with
  |zero=>intro _;rfl
  |succ i ih=>
   intro hi;have Yv:i<L.length:=by omega
   rw[Yz Yv,kN,ih (by omega),cX];have:=h i Yv (by omega);have hm:(bJ top shift L[i]).h=L[i].h:=rfl;simp only[gg,List.foldl_nil,jd,mI,ne_eq,not_true,false_or,hm];rw[XJ (by omega)];simp
 unfold jh
 conv=>lhs;rw[<-rZ j L]
 rw[kN,h1 j (Xc _),iT hj,gg];have hm:(bJ top shift L[j]).h=L[j].h:=rfl;have hl:jd body ((L.take j).map (bJ top shift),[]) L[j] (bJ top shift L[j])=((L.take j).map (bJ top shift),[L[j]]):=by
  simp only[jd,mI,ne_eq,not_true,false_or,hm];rw[XK (by omega)];simp
 rw[hl,xZ _ _ _ (by simp)];rfl
def Gd{top shift body:Int}{L:List T'}(h:∀i (h:i<L.length),(bJ top shift L[i]).y+L[i].h<=body):jh top shift body L=(L.map (bJ top shift),[]):=by
 have h1:∀i,i<=L.length->(L.take i).foldl (λx f=>jd body x f (bJ top shift f)) ([],[])=((L.take i).map (bJ top shift),[]):=by
  intro i
  induction i with
  |zero=>intro _;rfl
  |succ i ih=>
   intro hi;have Yv:i<L.length:=by omega
   rw[Yz Yv,kN,ih (by omega),cX];have:=h i Yv;have hm:(bJ top shift L[i]).h=L[i].h:=rfl;simp only[gg,List.foldl_nil,jd,mI,ne_eq,not_true,false_or,hm];rw[XJ (by omega)];simp
 have:=h1 L.length (Xc _);rw[dR]at this;exact this
def By(b:Bk)(s:YG):YN×YG:=
 if b.atoms=[]/\s.s.free=true then(⟨0,2,[],[],(b.WA.takeWhile (ij b.h)).map (cO 0)⟩,⟨⟨0,0,false⟩,b.WA.dropWhile (ij b.h)⟩)
 else if s.s.atom=b.atoms.length then
  (⟨0,2,(ZK b.nodes b.w (aU b s.s).WU).1,[],(bZ (aU b s.s).body s.bu 0).1.map (cO (aU b s.s).high)⟩,⟨⟨b.atoms.length,0,false⟩,(bZ (aU b s.s).body s.bu 0).2.1⟩)
 else if(bZ (aU b s.s).body s.bu 0).2.1≠[]\/((bZ (aU b s.s).body s.bu 0).2.2>0/\eY b.atoms s.s>(aU b s.s).body-(bZ (aU b s.s).body s.bu 0).2.2)then
  (⟨0,2,(ZK b.nodes b.w (aU b s.s).WU).1,[],(bZ (aU b s.s).body s.bu 0).1.map (cO (aU b s.s).high)⟩,⟨s.s,(bZ (aU b s.s).body s.bu 0).2.1⟩)
 else if uM b.WT s.s.atom (iz b.atoms s.s (gw b.atoms s.s ((aU b s.s).body-(bZ (aU b s.s).body s.bu 0).2.2)) (bZ (aU b s.s).body s.bu 0).2.2 (aU b s.s).body)<0 then
  (⟨0,1,(ZK b.nodes b.w (aU b s.s).WU).1,[cH (aU b s.s).high (jV b.atoms s.s ((aU b s.s).body-(bZ (aU b s.s).body s.bu 0).2.2))],
    (bZ (aU b s.s).body s.bu 0).1.map (cO (aU b s.s).high)++(dG b.atoms b.WA s.s (s.s.atom+1) 0 0 (aU b s.s).body).1.map (cO (aU b s.s).high)⟩,
   ⟨fm b.atoms s.s ((aU b s.s).body-(bZ (aU b s.s).body s.bu 0).2.2),(dG b.atoms b.WA s.s (s.s.atom+1) 0 0 (aU b s.s).body).2⟩)
 else
  let sh:=(bZ (aU b s.s).body s.bu 0).2.2
  let kept:=gw b.atoms s.s ((aU b s.s).body-sh)
  let cut:=uM b.WT s.s.atom (iz b.atoms s.s kept sh (aU b s.s).body)
  (⟨0,1,(ZK b.nodes b.w (aU b s.s).WU).1,(List.range (cut.toNat-s.s.atom.toNat)).map λi:Nat=>cH (aU b s.s).high (dK b.atoms s.s kept sh (s.s.atom+(i:Nat))),
    (bZ (aU b s.s).body s.bu 0).1.map (cO (aU b s.s).high)++(dG b.atoms b.WA s.s cut kept sh (aU b s.s).body).1.map (cO (aU b s.s).high)⟩,
   ⟨⟨cut,0,decide ((XB b.WT cut.toNat).forced≠0)⟩,(dG b.atoms b.WA s.s cut kept sh (aU b s.s).body).2⟩)
def B4{b:List Yr}{i fit:Int}(hf:fit<=(b.length:Int)-1):(uM b i fit<0↔¬ei b i fit)/\(ei b i fit->uM b i fit=pT b i fit/\∃c:Nat,pT b i fit=c):=by
 unfold uM;by_cases h:ei b i fit
 .obtain⟨c,h1,h2,h3⟩:=rb h hf;rw[ak h];exact⟨⟨λh'=>by omega,λh'=>absurd h h'⟩,λ_=>⟨rfl,c,h1⟩⟩
 .rw[au h];exact⟨⟨λ_=>h,λ_=>by omega⟩,λh'=>absurd h' h⟩
def IL{b:Bk}(hb:BkFull b)(hk:b.atoms.Pairwise λx y=>x.y+x.h<=y.y)(XH:∀a∈b.atoms,1<=a.h){s:XP}(hm:cT b.atoms s){sh body:Int}(hl:eY b.atoms s<=body-sh):
 s.atom<iz b.atoms s (gw b.atoms s (body-sh)) sh body:=by
 obtain⟨r,h1,h2,h3,h4,h5⟩:=pA (b:=b) hk XH hm (gw b.atoms s (body-sh)) sh body;rw[h1];by_cases e:s.atom=r
 .exfalso;have hm0:=hm;obtain⟨⟨g0,g1⟩,g2,g3⟩:=hm;have hr:r<b.atoms.length:=by omega
  have:=h5 hr;rw[cj,ak ⟨hm0,by omega,by omega⟩,fp,ak ⟨⟨g0,g1⟩,by omega,by omega⟩,e]at this;rw[eY,ak hm0,e,aV hr]at hl;unfold gw at this;split at this
  .rename_i hc;obtain⟨c1,c2,c3,c4⟩:=hc;rw[e,aV hr]at c4;rw[e]at this;omega
  .omega
 .omega
def JK{b:Bk}(hb:BkFull b)(hk:b.atoms.Pairwise λx y=>x.y+x.h<=y.y)(XH:∀a∈b.atoms,1<=a.h)(hmb:nX b.WT=true){s:YG}(hm:iZ b s)(hpd:∀f∈s.bu,0<=f.h):bY b s=By b s:=by
 have hbrk:=hb.brk;have hrs:b.atoms=[]->aU b s.s=⟨[],0,b.h⟩:=λh=>by unfold aU;rw[ak h]
 unfold bY By;by_cases h1:b.atoms=[]/\s.s.free=true
 .rw[ak h1,ak h1];simp only[mo,uS,mP,bW,Wx.put,hrs h1.1,ZK,List.foldl_nil,jE]
 .rw[au h1,au h1];by_cases h2:s.s.atom=b.atoms.length
  .rw[ak (show mG b s from .inl h2),ak h2];have hd:s.s.done=0:=by
    rcases hm.2 with h|h
    .have:=h.1.2;omega
    .exact h.2
   simp only[mo,er,bW,Wx.put,jE,h2,hd,Int.lt_irrefl,decide_false,Bool.and_false]
  .rw[au h2];have hf:cT b.atoms s.s:=hm.2.resolve_right λh=>h2 h.1;by_cases h3:(bZ (aU b s.s).body s.bu 0).2.1≠[]\/((bZ (aU b s.s).body s.bu 0).2.2>0/\eY b.atoms s.s>(aU b s.s).body-(bZ (aU b s.s).body s.bu 0).2.2)
   .rw[ak (show mG b s from .inr h3),ak h3];have:decide (s.s.atom<(b.atoms.length:Int))=true:=XK hf.1.2;simp only[mo,er,bW,Wx.put,jE,this,Bool.and_true]
   .rw[au (show¬mG b s from λh=>h.elim h2 h3),au h3];have YO:iz b.atoms s.s (gw b.atoms s.s ((aU b s.s).body-(bZ (aU b s.s).body s.bu 0).2.2)) (bZ (aU b s.s).body s.bu 0).2.2 (aU b s.s).body<=(b.WT.length:Int)-1:=by
     have:=oC (l:=b.atoms) (s:=s.s) (kept:=gw b.atoms s.s ((aU b s.s).body-(bZ (aU b s.s).body s.bu 0).2.2)) (shift:=(bZ (aU b s.s).body s.bu 0).2.2) (body:=(aU b s.s).body);omega
    obtain⟨c1,c2⟩:=B4 (i:=s.s.atom) YO;have ZR:0<=(bZ (aU b s.s).body s.bu 0).2.2:=(nY (body:=(aU b s.s).body) s.bu 0 (Int.le_refl _) (by have:=jn hb s.s hf.1.1;omega) hpd).2.2.1;by_cases h4:ei b.WT s.s.atom (iz b.atoms s.s (gw b.atoms s.s ((aU b s.s).body-(bZ (aU b s.s).body s.bu 0).2.2)) (bZ (aU b s.s).body s.bu 0).2.2 (aU b s.s).body)
    .rw[au (λh=>(c1.1 h) h4)];obtain⟨c3,c,c4⟩:=c2 h4;simp only[c3,c4];have h4':ei b.WT (er b s).s.atom (fa b (er b s)):=h4;have c4':ze b (er b s)=c:=c4;unfold fM iJ;rw[ak h4',ak h4',c4'];rfl
    .rw[ak (c1.2 h4)];have h4':¬ei b.WT (er b s).s.atom (fa b (er b s)):=h4;have hz:(bZ (aU b s.s).body s.bu 0).2.2=0:=Classical.byContradiction λhz=>h4 ⟨hmb,hf.1.1,by have:=hf.1.2;omega,by
      refine IL hb hk XH hf ?_;refine Classical.byContradiction λhle=>h3 (.inr ⟨by omega,by omega⟩)⟩
     unfold fM iJ;rw[au h4',au h4',hz,Int.sub_zero];rfl
open Go.Proofs
def Ni{b:List Yr}{i n:Nat}:(n=0/\(bq b i n).1.i=-1)\/∃c:Nat,(bq b i n).1.i=c/\i+1<=c/\c<i+1+n:=by
 rcases Db (b:=b) (i:=i) n with⟨_,h2,h3⟩|⟨c,_,h2,h3,h4⟩
 .exact .inl ⟨h3,by rw[h2];rfl⟩
 .exact .inr ⟨c,by rw[h2];rfl,h3,h4⟩
def Nv(b:List Yr)(hb:b.length<=1000000)(hmb:nX b=true)(X9:aE prog 109 [aY b] (.bool (nX b)))(i:Nat)(hi:(i:Int)<(b.length:Int)-1)(fit:Int):
 aE prog 68 [aY b,vI i,vI fit] (vI (uM b i fit)):=λU=>by
 refine e68.q ?_;have hs:=aa.refl U;have hn:=wP b;rw[hmb]at X9;have q1:((i:Int)<0)=False:=H';have q2:((i:Int)>=(b.length:Int)-1)=False:=H';have r1:WI .i64 ((b.length:Int)-1):=ae;have r2:=rI i;obtain⟨N,hN⟩:∃N,N=mj b ((i:Int)+1) fit:=⟨_,rfl⟩
 have hNe:N=(min fit ((b.length:Int)-1)-i).toNat:=by rw[hN,Lg]
 obtain⟨C,hC⟩:∃C,C=uM b i fit:=⟨_,rfl⟩
 rw[<-hC];have WB:0<N->ei b i fit:=λh=>⟨hmb,by omega,hi,by omega⟩
 have Xa:N=0->¬ei b i fit:=λh h'=>by have:=h'.2.2.2;omega
 refine mS 10 ?_;simp only[go_sem,seval,c68];refine pS rfl (X9 _) ?_;simp only[go_sem,seval,hn,q1,q2,r1,r2];refine ag.loop (λm st=>∃j:Nat,j<=N/\m=N-j/\(∀k:Nat,i<k->k<=i+j->(XB b k).forced=0)/\aa U st.U/\st.s 0=aY b/\st.s 1=vI i/\st.s 2=vI fit/\st.s 7=vI (i+1+j:Nat)) N ?_ ?_
 .exact⟨0,by omega,rfl,λk h1 h2=>by omega,hs,rfl,rfl,rfl,rfl⟩
 .rintro m ⟨S,J⟩ ⟨j,hj,rfl,hz,hs,k0,k1,k2,k7⟩;simp only at hs k0 k1 k2 k7;refine ag.mix 10 ?_;by_cases B':j<N
  .have q3:(((i+1+j:Nat):Int)<=fit)=True:=L';have q4:(((i+1+j:Nat):Int)<b.length)=True:=L';have Zb:i+1+j<b.length:=by omega
   have Xx:=λU=>nN (U:=U) Zb;have eg:XB b (i+1+j)=b[i+1+j]:=by simp[XB,Zb]
   have Yg:=Fx (b:=b) (i:=i) (j:=j) (to:=fit) (by omega) hz;rw[eg]at Yg;generalize hx:b[i+1+j]=x at*;have r3:WI .i64 (((i+1+j:Nat):Int)+1):=ae;by_cases hf:x.forced=0
   .have q5:(x.forced=0)=True:=L' hf;have q6:(x.forced≠0)=False:=H' (λh=>h hf);apply sR;simp only[go_sem,seval,k0,k1,k2,k7,q3,q4,hn,Xx,bX,q6,r3];exact⟨_,by omega,j+1,by omega,rfl,λk h1 h2=>by
     by_cases e:k=i+1+j
     .rw[e,eg];exact hf
     .exact hz k h1 (by omega),hs,by simp[vI];omega⟩
   .have q5:(x.forced=0)=False:=H' hf;have q6:(x.forced≠0)=True:=L' hf;have h2:=Yg hf;apply sR;simp only[go_sem,seval,k0,k2,k7,q3,q4,hn,Xx,bX,q6];refine ai.pure hs ?_;rw[hC,uM,ak (WB (by omega)),pT,h2,au (by omega)]
  .obtain rfl:j=N:=by omega
   have hnone:=Cp (b:=b) (i:=i) (to:=fit) (by rw[<-hN];exact hz);have fin:C=(bq b i j).1.i:=by
    rcases Nat.eq_zero_or_pos j with h|h
    .rw[hC,uM,au (Xa h),h];rfl
    .rw[hC,uM,ak (WB h),pT,hnone,ak (by omega),Hq,<-hN]
   have q34:(((i+1+j:Nat):Int)<=fit)=False\/(((i+1+j:Nat):Int)<=fit)=True/\(((i+1+j:Nat):Int)<b.length)=False:=by
    by_cases h:((i+1+j:Nat):Int)<=fit
    .exact .inr ⟨L' h,H'⟩
    .exact .inl (H' h)
   rcases q34 with q3|⟨q3,q4⟩
   case' inl=>
    apply sR;simp only[go_sem,seval,k1,k2,k7,q3,r2]
   case' inr=>
    apply sR;simp only[go_sem,seval,k0,k1,k2,k7,q3,q4,hn,r2]
   all_goals
    clear k7;refine ag.loop (λm st=>∃t:Nat,t<=j/\m=j-t/\aa U st.U/\st.s 0=aY b/\st.s 1=vI i/\st.s 2=vI fit/\st.s 8=vI (bq b i t).1.i/\st.s 9=vI (i+1+t:Nat)) j ?_ ?_
    .exact⟨0,by omega,rfl,hs,k0,k1,k2,rfl,rfl⟩
    .clear k0 k1 k2 hs;rintro m ⟨S,J⟩ ⟨t,ht,rfl,hs,k0,k1,k2,k8,k9⟩;simp only at hs k0 k1 k2 k8 k9;refine ag.mix 10 ?_;by_cases YR:t<j
     .have q5:(((i+1+t:Nat):Int)<=fit)=True:=L';have q6:(((i+1+t:Nat):Int)<b.length)=True:=L';have r3:WI .i64 (((i+1+t:Nat):Int)+1):=ae;have hov:=Li (b:=b) (i:=i) (n:=t);rcases Ni (b:=b) (i:=i) (n:=t)with⟨h1,h2⟩|⟨c,h2,h3,h4⟩
      .rw[h2]at k8 hov;have q7:((-1:Int)<0)=True:=L';rw[ak (.inl (by omega))]at hov;apply sR;simp only[go_sem,seval,k0,k1,k2,k8,k9,q5,q6,hn,q7,r3];exact⟨_,by omega,t+1,by omega,rfl,hs,by simp[vI,hov];omega⟩
      .rw[h2]at k8 hov;have q7:((c:Int)<0)=False:=H';rw[eU]at hov;have hoc:=Kf b (i+1+t) c (by omega) (by omega);apply sR;simp only[go_sem,seval,k0,k2,k8,k9,q5,q6,hn,q7];refine pR rfl (hoc _) ?_;by_cases hr:(XB b (i+1+t)).W6<=(XB b c).W6
       .have q8:((XB b (i+1+t)).W6<=(XB b c).W6)=True:=L' hr;rw[ak (.inr hr)]at hov;apply sR;simp only[go_sem,seval,k0,k1,k2,k9,q8,r3];exact⟨_,by omega,t+1,by omega,rfl,hs,by simp[vI,hov];omega⟩
       .have q8:((XB b (i+1+t)).W6<=(XB b c).W6)=False:=H' hr;rw[au (by omega)]at hov;apply sR;simp only[go_sem,seval,k0,k1,k2,k8,k9,q8,r3];exact⟨_,by omega,t+1,by omega,rfl,hs,by simp[vI,hov];omega⟩
     .obtain rfl:t=j:=by omega
      first
       |(apply sR;simp only[go_sem,seval,k0,k1,k2,k8,k9,q3,hn])
        exact ai.pure hs (by rw[fin])
       |(apply sR;simp only[go_sem,seval,k0,k2,k8,k9,q3,q4,hn])
        exact ai.pure hs (by rw[fin])
end Go.Vc
