/- Part 5 of the library of this proof. -/
import Derived.Test.YtmkknagmafmcpaaGreatDoorW4
set_option linter.all false
set_option maxHeartbeats 8000000
set_option maxRecDepth 100000
open Go.Proofs.Tryz
namespace Go.Vc
open Go.Proofs
def cM(p:Int->Bool):List Int->Int
 |[]=>-1
 |x::l=>if p x then 0 else if cM p l<0 then -1 else cM p l+1
def pr(p:Int->Bool)(i:Nat)(l:List Int):Int:=if cM p l<0 then -1 else cM p l+i
def iG(p:Int->Bool):∀l,-1<=cM p l
 |[]=>by simp[cM]
 |x::l=>by
  have:=iG p l;simp only[cM];split
  .omega
  .split<;>omega
def Da(p:Int->Bool)(l:List Int):cM p l=pr p 0 l:=by
 have:=iG p l;unfold pr;split<;>omega
def mQ{U:ag}{sv:V}{l:List Int}{f:FuncId}{caps:List V}{p:Int->Bool}(hr:Reads U 1 false sv (l.map vI))(hl:l.length<=200000000000000)
 (hf:∀n∈l,aC prog f (vI n::caps) U λr Z'=>r=.bool (p n)/\Z'=U):
 aC prog 156 [sv,.fn f caps] U λr Z'=>r=vI (cM p l)/\Z'=U:=by
 have hlen:dY false sv=some (vI (l.length:Int)):=by simpa using hr.1
 refine Mo.r (by simp[c156]) ?_;apply sR;simp only[go_sem,seval,av,ax,c156,hlen];refine ad.loop (λm st=>∃i:Nat,i<=l.length/\m=l.length-i/\cM p l=pr p i (l.drop i)/\st.U=U/\st.s 0=sv/\st.s 1=.fn f caps/\st.s 7=vI l.length/\st.s 8=vI i) l.length ?_ ?_
 .exact⟨0,by omega,by omega,Da p l,rfl,rfl,rfl,rfl,rfl⟩
 .rintro m ⟨s,Z'⟩ ⟨i,hi,rfl,hp,P3,h0,h1,h7,h8⟩;simp only at h0 h1 h7 h8 P3;subst P3;apply sR;simp only[go_sem,seval,av,ax,h0,h1,h7,h8];constructor
  .intro C';have P':i<l.length:=by omega
   have hd:l.drop i=l[i]::l.drop (i+1):=gT P';obtain⟨pp,e1,e2⟩:=hr.2 i (vI l[i]) (by simp[P']);simp only[go_sem,seval,av,ax,e1,e2,tN];refine ad.ay rfl rfl rfl (hf l[i] (QF P')) ?_;apply sR;simp only[go_sem,seval,av,ax,h0,h1,h7,h8];cases hpx:p l[i]
   .simp only[go_sem,seval,av,ax,h8];refine⟨ak,_,?_,i+1,by omega,rfl,?_,h0,h1,h7,?_⟩
    .omega
    .rw[hp,hd];simp only[pr,cM,hpx,gj,if_false];have:=iG p (l.drop (i+1))
     repeat' split
     all_goals omega
    .simp
   .simp only[go_sem,seval,av,ax];refine au.same ?_;rw[hp,hd];simp[pr,cM,hpx]
  .intro UJ;have:i=l.length:=by omega
   refine au.same ?_;rw[hp,this,yQ];rfl
open Go.Proofs
def Nd.ok(x:Nd):Bool:=
 if x.kind=1 then x.st.ok&&decide (x.line=0)&&decide (x.space=0)&&decide (x.words.length=0)&&decide (x.side=0)&&decide (x.w=0)&&decide (x.h=0)
 else if x.st≠Rn.zero then false
 else if x.kind=2 then x.words.all (bo · 1 mx)&&decide (0<x.words.length)&&bo x.line 1 mx&&bo x.space 0 mx&&decide (x.side=0)&&decide (x.w=0)&&decide (x.h=0)
 else decide (x.line=0)&&decide (x.space=0)&&decide (x.words.length=0)&&bo x.w 1 mx&&bo x.h 1 mx&&
  (decide (x.kind=3)&&decide (x.side=0)||decide (x.kind=4)&&bo x.side 1 2)
def ej(l:List Int):dY false (encI l)=some (.int .i64 l.length):=by simp[encI,dY]
def uK(b:Bool):V.bool b=V.bool (decide (b=true)):=by cases b<;>rfl
open Go.Proofs
def mJ{U:ag}{l:List Nd}{i:Nat}(h:i<l.length):bL U 20 (aM l) (.int .i64 i)=some (.rp (.agg (Nd.cells l[i]))):=by
 simp[aM,bL,h,iE]
def cj(l:List Nd)(a e:Nat):Bool:=
 if _h:a<e then
  match l[a]? with
  |none=>false
  |some x=>if _hx:1<=x.size/\x.size<=(e:Int)-a then
     (decide (x.kind=1)||decide (x.size<=1))&&cj l (a+1) (a+x.size.toNat)&&cj l (a+x.size.toNat) e else false
 else true
termination_by e-a
decreasing_by all_goals omega
open Go.Proofs
def eY(l:List Nd):Prop:=l.length<=10000/\∀x∈l,x.words.length<=200000000000000
def Qs(l:List Nd):Bool:=l.all Nd.ok&&cj l 0 l.length
def uZ(U:ag)(x:Nd):bT U true 20 (.rp (.agg x.cells))=some (iE x):=rfl
open Go.Proofs
def iF(l:List Nd):∀(m a e:Nat),e-a<m->e<=l.length->cj l a e=true->∀k,a<=k->(h:k<e)->(h2:k<l.length)->1<=l[k].size/\l[k].size<=(e:Int)-k/\(l[k].kind=1\/l[k].size<=1)
 |0,_,_,h,_,_=>by omega
 |m+1,a,e,hm,he,hr=>by
  intro k hk hke h2;have Vm:a<e:=by omega
  have ha:a<l.length:=by omega
  rw[cj,dif_pos Vm]at hr;have hga:l[a]?=some l[a]:=by simp[ha]
  rw[hga]at hr;simp only at hr;split at hr
  .rename_i hx;simp only[Ba,ki,SX]at hr;obtain⟨⟨h3,h4⟩,h5⟩:=hr;by_cases hka:k=a
   .subst hka;exact⟨hx.1,hx.2,h3⟩
   .by_cases U6:k<a+l[a].size.toNat
    .obtain⟨g1,g2,g3⟩:=iF l m (a+1) (a+l[a].size.toNat) (by omega) (by omega) h4 k (by omega) U6 h2;exact⟨g1,by omega,g3⟩
    .exact iF l m (a+l[a].size.toNat) e (by omega) he h5 k (by omega) hke h2
  .cases hr
structure Sm where
 (depth pieces nodes G':Int)
deriving DecidableEq
def Sm.cells(s:Sm):List V:=[vI s.depth,vI s.pieces,vI s.nodes,vI s.G']
def jT(a b:Int):Int:=min (a+b) 1099511627777
def iH(l:List Nd)(i:Nat):Nat->Int
 |0=>0
 |k+1=>iH l i k+(match l[k]? with
  |some y=>if y.kind=1/\(i:Int)<k+y.size then 1 else 0
  |none=>0)
def BM(a b:Int):Nat->Int
 |0=>a
 |n+1=>jT (BM a b n) b
def oz(l:List Nd)(i:Nat)(x:Nd)(s:Sm):Sm:=
 if x.kind=1 then{ s with depth:=max s.depth (iH l i (i+1)),G':=jT (jT (jT (jT (jT s.G' x.st.top) x.st.P0) x.st.PQ) x.st.H') x.st.head }
 else if x.kind=2 then{ s with pieces:=s.pieces+x.words.length,G':=BM s.G' x.line x.words.length }
 else{ s with pieces:=s.pieces+1,G':=jT s.G' x.h }
def gC(l:List Nd)(s:Sm):Nat->Sm
 |0=>s
 |i+1=>match l[i]? with
  |some x=>oz l i x (gC l s i)
  |none=>gC l s i
def iR(l:List Nd):Sm×Int:=if Qs l then(gC l ⟨0,0,l.length,0⟩ l.length,0)else(⟨0,0,0,0⟩,4)
def fN{a b:Int}(h1:0<=a/\a<=1099511627777)(h2:0<=b):0<=jT a b/\jT a b<=1099511627777:=by
 unfold jT;omega
def Cc{a b:Int}(h1:0<=a/\a<=1099511627777)(h2:0<=b):∀n,0<=BM a b n/\BM a b n<=1099511627777
 |0=>h1
 |n+1=>fN (Cc h1 h2 n) h2
def tS(l:List Nd)(i:Nat):∀k,0<=iH l i k/\iH l i k<=k
 |0=>by simp[iH]
 |k+1=>by
  have:=tS l i k;simp only[iH];split
  .split<;>omega
  .omega
def jN{x:Nd}(h:x.ok=true):(x.kind=1\/x.kind=2\/x.kind=3\/x.kind=4)/\0<=x.line/\x.line<=mx/\0<=x.h/\x.h<=mx/\
 (x.kind=1->(0<=x.st.top/\x.st.top<=mx)/\(0<=x.st.P0/\x.st.P0<=mx)/\(0<=x.st.PQ/\x.st.PQ<=mx)/\(0<=x.st.H'/\x.st.H'<=mx)/\(0<=x.st.head/\x.st.head<=mx)):=by
 unfold Nd.ok at h;split at h
 .rename_i hk;simp only[Rn.ok,bo,Ba,SX]at h|-;simp only[mx]at h|-;refine⟨.inl hk,by omega,by omega,by omega,by omega,λ_=>?_⟩;omega
 .split at h
  .cases h
  .split at h
   .rename_i h1 _ hk;simp only[bo,Ba,SX]at h|-;simp only[mx]at h|-;exact⟨.inr (.inl hk),by omega,by omega,by omega,by omega,λe=>absurd e h1⟩
   .rename_i h1 _ _;simp only[bo,Ba,ki,SX]at h|-;simp only[mx]at h|-;exact⟨by omega,by omega,by omega,by omega,by omega,λe=>absurd e h1⟩
def Sm.tZ(s:Sm)(k:Int):Prop:=(0<=s.depth/\s.depth<=k)/\(0<=s.pieces/\s.pieces<=k*200000000000000)/\(0<=s.G'/\s.G'<=1099511627777)
def C5{l:List Nd}{i:Nat}{x:Nd}{s:Sm}(hx:x.ok=true)(hw:x.words.length<=200000000000000)(h:s.tZ i):(oz l i x s).tZ (i+1):=by
 obtain⟨h1,h2,h3⟩:=h;obtain⟨g1,g2,g3,g4,g5,g6⟩:=jN hx;unfold oz;split
 .rename_i hk;obtain⟨a1,a2,a3,a4,a5⟩:=g6 hk;have hd:=tS l i (i+1);refine⟨?_,?_,fN (fN (fN (fN (fN h3 a1.1) a2.1) a3.1) a4.1) a5.1⟩
  .simp only;omega
  .simp only;omega
 .split
  .refine⟨?_,?_,Cc h3 g2 _⟩
   .simp only;omega
   .simp only;omega
  .refine⟨?_,?_,fN h3 g4⟩
   .simp only;omega
   .simp only;omega
open Go.Proofs
def Sm.zero:Sm:=⟨0,0,0,0⟩
open Go.Proofs
def sM(p:Int->Bool):∀l,decide (cM p l>=0)=l.any p
 |[]=>by simp[cM]
 |x::l=>by
  have ih:=sM p l;simp only[cM,List.any_cons];have hg:=iG p l;rw[<-ih,Bool.eq_iff_iff];simp only[SX,ki];split
  .rename_i h;simp[h]
  .rename_i h;simp only[h,gj,false_or];by_cases hx:cM p l<0
   .rw[aE hx];constructor<;>intro hh<;>simp at hh|-<;>omega
   .rw[aF hx];constructor<;>intro hh<;>simp at hh|-<;>omega
def mH{U:ag}{sv:V}{l:List Int}{f:FuncId}{caps:List V}{p:Int->Bool}(hr:Reads U 1 false sv (l.map vI))(hl:l.length<=200000000000000)
 (hf:∀n∈l,aC prog f (vI n::caps) U λr Z'=>r=.bool (p n)/\Z'=U):
 aC prog 105 [sv,.fn f caps] U λr Z'=>r=.bool (l.any p)/\Z'=U:=by
 refine Me.r (by simp[c105]) ?_;apply sR;simp only[go_sem,seval,av,ax,c105];refine ad.ay rfl rfl rfl (mQ hr hl hf) ?_;apply sR;simp only[go_sem,seval,av,ax];refine au.same ?_;rw[<-sM]
def KZ{U:ag}{id:Nat}{a b:Int}(h:U id=some ⟨264,2,[.agg [vI a,vI b]]⟩)(n:Int):
 aC prog 200 [vI n,.ptr id 0 0] U λr Z'=>r=.bool (!bo n a b)/\Z'=U:=by
 refine O7.r (by simp[LF]) ?_;apply sR;simp only[go_sem,seval,av,ax,LF,h];refine And.intro (λh=>?_) (λh=>?_)
 .refine au.same ?_;congr 1;simp only[bo];rw[<-decide_not,decide_eq_decide];omega
 .refine au.same ?_;have:¬(n>=a/\n<=b):=by omega
  simp only[bo,this,decide_false,Bool.not_false]
def Reads.mono{U Z':ag}{sz:Nat}{agg:Bool}{sv:V}{rows:List V}(h:aa U Z')(hr:Reads U sz agg sv rows):Reads Z' sz agg sv rows:=by
 refine⟨hr.1,λi v hv=>?_⟩;obtain⟨p,h1,h2⟩:=hr.2 i v hv;refine⟨p,?_,?_⟩
 .cases sv<;>simp only[bL,reduceCtorEq]at h1|-
  .exact h1
  .rename_i id off len;cases ho:U id with
   |none=>rw[ho]at h1;cases h1
   |some ob=>rw[ho]at h1;rw[h id ob ho];exact h1
 .cases p<;>simp only[bT,reduceCtorEq]at h2|-
  .rename_i id i k;cases ho:U id with
   |none=>rw[ho]at h2;cases h2
   |some ob=>rw[ho]at h2;rw[h id ob ho];exact h2
  .exact h2
def Je{U:ag}{sv:V}{l:List Int}{a b:Int}(hr:Reads U 1 false sv (l.map vI))(hl:l.length<=200000000000000):
 aC prog 158 [.agg [vI a,vI b],sv] U λr Z'=>r=.bool (l.all λn=>bo n a b)/\Z'=U:=by
 refine NH.r (by simp[Ku]) ?_;apply sR;simp only[go_sem,seval,av,ax,Ku];intro id hid;refine ad.ay rfl rfl rfl (mH (p:=λn=>!bo n a b) (hr.mono ((aa.refl U).u' hid)) hl (λn _=>KZ af n)) ?_;apply sR;simp only[go_sem,seval,av,ax];refine au.pure ((aa.refl U).u' hid) ?_;rw[List.all_eq_not_any_not]
open Go.Proofs
def fD:List V->Option (List Int)
 |[]=>some []
 |.int .i64 n::l=>(fD l).map (n::·)
 |_=>none
def kK:∀{l:List V} {m:List Int},fD l=some m->l=m.map vI
 |[],m,h=>by simp[fD]at h;subst h;rfl
 |v::l,m,h=>by
  cases v<;>try (simp[fD]at h)
  rename_i k n;cases k<;>try (simp[fD]at h)
  obtain⟨m',h1,rfl⟩:=h;rw[kK h1];rfl
def sX(m:List Int):fD (m.map vI)=some m:=by
 induction m with
 |nil=>rfl
 |cons n m ih=>simp[fD,ih]
def eZ(U:ag):V->Option (List Int)
 |.own id off len=>match U id with
   |some ob=>if ob.sz=1/\off+len<=ob.rows.length/\len<=200000000000000 then(if(fD ob.rows).isSome then fD ((ob.rows.drop off).take len)else none)else none
   |none=>none
 |.sl 1 rows=>if rows.length<=200000000000000 then fD rows else none
 |_=>none
def me{U:ag}{sv:V}{l:List Int}(h:eZ U sv=some l):Reads U 1 false sv (l.map vI)/\l.length<=200000000000000:=by
 unfold eZ at h;split at h
 .rename_i id off len;split at h
  .rename_i ob QK;split at h
   .rename_i hc;split at h
    .rename_i hi;have he:=kK h;obtain⟨m,hm⟩:=Option.isSome_iff_exists.1 hi;have hm:=kK hm;have hr:=Reads.own (U:=U) QK hc.1 hc.2.1 (λr hr=>by rw[hm]at hr;simp only[eI]at hr;obtain⟨n,_,rfl⟩:=hr;rfl);rw[he]at hr;have hl:l.length=len:=by
      have:=congrArg List.length he;simp at this;omega
     exact⟨hr,by omega⟩
    .cases h
   .cases h
  .cases h
 .rename_i rows;split at h
  .rename_i hc;have he:=kK h;subst he;exact⟨Reads.ints,by simpa using hc⟩
  .cases h
 .cases h
def nT{U Z':ag}(hs:aa U Z'){sv:V}{l:List Int}(h:eZ U sv=some l):eZ Z' sv=some l:=by
 unfold eZ at h|-;split at h
 .split at h
  .rename_i ob QK;simp only[hs _ _ QK];exact h
  .cases h
 .exact h
 .cases h
def n9(U:ag){l:List Int}(h:l.length<=200000000000000):eZ U (encI l)=some l:=by
 simp only[encI,eZ,cL,aE h];exact sX l
def o10(f:FuncId)(args:List V)(U:ag):Option V:=if f=158 then(match args with
 |[.agg [.int .i64 a,.int .i64 b],sv]=>(eZ U sv).map λl=>.bool (l.all λn=>bo n a b)
 |_=>none)else none
def O10:Qw prog where
 get:=o10
 up f args U Z' v hs h:=by
  unfold o10 at h|-;split at h
  .rename_i hf;rw[aE hf];split at h
   .simp only[Zq8]at h|-;obtain⟨l,h1,h2⟩:=h;exact⟨l,nT hs h1,h2⟩
   .cases h
  .cases h
 ok f args U v h:=by
  unfold o10 at h;split at h
  .rename_i hf;subst hf;split at h
   .simp only[Zq8]at h;obtain⟨l,h1,rfl⟩:=h;obtain⟨g1,g2⟩:=me h1;exact Je g1 g2
   .cases h
  .cases h
def tr(a b:Int)(sv:V)(U:ag):O10.get 158 [.agg [.int .i64 a,.int .i64 b],sv] U=(eZ U sv).map λl=>.bool (l.all λn=>bo n a b):=rfl
def cT(U:ag)(id off len:Nat):eZ U (.own id off len)=match U id with
 |some ob=>if ob.sz=1/\off+len<=ob.rows.length/\len<=200000000000000 then(if(fD ob.rows).isSome then fD ((ob.rows.drop off).take len)else none)else none
 |none=>none:=rfl
def dU(n:Int)(l:List V):fD (.int .i64 n::l)=(fD l).map (n::·):=rfl
def dT:fD []=some []:=rfl
def EN(s:Rn):aP prog 157 [.agg s.cells] (.bool s.ok):=λU=>by
 refine Ph.r (by simp[c157]) ?_;refine ad.mix 6 ?_
 (refine ad.aY O10 300 ?_;simp only[go_sem,seval,c157,Rn.cells])
 refine ae λSn Z1 s1 a1 f1=>?_;simp only[go_sem,seval];refine ae λWU Z2 s2 a3 f3=>?_;have UL:=ao a1 f3;have a1:=s2 _ _ a1;simp only[go_sem,seval,a1];refine ae λSS Z3 s3 a4 f4=>?_;have n14:=ao a1 f4;have YN:=ao a3 f4;have a1:=s3 _ _ a1;have a3:=s3 _ _ a3;have hs:aa U Z3:=(s1.trans s2).trans s3;have g3:U WU=none:=s1.none f3;have g4:U SS=none:=(s1.trans s2).none f4;simp only[go_sem,seval,a1,a3,a4,ab YN,ab YN.symm,ab UL,ab n14];have PW:=λo o'=>(hs.az (o:=o) g3).az (o:=o') g4;refine ae λQl Z4 s4 a5 f5=>?_;have a1:=s4 Sn _ (by rw[ab n14,ab UL];exact a1);have a4:=s4 SS _ af;have hs:=(PW _ _).trans s4;simp only[go_sem,seval,a1,a4,a5,tr,cT,dU,dT,bo,<-Bool.decide_and];refine And.intro (λp0=>?_) (λp0=>au.pure hs (by rw[V.bool.injEq];symm;rw[Bool.eq_false_iff];intro h;simp[Rn.ok,bo,mx]at h;omega));refine ae λVn Z5 s5 a6 f6=>?_;have a1:=s5 _ _ a1;have hs:=hs.trans s5;simp only[go_sem,seval,a1,a6,tr,cT,dU,dT,bo,<-Bool.decide_and];refine And.intro (λp1=>?_) (λp1=>au.pure hs (by rw[V.bool.injEq];symm;rw[Bool.eq_false_iff];intro h;simp[Rn.ok,bo,mx]at h;omega));refine ae λYO Z6 s6 a7 f7=>?_;have a1:=s6 _ _ a1;have hs:=hs.trans s6;simp only[go_sem,seval,a1,a7,tr,cT,dU,dT,bo,<-Bool.decide_and];refine And.intro (λp2=>?_) (λp2=>au.pure hs (by rw[V.bool.injEq];symm;rw[Bool.eq_false_iff];intro h;simp[Rn.ok,bo,mx]at h;omega));refine ae λYP Z7 s7 a8 f8=>?_;have a1:=s7 _ _ a1;have hs:=hs.trans s7;simp only[go_sem,seval,a1,a8,tr,cT,dU,dT,bo,<-Bool.decide_and];refine And.intro (λp3=>?_) (λp3=>au.pure hs (by rw[V.bool.injEq];symm;rw[Bool.eq_false_iff];intro h;simp[Rn.ok,bo,mx]at h;omega));refine ae λSs Z8 s8 a9 f9=>?_;have a1:=s8 _ _ a1;have hs:=hs.trans s8;simp only[go_sem,seval,a1,a9,tr,cT,dU,dT,bo,<-Bool.decide_and];refine au.pure hs ?_;rw[V.bool.injEq,Bool.eq_iff_iff];simp[Rn.ok,bo,mx];omega
open Go.Proofs
def fj(l:List Nd):Int:=if Qs l then(if(iR l).1.depth>16\/(iR l).1.pieces>2000\/(iR l).1.nodes>2000\/(iR l).1.G'>1099511627776 then 2 else 0)else 4
open Go.Proofs
def o12(f:FuncId)(args:List V)(U:ag):Option V:=if f=158 then(match args with
 |[.agg [.int .i64 a,.int .i64 b],sv]=>(eZ U sv).map λl=>.bool (l.all λn=>bo n a b)
 |_=>none)else if f=157 then(match args with
 |[.agg [.int .i64 a,.int .i64 b,.int .i64 c,.int .i64 d,.int .i64 e,.int .i64 f,.int .i64 g,.int .i64 h,.int .i64 i,.int .i64 j,.int .i64 k,.int .i64 l]]=>some (.bool (Rn.ok ⟨a,b,c,d,e,f,g,h,i,j,k,l⟩))
 |_=>none)else none
def O12:Qw prog where
 get:=o12
 up f args U Z' v hs h:=by
  unfold o12 at h|-;split at h
  .rename_i hf;rw[aE hf];split at h
   .simp only[Zq8]at h|-;obtain⟨l,h1,h2⟩:=h;exact⟨l,nT hs h1,h2⟩
   .cases h
  .rename_i hf;rw[aF hf];exact h
 ok f args U v h:=by
  unfold o12 at h;split at h
  .rename_i hf;subst hf;split at h
   .simp only[Zq8]at h;obtain⟨l,h1,rfl⟩:=h;obtain⟨g1,g2⟩:=me h1;exact Je g1 g2
   .cases h
  .split at h
   .rename_i hf;subst hf;split at h
    .simp only[bb]at h;subst h;exact EN ⟨_,_,_,_,_,_,_,_,_,_,_,_⟩ U
    .cases h
   .cases h
def qg(a b:Int)(sv:V)(U:ag):O12.get 158 [.agg [.int .i64 a,.int .i64 b],sv] U=(eZ U sv).map λl=>.bool (l.all λn=>bo n a b):=rfl
def qG(a b c d e f g h i j k l:Int)(U:ag):O12.get 157 [.agg [.int .i64 a,.int .i64 b,.int .i64 c,.int .i64 d,.int .i64 e,.int .i64 f,.int .i64 g,.int .i64 h,.int .i64 i,.int .i64 j,.int .i64 k,.int .i64 l]] U=
 some (.bool (Rn.ok ⟨a,b,c,d,e,f,g,h,i,j,k,l⟩)):=rfl
def jr(s:Rn):(decide (s.top=0)&&(decide (s.P0=0)&&(decide (s.PQ=0)&&(decide (s.H'=0)&&(decide (s.QC=0)&&(decide (s.Qd=0)&&(decide (s.Qm=0)&&(decide (s.head=0)&&
 (decide (s.before=0)&&(decide (s.after=0)&&(decide (s.inside=0)&&decide (s.clear=0))))))))))))=decide (s=Rn.zero):=by
 rw[Bool.eq_iff_iff];cases s;simp[Rn.zero]
def Ir(x:Nd)(hl:x.words.length<=200000000000000)(k4:x.kind=4):aP prog 107 [iE x] (.bool x.ok):=λU=>by
 refine MZ.r (by simp[c107]) ?_;refine ad.mix 6 ?_
 (refine ad.aY O12 300 ?_;simp only[go_sem,seval,c107,iE,Nd.cells])
 refine ae λSn Z1 s1 a1 f1=>?_;simp only[go_sem,seval,a1];refine ae λWU Z2 s2 a3 f3=>?_;have UL:=ao a1 f3;have a1:=s2 _ _ a1;have hs:=(s1.trans s2).az (s1.none f3) (o:=⟨264,2,[.agg [vI 1,vI 1099511627776]]⟩);have XP:x.ok=(decide (x.st=Rn.zero)&&(decide (x.line=0)&&decide (x.space=0)&&decide (x.words.length=0)&&bo x.w 1 mx&&bo x.h 1 mx&&bo x.side 1 2)):=by
  by_cases P8:x.st=Rn.zero<;>simp[Nd.ok,k4,P8]
 simp only[go_sem,seval,a1,a3,ab UL,jr,ej,k4,qG,vi,af];refine And.intro (λe1=>And.intro (λe2=>And.intro (λz=>And.intro (λw=>?_) (λw=>?_)) (λz=>?_)) (λe2=>?_)) (λe1=>?_)
 .refine ae λSS Z3 s3 a4 f4=>?_;have a1:=s3 Sn _ (by rw[ab UL];exact a1);have a3:=s3 WU _ af;have hs:=hs.trans s3;simp only[go_sem,seval,a1,a3,a4,qg,cT,dU,dT,bo,vr,List.all_nil,<-Bool.decide_and];refine And.intro (λq1=>?_) (λq1=>au.pure hs ?_)
  .refine ae λQl Z4 s4 a5 f5=>?_;have a1:=s4 _ _ a1;have hs:=hs.trans s4;simp only[go_sem,seval,a1,a5,qg,cT,dU,dT,bo,vr,List.all_nil,<-Bool.decide_and];refine au.pure hs ?_;rw[V.bool.injEq,XP,Bool.eq_iff_iff];simp only[bo,mx];simp at w;simp[e1,e2,z,w];omega
  .rw[V.bool.injEq,XP,Bool.eq_iff_iff];simp only[bo,mx];simp[e1,e2,z];omega
 all_goals (repeat' (first
  |with_reducible refine And.intro (λh=>?_) (λh=>?_)
  |with_reducible refine au.pure hs ?_))
 all_goals (rw[V.bool.injEq,XP,Bool.eq_iff_iff];simp_all)
def KS(x:Nd)(hl:x.words.length<=200000000000000):aP prog 107 [iE x] (.bool x.ok):=λU=>by
 by_cases k4:x.kind=4
 .exact Ir x hl k4 U
 refine MZ.r (by simp[c107]) ?_;refine ad.mix 6 ?_
 (refine ad.aY O12 300 ?_;simp only[go_sem,seval,c107,iE,Nd.cells])
 refine ae λSn Z1 s1 a1 f1=>?_;simp only[go_sem,seval,a1];refine ae λWU Z2 s2 a3 f3=>?_;have UL:=ao a1 f3;have a1:=s2 _ _ a1;have hs:=(s1.trans s2).az (s1.none f3) (o:=⟨264,2,[.agg [vI 1,vI 1099511627776]]⟩);have hz:(x.kind=1->x.ok=(x.st.ok&&decide (x.line=0)&&decide (x.space=0)&&decide (x.words.length=0)&&decide (x.side=0)&&decide (x.w=0)&&decide (x.h=0))):=λh=>by simp[Nd.ok,h]
 have Yj:x.words.length<=200000000000000:=by omega
 by_cases k1:x.kind=1
 .simp only[go_sem,seval,a1,a3,ab UL,jr,ej,k1,qG,vi];rw[hz k1]
  repeat' (first
   |with_reducible refine And.intro (λh=>?_) (λh=>?_)
   |with_reducible refine au.pure hs ?_)
  all_goals (rw[V.bool.injEq,Bool.eq_iff_iff];simp_all)
 .by_cases k2:x.kind=2
  .by_cases e1:x.line=0
   .have hok0:x.ok=false:=by
     by_cases P8:x.st=Rn.zero<;>simp[Nd.ok,k2,P8,e1,bo]
    rw[hok0];simp only[go_sem,seval,a1,a3,ab UL,jr,ej,k1,k2,e1,qG,vi,af]
    repeat' (first
     |with_reducible refine And.intro (λh=>?_) (λh=>?_)
     |with_reducible refine au.pure hs rfl
     |(refine ae λSS Z3 s3 a4 f4=>?_
       have a1:=s3 Sn _ (by rw[ab UL];exact a1);have a3:=s3 WU _ af;simp only[go_sem,seval,a1,a3,a4,qg,cT,dU,dT,bo,vr,List.all_nil,false_and];exact au.pure (hs.trans s3) rfl))
   .simp only[go_sem,seval,a1,a3,ab UL,jr,ej,k1,k2,e1,qG,vi,af];have V1:x.ok=(decide (x.st=Rn.zero)&&(x.words.all (bo · 1 mx)&&decide (0<x.words.length)&&bo x.line 1 mx&&bo x.space 0 mx&&decide (x.side=0)&&decide (x.w=0)&&decide (x.h=0))):=by
     by_cases P8:x.st=Rn.zero<;>simp[Nd.ok,k2,P8]
    refine And.intro (λz=>?_) (λz=>au.pure hs (by rw[V1];simp_all));refine And.intro (λw1=>?_) (λw1=>au.pure hs (by rw[V1];simp[w1]));refine And.intro (λw2=>?_) (λw2=>au.pure hs (by rw[V1];simp[w2]));refine And.intro (λw3=>?_) (λw3=>au.pure hs (by rw[V1];simp[w3]));refine ae λSS Z3 s3 a4 f4=>?_;have a1:=s3 Sn _ (by rw[ab UL];exact a1);have a3:=s3 WU _ af;have hs:=hs.trans s3;simp only[go_sem,seval,a1,a3,a4,qg,cT,dU,dT,n9 _ Yj,vi,uK (List.all _ _)];refine And.intro (λq1=>?_) (λq1=>au.pure hs (by rw[V1];simp[mx]at q1|-;simp[q1]));refine And.intro (λq2=>?_) (λq2=>au.pure hs (by rw[V1];simp only[mx,q2];simp));refine ae λQl Z4 s4 a5 f5=>?_;have a1:=s4 _ _ a1;have hs:=hs.trans s4;simp only[go_sem,seval,a1,a5,qg,cT,dU,dT,n9 _ Yj,vi,ej,uK (List.all _ _)];refine And.intro (λq3=>?_) (λq3=>au.pure hs (by rw[V1];simp[mx]at q3|-;simp[q3]));refine au.pure hs ?_;rw[V1];simp only[mx,q1,q2,q3,z,w1,w2,w3];simp
  .have XP:x.ok=(decide (x.st=Rn.zero)&&(decide (x.line=0)&&decide (x.space=0)&&decide (x.words.length=0)&&bo x.w 1 mx&&bo x.h 1 mx&&
    (decide (x.kind=3)&&decide (x.side=0)||decide (x.kind=4)&&bo x.side 1 2))):=by
    by_cases P8:x.st=Rn.zero<;>simp[Nd.ok,k1,k2,P8]
   by_cases k3:x.kind=3
   .simp only[go_sem,seval,a1,a3,ab UL,jr,ej,k1,k2,k3,qG,vi,af]
    repeat' (first
     |with_reducible refine And.intro (λh=>?_) (λh=>?_)
     |with_reducible refine au.pure hs ?_
     |(refine ae λSS Z3 s3 a4 f4=>?_
       have a1:=s3 Sn _ (by rw[ab UL];exact a1);have a3:=s3 WU _ af;simp only[go_sem,seval,a1,a3,a4,qg,cT,dU,dT,bo,vr,List.all_nil,<-Bool.decide_and];refine au.pure (hs.trans s3) ?_))
    all_goals (rw[V.bool.injEq,XP,Bool.eq_iff_iff];simp_all [bo,mx]<;>omega)
   .simp only[go_sem,seval,a1,a3,ab UL,jr,ej,k1,k2,k3,k4,qG,vi,af]
    repeat' (first
     |with_reducible refine And.intro (λh=>?_) (λh=>?_)
     |with_reducible refine au.pure hs ?_)
    all_goals (rw[V.bool.injEq,XP];simp[k3,k4])
open Go.Proofs
def rN(i:Nat):List Int->List Int
 |a::b::s=>if a=i then rN i (b::s)else a::b::s
 |s=>s
def isS:List Nd->Nat->List Int->Bool
 |[],_,_=>true
 |x::r,i,Sg=>match rN i Sg with
  |[]=>false
  |a::s=>if x.ok=true/\1<=x.size/\x.size<=a-i/\(x.kind=1\/x.size<=1)then isS r (i+1) ((i+x.size)::a::s)else false
def Vo(n:Nat):Nat->List Int->Prop
 |lo,[]=>lo=n
 |lo,a::s=>(lo:Int)<=a/\Vo n a.toNat s
def kC(l:List Nd):Nat->List Int->Bool
 |_,[]=>true
 |lo,a::s=>cj l lo a.toNat&&kC l a.toNat s
def D9(l:List Nd)(a:Nat):cj l a a=true:=by rw[cj,dif_neg (Nat.lt_irrefl a)]
def uA(l:List Nd)(n i:Nat)(hi:i<n):∀Sg,Vo n i Sg->∃a s,rN i Sg=a::s/\(i:Int)<a/\Vo n i (a::s)/\kC l i (a::s)=kC l i Sg
 |[],h=>by simp only[Vo]at h;omega
 |[a],h=>by
  have h':=h;simp only[Vo]at h';exact⟨a,[],rfl,by omega,h,rfl⟩
 |a::b::s,h=>by
  by_cases ha:a=i
  .have h':=h.2;rw[ha,eL]at h';obtain⟨c,t,g1,g2,g3,g4⟩:=uA l n i hi (b::s) h';refine⟨c,t,by simp[rN,ha,g1],g2,g3,?_⟩;rw[g4];show _=(cj l i a.toNat&&kC l a.toNat (b::s));rw[ha,eL,D9,Bool.true_and]
  .have h':=h.1;exact⟨a,b::s,by simp[rN,ha],by omega,h,rfl⟩
def CI(l:List Nd):∀(r:List Nd) (i:Nat) (Sg:List Int),l.drop i=r->Vo l.length i Sg->isS r i Sg=(r.all Nd.ok&&kC l i Sg)
 |[],i,Sg,hr,hs=>by
  have hi:l.length<=i:=by simpa using hr
  have key:∀(Sg:List Int) (lo:Nat),l.length<=lo->Vo l.length lo Sg->kC l lo Sg=true:=by
   intro Sg
   induction Sg with
   |nil=>intro _ _ _;rfl
   |cons a s ih=>
    intro lo Tm h;have h1:=h.1;simp only[kC];rw[ih a.toNat (by omega) h.2,cj,Bool.and_true];split
    .have:l[lo]?=none:=by simp[Tm]
     rw[this];have hend:∀(Sg:List Int) (lo:Nat),Vo l.length lo Sg->lo<=l.length:=by
      intro Sg
      induction Sg with
      |nil=>intro lo h;simp only[Vo]at h;omega
      |cons b t ih=>intro lo h;have:=h.1;have:=ih _ h.2;omega
     have:=hend _ _ h.2;omega
    .rfl
  simp[isS,key Sg i hi hs]
 |x::r,i,Sg,hr,hs=>by
  have hi:i<l.length:=by
   rcases Nat.lt_or_ge i l.length with h|h
   .exact h
   .rw[Dv h]at hr;cases hr
  have hx:l[i]?=some x:=by
   have:(l.drop i)[0]?=some x:=by rw[hr];rfl
   simpa using this
  have hr':l.drop (i+1)=r:=by
   have:(l.drop i).drop 1=r:=by rw[hr];rfl
   simpa using this
  obtain⟨a,s,h1,h2,h3,h4⟩:=uA l l.length i hi Sg hs;rw[isS,h1];simp only;rw[<-h4];simp only[kC,vr];have QD:cj l i a.toNat=if _hx:1<=x.size/\x.size<=(a.toNat:Int)-i then
   (decide (x.kind=1)||decide (x.size<=1))&&cj l (i+1) (i+x.size.toNat)&&cj l (i+x.size.toNat) a.toNat else false:=by
   rw[cj,dif_pos (by omega),hx]
  rw[QD];have RF:(a.toNat:Int)=a:=by omega
  rw[RF];by_cases hc:1<=x.size/\x.size<=a-i
  .rw[dif_pos hc];have e:(i+x.size).toNat=i+x.size.toNat:=by omega
   have ih:=CI l r (i+1) ((i+x.size)::a::s) hr' ⟨by omega,by rw[e];omega,h3.2⟩;by_cases hk:x.ok=true/\(x.kind=1\/x.size<=1)
   .rw[aE ⟨hk.1,hc.1,hc.2,hk.2⟩,ih];simp only[kC,e,hk.1,Bool.true_and];have:(decide (x.kind=1)||decide (x.size<=1))=true:=by simpa using hk.2
    rw[this,Bool.true_and,Bool.and_assoc]
   .rw[aF (λh=>hk ⟨h.1,h.2.2.2⟩)];symm;rw[Bool.eq_false_iff];intro h;simp only[Ba,ki,SX]at h;exact hk ⟨h.1.1,h.2.1.1.1⟩
  .rw[dif_neg hc,aF (λh=>hc ⟨h.2.1,h.2.2.1⟩)];simp
def IC(l:List Nd):isS l 0 [(l.length:Int)]=Qs l:=by
 rw[CI l l 0 [(l.length:Int)] rfl ⟨by omega,by simp[Vo]⟩];simp[kC,Qs]
open Go.Proofs
def o14(f:FuncId)(args:List V):Option V:=if f=107 then(match args with
 |[.agg [.int .i64 a0,.int .i64 a1,.int .i64 a2,.int .i64 a3,.int .i64 a4,.int .i64 a5,.int .i64 a6,.int .i64 a7,.int .i64 a8,.int .i64 a9,.int .i64 Qq,.int .i64 Qt,.int .i64 a12,.int .i64 RW,.int .i64 Q2,.int .i64 VB,.sl 1 rows,.int .i64 U8,.int .i64 XQ,.int .i64 TB]]=>
  (fD rows).bind λws=>if ws.length<=200000000000000 then some (.bool (Nd.ok ⟨a0,a1,⟨a2,a3,a4,a5,a6,a7,a8,a9,Qq,Qt,a12,RW⟩,Q2,VB,ws,U8,XQ,TB⟩))else none
 |_=>none)else none
def O14:Qw prog where
 get f args _:=o14 f args
 ok f args U v h:=by
  unfold o14 at h;split at h
  .rename_i hf;subst hf;split at h
   .rw[Option.bind_eq_some_iff]at h;obtain⟨ws,h1,h2⟩:=h;split at h2
    .rename_i hw;simp only[bb]at h2;subst h2;rw[kK h1];exact KS ⟨_,_,⟨_,_,_,_,_,_,_,_,_,_,_,_⟩,_,_,ws,_,_,_⟩ hw U
    .cases h2
   .cases h
  .cases h
def Mc{x:Nd}(hw:x.words.length<=200000000000000)(U:ag):O14.get 107 [.agg [.int .i64 x.kind,.int .i64 x.size,.int .i64 x.st.top,.int .i64 x.st.P0,.int .i64 x.st.PQ,.int .i64 x.st.H',.int .i64 x.st.QC,.int .i64 x.st.Qd,.int .i64 x.st.Qm,.int .i64 x.st.head,.int .i64 x.st.before,.int .i64 x.st.after,.int .i64 x.st.inside,.int .i64 x.st.clear,.int .i64 x.line,.int .i64 x.space,encI x.words,.int .i64 x.side,.int .i64 x.w,.int .i64 x.h]] U=
 some (.bool x.ok):=by
 show((fD (x.words.map vI)).bind λws=>if ws.length<=200000000000000 then some (V.bool (Nd.ok ⟨x.kind,x.size,⟨x.st.top,x.st.P0,x.st.PQ,x.st.H',x.st.QC,x.st.Qd,x.st.Qm,x.st.head,x.st.before,x.st.after,x.st.inside,x.st.clear⟩,x.line,x.space,ws,x.side,x.w,x.h⟩))else none)=_;rw[sX,Option.bind_some,aE hw]
def Ey{rows:List V}{k:Nat}{a:Int}{s:List Int}(hk:k=(a::s).length)(ht:rows.take k=(a::s).reverse.map vI):rows[k-1]?=some (.int .i64 a)/\rows.take (k-1)=s.reverse.map vI:=by
 simp only[Rc]at hk;have h1:(rows.take k)[k-1]?=rows[k-1]?:=by rw[List.getElem?_take,aE (by omega)]
 constructor
 .rw[<-h1,ht,hk];simp
 .have h2:rows.take (k-1)=(rows.take k).take (k-1):=by rw[List.take_take];congr 1;omega
  rw[h2,ht,hk];simp
def Vo.le{n:Nat}:∀{Sg:List Int} {lo:Nat},Vo n lo Sg->lo<=n
 |[],lo,h=>by simp only[Vo]at h;omega
 |a::s,lo,h=>by have h1:=h.1;have h2:=Vo.le h.2;omega
def C2(l:List Nd)(hl:eY l):aP prog 62 [aM l] (.bool (Qs l)):=λU=>by
 have hl0:=hl;obtain⟨ZP,hl2⟩:=hl;refine e62.r (by simp[c62]) ?_;refine ad.mix 6 ?_;apply sR;simp only[go_sem,seval,av,ax,c62,eU];intro e0 he0;refine ad.loop (λm st=>∃i Sg e k rows,i<=l.length/\m=l.length-i/\Qs l=isS (l.drop i) i Sg/\Vo l.length i Sg/\Sg≠[]/\Sg.length<=i+1/\aa U st.U/\st.U e=some ⟨3,1,rows⟩/\U e=none/\k=Sg.length/\k<=rows.length/\rows.take k=Sg.reverse.map vI/\
  st.s 3=.own e 0 k/\st.s 9=aM l/\st.s 10=vI l.length/\st.s 11=vI i) l.length ?_ ?_
 .refine⟨0,[(l.length:Int)],e0,1,[vI l.length],by omega,by omega,by rw[<-IC];rfl,⟨by omega,by simp[Vo]⟩,by simp,by simp,(aa.refl U).u' he0,af,he0,rfl,by simp,rfl,rfl,rfl,rfl,rfl⟩
 .rintro m ⟨s,Z'⟩ ⟨i,Sg,e,k,rows,hi,rfl,hB,hasc,PZ,Ty,B',QD,hnew,hk,hkr,Qn,h3,h9,To,Uo⟩;simp only at B' QD h3 h9 To Uo;refine ad.mix 6 ?_;apply sR;simp only[go_sem,seval,av,ax,h3,h9,To,Uo];refine And.intro (λC'=>?_) (λUJ=>?_)
  .have P':i<l.length:=by simp at C';omega
   have hd:l.drop i=l[i]::l.drop (i+1):=gT P';have hxw:l[i].words.length<=200000000000000:=hl2 _ (QF P');rw[hd]at hB;generalize Yk:l[i]=x at*;simp only[go_sem,seval,av,ax,mJ P',Yk,uZ,h3,h9,To,Uo,Nd.cells];intro Ql R7;replace R7:Z' Ql=none:=R7;have n5e:e≠Ql:=by rintro rfl;rw[QD]at R7;cases R7
   have n5n:U Ql=none:=B'.none R7;refine ad.loop (λm st=>∃V2 k',m=V2.length/\rN i Sg=rN i V2/\Vo l.length i V2/\V2≠[]/\V2.length<=Sg.length/\st.U=u' Z' Ql ⟨27,20,[.agg x.cells]⟩/\k'=V2.length/\k'<=rows.length/\rows.take k'=V2.reverse.map vI/\
    st.s 3=.own e 0 k'/\st.s 4=vI i/\st.s 5=.ptr Ql 0 0/\st.s 9=aM l/\st.s 10=vI l.length/\st.s 11=vI i) Sg.length ?_ ?_
   .exact⟨Sg,k,rfl,rfl,hasc,PZ,Qh _,rfl,hk,hkr,Qn,h3,rfl,rfl,h9,To,Uo⟩
   .rintro m ⟨s,Yh⟩ ⟨V2,k',rfl,hpop,hasc',hne',hsl',P3,QU,hkr',htk',h3,h4,h5,h9,To,Uo⟩;simp only at P3 h3 h4 h5 h9 To Uo;subst P3;obtain⟨a,tl,rfl⟩:=List.exists_cons_of_ne_nil hne';obtain⟨V3,htk2⟩:=Ey QU htk';have hkpos:1<=k':=by rw[QU];simp
    have g0:(k':Int)-1<k':=by omega
    have g1:(0:Int)<=(k':Int)-1:=by omega
    have g2:(k':Int)-1<=k':=by omega
    have g3:((k':Int)-1).toNat=k'-1:=by omega
    have hrng:PM .i64 ((k':Int)-1):=ak;refine ad.mix 6 ?_
    (refine ad.aY O14 300 ?_;simp only[go_sem,seval,av,ax,h3,h4,h5,h9,To,Uo,ab n5e,QD,g0,g1,g2,g3,Int.le_refl,Int.toNat_zero,Nat.sub_zero,V3,vi,Nd.cells,Mc hxw,uK (Nd.ok x)])
    refine And.intro (λh1=>⟨hrng,And.intro (λh2=>?_) (λh2=>?_)⟩) (λh1=>?_)
    .obtain⟨b,tl',rfl⟩:∃b tl',tl=b::tl':=by
      cases tl with
      |nil=>simp at QU;omega
      |cons b tl'=>exact⟨b,tl',rfl⟩
     have hp2:rN i (a::b::tl')=rN i (b::tl'):=by simp[rN,h2]
     have ha2:=hasc'.2;rw[h2,eL]at ha2;refine⟨hrng,_,?_,b::tl',k'-1,rfl,by rw[hpop,hp2],ha2,by simp,?_,?_,by omega,htk2,rfl⟩
     .simp
     .simp only[Rc]at hsl'|-;omega
     .simp only[Rc]at QU|-;omega
    all_goals
     have TD:rN i (a::tl)=a::tl:=by
      cases tl with
      |nil=>rfl
      |cons b tl'=>
       have:a≠i:=by first
        |simpa using h2
        |(exfalso;simp at QU h1;omega)
       simp[rN,this]
     obtain⟨c,t,p1,p2,p3,p4⟩:=uA l l.length i P' (a::tl) hasc';rw[TD,List.cons.injEq]at p1;obtain⟨rfl,rfl⟩:=p1;have hIs:Qs l=if x.ok=true/\1<=x.size/\x.size<=a-i/\(x.kind=1\/x.size<=1)then isS (l.drop (i+1)) (i+1) ((i+x.size)::a::tl)else false:=by
      rw[hB,isS,hpop,TD]
     have hale:=Vo.le p3.2;have hlenk:(rows.take k').length=k':=by simp;omega
     have hstk:k'<=i+1:=by rw[QU];omega
     have happ:x.ok=true/\1<=x.size/\x.size<=a-i/\(x.kind=1\/x.size<=1)->∀(X Y:Ob) (id Sn:Nat),u' Z' Ql X id=none->u' (u' Z' Ql X) id Y Sn=none->
      Qs l=isS (l.drop (i+1)) (i+1) ((i+x.size)::a::tl)/\Vo l.length (i+1) ((i+x.size)::a::tl)/\aa U (u' (del (u' (u' Z' Ql X) id Y) e) Sn ⟨3,1,rows.take k'++[.int .i64 (i+x.size)]⟩)/\U Sn=none/\
      (rows.take k'++[V.int .i64 (i+x.size)]).take (k'+1)=((i+x.size)::a::tl).reverse.map vI:=by
      intro hc X Y id Sn hid UD;rw[fK]at hid;rw[fK,fK]at UD;rw[aE hc]at hIs;refine⟨hIs,⟨by omega,?_,p3.2⟩,?_,B'.none UD.2.2,?_⟩
      .have:(i+x.size).toNat=i+x.size.toNat:=by omega
       omega
      .exact aa.az (aa.IW ((B'.az n5n).az (B'.none hid.2)) hnew) (B'.none UD.2.2)
      .rw[kT (by simp;omega),htk'];simp
     refine And.intro (λq1=>And.intro (λq2=>⟨hrng,ak,And.intro (λq3=>And.intro (λq4=>And.intro (λq5=>?_) (λq5=>?_)) (λq4=>?_)) (λq3=>?_)⟩) (λq2=>?_)) (λq1=>?_)
     .refine au.pure (B'.u' R7) ?_;rw[hIs,aF];rintro⟨c1,c2,c3,c4⟩;omega
     .refine⟨ak,?_⟩;intro id hid;have SR:=(fK.1 hid).2;have nie:e≠id:=by rintro rfl;rw[QD]at SR;cases SR
      have VC:∀U,U e=some ⟨3,1,rows⟩->cK U 3 1 (.own e 0 k')=some (rows.take k',some e):=by
       intro U P3;simp only[cK,P3];rw[aE ⟨trivial,trivial,trivial,hkr'⟩]
      have R6:∀U,U id=some ⟨3,1,[.int .i64 (i+x.size)]⟩->cA U 1 (.own id 0 1)=some [.int .i64 (i+x.size)]:=by
       intro U P3;simp only[cA,P3];rw[aE (by simp)];simp
      have hb:(k'+1)*9<=140737488355328:=by omega
      simp only[go_sem,seval,av,ax,VC,R6,ab n5e,ab nie,QD,hlenk,hb,bF,h3,h4,h5,h9,To,Uo];intro Sn UD;obtain⟨z1,z2,z3,z4,z5⟩:=happ ⟨by simpa using q1,by omega,by omega,by first|(left;simpa using q4)|(right;simp at q5;omega)⟩ _ _ id Sn hid UD
      refine⟨ak,_,?_,i+1,_,Sn,k'+1,_,by omega,rfl,z1,z2,by simp,?_,z3,af,z4,?_,?_,z5,rfl,?_⟩
      .omega
      .simp only[Rc]at QU hsl'|-;omega
      .simp only[Rc]at QU|-;omega
      .simp;omega
      .simp
     .refine⟨ak,?_⟩;intro id hid;have SR:=(fK.1 hid).2;have nie:e≠id:=by rintro rfl;rw[QD]at SR;cases SR
      have VC:∀U,U e=some ⟨3,1,rows⟩->cK U 3 1 (.own e 0 k')=some (rows.take k',some e):=by
       intro U P3;simp only[cK,P3];rw[aE ⟨trivial,trivial,trivial,hkr'⟩]
      have R6:∀U,U id=some ⟨3,1,[.int .i64 (i+x.size)]⟩->cA U 1 (.own id 0 1)=some [.int .i64 (i+x.size)]:=by
       intro U P3;simp only[cA,P3];rw[aE (by simp)];simp
      have hb:(k'+1)*9<=140737488355328:=by omega
      simp only[go_sem,seval,av,ax,VC,R6,ab n5e,ab nie,QD,hlenk,hb,bF,h3,h4,h5,h9,To,Uo];intro Sn UD;obtain⟨z1,z2,z3,z4,z5⟩:=happ ⟨by simpa using q1,by omega,by omega,by first|(left;simpa using q4)|(right;simp at q5;omega)⟩ _ _ id Sn hid UD
      refine⟨ak,_,?_,i+1,_,Sn,k'+1,_,by omega,rfl,z1,z2,by simp,?_,z3,af,z4,?_,?_,z5,rfl,?_⟩
      .omega
      .simp only[Rc]at QU hsl'|-;omega
      .simp only[Rc]at QU|-;omega
      .simp;omega
      .simp
     .refine au.pure (B'.u' R7) ?_;rw[hIs,aF];rintro⟨c1,c2,c3,c4⟩;omega
     .refine au.pure (B'.u' R7) ?_;rw[hIs,aF];rintro⟨c1,c2,c3,c4⟩;omega
     .refine au.pure (B'.u' R7) ?_;rw[hIs,aF];rintro⟨c1,c2,c3,c4⟩;exact q1 (by simp[c1])
  .have Yg:i=l.length:=by simp at UJ;omega
   refine au.pure B' ?_;rw[hB,Yg,yQ];rfl
open Go.Proofs
def sumOf(times n:Int):Int:=if n=0\/times<=1099511627776/n then n*times else 1099511627777
def lW(times h:Int):List Int->Int
 |[]=>h
 |n::l=>lW times (min (h+sumOf times n) 1099511627777) l
def eN(i:Nat)(x:Nd)(s:Sm)(ends:List Int):Sm×List Int:=
 let ends:=ends.filter λn=>!decide (n<=(i:Int))
 if x.kind=1 then
  let ends:=ends++[i+x.size]
  (⟨max s.depth ends.length,s.pieces,s.nodes+1,lW 1 s.G' [x.st.top,x.st.P0,x.st.PQ,x.st.H',x.st.head]⟩,ends)
 else if x.kind=2 then(⟨s.depth,s.pieces+x.words.length,s.nodes+1,lW x.words.length s.G' [x.line]⟩,ends)
 else(⟨s.depth,s.pieces+1,s.nodes+1,lW 1 s.G' [x.h]⟩,ends)
def ij(l:List Nd):Nat->Sm×List Int
 |0=>(⟨0,0,0,0⟩,[])
 |i+1=>match l[i]? with
  |some x=>eN i x (ij l i).1 (ij l i).2
  |none=>ij l i
def AI{times n:Int}(h0:0<=n)(h1:n<=mx)(t0:0<=times)(a:Int)(ha:0<=a):min (a+sumOf times n) 1099511627777=min (a+n*times) 1099511627777:=by
 unfold sumOf;split
 .rfl
 .rename_i h;have hn:0<n:=by omega
  have hq:1099511627776/n<times:=by omega
  have h2:1099511627776<n*times:=by
   have:=Int.ediv_lt_iff_lt_mul (a:=1099511627776) (b:=times) hn;have h3:=this.1 hq;rw[Int.mul_comm];exact h3
  omega
def rW{a b:Int}(h1:0<=a/\a<=1099511627777)(h2:0<=b):∀n:Nat,BM a b n=min (a+b*n) 1099511627777
 |0=>by simp[BM];omega
 |n+1=>by
  rw[BM,rW h1 h2 n,jT];have e:b*((n+1:Nat):Int)=b*n+b:=by rw[Int.natCast_add,Int.mul_add];simp
  rw[e];have:0<=b*(n:Int):=Int.mul_nonneg h2 (by omega);generalize b*(n:Int)=q at*;omega
def lh{h n:Int}(h1:0<=h)(n0:0<=n)(n1:n<=mx):min (h+sumOf 1 n) 1099511627777=jT h n:=by
 rw[AI n0 n1 (by omega) h h1,Int.mul_one];rfl
def jI(l:List Nd)(i:Nat):Nat->List Int
 |0=>[]
 |k+1=>jI l i k++(match l[k]? with
  |some y=>if y.kind=1/\(i:Int)<k+y.size then[(k:Int)+y.size]else[]
  |none=>[])
def nN(l:List Nd)(i:Nat):∀k,((jI l i k).length:Int)=iH l i k
 |0=>rfl
 |k+1=>by
  simp only[jI,iH,fB,Int.natCast_add,nN l i k];cases l[k]? with
  |none=>simp
  |some y=>simp only[];split<;>simp
def nK(l:List Nd)(i:Nat):∀k,(jI l i k).filter (λn=>!decide (n<=((i+1:Nat):Int)))=jI l (i+1) k
 |0=>rfl
 |k+1=>by
  simp only[jI,List.filter_append,nK l i k];congr 1;split
  .rename_i y _;by_cases hk:y.kind=1
   .by_cases h1:((i+1:Nat):Int)<k+y.size
    .rw[aE ⟨hk,by omega⟩,aE ⟨hk,h1⟩];have:¬((k:Int)+y.size<=((i+1:Nat):Int)):=by omega
     simp only[List.filter_cons,this,decide_false,Bool.not_false,if_true,List.filter_nil]
    .rw[aF (show¬(y.kind=1/\((i+1:Nat):Int)<k+y.size)from λh=>h1 h.2)];split
     .have:(k:Int)+y.size<=((i+1:Nat):Int):=by omega
      simp only[List.filter_cons,this,decide_true,Bool.not_true,gj,if_false,List.filter_nil]
     .rfl
   .rw[aF (λh=>hk h.1),aF (λh=>hk h.1)];rfl
  .rfl
def mj(l:List Nd)(hl:eY l)(hb:Qs l=true):∀i,i<=l.length->(ij l i).1={ gC l ⟨0,0,l.length,0⟩ i with nodes:=i }/\(ij l i).2=(match i with
 |0=>[]
 |j+1=>jI l j (j+1))/\(gC l ⟨0,0,l.length,0⟩ i).tZ i/\(gC l ⟨0,0,l.length,0⟩ i).nodes=l.length
 |0,_=>⟨rfl,rfl,by simp[gC,Sm.tZ],rfl⟩
 |i+1,hi=>by
  obtain⟨h1,h2,h3,h4⟩:=mj l hl hb i (by omega);have P4:l.all Nd.ok=true/\cj l 0 l.length=true:=by simpa[Qs]using hb
  have hx:=(eQ.1 P4.1) _ (QF (show i<l.length by omega));have hg:l[i]?=some l[i]:=by simp[show i<l.length by omega]
  obtain⟨z1,z2,z3⟩:=iF l (l.length+1) 0 l.length (by omega) (by omega) P4.2 i (by omega) (by omega) (by omega);have hw:=hl.2 _ (QF (show i<l.length by omega));have YQ:=C5 (l:=l) hx hw h3;generalize Yk:l[i]=x at*;obtain⟨p1,p2,p3,p4,p5,p6⟩:=jN hx;have hS:ij l (i+1)=eN i x (ij l i).1 (ij l i).2:=by simp only[ij,hg]
  have hR:gC l ⟨0,0,l.length,0⟩ (i+1)=oz l i x (gC l ⟨0,0,l.length,0⟩ i):=by simp only[gC,hg]
  have hf:(ij l i).2.filter (λn=>!decide (n<=(i:Int)))=jI l i i:=by
   rw[h2];cases i with
   |zero=>rfl
   |succ j=>exact nK l j (j+1)
  rw[hS,hR,h1];generalize hsm:gC l ⟨0,0,l.length,0⟩ i=sm at*;obtain⟨f1,f2,f3⟩:=h3;have V4:jI l i (i+1)=jI l i i++(if x.kind=1 then[(i:Int)+x.size]else[]):=by
   simp only[jI,hg];by_cases hk:x.kind=1
   .rw[aE ⟨hk,by omega⟩,aE hk]
   .rw[aF (λh=>hk h.1),aF hk]
  refine⟨?_,?_,by rw[Int.natCast_add];exact YQ,?_⟩
  .by_cases hk:x.kind=1
   .obtain⟨q1,q2,q3,q4,q5⟩:=p6 hk;have r1:=fN f3 q1.1;have r2:=fN r1 q2.1;have r3:=fN r2 q3.1;have r4:=fN r3 q4.1;have hlen:=nN l i (i+1);rw[V4,aE hk]at hlen;simp only[eN,oz,aE hk,hf,lW,Sm.mk.injEq];refine⟨?_,trivial,by simp,?_⟩
    .rw[hlen]
    .rw[lh f3.1 q1.1 q1.2,lh r1.1 q2.1 q2.2,lh r2.1 q3.1 q3.2,lh r3.1 q4.1 q4.2,lh r4.1 q5.1 q5.2]
   .by_cases SN:x.kind=2
    .simp only[eN,oz,aF hk,aE SN,lW,Sm.mk.injEq];refine⟨trivial,trivial,by simp,?_⟩;rw[AI p2 p3 (by omega) _ f3.1,rW f3 p2]
    .simp only[eN,oz,aF hk,aF SN,lW,Sm.mk.injEq];exact⟨trivial,trivial,by simp,lh f3.1 p4 p5⟩
  .by_cases hk:x.kind=1
   .simp only[eN,aE hk,hf,V4]
   .by_cases SN:x.kind=2
    .simp only[eN,aF hk,aE SN,hf,V4,kj]
    .simp only[eN,aF hk,aF SN,hf,V4,kj]
  .rw[<-h4];unfold oz;split
   .rfl
   .split<;>rfl
def xd(l:List Nd):Sm×Int:=if Qs l then((ij l l.length).1,0)else(⟨0,0,0,0⟩,4)
def DT(l:List Nd)(hl:eY l):xd l=iR l:=by
 unfold xd iR;by_cases hb:Qs l=true
 .obtain⟨h1,_,_,h4⟩:=mj l hl hb l.length (Qh _);rw[aE hb,aE hb,h1];generalize gC l ⟨0,0,l.length,0⟩ l.length=sm at*;cases sm;simp_all
 .rw[aF hb,aF hb]
open Go.Proofs
def Bm{U:ag}{c:Nat}{i:Int}(h:U c=some ⟨3,1,[vI i]⟩)(n:Int):aC prog 109 [vI n,.ptr c 0 0] U λr Z'=>r=.bool (decide (n<=i))/\Z'=U:=by
 refine PA.r (by simp[c109]) ?_;apply sR;simp only[go_sem,seval,av,ax,c109,h];exact au.same rfl
abbrev kept(i:Int)(l:List Int):List Int:=l.filter λn=>!decide (n<=i)
def rB{p:Int->Bool}:∀{l:List Int},cM p l<0->l.filter (λn=>!p n)=l
 |[],_=>rfl
 |x::l,h=>by
  simp only[cM]at h;split at h
  .omega
  .rename_i hp;have ZQ:p x=false:=by simpa using hp
   split at h
   .rename_i h2;simp only[List.filter_cons,ZQ,Bool.not_false,if_true,rB h2]
   .have:=iG p l;omega
def rv{p:Int->Bool}:∀{l:List Int},¬cM p l<0->(cM p l).toNat<l.length/\(l.take (cM p l).toNat).filter (λn=>!p n)=l.take (cM p l).toNat/\
 ∀x,l[(cM p l).toNat]?=some x->p x=true
 |[],h=>by simp[cM]at h
 |x::l,h=>by
  simp only[cM]at h|-;split
  .rename_i hp;refine⟨by simp,by simp,?_⟩;intro y hy;simp at hy;subst hy;exact hp
  .rename_i hp;rw[aF hp]at h;have ZQ:p x=false:=by simpa using hp
   split
   .rename_i h2;rw[aE h2]at h;omega
   .rename_i h2;obtain⟨g1,g2,g3⟩:=rv h2;have:=iG p l;have e:(cM p l+1).toNat=(cM p l).toNat+1:=by omega
    rw[e];refine⟨by simp;omega,?_,?_⟩
    .simp only[BG,List.filter_cons,ZQ,Bool.not_false,if_true,g2]
    .simpa using g3
def GC{U:ag}{e c k:Nat}{i:Int}{full:List Int}(he:U e=some ⟨3,1,full.map vI⟩)(hc:U c=some ⟨3,1,[vI i]⟩)(PZ:c≠e)(hk:k<=full.length)(Su:full.length<=1000000000000):
 aC prog 108 [.own e 0 k,.fn 109 [.ptr c 0 0]] U λr Z'=>∃(k':Nat) (U9:List Int),r=.own e 0 k'/\Z'=u' U e ⟨3,1,U9.map vI⟩/\k'<=U9.length/\U9.length<=full.length/\U9.take k'=kept i (full.take k):=by
 have ZR:(full.take k).length=k:=by simp;omega
 have hr:Reads U 1 false (.own e 0 k) ((full.take k).map vI):=by
  have:=Reads.own (U:=U) (off:=0) (len:=k) he rfl (by simpa using hk) (λr hr=>by simp only[eI]at hr;obtain⟨n,_,rfl⟩:=hr;rfl);simpa using this
 refine MA.r (by simp[F9]) ?_;refine ad.mix 8 ?_;apply sR;simp only[go_sem,seval,av,ax,F9];refine ad.ay rfl rfl rfl (mQ (p:=λn=>decide (n<=i)) hr (by omega) (λn _=>Bm hc n)) ?_;generalize hw:cM (λn=>decide (n<=i)) (full.take k)=w;have hwg:-1<=w:=by rw[<-hw];exact iG _ _
 apply sR;simp only[go_sem,seval,av,ax];have Rb:u' U e ⟨3,1,full.map vI⟩=U:=by
  funext j;simp only[u'];split
  .rename_i e';rw[e',he]
  .rfl
 refine And.intro (λhm=>?_) (λhm=>?_)
 .refine⟨_,U,aa.refl U,Wk.refl (aa.refl U) _,k,full,rfl,Rb.symm,hk,Qh _,?_⟩;exact(rB (by rw[hw];omega)).symm
 .have hw0:¬cM (λn=>decide (n<=i)) (full.take k)<0:=by rw[hw];omega
  obtain⟨g1,g2,g3⟩:=rv hw0;rw[hw]at g1 g2 g3;rw[ZR]at g1;refine⟨ak,?_⟩;refine ad.loop (λm st=>∃(u j:Nat) (cur:List Int),u<j/\j<=k/\m=k-j/\cur.length=full.length/\cur.take u=kept i (full.take j)/\(∀q,j<=q->cur[q]?=full[q]?)/\st.U=u' U e ⟨3,1,cur.map vI⟩/\
   st.s 0=.own e 0 k/\st.s 1=.fn 109 [.ptr c 0 0]/\st.s 5=vI u/\st.s 6=vI j) (k-(w.toNat+1)) ?_ ?_
  .have hw1:w=((w.toNat:Nat):Int):=by omega
   refine⟨w.toNat,w.toNat+1,full,by omega,by omega,rfl,rfl,?_,λ_ _=>rfl,Rb.symm,rfl,rfl,?_,?_⟩
   .have hx:(full.take k)[w.toNat]?=some (full[w.toNat]'(by omega)):=by rw[List.getElem?_take,aE g1,SQ]
    have hp:=g3 _ hx;have e1:(full.take k).take w.toNat=full.take w.toNat:=by rw[List.take_take];congr 1;omega
    rw[e1]at g2;rw[SO (by omega)];have g2':kept i (full.take w.toNat)=full.take w.toNat:=g2;simp only[kept,List.filter_append]at g2'|-;rw[g2'];simp[hp]
   .show vI w=_;rw[<-hw1]
   .show vI (w+1)=_;rw[Int.natCast_add,<-hw1];rfl
  .rintro m ⟨s,Z'⟩ ⟨u,j,cur,huj,hjk,rfl,QT,hct,XM,P3,h0,h1,h5,h6⟩;simp only at P3 h0 h1 h5 h6;subst P3;refine ad.mix 8 ?_;apply sR;simp only[go_sem,seval,av,ax,h0,h1,h5,h6];refine And.intro (λC'=>?_) (λUJ=>?_)
   .have P':j<k:=by omega
    have hjc:j<cur.length:=by omega
    have QG:cur[j]?=some cur[j]:=by simp[hjc]
    have UJ:(cur.map vI)[j]?=some (vI cur[j]):=by simp[hjc]
    have b1:(0:Int)<=j:=by omega
    have b2:(j:Int)<k:=by omega
    have b3:(0:Int)<=u:=by omega
    have b4:(u:Int)<k:=by omega
    simp only[go_sem,seval,av,ax,h0,h1,h5,h6,b1,b2,UJ,eL];refine ad.ay rfl rfl rfl (Bm (i:=i) (by rw[ab PZ];exact hc) cur[j]) ?_;have hgu:(cur.map vI)[u]?=some (vI (cur[u]'(by omega))):=by simp[show u<cur.length by omega]
    apply sR;simp only[go_sem,seval,av,ax,h0,h1,h5,h6,b1,b2,b3,b4,UJ,hgu,eL];have hfj:full[j]?=some cur[j]:=by rw[<-XM j (Qh _)];exact QG
    have htj:full.take (j+1)=full.take j++[cur[j]]:=by
     have hjf:j<full.length:=by omega
     rw[SO hjf];congr 2;rw[SQ hjf]at hfj;simpa using hfj
    refine And.intro (λhd=>?_) (λhd=>?_)
    .refine⟨ak,ak,_,?_,u+1,j+1,cur.set u cur[j],by omega,by omega,rfl,by simpa using QT,?_,?_,?_,?_,?_⟩
     .omega
     .rw[htj];have hul:u<cur.length:=by omega
      have:(cur.set u cur[j]).take (u+1)=cur.take u++[cur[j]]:=by
       rw[SO (by simpa using hul),List.take_set,List.set_eq_of_length_le (by simp;omega)];simp
      rw[this,hct];simp only[kept,List.filter_append];congr 1;have hd':¬cur[j]<=i:=by simpa using hd
      simp[hd']
     .intro q hq;rw[List.getElem?_set_ne (by omega)];exact XM q (by omega)
     .simp
     .simp
     .simp
    .refine⟨ak,_,?_,u,j+1,cur,by omega,by omega,rfl,QT,?_,λq hq=>XM q (by omega),rfl,?_⟩
     .omega
     .rw[htj,hct];simp only[kept,List.filter_append];have hd':cur[j]<=i:=by simpa using hd
      simp[hd']
     .simp
   .have hjk':j=k:=by omega
    subst hjk';have b3:(0:Int)<=u:=by omega
    have b4:(u:Int)<=j:=by omega
    simp only[go_sem,seval,av,ax,h0,h1,h5,h6,b3,b4,Int.le_refl,eL,gY];refine ad.clear (id:=e) (off:=u) (len:=j-u) (ob:=⟨3,1,cur.map vI⟩) rfl rfl rfl af rfl (by simp;omega) ?_;apply sR;simp only[go_sem,seval,av,ax,h0,h1,h5,h6,b3,b4,Int.le_refl,eL,gY,Nat.sub_zero];refine⟨_,_,aa.refl _,Wk.refl (aa.refl _) _,u,cur.take u++List.replicate (j-u) 0++cur.drop (u+(j-u)),by simp,?_,?_,?_,?_⟩
    .simp[List.map_take,List.map_drop]
    .simp;omega
    .simp;omega
    .rw[gw,LD (by simp;omega),List.take_take,Nat.min_self,hct]
open Go.Proofs
def Reads.aL(U:ag):Reads U 1 false .aL []:=⟨rfl,λi v h=>by simp at h⟩
def BU{U:ag}{c:Nat}{i:Int}(hc:U c=some ⟨3,1,[vI i]⟩):aC prog 108 [.aL,.fn 109 [.ptr c 0 0]] U λr Z'=>r=.aL/\Z'=U:=by
 refine MA.r (by simp[F9]) ?_;refine ad.mix 8 ?_;apply sR;simp only[go_sem,seval,av,ax,F9];refine ad.ay rfl rfl rfl (mQ (l:=[]) (p:=λn=>decide (n<=i)) (Reads.aL U) (by simp) (λn _=>Bm hc n)) ?_;apply sR;simp only[go_sem,seval,av,ax,cM];exact au.same rfl
def Gy{times n:Int}(h0:0<=n)(t0:0<=times):0<=sumOf times n/\sumOf times n<=1099511627777:=by
 unfold sumOf;split
 .rename_i h;refine⟨Int.mul_nonneg h0 t0,?_⟩;rcases h with h|h
  .subst h;simp
  .by_cases hn:n=0
   .subst hn;simp
   .have:=Int.mul_le_of_le_ediv (by omega:0<n) h;rw[Int.mul_comm];omega
 .omega
def cU(s:Sm)(ends:V):Ob:=⟨154,5,[.agg [vI s.depth,vI s.pieces,vI s.nodes,vI s.G',ends]]⟩
def qE{U:ag}{c:Nat}{s:Sm}{ends sv:V}{times:Int}{l:List Int}(hc:U c=some (cU s ends))(hr:∀ob,Reads (u' U c ob) 1 false sv (l.map vI))(hl:l.length<=200000000000000)
 (hn:∀n∈l,0<=n/\n<=mx)(ht:0<=times/\times<=200000000000000)(hh:0<=s.G'/\s.G'<=1099511627777)(V4:ends.cells=[ends]):
 aC prog 110 [.ptr c 0 0,vI times,sv] U λr Z'=>r=.PI []/\Z'=u' U c (cU { s with G':=lW times s.G' l } ends):=by
 have hlen:dY false sv=some (vI (l.length:Int)):=by simpa using(hr ⟨0,0,[]⟩).1
 have Rb:u' U c (cU s ends)=U:=by
  funext j;simp only[u'];split
  .rename_i e';rw[e',hc]
  .rfl
 refine N5.r (by simp[LW]) ?_;refine ad.mix 9 ?_;apply sR;simp only[go_sem,seval,av,ax,LW,hlen];refine ad.loop (λm st=>∃(i:Nat) (h:Int),i<=l.length/\m=l.length-i/\lW times s.G' l=lW times h (l.drop i)/\(0<=h/\h<=1099511627777)/\st.U=u' U c (cU { s with G':=h } ends)/\
  st.s 0=.ptr c 0 0/\st.s 1=vI times/\st.s 9=sv/\st.s 10=vI l.length/\st.s 11=vI i) l.length ?_ ?_
 .exact⟨0,s.G',by omega,by omega,rfl,hh,Rb.symm,rfl,rfl,rfl,rfl,rfl⟩
 .rintro m ⟨s',Z'⟩ ⟨i,h,hi,rfl,hp,hhh,P3,h0,h1,h9,To,Uo⟩;simp only at h0 h1 h9 To Uo P3;subst P3;refine ad.mix 9 ?_;apply sR;simp only[go_sem,seval,av,ax,h0,h1,h9,To,Uo];refine And.intro (λC'=>?_) (λUJ=>?_)
  .have P':i<l.length:=by omega
   have hd:l.drop i=l[i]::l.drop (i+1):=gT P';obtain⟨pp,e1,e2⟩:=(hr (cU { s with G':=h } ends)).2 i (vI l[i]) (by simp[P']);have hni:=hn _ (QF P');rw[hd,lW]at hp;generalize PZ:l[i]=n at*;have gX:=Gy (n:=n) hni.1 ht.1;simp only[cU]at e1 e2;simp only[mx]at hni;have hq:(1099511627776:Int).tdiv n=1099511627776/n:=Int.tdiv_eq_ediv_of_nonneg (by omega);by_cases hz:n=0
   .have QJ:sumOf times n=n*times:=by unfold sumOf;rw[aE (.inl hz)]
    rw[QJ]at hp gX;simp only[go_sem,seval,av,ax,e1,e2,cU,hz,h0,h1,h9,To,Uo];rw[hz]at hp gX;simp only[Int.zero_mul,Int.add_zero]at hp|-;refine⟨ak,ak,ak,_,?_,i+1,h,by omega,rfl,?_,hhh,?_,by simp⟩
    .omega
    .rw[hp,Int.min_eq_left hhh.2]
    .rw[aF (by omega)]
   .simp only[go_sem,seval,av,ax,e1,e2,cU,hz,h0,h1,h9,To,Uo,hq];have hdiv:0<=1099511627776/n/\1099511627776/n<=1099511627776:=⟨Int.ediv_nonneg (by omega) hni.1,Int.ediv_le_self _ (by omega)⟩
    refine⟨ak,λhle=>?_,λhgt=>?_⟩
    .have QJ:sumOf times n=n*times:=by unfold sumOf;rw[aE (.inr hle)]
     rw[QJ]at hp gX;refine⟨ak,ak,ak,_,?_,i+1,min (h+n*times) 1099511627777,by omega,rfl,hp,by omega,?_,by simp⟩
     .omega
     .rw[show(if 1099511627777<h+n*times then 1099511627777 else h+n*times)=min (h+n*times) 1099511627777 by split<;>omega]
    .have QJ:sumOf times n=1099511627777:=by unfold sumOf;rw[aF (by omega)]
     rw[QJ]at hp gX;refine⟨ak,ak,_,?_,i+1,min (h+1099511627777) 1099511627777,by omega,rfl,hp,by omega,?_,by simp⟩
     .omega
     .rw[show(if 1099511627777<h+1099511627777 then 1099511627777 else h+1099511627777)=min (h+1099511627777) 1099511627777 by split<;>omega]
  .have:i=l.length:=by omega
   refine⟨_,_,aa.refl _,Wk.refl (aa.refl _) _,rfl,?_⟩;rw[hp,this,yQ];rfl
open Go.Proofs
def FI{P:Program}{n:Nat}{Q:St->Prop}{k:List It}{O:Qw P}{f:Nat}{d:Option Nat}{l:List aG}{v:Nat->V}{ob:Ob}{s:Nat->V}{U:ag}{e:Nat}
 (h:∀id Z',aa (del U e) Z'->Z' id=some ob->U id=none->step P O n f (.d l k) ⟨aW s d (v id),Z'⟩ Q):
 G6 P O n f l k d ⟨s,U⟩ Q (some λid=>(v id,Vc.u' (del U e) id ob)):=by
 rw[ax];refine λid hid=>h id _ ((aa.refl _).u' ?_) af hid;by_cases e':id=e
 .simp[del,e']
 .rw[er e'];exact hid
def lO(K U:ag)(v:V)(ends:List Int)(B:Nat):Prop:=
 (v=.aL/\ends=[])\/∃(e k:Nat) (full:List Int),v=.own e 0 k/\U e=some ⟨3,1,full.map vI⟩/\K e=none/\k<=full.length/\full.length<=B/\full.take k=ends
def M6{K U:ag}{v:V}{ends:List Int}{B c:Nat}{i:Int}(hB:B<=1000000000000)(h:lO K U v ends B)(hK:aa K U)(hc:K c=some ⟨3,1,[vI i]⟩):
 aC prog 108 [v,.fn 109 [.ptr c 0 0]] U λr Z'=>aa K Z'/\lO K Z' r (kept i ends) B:=by
 rcases h with⟨rfl,rfl⟩|⟨e,k,full,rfl,h1,h2,h3,h4,rfl⟩
 .refine(BU (hK _ _ hc)).mono ?_;rintro r Z' ⟨rfl,rfl⟩;exact⟨hK,.inl ⟨rfl,rfl⟩⟩
 .have PZ:c≠e:=by rintro rfl;rw[h2]at hc;cases hc
  refine(GC h1 (hK _ _ hc) PZ h3 (by omega)).mono ?_;rintro r Z' ⟨k',U9,rfl,rfl,g1,g2,g3⟩;exact⟨hK.az h2,.inr ⟨e,k',U9,rfl,af,h2,g1,by omega,g3⟩⟩
def aa.IJ{K U:ag}{i:Nat}{o:Ob}(h:aa K U)(hi:U i=some o):aa (Vc.u' K i o) U:=λj x hx=>by
 by_cases e:j=i
 .subst e;rw[af]at hx;rw[hi];exact hx
 .rw[ab e]at hx;exact h j x hx
def lO.new{K U Z':ag}{v:V}{ends:List Int}{B id:Nat}{o:Ob}(h:lO K U v ends B)(hs:aa U Z')(hid:U id=none):lO (u' K id o) Z' v ends B:=by
 rcases h with h|⟨e,k,full,h0,h1,h2,h3⟩
 .exact .inl h
 .exact .inr ⟨e,k,full,h0,hs _ _ h1,by rw[ab (ao h1 hid)];exact h2,h3⟩
def lO.less{K K' U:ag}{v:V}{ends:List Int}{B:Nat}(h:lO K' U v ends B)(hs:aa K K'):lO K U v ends B:=by
 rcases h with h|⟨e,k,full,h0,h1,h2,h3⟩
 .exact .inl h
 .exact .inr ⟨e,k,full,h0,h1,hs.none h2,h3⟩
def LQ{K U:ag}{v:V}{ends:List Int}{B c i:Nat}{x:Nd}{s:Sm}(hK:aa K U)(Vp:K c=none)(hc:U c=some (cU s v))(hE:∀o,lO (u' K c o) U v ends B)(hB:B<=1000000000)
 (hi:i<=10000)(hs:s.tZ i)(hsn:s.nodes=i)(hx:x.ok=true)(hw:x.words.length<=200000000000000)(RM:1<=x.size/\x.size<=1000000000):
 aC prog 63 [.ptr c 0 0,vI i,iE x] U λr Z'=>r=.PI []/\aa K Z'/\∃v',Z' c=some (cU (eN i x s ends).1 v')/\∀o,lO (u' K c o) Z' v' (eN i x s ends).2 (B+1):=by
 refine e63.r (by simp[c63]) ?_;refine ad.mix 7 ?_;apply sR;simp only[go_sem,seval,c63,iE,Nd.cells];refine ae λSS Z1 s1 a4 f4=>?_;have XI:=s1 _ _ hc;have ZS:=ao hc f4;simp only[go_sem,seval,a4];refine ae λQl Z2 s2 a5 f5=>?_;have Yu:=s2 _ _ XI;have Xm:=ao XI f5;have UM:=ao a4 f5;have a4:=s2 _ _ a4;have hK2:=(hK.trans s1).trans s2;have k4:K SS=none:=hK.none f4;have k5:K Ql=none:=(hK.trans s1).none f5;simp only[go_sem,seval,Yu,cU,a4,a5];have hK':aa (u' (u' (u' K c (cU s v)) SS ⟨3,1,[vI i]⟩) Ql ⟨27,20,[iE x]⟩) Z2:=((hK2.IJ Yu).IJ a4).IJ a5;have hE':lO (u' (u' (u' K c (cU s v)) SS ⟨3,1,[vI i]⟩) Ql ⟨27,20,[iE x]⟩) Z2 v ends B:=((hE _).new s1 f4).new s2 f5;refine ad.call rfl rfl rfl (M6 (by omega) hE' hK' (by rw[ab UM,af])) ?_;rintro r Z3 ⟨hK3,hE3⟩;have R5:=hK3 c _ (by rw[ab Xm,ab ZS,af]);have a4:=hK3 SS _ (by rw[ab UM,af]);have a5:=hK3 Ql _ af;simp only[iE,Nd.cells]at a5;simp only[cU]at R5;have hKK:=(((aa.refl K).az Vp (o:=cU s v)).az k4 (o:=⟨3,1,[vI i]⟩)).az k5 (o:=⟨27,20,[iE x]⟩);have h3:=hKK.trans hK3;have hsr:PM .i64 (s.nodes+1):=ak;obtain⟨p1,p2,p3,p4,p5,p6⟩:=jN hx;obtain⟨f1,f2,f3⟩:=hs;rcases hE3 with⟨rfl,TP⟩|⟨e,k,full,rfl,he,hKe,hk,Su,TP⟩
 .by_cases Sc:x.kind=1
  .apply sR;simp only[go_sem,seval,a4,a5,R5,ab ZS.symm,ab Xm.symm,Sc];refine⟨hsr,ak,?_⟩;refine bj λYP Z4 s4 a8 f8=>?_;have hc4:=s4 c _ af;have a4:=s4 SS _ (by rw[ab ZS.symm];exact a4);have a5:=s4 Ql _ (by rw[ab Xm.symm];exact a5);have hs8:∀U,U YP=some ⟨3,1,[.int .i64 (i+x.size)]⟩->cA U 1 (.own YP 0 1)=some [.int .i64 (i+x.size)]:=by
    intro U P3;simp only[cA,P3];rw[aE (by simp)];simp
   have hd:∀U,cK U 3 1 .aL=some ([],none):=λ_=>rfl;simp only[go_sem,seval,hs8,a8,hd,bF,Nat.reduceLeDiff];refine bj λSs Z5 s5 a9 f9=>?_;have hc5:=s5 c _ hc4;have a4:=s5 SS _ a4;have a5:=s5 Ql _ a5;have n9c:Ss≠c:=by rintro rfl;rw[hc4]at f9;cases f9
   have n95:Ss≠Ql:=by rintro rfl;rw[s4 Ss _ (by rw[ab Xm.symm];exact hK3 Ss _ af)]at f9;cases f9
   simp only[go_sem,seval,hc5,a4,a5,a9,ab Xm.symm,ab n9c];refine ae λVn Z6 s6 a6 f6=>?_;have hc6:=s6 c _ af;have a9:=s6 Ss _ (by rw[ab n9c];exact a9);have n6c:Vn≠c:=by rintro rfl;rw[hc6]at a6;simp at a6
   have YR:Vn≠Ss:=by rintro rfl;rw[a9]at a6;simp at a6
   simp only[go_sem,seval,a6];refine ae λid84 Z7 s7 a84 f84=>?_;have V5:=s7 c _ (by rw[ab n6c.symm];exact hc6);have a9:=s7 Ss _ (by rw[ab YR.symm];exact a9);have n84c:id84≠c:=by rintro rfl;rw[V5]at a84;simp at a84
   simp only[go_sem,seval];have h4:=(h3.az Vp).trans s4;have h5:=h4.trans s5;have k9:K Ss=none:=h4.none f9;have h6':=λo=>h5.az Vp (o:=o);have k6:K Vn=none:=(h6' _).none f6;have h7:=(((h6' _).trans s6).az k6).trans s7;obtain⟨q1,q2,q3,q4,q5⟩:=p6 Sc;have hl5:∀n∈[x.st.top,x.st.P0,x.st.PQ,x.st.H',x.st.head],0<=n/\n<=mx:=by
    intro n hn;simp only[cD,List.not_mem_nil,or_false]at hn;rcases hn with rfl|rfl|rfl|rfl|rfl<;>assumption
   refine ad.call rfl rfl rfl (qE (s:=⟨if(1:Int)>s.depth then 1 else s.depth,s.pieces,s.nodes+1,s.G'⟩) (l:=[x.st.top,x.st.P0,x.st.PQ,x.st.H',x.st.head]) (times:=1) V5
    (λob=>Reads.own (off:=0) (len:=5) ((ab n84c).trans a84) rfl (by simp) (λr hr=>by simp at hr;rcases hr with rfl|rfl|rfl|rfl|rfl<;>rfl)) (by simp) hl5 (by omega) f3 rfl) ?_
   rintro r Z8 ⟨rfl,rfl⟩;apply sR;simp only[go_sem,seval,av,ax];refine⟨_,_,aa.refl _,Wk.refl (aa.refl _) _,rfl,h7.az Vp,.own Ss 0 1,?_,λo=>.inr ⟨Ss,1,[i+x.size],rfl,(ab n9c).trans a9,fK.2 ⟨n9c,k9⟩,by simp,by simp,?_⟩⟩
   .have e:(if(1:Int)>s.depth then 1 else s.depth)=max s.depth 1:=by split<;>omega
    rw[af,e];simp[eN,Sc,TP,cU]
   .simp[eN,Sc,TP]
  .by_cases SN:x.kind=2
   .apply sR;simp only[go_sem,seval,a4,a5,R5,ab ZS.symm,ab Xm.symm,SN,ej];refine⟨hsr,ak,?_⟩;refine ae λYO Z7 s7 a7 f7=>?_;have V5:=s7 c _ af;have n7c:YO≠c:=by rintro rfl;rw[V5]at a7;simp at a7
    simp only[go_sem,seval];have h7:=(h3.az Vp).trans s7;refine ad.call rfl rfl rfl (qE (s:=⟨s.depth,s.pieces+x.words.length,s.nodes+1,s.G'⟩) (l:=[x.line]) (times:=x.words.length) V5
     (λob=>Reads.own (off:=0) (len:=1) ((ab n7c).trans a7) rfl (by simp) (λr hr=>by simp at hr;rcases hr with rfl;rfl)) (by simp) (by intro n hn;simp at hn;subst hn;exact⟨p2,p3⟩) (by omega) f3 rfl) ?_
    rintro r Z8 ⟨rfl,rfl⟩;apply sR;simp only[go_sem,seval,av,ax];refine⟨_,_,aa.refl _,Wk.refl (aa.refl _) _,rfl,h7.az Vp,_,af.trans (by simp[eN,SN,cU];rfl),λo=>?_⟩;have:(eN i x s ends).2=kept i ends:=by simp[eN,SN]
    rw[this];exact .inl ⟨rfl,TP⟩
   .have h4or:=p1;apply sR;simp only[go_sem,seval,a4,a5,R5,ab ZS.symm,ab Xm.symm,Sc,SN,ej];refine⟨hsr,ak,?_⟩;refine ae λYO Z7 s7 a7 f7=>?_;have V5:=s7 c _ af;have n7c:YO≠c:=by rintro rfl;rw[V5]at a7;simp at a7
    simp only[go_sem,seval];have h7:=(h3.az Vp).trans s7;refine ad.call rfl rfl rfl (qE (s:=⟨s.depth,s.pieces+1,s.nodes+1,s.G'⟩) (l:=[x.h]) (times:=1) V5
     (λob=>Reads.own (off:=0) (len:=1) ((ab n7c).trans a7) rfl (by simp) (λr hr=>by simp at hr;rcases hr with rfl;rfl)) (by simp) (by intro n hn;simp at hn;subst hn;exact⟨p4,p5⟩) (by omega) f3 rfl) ?_
    rintro r Z8 ⟨rfl,rfl⟩;apply sR;simp only[go_sem,seval,av,ax];refine⟨_,_,aa.refl _,Wk.refl (aa.refl _) _,rfl,h7.az Vp,_,af.trans (by simp[eN,Sc,SN,cU];rfl),λo=>?_⟩;have:(eN i x s ends).2=kept i ends:=by simp[eN,Sc,SN]
    rw[this];exact .inl ⟨rfl,TP⟩
 .have XK:e≠c:=λe'=>by rw[e',ab Xm,ab ZS,af]at hKe;cases hKe
  have he4:e≠SS:=λe'=>by rw[e',ab UM,af]at hKe;cases hKe
  have he5:e≠Ql:=λe'=>by rw[e',af]at hKe;cases hKe
  have hKe0:K e=none:=hKK.none hKe;have ZR:(full.take k).length=k:=by simp;omega
  by_cases Sc:x.kind=1
  .apply sR;simp only[go_sem,seval,a4,a5,R5,ab ZS.symm,ab Xm.symm,Sc];refine⟨hsr,ak,?_⟩;refine bj λYP Z4 s4 a8 f8=>?_;have hc4:=s4 c _ af;have a4:=s4 SS _ (by rw[ab ZS.symm];exact a4);have a5:=s4 Ql _ (by rw[ab Xm.symm];exact a5);have hs8:∀U,U YP=some ⟨3,1,[.int .i64 (i+x.size)]⟩->cA U 1 (.own YP 0 1)=some [.int .i64 (i+x.size)]:=by
    intro U P3;simp only[cA,P3];rw[aE (by simp)];simp
   have he4':=s4 e _ (by rw[ab XK];exact he);have hd:∀U,U e=some ⟨3,1,full.map vI⟩->cK U 3 1 (.own e 0 k)=some ((full.take k).map vI,some e):=by
    intro U P3;simp only[cK,P3];rw[aE ⟨trivial,trivial,trivial,by simpa using hk⟩,List.map_take]
   have UN:((full.take k).map vI).length=k:=by simpa using ZR
   have QE:(k+1)*9<=140737488355328:=by omega
   simp only[go_sem,seval,hs8,a8,hd,he4',bF,UN,QE];refine FI λSs Z5 s5 a9 f9=>?_;have hc5:=s5 c _ (by rw[er XK.symm];exact hc4);have a4:=s5 SS _ (by rw[er he4.symm];exact a4);have a5:=s5 Ql _ (by rw[er he5.symm];exact a5);have n9c:Ss≠c:=by rintro rfl;rw[hc4]at f9;cases f9
   have n95:Ss≠Ql:=by rintro rfl;rw[s4 Ss _ (by rw[ab Xm.symm];exact hK3 Ss _ af)]at f9;cases f9
   simp only[go_sem,seval,hc5,a4,a5,a9,ab Xm.symm,ab n9c];refine ae λVn Z6 s6 a6 f6=>?_;have hc6:=s6 c _ af;have a9:=s6 Ss _ (by rw[ab n9c];exact a9);have n6c:Vn≠c:=by rintro rfl;rw[hc6]at a6;simp at a6
   have YR:Vn≠Ss:=by rintro rfl;rw[a9]at a6;simp at a6
   simp only[go_sem,seval,a6];refine ae λid84 Z7 s7 a84 f84=>?_;have V5:=s7 c _ (by rw[ab n6c.symm];exact hc6);have a9:=s7 Ss _ (by rw[ab YR.symm];exact a9);have n84c:id84≠c:=by rintro rfl;rw[V5]at a84;simp at a84
   simp only[go_sem,seval];have h4:=(h3.az Vp).trans s4;have h4':=h4.IW hKe0;have h5:=h4'.trans s5;have k9:K Ss=none:=h4.none f9;have h6':=λo=>h5.az Vp (o:=o);have k6:K Vn=none:=(h6' _).none f6;have h7:=(((h6' _).trans s6).az k6).trans s7;obtain⟨q1,q2,q3,q4,q5⟩:=p6 Sc;have hl5:∀n∈[x.st.top,x.st.P0,x.st.PQ,x.st.H',x.st.head],0<=n/\n<=mx:=by
    intro n hn;simp only[cD,List.not_mem_nil,or_false]at hn;rcases hn with rfl|rfl|rfl|rfl|rfl<;>assumption
   refine ad.call rfl rfl rfl (qE (s:=⟨if((k+1:Nat):Int)>s.depth then((k+1:Nat):Int)else s.depth,s.pieces,s.nodes+1,s.G'⟩) (l:=[x.st.top,x.st.P0,x.st.PQ,x.st.H',x.st.head]) (times:=1) V5
    (λob=>Reads.own (off:=0) (len:=5) ((ab n84c).trans a84) rfl (by simp) (λr hr=>by simp at hr;rcases hr with rfl|rfl|rfl|rfl|rfl<;>rfl)) (by simp) hl5 (by omega) f3 rfl) ?_
   rintro r Z8 ⟨rfl,rfl⟩;apply sR;simp only[go_sem,seval,av,ax];refine⟨_,_,aa.refl _,Wk.refl (aa.refl _) _,rfl,h7.az Vp,.own Ss 0 (k+1),?_,λo=>.inr ⟨Ss,k+1,full.take k++[i+x.size],rfl,((ab n9c).trans a9).trans (by simp),fK.2 ⟨n9c,k9⟩,by simp;omega,by simp;omega,?_⟩⟩
   .have e:(if((k+1:Nat):Int)>s.depth then((k+1:Nat):Int)else s.depth)=max s.depth ((k+1:Nat):Int):=by split<;>omega
    rw[af,e];have hk0':kept i ends=full.take k:=TP.symm;simp[eN,Sc,hk0',ZR,cU,Nat.min_eq_left hk]
   .have hk0':kept i ends=full.take k:=TP.symm;rw[kT (by simp;omega)];simp[eN,Sc,hk0']
  .by_cases SN:x.kind=2
   .apply sR;simp only[go_sem,seval,a4,a5,R5,ab ZS.symm,ab Xm.symm,SN,ej];refine⟨hsr,ak,?_⟩;refine ae λYO Z7 s7 a7 f7=>?_;have V5:=s7 c _ af;have n7c:YO≠c:=by rintro rfl;rw[V5]at a7;simp at a7
    simp only[go_sem,seval];have h7:=(h3.az Vp).trans s7;refine ad.call rfl rfl rfl (qE (s:=⟨s.depth,s.pieces+x.words.length,s.nodes+1,s.G'⟩) (l:=[x.line]) (times:=x.words.length) V5
     (λob=>Reads.own (off:=0) (len:=1) ((ab n7c).trans a7) rfl (by simp) (λr hr=>by simp at hr;rcases hr with rfl;rfl)) (by simp) (by intro n hn;simp at hn;subst hn;exact⟨p2,p3⟩) (by omega) f3 rfl) ?_
    rintro r Z8 ⟨rfl,rfl⟩;apply sR;simp only[go_sem,seval,av,ax];refine⟨_,_,aa.refl _,Wk.refl (aa.refl _) _,rfl,h7.az Vp,_,af.trans (by simp[eN,SN,cU];rfl),λo=>?_⟩;have:(eN i x s ends).2=kept i ends:=by simp[eN,SN]
    rw[this];exact .inr ⟨e,k,full,rfl,(ab XK).trans (s7 e _ (by rw[ab XK];exact he)),fK.2 ⟨XK,hKe0⟩,hk,by omega,TP⟩
   .have h4or:=p1;apply sR;simp only[go_sem,seval,a4,a5,R5,ab ZS.symm,ab Xm.symm,Sc,SN,ej];refine⟨hsr,ak,?_⟩;refine ae λYO Z7 s7 a7 f7=>?_;have V5:=s7 c _ af;have n7c:YO≠c:=by rintro rfl;rw[V5]at a7;simp at a7
    simp only[go_sem,seval];have h7:=(h3.az Vp).trans s7;refine ad.call rfl rfl rfl (qE (s:=⟨s.depth,s.pieces+1,s.nodes+1,s.G'⟩) (l:=[x.h]) (times:=1) V5
     (λob=>Reads.own (off:=0) (len:=1) ((ab n7c).trans a7) rfl (by simp) (λr hr=>by simp at hr;rcases hr with rfl;rfl)) (by simp) (by intro n hn;simp at hn;subst hn;exact⟨p4,p5⟩) (by omega) f3 rfl) ?_
    rintro r Z8 ⟨rfl,rfl⟩;apply sR;simp only[go_sem,seval,av,ax];refine⟨_,_,aa.refl _,Wk.refl (aa.refl _) _,rfl,h7.az Vp,_,af.trans (by simp[eN,Sc,SN,cU];rfl),λo=>?_⟩;have:(eN i x s ends).2=kept i ends:=by simp[eN,Sc,SN]
    rw[this];exact .inr ⟨e,k,full,rfl,(ab XK).trans (s7 e _ (by rw[ab XK];exact he)),fK.2 ⟨XK,hKe0⟩,hk,by omega,TP⟩
open Go.Proofs
def Ak(l:List Nd)(hl:eY l):aP prog 29 [aM l] (.PI [.agg (iR l).1.cells,vI (iR l).2]):=λU=>by
 have hl0:=hl;obtain⟨ZP,hl2⟩:=hl;rw[<-DT l hl0];refine e29.r (by simp[c29]) ?_;refine ad.mix 7 ?_;apply sR;simp only[go_sem,seval,c29];refine ae λZT Z1 s1 aR fR=>?_;simp only[go_sem,seval,aR];refine ad.ay rfl rfl rfl (C2 l hl0 _) ?_;apply sR;simp only[go_sem,seval,vi,aR];refine And.intro (λhf=>?_) (λhf=>?_)
 .simp only[Bool.not_eq_eq_eq_not,Bool.not_true]at hf;refine au.pure (s1.az fR) ?_;simp[xd,hf,Sm.cells]
 .simp only[Bool.not_eq_eq_eq_not,Bool.not_false]at hf;refine ae λSS Z2 s2 a4 f4=>?_;have nR4:=ao aR f4;have aR:=s2 _ _ aR;have g4:U SS=none:=s1.none f4;have hKR:aa (u' U ZT ⟨98,4,[.agg Sm.zero.cells]⟩) Z2:=(s1.trans s2).IJ aR;have k4:u' U ZT ⟨98,4,[.agg Sm.zero.cells]⟩ SS=none:=fK.2 ⟨nR4.symm,g4⟩;simp only[go_sem,seval,eU];refine ad.loop (λm st=>∃(i:Nat) (v:V),i<=l.length/\m=l.length-i/\aa (u' U ZT ⟨98,4,[.agg Sm.zero.cells]⟩) st.U/\st.U SS=some (cU (ij l i).1 v)/\
   (∀o,lO (u' (u' U ZT ⟨98,4,[.agg Sm.zero.cells]⟩) SS o) st.U v (ij l i).2 i)/\st.s 2=.ptr ZT 0 0/\st.s 4=.ptr SS 0 0/\st.s 11=aM l/\st.s 12=vI l.length/\st.s 13=vI i) l.length ?_ ?_
  .exact⟨0,.aL,by omega,by omega,hKR,a4,λo=>.inl ⟨rfl,rfl⟩,rfl,rfl,rfl,rfl,rfl⟩
  .rintro m ⟨s,Z'⟩ ⟨i,v,hi,rfl,B',h4s,hE,h2,h4,Uo,h12,YS⟩;simp only at B' h4s hE h2 h4 Uo h12 YS;obtain⟨e1,e2,e3,e4⟩:=mj l hl0 hf i hi;have P4:l.all Nd.ok=true/\cj l 0 l.length=true:=by simpa[Qs]using hf
   have hRs:Z' ZT=some ⟨98,4,[.agg Sm.zero.cells]⟩:=B' ZT _ af;refine ad.mix 7 ?_;apply sR;simp only[go_sem,seval,h2,h4,Uo,h12,YS,h4s,cU,hRs,Sm.zero,Sm.cells];refine And.intro (λC'=>?_) (λUJ=>?_)
   .have P':i<l.length:=by omega
    have hx:=(eQ.1 P4.1) _ (QF P');have hxw:=hl2 _ (QF P');obtain⟨z1,z2,z3⟩:=iF l (l.length+1) 0 l.length (by omega) (by omega) P4.2 i (by omega) P' P';have SY:ij l (i+1)=eN i l[i] (ij l i).1 (ij l i).2:=by simp[ij,P']
    generalize Yk:l[i]=x at*;simp only[go_sem,seval,mJ P',Yk,h2,h4,Uo,h12,YS,Nd.cells];refine ae λVn Z6 s6 a6 f6=>?_;have n64:Vn≠SS:=by rintro rfl;rw[h4s]at f6;cases f6
    have n6R:Vn≠ZT:=by rintro rfl;rw[hRs]at f6;cases f6
    have g6:u' U ZT ⟨98,4,[.agg Sm.zero.cells]⟩ Vn=none:=B'.none f6;simp only[go_sem,seval,a6,h2,h4,Uo,h12,YS];have hsub6:=B'.trans s6;have Rk:=(LQ (K:=u' U ZT ⟨98,4,[.agg Sm.zero.cells]⟩) (U:=u' Z6 Vn ⟨27,20,[iE x]⟩) (i:=i) (x:=x) (s:=(ij l i).1) (B:=i) (hsub6.az g6) k4 ((ab n64.symm).trans (s6 _ _ h4s))
     (λo=>((hE o).new (s6.az f6) f6 (o:=⟨0,0,[]⟩)).less ((aa.refl _).az (fK.2 ⟨n64,g6⟩))) (by omega) (by omega) (by rw[e1];exact e3) (by rw[e1]) hx hxw (by omega))
    simp only[iE,Nd.cells]at Rk;refine ad.call rfl rfl rfl (by simp only[go_sem,seval,av,ax,h4];exact Rk) ?_
    .rintro r Z7 ⟨rfl,hK7,v',h4',hE'⟩;apply sR;simp only[go_sem,seval,av,ax,h2,h4,Uo,h12,YS];refine⟨ak,_,?_,i+1,v',by omega,rfl,hK7,?_,?_,?_⟩
     .omega
     .rw[SY,h4'];rfl
     .intro o;rw[SY];exact hE' o
     .simp
   .have Sh:i=l.length:=by omega
    subst Sh;refine au.pure ((((aa.refl U).az fR).trans B').az fR) ?_;simp[xd,hf,Sm.cells]
open Go.Proofs
def zo:((2:Nat):Int)=2:=rfl
def yT:((3:Nat):Int)=3:=rfl
def AJ:((4:Nat):Int)=4:=rfl
def lV(l:List Nd)(hl:eY l):aP prog 18 [aM l] (vI (fj l)):=λU=>by
 refine e18.r (by simp[c18]) ?_;refine ad.mix 8 ?_;apply sR;simp only[go_sem,seval,c18];refine ad.ay rfl rfl rfl (Ak l hl _) ?_;apply sR;simp only[go_sem,seval,Sm.cells];refine ae λWU Z1 s1 a3 f3=>?_;have B':=λo=>s1.az f3 (o:=o);simp only[go_sem,seval,a3];have hc:(iR l).2=if Qs l then 0 else 4:=by unfold iR;split<;>rfl
 refine And.intro (λh=>?_) (λh=>?_)
 .refine au.pure (B' _) ?_;have:Qs l=false:=by
   rw[hc]at h;cases hb:Qs l<;>simp_all
  simp[fj,this,hc]
 .have hb:Qs l=true:=by
   rw[hc]at h;cases hb:Qs l<;>simp_all
  have hR:fj l=if(iR l).1.depth>16\/(iR l).1.pieces>2000\/(iR l).1.nodes>2000\/(iR l).1.G'>1099511627776 then 2 else 0:=by
   simp only[fj,hb,if_true]
  generalize (iR l).1=sm at*;refine ae λQl Z2 s2 a5 f5=>?_;have Tl:=(B' _).trans s2;have g5:U Ql=none:=(B' _).none f5;simp only[go_sem,seval,a5];refine ad.loop (λm st=>∃(i:Nat),i<=4/\m=4-i/\st.U=u' Z2 Ql ⟨124,4,[.agg sm.cells]⟩/\(0<i->sm.depth<=16)/\(1<i->sm.pieces<=2000)/\(2<i->sm.nodes<=2000)/\(3<i->sm.G'<=1099511627776)/\
   st.s 5=.ptr Ql 0 0/\st.s 25=.agg [vI 16,vI 2000,vI 2000,vI 1099511627776]/\st.s 26=vI i) 4 ?_ ?_
  .exact⟨0,by omega,by omega,rfl,by omega,by omega,by omega,by omega,rfl,rfl,rfl⟩
  .rintro m ⟨s,Z'⟩ ⟨i,hi,rfl,P3,p1,p2,p3,p4,h5,h25,h26⟩;simp only at P3 h5 h25 h26;subst P3;have Yg:i=0\/i=1\/i=2\/i=3\/i=4:=by omega
   have hend:∀(p:Prop),p->p:=λ_ h=>h;rcases Yg with rfl|rfl|rfl|rfl|rfl
   .refine ad.mix 8 ?_;apply sR;simp only[go_sem,seval,av,ax,h5,h25,h26,Sm.cells,Int.ofNat_zero,Int.natCast_zero,zo,yT,AJ,Int.toNat_zero,Int.reduceToNat,Nat.zero_mul];refine And.intro (λg=>?_) (λg=>?_)
    .refine au.pure (Tl.az g5) ?_;rw[hR,aE];omega
    .refine⟨ak,_,?_,1,by omega,rfl,?_,?_,?_,?_,rfl⟩<;>omega
   .refine ad.mix 8 ?_;apply sR;simp only[go_sem,seval,av,ax,h5,h25,h26,Sm.cells,Int.ofNat_zero,Int.natCast_zero,Int.natCast_one,Int.toNat_one,zo,yT,AJ,Int.toNat_zero,Int.reduceToNat,Nat.zero_mul,Nat.reduceMul];refine And.intro (λg=>?_) (λg=>?_)
    .refine au.pure (Tl.az g5) ?_;rw[hR,aE];omega
    .refine⟨ak,_,?_,2,by omega,rfl,?_,?_,?_,?_,rfl⟩<;>omega
   .refine ad.mix 8 ?_;apply sR;simp only[go_sem,seval,av,ax,h5,h25,h26,Sm.cells,Int.ofNat_zero,Int.natCast_zero,Int.natCast_one,Int.toNat_one,zo,yT,AJ,Int.toNat_zero,Int.reduceToNat,Nat.zero_mul,Nat.reduceMul];refine And.intro (λg=>?_) (λg=>?_)
    .refine au.pure (Tl.az g5) ?_;rw[hR,aE];omega
    .refine⟨ak,_,?_,3,by omega,rfl,?_,?_,?_,?_,rfl⟩<;>omega
   .refine ad.mix 8 ?_;apply sR;simp only[go_sem,seval,av,ax,h5,h25,h26,Sm.cells,Int.ofNat_zero,Int.natCast_zero,Int.natCast_one,Int.toNat_one,zo,yT,AJ,Int.toNat_zero,Int.reduceToNat,Nat.zero_mul,Nat.reduceMul];refine And.intro (λg=>?_) (λg=>?_)
    .refine au.pure (Tl.az g5) ?_;rw[hR,aE];omega
    .refine⟨ak,_,?_,4,by omega,rfl,?_,?_,?_,?_,rfl⟩<;>omega
   .refine ad.mix 8 ?_;apply sR;simp only[go_sem,seval,av,ax,h5,h25,h26,Sm.cells,Int.ofNat_zero,Int.natCast_zero,Int.natCast_one,zo,yT,AJ,Int.toNat_zero,Int.reduceToNat,Nat.zero_mul];refine au.pure (Tl.az g5) ?_;rw[hR,aF];omega
open Go.Proofs
def u5(U:ag)(l:List Int):bT U false 1 (.rp (encI l))=some (encI l):=rfl
end Go.Vc
