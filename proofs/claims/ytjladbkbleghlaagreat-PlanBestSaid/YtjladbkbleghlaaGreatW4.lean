/- Part 4 of the library of this proof. -/
import Derived.Test.YtjladbkbleghlaaGreatW3
set_option linter.all false
set_option maxHeartbeats 8000000
set_option maxRecDepth 100000
namespace Go.Vc
open Go.Proofs Go.Proofs.Tryz
def cM(p:Int->Bool):List Int->Int
 |[]=>-1
 |x::l=>if p x then 0 else if cM p l<0 then -1 else cM p l+1
def oJ(p:Int->Bool)(i:Nat)(l:List Int):Int:=if cM p l<0 then -1 else cM p l+i
def ix(p:Int->Bool):∀l,-1<=cM p l
 |[]=>by simp[cM]
 |x::l=>by
  have:=ix p l;simp only[cM];split
  .omega
  .split<;>omega
def BF(p:Int->Bool)(l:List Int):cM p l=oJ p 0 l:=by
 have:=ix p l;unfold oJ;split<;>omega
def l9{U:ag}{sv:V}{l:List Int}{f:FuncId}{caps:List V}{p:Int->Bool}(hr:Reads U 1 false sv (l.map vI))(hl:l.length<=200000000000000)
 (hf:∀n∈l,aA prog f (vI n::caps) U λr Z'=>r=.bool (p n)/\Z'=U):
 aA prog 107 [sv,.fn f caps] U λr Z'=>r=vI (cM p l)/\Z'=U:=by
 have hlen:eK false sv=some (vI (l.length:Int)):=by simpa using hr.1
 refine Ku.r (by simp[Im]) ?_;apply sR;simp only[go_sem,seval,aN,aP,Im,hlen];refine ab.loop (λm st=>∃i:Nat,i<=l.length/\m=l.length-i/\cM p l=oJ p i (l.drop i)/\st.U=U/\st.s 0=sv/\st.s 1=.fn f caps/\st.s 7=vI l.length/\st.s 8=vI i) l.length ?_ ?_
 .exact⟨0,by omega,by omega,BF p l,rfl,rfl,rfl,rfl,rfl⟩
 .rintro m ⟨s,Z'⟩ ⟨i,hi,rfl,hp,L6,h0,h1,h7,h8⟩;simp only at h0 h1 h7 h8 L6;subst L6;apply sR;simp only[go_sem,seval,aN,aP,h0,h1,h7,h8];constructor
  .intro Lr;have M5:i<l.length:=by omega
   have hd:l.drop i=l[i]::l.drop (i+1):=iY M5;obtain⟨pp,e1,e2⟩:=hr.2 i (vI l[i]) (by simp[M5]);simp only[go_sem,seval,aN,aP,e1,e2,ta];refine ab.aC rfl rfl rfl (hf l[i] (ML M5)) ?_;apply sR;simp only[go_sem,seval,aN,aP,h0,h1,h7,h8];cases hpx:p l[i]
   .simp only[go_sem,seval,aN,aP,h8];refine⟨au,_,?_,i+1,by omega,rfl,?_,h0,h1,h7,?_⟩
    .omega
    .rw[hp,hd];simp only[oJ,cM,hpx,iG,if_false];have:=ix p (l.drop (i+1))
     repeat' split
     all_goals omega
    .simp
   .simp only[go_sem,seval,aN,aP];refine aE.same ?_;rw[hp,hd];simp[oJ,cM,hpx]
  .intro Pv;have:i=l.length:=by omega
   refine aE.same ?_;rw[hp,this,uN];rfl
open Go.Proofs Go.Proofs.Tryz
def Nd.ok(x:Nd):Bool:=
 if x.kind=1 then x.st.ok&&decide (x.line=0)&&decide (x.space=0)&&decide (x.words.length=0)&&decide (x.side=0)&&decide (x.w=0)&&decide (x.h=0)
 else if x.st≠MT.zero then false
 else if x.kind=2 then x.words.all (bf · 1 mx)&&decide (0<x.words.length)&&bf x.line 1 mx&&bf x.space 0 mx&&decide (x.side=0)&&decide (x.w=0)&&decide (x.h=0)
 else decide (x.line=0)&&decide (x.space=0)&&decide (x.words.length=0)&&bf x.w 1 mx&&bf x.h 1 mx&&
  (decide (x.kind=3)&&decide (x.side=0)||decide (x.kind=4)&&bf x.side 1 2)
def dG(l:List Int):eK false (bj l)=some (.int .i64 l.length):=by simp[bj,eK]
def rL(b:Bool):V.bool b=V.bool (decide (b=true)):=by cases b<;>rfl
open Go.Proofs Go.Proofs.Tryz
def lI{U:ag}{l:List Nd}{i:Nat}(h:i<l.length):bN U 20 (aM l) (.int .i64 i)=some (.rp (.agg (Nd.cells l[i]))):=by
 simp[aM,bN,h,ir]
def cg(l:List Nd)(a e:Nat):Bool:=
 if _h:a<e then
  match l[a]? with
  |none=>false
  |some x=>if _hx:1<=x.size/\x.size<=(e:Int)-a then
     (decide (x.kind=1)||decide (x.size<=1))&&cg l (a+1) (a+x.size.toNat)&&cg l (a+x.size.toNat) e else false
 else true
termination_by e-a
decreasing_by all_goals omega
open Go.Proofs Go.Proofs.Tryz
def dV(l:List Nd):Prop:=l.length<=10000/\∀x∈l,x.words.length<=200000000000000
def Mj(l:List Nd):Bool:=l.all Nd.ok&&cg l 0 l.length
def tv(U:ag)(x:Nd):cJ U true 20 (.rp (.agg x.cells))=some (ir x):=rfl
open Go.Proofs Go.Proofs.Tryz
def gZ(l:List Nd):∀(m a e:Nat),e-a<m->e<=l.length->cg l a e=true->∀k,a<=k->(h:k<e)->(h2:k<l.length)->1<=l[k].size/\l[k].size<=(e:Int)-k/\(l[k].kind=1\/l[k].size<=1)
 |0,_,_,h,_,_=>by omega
 |m+1,a,e,hm,he,hr=>by
  intro k hk hke h2;have P7:a<e:=by omega
  have ha:a<l.length:=by omega
  rw[cg,dif_pos P7]at hr;have Wm:l[a]?=some l[a]:=by simp[ha]
  rw[Wm]at hr;simp only at hr;split at hr
  .rename_i hx;simp only[Ba,jH,NV]at hr;obtain⟨⟨h3,h4⟩,h5⟩:=hr;by_cases Wn:k=a
   .subst Wn;exact⟨hx.1,hx.2,h3⟩
   .by_cases Q0:k<a+l[a].size.toNat
    .obtain⟨g1,g2,g3⟩:=gZ l m (a+1) (a+l[a].size.toNat) (by omega) (by omega) h4 k (by omega) Q0 h2;exact⟨g1,by omega,g3⟩
    .exact gZ l m (a+l[a].size.toNat) e (by omega) he h5 k (by omega) hke h2
  .cases hr
structure Sm where
 (depth pieces nodes H':Int)
deriving DecidableEq
def Sm.cells(s:Sm):List V:=[vI s.depth,vI s.pieces,vI s.nodes,vI s.H']
def jA(a b:Int):Int:=min (a+b) 1099511627777
def iB(l:List Nd)(i:Nat):Nat->Int
 |0=>0
 |k+1=>iB l i k+(match l[k]? with
  |some y=>if y.kind=1/\(i:Int)<k+y.size then 1 else 0
  |none=>0)
def zc(a b:Int):Nat->Int
 |0=>a
 |n+1=>jA (zc a b n) b
def nD(l:List Nd)(i:Nat)(x:Nd)(s:Sm):Sm:=
 if x.kind=1 then{ s with depth:=max s.depth (iB l i (i+1)),H':=jA (jA (jA (jA (jA s.H' x.st.top) x.st.LM) x.st.LA) x.st.Lt) x.st.head }
 else if x.kind=2 then{ s with pieces:=s.pieces+x.words.length,H':=zc s.H' x.line x.words.length }
 else{ s with pieces:=s.pieces+1,H':=jA s.H' x.h }
def gq(l:List Nd)(s:Sm):Nat->Sm
 |0=>s
 |i+1=>match l[i]? with
  |some x=>nD l i x (gq l s i)
  |none=>gq l s i
def ej(l:List Nd):Sm×Int:=if Mj l then(gq l ⟨0,0,l.length,0⟩ l.length,0)else(⟨0,0,0,0⟩,4)
def fD{a b:Int}(h1:0<=a/\a<=1099511627777)(h2:0<=b):0<=jA a b/\jA a b<=1099511627777:=by
 unfold jA;omega
def zT{a b:Int}(h1:0<=a/\a<=1099511627777)(h2:0<=b):∀n,0<=zc a b n/\zc a b n<=1099511627777
 |0=>h1
 |n+1=>fD (zT h1 h2 n) h2
def sV(l:List Nd)(i:Nat):∀k,0<=iB l i k/\iB l i k<=k
 |0=>by simp[iB]
 |k+1=>by
  have:=sV l i k;simp only[iB];split
  .split<;>omega
  .omega
def jw{x:Nd}(h:x.ok=true):(x.kind=1\/x.kind=2\/x.kind=3\/x.kind=4)/\0<=x.line/\x.line<=mx/\0<=x.h/\x.h<=mx/\
 (x.kind=1->(0<=x.st.top/\x.st.top<=mx)/\(0<=x.st.LM/\x.st.LM<=mx)/\(0<=x.st.LA/\x.st.LA<=mx)/\(0<=x.st.Lt/\x.st.Lt<=mx)/\(0<=x.st.head/\x.st.head<=mx)):=by
 unfold Nd.ok at h;split at h
 .rename_i hk;simp only[MT.ok,bf,Ba,NV]at h|-;simp only[mx]at h|-;refine⟨.inl hk,by omega,by omega,by omega,by omega,λ_=>?_⟩;omega
 .split at h
  .cases h
  .split at h
   .rename_i h1 _ hk;simp only[bf,Ba,NV]at h|-;simp only[mx]at h|-;exact⟨.inr (.inl hk),by omega,by omega,by omega,by omega,λe=>absurd e h1⟩
   .rename_i h1 _ _;simp only[bf,Ba,jH,NV]at h|-;simp only[mx]at h|-;exact⟨by omega,by omega,by omega,by omega,by omega,λe=>absurd e h1⟩
def Sm.tc(s:Sm)(k:Int):Prop:=(0<=s.depth/\s.depth<=k)/\(0<=s.pieces/\s.pieces<=k*200000000000000)/\(0<=s.H'/\s.H'<=1099511627777)
def A2{l:List Nd}{i:Nat}{x:Nd}{s:Sm}(hx:x.ok=true)(hw:x.words.length<=200000000000000)(h:s.tc i):(nD l i x s).tc (i+1):=by
 obtain⟨h1,h2,h3⟩:=h;obtain⟨g1,g2,g3,g4,g5,g6⟩:=jw hx;unfold nD;split
 .rename_i hk;obtain⟨a1,a2,a3,a4,a5⟩:=g6 hk;have hd:=sV l i (i+1);refine⟨?_,?_,fD (fD (fD (fD (fD h3 a1.1) a2.1) a3.1) a4.1) a5.1⟩
  .simp only;omega
  .simp only;omega
 .split
  .refine⟨?_,?_,zT h3 g2 _⟩
   .simp only;omega
   .simp only;omega
  .refine⟨?_,?_,fD h3 g4⟩
   .simp only;omega
   .simp only;omega
open Go.Proofs Go.Proofs.Tryz
def Sm.zero:Sm:=⟨0,0,0,0⟩
open Go.Proofs Go.Proofs.Tryz
def si(p:Int->Bool):∀l,decide (cM p l>=0)=l.any p
 |[]=>by simp[cM]
 |x::l=>by
  have ih:=si p l;simp only[cM,List.any_cons];have hg:=ix p l;rw[<-ih,Bool.eq_iff_iff];simp only[NV,jH];split
  .rename_i h;simp[h]
  .rename_i h;simp only[h,iG,false_or];by_cases hx:cM p l<0
   .rw[aI hx];constructor<;>intro hh<;>simp at hh|-<;>omega
   .rw[aJ hx];constructor<;>intro hh<;>simp at hh|-<;>omega
def l4{U:ag}{sv:V}{l:List Int}{f:FuncId}{caps:List V}{p:Int->Bool}(hr:Reads U 1 false sv (l.map vI))(hl:l.length<=200000000000000)
 (hf:∀n∈l,aA prog f (vI n::caps) U λr Z'=>r=.bool (p n)/\Z'=U):
 aA prog 130 [sv,.fn f caps] U λr Z'=>r=.bool (l.any p)/\Z'=U:=by
 refine KL.r (by simp[Gt]) ?_;apply sR;simp only[go_sem,seval,aN,aP,Gt];refine ab.aC rfl rfl rfl (l9 hr hl hf) ?_;apply sR;simp only[go_sem,seval,aN,aP];refine aE.same ?_;rw[<-si]
def Hw{U:ag}{id:Nat}{a b:Int}(h:U id=some ⟨197,2,[.agg [vI a,vI b]]⟩)(n:Int):
 aA prog 131 [vI n,.ptr id 0 0] U λr Z'=>r=.bool (!bf n a b)/\Z'=U:=by
 refine KC.r (by simp[F7]) ?_;apply sR;simp only[go_sem,seval,aN,aP,F7,h];refine And.intro (λh=>?_) (λh=>?_)
 .refine aE.same ?_;congr 1;simp only[bf];rw[<-decide_not,decide_eq_decide];omega
 .refine aE.same ?_;have:¬(n>=a/\n<=b):=by omega
  simp only[bf,this,decide_false,Bool.not_false]
def Reads.mono{U Z':ag}{sz:Nat}{agg:Bool}{sv:V}{rows:List V}(h:aa U Z')(hr:Reads U sz agg sv rows):Reads Z' sz agg sv rows:=by
 refine⟨hr.1,λi v hv=>?_⟩;obtain⟨p,h1,h2⟩:=hr.2 i v hv;refine⟨p,?_,?_⟩
 .cases sv<;>simp only[bN,reduceCtorEq]at h1|-
  .exact h1
  .rename_i id off len;cases ho:U id with
   |none=>rw[ho]at h1;cases h1
   |some ob=>rw[ho]at h1;rw[h id ob ho];exact h1
 .cases p<;>simp only[cJ,reduceCtorEq]at h2|-
  .rename_i id i k;cases ho:U id with
   |none=>rw[ho]at h2;cases h2
   |some ob=>rw[ho]at h2;rw[h id ob ho];exact h2
  .exact h2
def F0{U:ag}{sv:V}{l:List Int}{a b:Int}(hr:Reads U 1 false sv (l.map vI))(hl:l.length<=200000000000000):
 aA prog 106 [.agg [vI a,vI b],sv] U λr Z'=>r=.bool (l.all λn=>bf n a b)/\Z'=U:=by
 refine Li.r (by simp[HU]) ?_;apply sR;simp only[go_sem,seval,aN,aP,HU];intro id Ls;refine ab.aC rfl rfl rfl (l4 (p:=λn=>!bf n a b) (hr.mono ((aa.refl U).E' Ls)) hl (λn _=>Hw ak n)) ?_;apply sR;simp only[go_sem,seval,aN,aP];refine aE.pure ((aa.refl U).E' Ls) ?_;rw[List.all_eq_not_any_not]
open Go.Proofs Go.Proofs.Tryz
def fM:List V->Option (List Int)
 |[]=>some []
 |.int .i64 n::l=>(fM l).map (n::·)
 |_=>none
def kr:∀{l:List V} {m:List Int},fM l=some m->l=m.map vI
 |[],m,h=>by simp[fM]at h;subst h;rfl
 |v::l,m,h=>by
  cases v<;>try (simp[fM]at h)
  rename_i k n;cases k<;>try (simp[fM]at h)
  obtain⟨m',h1,rfl⟩:=h;rw[kr h1];rfl
def sD(m:List Int):fM (m.map vI)=some m:=by
 induction m with
 |nil=>rfl
 |cons n m ih=>simp[fM,ih]
def fj(U:ag):V->Option (List Int)
 |.own id off len=>match U id with
   |some ob=>if ob.sz=1/\off+len<=ob.rows.length/\len<=200000000000000 then(if(fM ob.rows).isSome then fM ((ob.rows.drop off).take len)else none)else none
   |none=>none
 |.sl 1 rows=>if rows.length<=200000000000000 then fM rows else none
 |_=>none
def l5{U:ag}{sv:V}{l:List Int}(h:fj U sv=some l):Reads U 1 false sv (l.map vI)/\l.length<=200000000000000:=by
 unfold fj at h;split at h
 .rename_i id off len;split at h
  .rename_i ob MG;split at h
   .rename_i hc;split at h
    .rename_i hi;have he:=kr h;obtain⟨m,hm⟩:=Option.isSome_iff_exists.1 hi;have hm:=kr hm;have hr:=Reads.own (U:=U) MG hc.1 hc.2.1 (λr hr=>by rw[hm]at hr;simp only[gO]at hr;obtain⟨n,_,rfl⟩:=hr;rfl);rw[he]at hr;have hl:l.length=len:=by
      have:=congrArg List.length he;simp at this;omega
     exact⟨hr,by omega⟩
    .cases h
   .cases h
  .cases h
 .rename_i rows;split at h
  .rename_i hc;have he:=kr h;subst he;exact⟨Reads.ints,by simpa using hc⟩
  .cases h
 .cases h
def mM{U Z':ag}(hs:aa U Z'){sv:V}{l:List Int}(h:fj U sv=some l):fj Z' sv=some l:=by
 unfold fj at h|-;split at h
 .split at h
  .rename_i ob MG;simp only[hs _ _ MG];exact h
  .cases h
 .exact h
 .cases h
def mF(U:ag){l:List Int}(h:l.length<=200000000000000):fj U (bj l)=some l:=by
 simp only[bj,fj,eU,aI h];exact sD l
def o10(f:FuncId)(args:List V)(U:ag):Option V:=if f=106 then(match args with
 |[.agg [.int .i64 a,.int .i64 b],sv]=>(fj U sv).map λl=>.bool (l.all λn=>bf n a b)
 |_=>none)else none
def O10:MJ prog where
 get:=o10
 up f args U Z' v hs h:=by
  unfold o10 at h|-;split at h
  .rename_i hf;rw[aI hf];split at h
   .simp only[Vd]at h|-;obtain⟨l,h1,h2⟩:=h;exact⟨l,mM hs h1,h2⟩
   .cases h
  .cases h
 ok f args U v h:=by
  unfold o10 at h;split at h
  .rename_i hf;subst hf;split at h
   .simp only[Vd]at h;obtain⟨l,h1,rfl⟩:=h;obtain⟨g1,g2⟩:=l5 h1;exact F0 g1 g2
   .cases h
  .cases h
def ru(a b:Int)(sv:V)(U:ag):O10.get 106 [.agg [.int .i64 a,.int .i64 b],sv] U=(fj U sv).map λl=>.bool (l.all λn=>bf n a b):=rfl
def cO(U:ag)(id off len:Nat):fj U (.own id off len)=match U id with
 |some ob=>if ob.sz=1/\off+len<=ob.rows.length/\len<=200000000000000 then(if(fM ob.rows).isSome then fM ((ob.rows.drop off).take len)else none)else none
 |none=>none:=rfl
def ei(n:Int)(l:List V):fM (.int .i64 n::l)=(fM l).map (n::·):=rfl
def ep:fM []=some []:=rfl
def BZ(s:MT):bc prog 105 [.agg s.cells] (.bool s.ok):=λU=>by
 refine JG.r (by simp[HP]) ?_;refine ab.mix 6 ?_
 (refine ab.bD O10 300 ?_;simp only[go_sem,seval,HP,MT.cells])
 refine ae λOv Z1 s1 a1 f1=>?_;simp only[go_sem,seval];refine ae λUG Z2 s2 a3 f3=>?_;have P8:=ao a1 f3;have a1:=s2 _ _ a1;simp only[go_sem,seval,a1];refine ae λOD Z3 s3 a4 f4=>?_;have n14:=ao a1 f4;have Tf:=ao a3 f4;have a1:=s3 _ _ a1;have a3:=s3 _ _ a3;have hs:aa U Z3:=(s1.trans s2).trans s3;have g3:U UG=none:=s1.none f3;have g4:U OD=none:=(s1.trans s2).none f4;simp only[go_sem,seval,a1,a3,a4,ad Tf,ad Tf.symm,ad P8,ad n14];have LK:=λo o'=>(hs.aG (o:=o) g3).aG (o:=o') g4;refine ae λOE Z4 s4 a5 f5=>?_;have a1:=s4 Ov _ (by rw[ad n14,ad P8];exact a1);have a4:=s4 OD _ ak;have hs:=(LK _ _).trans s4;simp only[go_sem,seval,a1,a4,a5,ru,cO,ei,ep,bf,<-Bool.decide_and];refine And.intro (λp0=>?_) (λp0=>aE.pure hs (by rw[V.bool.injEq];symm;rw[Bool.eq_false_iff];intro h;simp[MT.ok,bf,mx]at h;omega));refine ae λRs Z5 s5 a6 f6=>?_;have a1:=s5 _ _ a1;have hs:=hs.trans s5;simp only[go_sem,seval,a1,a6,ru,cO,ei,ep,bf,<-Bool.decide_and];refine And.intro (λp1=>?_) (λp1=>aE.pure hs (by rw[V.bool.injEq];symm;rw[Bool.eq_false_iff];intro h;simp[MT.ok,bf,mx]at h;omega));refine ae λUa Z6 s6 a7 f7=>?_;have a1:=s6 _ _ a1;have hs:=hs.trans s6;simp only[go_sem,seval,a1,a7,ru,cO,ei,ep,bf,<-Bool.decide_and];refine And.intro (λp2=>?_) (λp2=>aE.pure hs (by rw[V.bool.injEq];symm;rw[Bool.eq_false_iff];intro h;simp[MT.ok,bf,mx]at h;omega));refine ae λVs Z7 s7 a8 f8=>?_;have a1:=s7 _ _ a1;have hs:=hs.trans s7;simp only[go_sem,seval,a1,a8,ru,cO,ei,ep,bf,<-Bool.decide_and];refine And.intro (λp3=>?_) (λp3=>aE.pure hs (by rw[V.bool.injEq];symm;rw[Bool.eq_false_iff];intro h;simp[MT.ok,bf,mx]at h;omega));refine ae λPm Z8 s8 a9 f9=>?_;have a1:=s8 _ _ a1;have hs:=hs.trans s8;simp only[go_sem,seval,a1,a9,ru,cO,ei,ep,bf,<-Bool.decide_and];refine aE.pure hs ?_;rw[V.bool.injEq,Bool.eq_iff_iff];simp[MT.ok,bf,mx];omega
open Go.Proofs Go.Proofs.Tryz
def ga(l:List Nd):Int:=if Mj l then(if(ej l).1.depth>16\/(ej l).1.pieces>2000\/(ej l).1.nodes>2000\/(ej l).1.H'>1099511627776 then 2 else 0)else 4
open Go.Proofs Go.Proofs.Tryz
def o12(f:FuncId)(args:List V)(U:ag):Option V:=if f=106 then(match args with
 |[.agg [.int .i64 a,.int .i64 b],sv]=>(fj U sv).map λl=>.bool (l.all λn=>bf n a b)
 |_=>none)else if f=105 then(match args with
 |[.agg [.int .i64 a,.int .i64 b,.int .i64 c,.int .i64 d,.int .i64 e,.int .i64 f,.int .i64 g,.int .i64 h,.int .i64 i,.int .i64 j,.int .i64 k,.int .i64 l]]=>some (.bool (MT.ok ⟨a,b,c,d,e,f,g,h,i,j,k,l⟩))
 |_=>none)else none
def O12:MJ prog where
 get:=o12
 up f args U Z' v hs h:=by
  unfold o12 at h|-;split at h
  .rename_i hf;rw[aI hf];split at h
   .simp only[Vd]at h|-;obtain⟨l,h1,h2⟩:=h;exact⟨l,mM hs h1,h2⟩
   .cases h
  .rename_i hf;rw[aJ hf];exact h
 ok f args U v h:=by
  unfold o12 at h;split at h
  .rename_i hf;subst hf;split at h
   .simp only[Vd]at h;obtain⟨l,h1,rfl⟩:=h;obtain⟨g1,g2⟩:=l5 h1;exact F0 g1 g2
   .cases h
  .split at h
   .rename_i hf;subst hf;split at h
    .simp only[aX]at h;subst h;exact BZ ⟨_,_,_,_,_,_,_,_,_,_,_,_⟩ U
    .cases h
   .cases h
def oV(a b:Int)(sv:V)(U:ag):O12.get 106 [.agg [.int .i64 a,.int .i64 b],sv] U=(fj U sv).map λl=>.bool (l.all λn=>bf n a b):=rfl
def oZ(a b c d e f g h i j k l:Int)(U:ag):O12.get 105 [.agg [.int .i64 a,.int .i64 b,.int .i64 c,.int .i64 d,.int .i64 e,.int .i64 f,.int .i64 g,.int .i64 h,.int .i64 i,.int .i64 j,.int .i64 k,.int .i64 l]] U=
 some (.bool (MT.ok ⟨a,b,c,d,e,f,g,h,i,j,k,l⟩)):=rfl
def jd(s:MT):(decide (s.top=0)&&(decide (s.LM=0)&&(decide (s.LA=0)&&(decide (s.Lt=0)&&(decide (s.Mm=0)&&(decide (s.LZ=0)&&(decide (s.Mg=0)&&(decide (s.head=0)&&
 (decide (s.before=0)&&(decide (s.after=0)&&(decide (s.inside=0)&&decide (s.clear=0))))))))))))=decide (s=MT.zero):=by
 rw[Bool.eq_iff_iff];cases s;simp[MT.zero]
def EF(x:Nd)(hl:x.words.length<=200000000000000)(k4:x.kind=4):bc prog 68 [ir x] (.bool x.ok):=λU=>by
 refine e68.r (by simp[YU]) ?_;refine ab.mix 6 ?_
 (refine ab.bD O12 300 ?_;simp only[go_sem,seval,YU,ir,Nd.cells])
 refine ae λOv Z1 s1 a1 f1=>?_;simp only[go_sem,seval,a1];refine ae λUG Z2 s2 a3 f3=>?_;have P8:=ao a1 f3;have a1:=s2 _ _ a1;have hs:=(s1.trans s2).aG (s1.none f3) (o:=⟨197,2,[.agg [vI 1,vI 1099511627776]]⟩);have Sh:x.ok=(decide (x.st=MT.zero)&&(decide (x.line=0)&&decide (x.space=0)&&decide (x.words.length=0)&&bf x.w 1 mx&&bf x.h 1 mx&&bf x.side 1 2)):=by
  by_cases L8:x.st=MT.zero<;>simp[Nd.ok,k4,L8]
 simp only[go_sem,seval,a1,a3,ad P8,jd,dG,k4,oZ,tB,ak];refine And.intro (λe1=>And.intro (λe2=>And.intro (λz=>And.intro (λw=>?_) (λw=>?_)) (λz=>?_)) (λe2=>?_)) (λe1=>?_)
 .refine ae λOD Z3 s3 a4 f4=>?_;have a1:=s3 Ov _ (by rw[ad P8];exact a1);have a3:=s3 UG _ ak;have hs:=hs.trans s3;simp only[go_sem,seval,a1,a3,a4,oV,cO,ei,ep,bf,uW,List.all_nil,<-Bool.decide_and];refine And.intro (λq1=>?_) (λq1=>aE.pure hs ?_)
  .refine ae λOE Z4 s4 a5 f5=>?_;have a1:=s4 _ _ a1;have hs:=hs.trans s4;simp only[go_sem,seval,a1,a5,oV,cO,ei,ep,bf,uW,List.all_nil,<-Bool.decide_and];refine aE.pure hs ?_;rw[V.bool.injEq,Sh,Bool.eq_iff_iff];simp only[bf,mx];simp at w;simp[e1,e2,z,w];omega
  .rw[V.bool.injEq,Sh,Bool.eq_iff_iff];simp only[bf,mx];simp[e1,e2,z];omega
 all_goals (repeat' (first
  |with_reducible refine And.intro (λh=>?_) (λh=>?_)
  |with_reducible refine aE.pure hs ?_))
 all_goals (rw[V.bool.injEq,Sh,Bool.eq_iff_iff];simp_all)
def Hg(x:Nd)(hl:x.words.length<=200000000000000):bc prog 68 [ir x] (.bool x.ok):=λU=>by
 by_cases k4:x.kind=4
 .exact EF x hl k4 U
 refine e68.r (by simp[YU]) ?_;refine ab.mix 6 ?_
 (refine ab.bD O12 300 ?_;simp only[go_sem,seval,YU,ir,Nd.cells])
 refine ae λOv Z1 s1 a1 f1=>?_;simp only[go_sem,seval,a1];refine ae λUG Z2 s2 a3 f3=>?_;have P8:=ao a1 f3;have a1:=s2 _ _ a1;have hs:=(s1.trans s2).aG (s1.none f3) (o:=⟨197,2,[.agg [vI 1,vI 1099511627776]]⟩);have hz:(x.kind=1->x.ok=(x.st.ok&&decide (x.line=0)&&decide (x.space=0)&&decide (x.words.length=0)&&decide (x.side=0)&&decide (x.w=0)&&decide (x.h=0))):=λh=>by simp[Nd.ok,h]
 have Ub:x.words.length<=200000000000000:=by omega
 by_cases k1:x.kind=1
 .simp only[go_sem,seval,a1,a3,ad P8,jd,dG,k1,oZ,tB];rw[hz k1]
  repeat' (first
   |with_reducible refine And.intro (λh=>?_) (λh=>?_)
   |with_reducible refine aE.pure hs ?_)
  all_goals (rw[V.bool.injEq,Bool.eq_iff_iff];simp_all)
 .by_cases k2:x.kind=2
  .by_cases e1:x.line=0
   .have hok0:x.ok=false:=by
     by_cases L8:x.st=MT.zero<;>simp[Nd.ok,k2,L8,e1,bf]
    rw[hok0];simp only[go_sem,seval,a1,a3,ad P8,jd,dG,k1,k2,e1,oZ,tB,ak]
    repeat' (first
     |with_reducible refine And.intro (λh=>?_) (λh=>?_)
     |with_reducible refine aE.pure hs rfl
     |(refine ae λOD Z3 s3 a4 f4=>?_
       have a1:=s3 Ov _ (by rw[ad P8];exact a1);have a3:=s3 UG _ ak;simp only[go_sem,seval,a1,a3,a4,oV,cO,ei,ep,bf,uW,List.all_nil,false_and];exact aE.pure (hs.trans s3) rfl))
   .simp only[go_sem,seval,a1,a3,ad P8,jd,dG,k1,k2,e1,oZ,tB,ak];have QB:x.ok=(decide (x.st=MT.zero)&&(x.words.all (bf · 1 mx)&&decide (0<x.words.length)&&bf x.line 1 mx&&bf x.space 0 mx&&decide (x.side=0)&&decide (x.w=0)&&decide (x.h=0))):=by
     by_cases L8:x.st=MT.zero<;>simp[Nd.ok,k2,L8]
    refine And.intro (λz=>?_) (λz=>aE.pure hs (by rw[QB];simp_all));refine And.intro (λw1=>?_) (λw1=>aE.pure hs (by rw[QB];simp[w1]));refine And.intro (λw2=>?_) (λw2=>aE.pure hs (by rw[QB];simp[w2]));refine And.intro (λw3=>?_) (λw3=>aE.pure hs (by rw[QB];simp[w3]));refine ae λOD Z3 s3 a4 f4=>?_;have a1:=s3 Ov _ (by rw[ad P8];exact a1);have a3:=s3 UG _ ak;have hs:=hs.trans s3;simp only[go_sem,seval,a1,a3,a4,oV,cO,ei,ep,mF _ Ub,tB,rL (List.all _ _)];refine And.intro (λq1=>?_) (λq1=>aE.pure hs (by rw[QB];simp[mx]at q1|-;simp[q1]));refine And.intro (λq2=>?_) (λq2=>aE.pure hs (by rw[QB];simp only[mx,q2];simp));refine ae λOE Z4 s4 a5 f5=>?_;have a1:=s4 _ _ a1;have hs:=hs.trans s4;simp only[go_sem,seval,a1,a5,oV,cO,ei,ep,mF _ Ub,tB,dG,rL (List.all _ _)];refine And.intro (λq3=>?_) (λq3=>aE.pure hs (by rw[QB];simp[mx]at q3|-;simp[q3]));refine aE.pure hs ?_;rw[QB];simp only[mx,q1,q2,q3,z,w1,w2,w3];simp
  .have Sh:x.ok=(decide (x.st=MT.zero)&&(decide (x.line=0)&&decide (x.space=0)&&decide (x.words.length=0)&&bf x.w 1 mx&&bf x.h 1 mx&&
    (decide (x.kind=3)&&decide (x.side=0)||decide (x.kind=4)&&bf x.side 1 2))):=by
    by_cases L8:x.st=MT.zero<;>simp[Nd.ok,k1,k2,L8]
   by_cases k3:x.kind=3
   .simp only[go_sem,seval,a1,a3,ad P8,jd,dG,k1,k2,k3,oZ,tB,ak]
    repeat' (first
     |with_reducible refine And.intro (λh=>?_) (λh=>?_)
     |with_reducible refine aE.pure hs ?_
     |(refine ae λOD Z3 s3 a4 f4=>?_
       have a1:=s3 Ov _ (by rw[ad P8];exact a1);have a3:=s3 UG _ ak;simp only[go_sem,seval,a1,a3,a4,oV,cO,ei,ep,bf,uW,List.all_nil,<-Bool.decide_and];refine aE.pure (hs.trans s3) ?_))
    all_goals (rw[V.bool.injEq,Sh,Bool.eq_iff_iff];simp_all [bf,mx]<;>omega)
   .simp only[go_sem,seval,a1,a3,ad P8,jd,dG,k1,k2,k3,k4,oZ,tB,ak]
    repeat' (first
     |with_reducible refine And.intro (λh=>?_) (λh=>?_)
     |with_reducible refine aE.pure hs ?_)
    all_goals (rw[V.bool.injEq,Sh];simp[k3,k4])
open Go.Proofs Go.Proofs.Tryz
def qq(i:Nat):List Int->List Int
 |a::b::s=>if a=i then qq i (b::s)else a::b::s
 |s=>s
def UH:List Nd->Nat->List Int->Bool
 |[],_,_=>true
 |x::r,i,Nw=>match qq i Nw with
  |[]=>false
  |a::s=>if x.ok=true/\1<=x.size/\x.size<=a-i/\(x.kind=1\/x.size<=1)then UH r (i+1) ((i+x.size)::a::s)else false
def P9(n:Nat):Nat->List Int->Prop
 |lo,[]=>lo=n
 |lo,a::s=>(lo:Int)<=a/\P9 n a.toNat s
def j5(l:List Nd):Nat->List Int->Bool
 |_,[]=>true
 |lo,a::s=>cg l lo a.toNat&&j5 l a.toNat s
def Bx(l:List Nd)(a:Nat):cg l a a=true:=by rw[cg,dif_neg (Nat.lt_irrefl a)]
def ry(l:List Nd)(n i:Nat)(hi:i<n):∀Nw,P9 n i Nw->∃a s,qq i Nw=a::s/\(i:Int)<a/\P9 n i (a::s)/\j5 l i (a::s)=j5 l i Nw
 |[],h=>by simp only[P9]at h;omega
 |[a],h=>by
  have h':=h;simp only[P9]at h';exact⟨a,[],rfl,by omega,h,rfl⟩
 |a::b::s,h=>by
  by_cases ha:a=i
  .have h':=h.2;rw[ha,gX]at h';obtain⟨c,t,g1,g2,g3,g4⟩:=ry l n i hi (b::s) h';refine⟨c,t,by simp[qq,ha,g1],g2,g3,?_⟩;rw[g4];show _=(cg l i a.toNat&&j5 l a.toNat (b::s));rw[ha,gX,Bx,Bool.true_and]
  .have h':=h.1;exact⟨a,b::s,by simp[qq,ha],by omega,h,rfl⟩
def AB(l:List Nd):∀(r:List Nd) (i:Nat) (Nw:List Int),l.drop i=r->P9 l.length i Nw->UH r i Nw=(r.all Nd.ok&&j5 l i Nw)
 |[],i,Nw,hr,hs=>by
  have hi:l.length<=i:=by simpa using hr
  have key:∀(Nw:List Int) (lo:Nat),l.length<=lo->P9 l.length lo Nw->j5 l lo Nw=true:=by
   intro Nw
   induction Nw with
   |nil=>intro _ _ _;rfl
   |cons a s ih=>
    intro lo Ok h;have h1:=h.1;simp only[j5];rw[ih a.toNat (by omega) h.2,cg,Bool.and_true];split
    .have:l[lo]?=none:=by simp[Ok]
     rw[this];have UI:∀(Nw:List Int) (lo:Nat),P9 l.length lo Nw->lo<=l.length:=by
      intro Nw
      induction Nw with
      |nil=>intro lo h;simp only[P9]at h;omega
      |cons b t ih=>intro lo h;have:=h.1;have:=ih _ h.2;omega
     have:=UI _ _ h.2;omega
    .rfl
  simp[UH,key Nw i hi hs]
 |x::r,i,Nw,hr,hs=>by
  have hi:i<l.length:=by
   rcases Nat.lt_or_ge i l.length with h|h
   .exact h
   .rw[CZ h]at hr;cases hr
  have hx:l[i]?=some x:=by
   have:(l.drop i)[0]?=some x:=by rw[hr];rfl
   simpa using this
  have hr':l.drop (i+1)=r:=by
   have:(l.drop i).drop 1=r:=by rw[hr];rfl
   simpa using this
  obtain⟨a,s,h1,h2,h3,h4⟩:=ry l l.length i hi Nw hs;rw[UH,h1];simp only;rw[<-h4];simp only[j5,uW];have Mz:cg l i a.toNat=if _hx:1<=x.size/\x.size<=(a.toNat:Int)-i then
   (decide (x.kind=1)||decide (x.size<=1))&&cg l (i+1) (i+x.size.toNat)&&cg l (i+x.size.toNat) a.toNat else false:=by
   rw[cg,dif_pos (by omega),hx]
  rw[Mz];have Ow:(a.toNat:Int)=a:=by omega
  rw[Ow];by_cases hc:1<=x.size/\x.size<=a-i
  .rw[dif_pos hc];have e:(i+x.size).toNat=i+x.size.toNat:=by omega
   have ih:=AB l r (i+1) ((i+x.size)::a::s) hr' ⟨by omega,by rw[e];omega,h3.2⟩;by_cases hk:x.ok=true/\(x.kind=1\/x.size<=1)
   .rw[aI ⟨hk.1,hc.1,hc.2,hk.2⟩,ih];simp only[j5,e,hk.1,Bool.true_and];have:(decide (x.kind=1)||decide (x.size<=1))=true:=by simpa using hk.2
    rw[this,Bool.true_and,Bool.and_assoc]
   .rw[aJ (λh=>hk ⟨h.1,h.2.2.2⟩)];symm;rw[Bool.eq_false_iff];intro h;simp only[Ba,jH,NV]at h;exact hk ⟨h.1.1,h.2.1.1.1⟩
  .rw[dif_neg hc,aJ (λh=>hc ⟨h.2.1,h.2.2.1⟩)];simp
def Fq(l:List Nd):UH l 0 [(l.length:Int)]=Mj l:=by
 rw[AB l l 0 [(l.length:Int)] rfl ⟨by omega,by simp[P9]⟩];simp[j5,Mj]
open Go.Proofs Go.Proofs.Tryz
def o14(f:FuncId)(args:List V):Option V:=if f=68 then(match args with
 |[.agg [.int .i64 a0,.int .i64 a1,.int .i64 a2,.int .i64 a3,.int .i64 a4,.int .i64 a5,.int .i64 a6,.int .i64 a7,.int .i64 a8,.int .i64 a9,.int .i64 LG,.int .i64 Rt,.int .i64 a12,.int .i64 NJ,.int .i64 OV,.int .i64 NK,.sl 1 rows,.int .i64 YX,.int .i64 Pz,.int .i64 a19]]=>
  (fM rows).bind λws=>if ws.length<=200000000000000 then some (.bool (Nd.ok ⟨a0,a1,⟨a2,a3,a4,a5,a6,a7,a8,a9,LG,Rt,a12,NJ⟩,OV,NK,ws,YX,Pz,a19⟩))else none
 |_=>none)else none
def O14:MJ prog where
 get f args _:=o14 f args
 ok f args U v h:=by
  unfold o14 at h;split at h
  .rename_i hf;subst hf;split at h
   .rw[Option.bind_eq_some_iff]at h;obtain⟨ws,h1,h2⟩:=h;split at h2
    .rename_i hw;simp only[aX]at h2;subst h2;rw[kr h1];exact Hg ⟨_,_,⟨_,_,_,_,_,_,_,_,_,_,_,_⟩,_,_,ws,_,_,_⟩ hw U
    .cases h2
   .cases h
  .cases h
def Hf{x:Nd}(hw:x.words.length<=200000000000000)(U:ag):O14.get 68 [.agg [.int .i64 x.kind,.int .i64 x.size,.int .i64 x.st.top,.int .i64 x.st.LM,.int .i64 x.st.LA,.int .i64 x.st.Lt,.int .i64 x.st.Mm,.int .i64 x.st.LZ,.int .i64 x.st.Mg,.int .i64 x.st.head,.int .i64 x.st.before,.int .i64 x.st.after,.int .i64 x.st.inside,.int .i64 x.st.clear,.int .i64 x.line,.int .i64 x.space,bj x.words,.int .i64 x.side,.int .i64 x.w,.int .i64 x.h]] U=
 some (.bool x.ok):=by
 show((fM (x.words.map vI)).bind λws=>if ws.length<=200000000000000 then some (V.bool (Nd.ok ⟨x.kind,x.size,⟨x.st.top,x.st.LM,x.st.LA,x.st.Lt,x.st.Mm,x.st.LZ,x.st.Mg,x.st.head,x.st.before,x.st.after,x.st.inside,x.st.clear⟩,x.line,x.space,ws,x.side,x.w,x.h⟩))else none)=_;rw[sD,Option.bind_some,aI hw]
def DR{rows:List V}{k:Nat}{a:Int}{s:List Int}(hk:k=(a::s).length)(ht:rows.take k=(a::s).reverse.map vI):rows[k-1]?=some (.int .i64 a)/\rows.take (k-1)=s.reverse.map vI:=by
 simp only[MM]at hk;have h1:(rows.take k)[k-1]?=rows[k-1]?:=by rw[List.getElem?_take,aI (by omega)]
 constructor
 .rw[<-h1,ht,hk];simp
 .have h2:rows.take (k-1)=(rows.take k).take (k-1):=by rw[List.take_take];congr 1;omega
  rw[h2,ht,hk];simp
def P9.le{n:Nat}:∀{Nw:List Int} {lo:Nat},P9 n lo Nw->lo<=n
 |[],lo,h=>by simp only[P9]at h;omega
 |a::s,lo,h=>by have h1:=h.1;have h2:=P9.le h.2;omega
def Av(l:List Nd)(hl:dV l):bc prog 36 [aM l] (.bool (Mj l)):=λU=>by
 have Wo:=hl;obtain⟨Vt,UF⟩:=hl;refine e36.r (by simp[c36]) ?_;refine ab.mix 6 ?_;apply sR;simp only[go_sem,seval,aN,aP,c36,eX];intro e0 XD;refine ab.loop (λm st=>∃i Nw e k rows,i<=l.length/\m=l.length-i/\Mj l=UH (l.drop i) i Nw/\P9 l.length i Nw/\Nw≠[]/\Nw.length<=i+1/\aa U st.U/\st.U e=some ⟨3,1,rows⟩/\U e=none/\k=Nw.length/\k<=rows.length/\rows.take k=Nw.reverse.map vI/\
  st.s 3=.own e 0 k/\st.s 9=aM l/\st.s 10=vI l.length/\st.s 11=vI i) l.length ?_ ?_
 .refine⟨0,[(l.length:Int)],e0,1,[vI l.length],by omega,by omega,by rw[<-Fq];rfl,⟨by omega,by simp[P9]⟩,by simp,by simp,(aa.refl U).E' XD,ak,XD,rfl,by simp,rfl,rfl,rfl,rfl,rfl⟩
 .rintro m ⟨s,Z'⟩ ⟨i,Nw,e,k,rows,hi,rfl,hB,hasc,LR,Qw,G',Mz,UC,hk,hkr,Mv,h3,h9,Q1,Po⟩;simp only at G' Mz h3 h9 Q1 Po;refine ab.mix 6 ?_;apply sR;simp only[go_sem,seval,aN,aP,h3,h9,Q1,Po];refine And.intro (λLr=>?_) (λPv=>?_)
  .have M5:i<l.length:=by simp at Lr;omega
   have hd:l.drop i=l[i]::l.drop (i+1):=iY M5;have hxw:l[i].words.length<=200000000000000:=UF _ (ML M5);rw[hd]at hB;generalize SB:l[i]=x at*;simp only[go_sem,seval,aN,aP,lI M5,SB,tv,h3,h9,Q1,Po,Nd.cells];intro OE OU;replace OU:Z' OE=none:=OU;have n5e:e≠OE:=by rintro rfl;rw[Mz]at OU;cases OU
   have n5n:U OE=none:=G'.none OU;refine ab.loop (λm st=>∃QC k',m=QC.length/\qq i Nw=qq i QC/\P9 l.length i QC/\QC≠[]/\QC.length<=Nw.length/\st.U=E' Z' OE ⟨51,20,[.agg x.cells]⟩/\k'=QC.length/\k'<=rows.length/\rows.take k'=QC.reverse.map vI/\
    st.s 3=.own e 0 k'/\st.s 4=vI i/\st.s 5=.ptr OE 0 0/\st.s 9=aM l/\st.s 10=vI l.length/\st.s 11=vI i) Nw.length ?_ ?_
   .exact⟨Nw,k,rfl,rfl,hasc,LR,Md _,rfl,hk,hkr,Mv,h3,rfl,rfl,h9,Q1,Po⟩
   .rintro m ⟨s,Z''⟩ ⟨QC,k',rfl,YY,Vu,UJ,Wp,L6,MD,YZ,Za,h3,h4,h5,h9,Q1,Po⟩;simp only at L6 h3 h4 h5 h9 Q1 Po;subst L6;obtain⟨a,tl,rfl⟩:=List.exists_cons_of_ne_nil UJ;obtain⟨htop,UK⟩:=DR MD Za;have hkpos:1<=k':=by rw[MD];simp
    have g0:(k':Int)-1<k':=by omega
    have g1:(0:Int)<=(k':Int)-1:=by omega
    have g2:(k':Int)-1<=k':=by omega
    have g3:((k':Int)-1).toNat=k'-1:=by omega
    have Wq:LP .i64 ((k':Int)-1):=au;refine ab.mix 6 ?_
    (refine ab.bD O14 300 ?_;simp only[go_sem,seval,aN,aP,h3,h4,h5,h9,Q1,Po,ad n5e,Mz,g0,g1,g2,g3,Int.le_refl,Int.toNat_zero,Nat.sub_zero,htop,tB,Nd.cells,Hf hxw,rL (Nd.ok x)])
    refine And.intro (λh1=>⟨Wq,And.intro (λh2=>?_) (λh2=>?_)⟩) (λh1=>?_)
    .obtain⟨b,Vv,rfl⟩:∃b Vv,tl=b::Vv:=by
      cases tl with
      |nil=>simp at MD;omega
      |cons b Vv=>exact⟨b,Vv,rfl⟩
     have hp2:qq i (a::b::Vv)=qq i (b::Vv):=by simp[qq,h2]
     have ha2:=Vu.2;rw[h2,gX]at ha2;refine⟨Wq,_,?_,b::Vv,k'-1,rfl,by rw[YY,hp2],ha2,by simp,?_,?_,by omega,UK,rfl⟩
     .simp
     .simp only[MM]at Wp|-;omega
     .simp only[MM]at MD|-;omega
    all_goals
     have Wr:qq i (a::tl)=a::tl:=by
      cases tl with
      |nil=>rfl
      |cons b Vv=>
       have:a≠i:=by first
        |simpa using h2
        |(exfalso;simp at MD h1;omega)
       simp[qq,this]
     obtain⟨c,t,p1,p2,p3,p4⟩:=ry l l.length i M5 (a::tl) Vu;rw[Wr,List.cons.injEq]at p1;obtain⟨rfl,rfl⟩:=p1;have XE:Mj l=if x.ok=true/\1<=x.size/\x.size<=a-i/\(x.kind=1\/x.size<=1)then UH (l.drop (i+1)) (i+1) ((i+x.size)::a::tl)else false:=by
      rw[hB,UH,YY,Wr]
     have hale:=P9.le p3.2;have Vw:(rows.take k').length=k':=by simp;omega
     have hstk:k'<=i+1:=by rw[MD];omega
     have Zb:x.ok=true/\1<=x.size/\x.size<=a-i/\(x.kind=1\/x.size<=1)->∀(X Y:Ob) (id Ov:Nat),E' Z' OE X id=none->E' (E' Z' OE X) id Y Ov=none->
      Mj l=UH (l.drop (i+1)) (i+1) ((i+x.size)::a::tl)/\P9 l.length (i+1) ((i+x.size)::a::tl)/\aa U (E' (del (E' (E' Z' OE X) id Y) e) Ov ⟨3,1,rows.take k'++[.int .i64 (i+x.size)]⟩)/\U Ov=none/\
      (rows.take k'++[V.int .i64 (i+x.size)]).take (k'+1)=((i+x.size)::a::tl).reverse.map vI:=by
      intro hc X Y id Ov Ls Pa;rw[fB]at Ls;rw[fB,fB]at Pa;rw[aI hc]at XE;refine⟨XE,⟨by omega,?_,p3.2⟩,?_,G'.none Pa.2.2,?_⟩
      .have:(i+x.size).toNat=i+x.size.toNat:=by omega
       omega
      .exact aa.aG (aa.Ci ((G'.aG n5n).aG (G'.none Ls.2)) UC) (G'.none Pa.2.2)
      .rw[pj (by simp;omega),Za];simp
     refine And.intro (λq1=>And.intro (λq2=>⟨Wq,au,And.intro (λq3=>And.intro (λq4=>And.intro (λq5=>?_) (λq5=>?_)) (λq4=>?_)) (λq3=>?_)⟩) (λq2=>?_)) (λq1=>?_)
     .refine aE.pure (G'.E' OU) ?_;rw[XE,aJ];rintro⟨c1,c2,c3,c4⟩;omega
     .refine⟨au,?_⟩;intro id Ls;have Rl:=(fB.1 Ls).2;have nie:e≠id:=by rintro rfl;rw[Mz]at Rl;cases Rl
      have RW:∀U,U e=some ⟨3,1,rows⟩->de U 3 1 (.own e 0 k')=some (rows.take k',some e):=by
       intro U L6;simp only[de,L6];rw[aI ⟨trivial,trivial,trivial,YZ⟩]
      have NI:∀U,U id=some ⟨3,1,[.int .i64 (i+x.size)]⟩->cC U 1 (.own id 0 1)=some [.int .i64 (i+x.size)]:=by
       intro U L6;simp only[cC,L6];rw[aI (by simp)];simp
      have hb:(k'+1)*9<=140737488355328:=by omega
      simp only[go_sem,seval,aN,aP,RW,NI,ad n5e,ad nie,Mz,Vw,hb,bT,h3,h4,h5,h9,Q1,Po];intro Ov Pa;obtain⟨z1,z2,z3,z4,z5⟩:=Zb ⟨by simpa using q1,by omega,by omega,by first|(left;simpa using q4)|(right;simp at q5;omega)⟩ _ _ id Ov Ls Pa
      refine⟨au,_,?_,i+1,_,Ov,k'+1,_,by omega,rfl,z1,z2,by simp,?_,z3,ak,z4,?_,?_,z5,rfl,?_⟩
      .omega
      .simp only[MM]at MD Wp|-;omega
      .simp only[MM]at MD|-;omega
      .simp;omega
      .simp
     .refine⟨au,?_⟩;intro id Ls;have Rl:=(fB.1 Ls).2;have nie:e≠id:=by rintro rfl;rw[Mz]at Rl;cases Rl
      have RW:∀U,U e=some ⟨3,1,rows⟩->de U 3 1 (.own e 0 k')=some (rows.take k',some e):=by
       intro U L6;simp only[de,L6];rw[aI ⟨trivial,trivial,trivial,YZ⟩]
      have NI:∀U,U id=some ⟨3,1,[.int .i64 (i+x.size)]⟩->cC U 1 (.own id 0 1)=some [.int .i64 (i+x.size)]:=by
       intro U L6;simp only[cC,L6];rw[aI (by simp)];simp
      have hb:(k'+1)*9<=140737488355328:=by omega
      simp only[go_sem,seval,aN,aP,RW,NI,ad n5e,ad nie,Mz,Vw,hb,bT,h3,h4,h5,h9,Q1,Po];intro Ov Pa;obtain⟨z1,z2,z3,z4,z5⟩:=Zb ⟨by simpa using q1,by omega,by omega,by first|(left;simpa using q4)|(right;simp at q5;omega)⟩ _ _ id Ov Ls Pa
      refine⟨au,_,?_,i+1,_,Ov,k'+1,_,by omega,rfl,z1,z2,by simp,?_,z3,ak,z4,?_,?_,z5,rfl,?_⟩
      .omega
      .simp only[MM]at MD Wp|-;omega
      .simp only[MM]at MD|-;omega
      .simp;omega
      .simp
     .refine aE.pure (G'.E' OU) ?_;rw[XE,aJ];rintro⟨c1,c2,c3,c4⟩;omega
     .refine aE.pure (G'.E' OU) ?_;rw[XE,aJ];rintro⟨c1,c2,c3,c4⟩;omega
     .refine aE.pure (G'.E' OU) ?_;rw[XE,aJ];rintro⟨c1,c2,c3,c4⟩;exact q1 (by simp[c1])
  .have SA:i=l.length:=by simp at Pv;omega
   refine aE.pure G' ?_;rw[hB,SA,uN];rfl
open Go.Proofs Go.Proofs.Tryz
def kG(times n:Int):Int:=if n=0\/times<=1099511627776/n then n*times else 1099511627777
def lO(times h:Int):List Int->Int
 |[]=>h
 |n::l=>lO times (min (h+kG times n) 1099511627777) l
def eS(i:Nat)(x:Nd)(s:Sm)(ends:List Int):Sm×List Int:=
 let ends:=ends.filter λn=>!decide (n<=(i:Int))
 if x.kind=1 then
  let ends:=ends++[i+x.size]
  (⟨max s.depth ends.length,s.pieces,s.nodes+1,lO 1 s.H' [x.st.top,x.st.LM,x.st.LA,x.st.Lt,x.st.head]⟩,ends)
 else if x.kind=2 then(⟨s.depth,s.pieces+x.words.length,s.nodes+1,lO x.words.length s.H' [x.line]⟩,ends)
 else(⟨s.depth,s.pieces+1,s.nodes+1,lO 1 s.H' [x.h]⟩,ends)
def gP(l:List Nd):Nat->Sm×List Int
 |0=>(⟨0,0,0,0⟩,[])
 |i+1=>match l[i]? with
  |some x=>eS i x (gP l i).1 (gP l i).2
  |none=>gP l i
def wG{times n:Int}(h0:0<=n)(h1:n<=mx)(t0:0<=times)(a:Int)(ha:0<=a):min (a+kG times n) 1099511627777=min (a+n*times) 1099511627777:=by
 unfold kG;split
 .rfl
 .rename_i h;have hn:0<n:=by omega
  have hq:1099511627776/n<times:=by omega
  have h2:1099511627776<n*times:=by
   have:=Int.ediv_lt_iff_lt_mul (a:=1099511627776) (b:=times) hn;have h3:=this.1 hq;rw[Int.mul_comm];exact h3
  omega
def qy{a b:Int}(h1:0<=a/\a<=1099511627777)(h2:0<=b):∀n:Nat,zc a b n=min (a+b*n) 1099511627777
 |0=>by simp[zc];omega
 |n+1=>by
  rw[zc,qy h1 h2 n,jA];have e:b*((n+1:Nat):Int)=b*n+b:=by rw[Int.natCast_add,Int.mul_add];simp
  rw[e];have:0<=b*(n:Int):=Int.mul_nonneg h2 (by omega);generalize b*(n:Int)=q at*;omega
def ke{h n:Int}(h1:0<=h)(n0:0<=n)(n1:n<=mx):min (h+kG 1 n) 1099511627777=jA h n:=by
 rw[wG n0 n1 (by omega) h h1,Int.mul_one];rfl
def jz(l:List Nd)(i:Nat):Nat->List Int
 |0=>[]
 |k+1=>jz l i k++(match l[k]? with
  |some y=>if y.kind=1/\(i:Int)<k+y.size then[(k:Int)+y.size]else[]
  |none=>[])
def mD(l:List Nd)(i:Nat):∀k,((jz l i k).length:Int)=iB l i k
 |0=>rfl
 |k+1=>by
  simp only[jz,iB,kf,Int.natCast_add,mD l i k];cases l[k]? with
  |none=>simp
  |some y=>simp only[];split<;>simp
def mS(l:List Nd)(i:Nat):∀k,(jz l i k).filter (λn=>!decide (n<=((i+1:Nat):Int)))=jz l (i+1) k
 |0=>rfl
 |k+1=>by
  simp only[jz,List.filter_append,mS l i k];congr 1;split
  .rename_i y _;by_cases hk:y.kind=1
   .by_cases h1:((i+1:Nat):Int)<k+y.size
    .rw[aI ⟨hk,by omega⟩,aI ⟨hk,h1⟩];have:¬((k:Int)+y.size<=((i+1:Nat):Int)):=by omega
     simp only[List.filter_cons,this,decide_false,Bool.not_false,if_true,List.filter_nil]
    .rw[aJ (show¬(y.kind=1/\((i+1:Nat):Int)<k+y.size)from λh=>h1 h.2)];split
     .have:(k:Int)+y.size<=((i+1:Nat):Int):=by omega
      simp only[List.filter_cons,this,decide_true,Bool.not_true,iG,if_false,List.filter_nil]
     .rfl
   .rw[aJ (λh=>hk h.1),aJ (λh=>hk h.1)];rfl
  .rfl
def l6(l:List Nd)(hl:dV l)(hb:Mj l=true):∀i,i<=l.length->(gP l i).1={ gq l ⟨0,0,l.length,0⟩ i with nodes:=i }/\(gP l i).2=(match i with
 |0=>[]
 |j+1=>jz l j (j+1))/\(gq l ⟨0,0,l.length,0⟩ i).tc i/\(gq l ⟨0,0,l.length,0⟩ i).nodes=l.length
 |0,_=>⟨rfl,rfl,by simp[gq,Sm.tc],rfl⟩
 |i+1,hi=>by
  obtain⟨h1,h2,h3,h4⟩:=l6 l hl hb i (by omega);have LS:l.all Nd.ok=true/\cg l 0 l.length=true:=by simpa[Mj]using hb
  have hx:=(fa.1 LS.1) _ (ML (show i<l.length by omega));have hg:l[i]?=some l[i]:=by simp[show i<l.length by omega]
  obtain⟨z1,z2,z3⟩:=gZ l (l.length+1) 0 l.length (by omega) (by omega) LS.2 i (by omega) (by omega) (by omega);have hw:=hl.2 _ (ML (show i<l.length by omega));have Tg:=A2 (l:=l) hx hw h3;generalize SB:l[i]=x at*;obtain⟨p1,p2,p3,p4,p5,p6⟩:=jw hx;have hS:gP l (i+1)=eS i x (gP l i).1 (gP l i).2:=by simp only[gP,hg]
  have hR:gq l ⟨0,0,l.length,0⟩ (i+1)=nD l i x (gq l ⟨0,0,l.length,0⟩ i):=by simp only[gq,hg]
  have hf:(gP l i).2.filter (λn=>!decide (n<=(i:Int)))=jz l i i:=by
   rw[h2];cases i with
   |zero=>rfl
   |succ j=>exact mS l j (j+1)
  rw[hS,hR,h1];generalize hsm:gq l ⟨0,0,l.length,0⟩ i=sm at*;obtain⟨f1,f2,f3⟩:=h3;have QD:jz l i (i+1)=jz l i i++(if x.kind=1 then[(i:Int)+x.size]else[]):=by
   simp only[jz,hg];by_cases hk:x.kind=1
   .rw[aI ⟨hk,by omega⟩,aI hk]
   .rw[aJ (λh=>hk h.1),aJ hk]
  refine⟨?_,?_,by rw[Int.natCast_add];exact Tg,?_⟩
  .by_cases hk:x.kind=1
   .obtain⟨q1,q2,q3,q4,q5⟩:=p6 hk;have r1:=fD f3 q1.1;have r2:=fD r1 q2.1;have r3:=fD r2 q3.1;have r4:=fD r3 q4.1;have hlen:=mD l i (i+1);rw[QD,aI hk]at hlen;simp only[eS,nD,aI hk,hf,lO,Sm.mk.injEq];refine⟨?_,trivial,by simp,?_⟩
    .rw[hlen]
    .rw[ke f3.1 q1.1 q1.2,ke r1.1 q2.1 q2.2,ke r2.1 q3.1 q3.2,ke r3.1 q4.1 q4.2,ke r4.1 q5.1 q5.2]
   .by_cases N2:x.kind=2
    .simp only[eS,nD,aJ hk,aI N2,lO,Sm.mk.injEq];refine⟨trivial,trivial,by simp,?_⟩;rw[wG p2 p3 (by omega) _ f3.1,qy f3 p2]
    .simp only[eS,nD,aJ hk,aJ N2,lO,Sm.mk.injEq];exact⟨trivial,trivial,by simp,ke f3.1 p4 p5⟩
  .by_cases hk:x.kind=1
   .simp only[eS,aI hk,hf,QD]
   .by_cases N2:x.kind=2
    .simp only[eS,aJ hk,aI N2,hf,QD,kC]
    .simp only[eS,aJ hk,aJ N2,hf,QD,kC]
  .rw[<-h4];unfold nD;split
   .rfl
   .split<;>rfl
def uQ(l:List Nd):Sm×Int:=if Mj l then((gP l l.length).1,0)else(⟨0,0,0,0⟩,4)
def Bh(l:List Nd)(hl:dV l):uQ l=ej l:=by
 unfold uQ ej;by_cases hb:Mj l=true
 .obtain⟨h1,_,_,h4⟩:=l6 l hl hb l.length (Md _);rw[aI hb,aI hb,h1];generalize gq l ⟨0,0,l.length,0⟩ l.length=sm at*;cases sm;simp_all
 .rw[aJ hb,aJ hb]
open Go.Proofs Go.Proofs.Tryz
def zl{U:ag}{c:Nat}{i:Int}(h:U c=some ⟨3,1,[vI i]⟩)(n:Int):aA prog 70 [vI n,.ptr c 0 0] U λr Z'=>r=.bool (decide (n<=i))/\Z'=U:=by
 refine e70.r (by simp[c70]) ?_;apply sR;simp only[go_sem,seval,aN,aP,c70,h];exact aE.same rfl
abbrev kept(i:Int)(l:List Int):List Int:=l.filter λn=>!decide (n<=i)
def p7{p:Int->Bool}:∀{l:List Int},cM p l<0->l.filter (λn=>!p n)=l
 |[],_=>rfl
 |x::l,h=>by
  simp only[cM]at h;split at h
  .omega
  .rename_i hp;have XF:p x=false:=by simpa using hp
   split at h
   .rename_i h2;simp only[List.filter_cons,XF,Bool.not_false,if_true,p7 h2]
   .have:=ix p l;omega
def pW{p:Int->Bool}:∀{l:List Int},¬cM p l<0->(cM p l).toNat<l.length/\(l.take (cM p l).toNat).filter (λn=>!p n)=l.take (cM p l).toNat/\
 ∀x,l[(cM p l).toNat]?=some x->p x=true
 |[],h=>by simp[cM]at h
 |x::l,h=>by
  simp only[cM]at h|-;split
  .rename_i hp;refine⟨by simp,by simp,?_⟩;intro y hy;simp at hy;subst hy;exact hp
  .rename_i hp;rw[aJ hp]at h;have XF:p x=false:=by simpa using hp
   split
   .rename_i h2;rw[aI h2]at h;omega
   .rename_i h2;obtain⟨g1,g2,g3⟩:=pW h2;have:=ix p l;have e:(cM p l+1).toNat=(cM p l).toNat+1:=by omega
    rw[e];refine⟨by simp;omega,?_,?_⟩
    .simp only[xF,List.filter_cons,XF,Bool.not_false,if_true,g2]
    .simpa using g3
def DB{U:ag}{e c k:Nat}{i:Int}{full:List Int}(he:U e=some ⟨3,1,full.map vI⟩)(hc:U c=some ⟨3,1,[vI i]⟩)(LR:c≠e)(hk:k<=full.length)(XG:full.length<=1000000000000):
 aA prog 69 [.own e 0 k,.fn 70 [.ptr c 0 0]] U λr Z'=>∃(k':Nat) (PS:List Int),r=.own e 0 k'/\Z'=E' U e ⟨3,1,PS.map vI⟩/\k'<=PS.length/\PS.length<=full.length/\PS.take k'=kept i (full.take k):=by
 have hlk:(full.take k).length=k:=by simp;omega
 have hr:Reads U 1 false (.own e 0 k) ((full.take k).map vI):=by
  have:=Reads.own (U:=U) (off:=0) (len:=k) he rfl (by simpa using hk) (λr hr=>by simp only[gO]at hr;obtain⟨n,_,rfl⟩:=hr;rfl);simpa using this
 refine e69.r (by simp[YV]) ?_;refine ab.mix 8 ?_;apply sR;simp only[go_sem,seval,aN,aP,YV];refine ab.aC rfl rfl rfl (l9 (p:=λn=>decide (n<=i)) hr (by omega) (λn _=>zl hc n)) ?_;generalize hw:cM (λn=>decide (n<=i)) (full.take k)=w;have hwg:-1<=w:=by rw[<-hw];exact ix _ _
 apply sR;simp only[go_sem,seval,aN,aP];have Na:E' U e ⟨3,1,full.map vI⟩=U:=by
  funext j;simp only[E'];split
  .rename_i e';rw[e',he]
  .rfl
 refine And.intro (λhm=>?_) (λhm=>?_)
 .refine⟨_,U,aa.refl U,Wk.refl (aa.refl U) _,k,full,rfl,Na.symm,hk,Md _,?_⟩;exact(p7 (by rw[hw];omega)).symm
 .have hw0:¬cM (λn=>decide (n<=i)) (full.take k)<0:=by rw[hw];omega
  obtain⟨g1,g2,g3⟩:=pW hw0;rw[hw]at g1 g2 g3;rw[hlk]at g1;refine⟨au,?_⟩;refine ab.loop (λm st=>∃(u j:Nat) (cur:List Int),u<j/\j<=k/\m=k-j/\cur.length=full.length/\cur.take u=kept i (full.take j)/\(∀q,j<=q->cur[q]?=full[q]?)/\st.U=E' U e ⟨3,1,cur.map vI⟩/\
   st.s 0=.own e 0 k/\st.s 1=.fn 70 [.ptr c 0 0]/\st.s 5=vI u/\st.s 6=vI j) (k-(w.toNat+1)) ?_ ?_
  .have hw1:w=((w.toNat:Nat):Int):=by omega
   refine⟨w.toNat,w.toNat+1,full,by omega,by omega,rfl,rfl,?_,λ_ _=>rfl,Na.symm,rfl,rfl,?_,?_⟩
   .have hx:(full.take k)[w.toNat]?=some (full[w.toNat]'(by omega)):=by rw[List.getElem?_take,aI g1,Oy]
    have hp:=g3 _ hx;have e1:(full.take k).take w.toNat=full.take w.toNat:=by rw[List.take_take];congr 1;omega
    rw[e1]at g2;rw[Ph (by omega)];have g2':kept i (full.take w.toNat)=full.take w.toNat:=g2;simp only[kept,List.filter_append]at g2'|-;rw[g2'];simp[hp]
   .show vI w=_;rw[<-hw1]
   .show vI (w+1)=_;rw[Int.natCast_add,<-hw1];rfl
  .rintro m ⟨s,Z'⟩ ⟨u,j,cur,huj,SW,rfl,Mt,hct,Wb,L6,h0,h1,h5,h6⟩;simp only at L6 h0 h1 h5 h6;subst L6;refine ab.mix 8 ?_;apply sR;simp only[go_sem,seval,aN,aP,h0,h1,h5,h6];refine And.intro (λLr=>?_) (λPv=>?_)
   .have M5:j<k:=by omega
    have hjc:j<cur.length:=by omega
    have Nr:cur[j]?=some cur[j]:=by simp[hjc]
    have Pv:(cur.map vI)[j]?=some (vI cur[j]):=by simp[hjc]
    have b1:(0:Int)<=j:=by omega
    have b2:(j:Int)<k:=by omega
    have b3:(0:Int)<=u:=by omega
    have b4:(u:Int)<k:=by omega
    simp only[go_sem,seval,aN,aP,h0,h1,h5,h6,b1,b2,Pv,gX];refine ab.aC rfl rfl rfl (zl (i:=i) (by rw[ad LR];exact hc) cur[j]) ?_;have hgu:(cur.map vI)[u]?=some (vI (cur[u]'(by omega))):=by simp[show u<cur.length by omega]
    apply sR;simp only[go_sem,seval,aN,aP,h0,h1,h5,h6,b1,b2,b3,b4,Pv,hgu,gX];have hfj:full[j]?=some cur[j]:=by rw[<-Wb j (Md _)];exact Nr
    have htj:full.take (j+1)=full.take j++[cur[j]]:=by
     have hjf:j<full.length:=by omega
     rw[Ph hjf];congr 2;rw[Oy hjf]at hfj;simpa using hfj
    refine And.intro (λhd=>?_) (λhd=>?_)
    .refine⟨au,au,_,?_,u+1,j+1,cur.set u cur[j],by omega,by omega,rfl,by simpa using Mt,?_,?_,?_,?_,?_⟩
     .omega
     .rw[htj];have hul:u<cur.length:=by omega
      have:(cur.set u cur[j]).take (u+1)=cur.take u++[cur[j]]:=by
       rw[Ph (by simpa using hul),List.take_set,List.set_eq_of_length_le (by simp;omega)];simp
      rw[this,hct];simp only[kept,List.filter_append];congr 1;have Vo:¬cur[j]<=i:=by simpa using hd
      simp[Vo]
     .intro q hq;rw[List.getElem?_set_ne (by omega)];exact Wb q (by omega)
     .simp
     .simp
     .simp
    .refine⟨au,_,?_,u,j+1,cur,by omega,by omega,rfl,Mt,?_,λq hq=>Wb q (by omega),rfl,?_⟩
     .omega
     .rw[htj,hct];simp only[kept,List.filter_append];have Vo:cur[j]<=i:=by simpa using hd
      simp[Vo]
     .simp
   .have hjk':j=k:=by omega
    subst hjk';have b3:(0:Int)<=u:=by omega
    have b4:(u:Int)<=j:=by omega
    simp only[go_sem,seval,aN,aP,h0,h1,h5,h6,b3,b4,Int.le_refl,gX,ky];refine ab.clear (id:=e) (off:=u) (len:=j-u) (ob:=⟨3,1,cur.map vI⟩) rfl rfl rfl ak rfl (by simp;omega) ?_;apply sR;simp only[go_sem,seval,aN,aP,h0,h1,h5,h6,b3,b4,Int.le_refl,gX,ky,Nat.sub_zero];refine⟨_,_,aa.refl _,Wk.refl (aa.refl _) _,u,cur.take u++List.replicate (j-u) 0++cur.drop (u+(j-u)),by simp,?_,?_,?_,?_⟩
    .simp[List.map_take,List.map_drop]
    .simp;omega
    .simp;omega
    .rw[lU,Jy (by simp;omega),List.take_take,Nat.min_self,hct]
open Go.Proofs Go.Proofs.Tryz
def Reads.bz(U:ag):Reads U 1 false .bz []:=⟨rfl,λi v h=>by simp at h⟩
def zf{U:ag}{c:Nat}{i:Int}(hc:U c=some ⟨3,1,[vI i]⟩):aA prog 69 [.bz,.fn 70 [.ptr c 0 0]] U λr Z'=>r=.bz/\Z'=U:=by
 refine e69.r (by simp[YV]) ?_;refine ab.mix 8 ?_;apply sR;simp only[go_sem,seval,aN,aP,YV];refine ab.aC rfl rfl rfl (l9 (l:=[]) (p:=λn=>decide (n<=i)) (Reads.bz U) (by simp) (λn _=>zl hc n)) ?_;apply sR;simp only[go_sem,seval,aN,aP,cM];exact aE.same rfl
def Cx{times n:Int}(h0:0<=n)(t0:0<=times):0<=kG times n/\kG times n<=1099511627777:=by
 unfold kG;split
 .rename_i h;refine⟨Int.mul_nonneg h0 t0,?_⟩;rcases h with h|h
  .subst h;simp
  .by_cases hn:n=0
   .subst hn;simp
   .have:=Int.mul_le_of_le_ediv (by omega:0<n) h;rw[Int.mul_comm];omega
 .omega
def cQ(s:Sm)(ends:V):Ob:=⟨102,5,[.agg [vI s.depth,vI s.pieces,vI s.nodes,vI s.H',ends]]⟩
def o6{U:ag}{c:Nat}{s:Sm}{ends sv:V}{times:Int}{l:List Int}(hc:U c=some (cQ s ends))(hr:∀ob,Reads (E' U c ob) 1 false sv (l.map vI))(hl:l.length<=200000000000000)
 (hn:∀n∈l,0<=n/\n<=mx)(ht:0<=times/\times<=200000000000000)(hh:0<=s.H'/\s.H'<=1099511627777)(QD:ends.cells=[ends]):
 aA prog 71 [.ptr c 0 0,vI times,sv] U λr Z'=>r=.LI []/\Z'=E' U c (cQ { s with H':=lO times s.H' l } ends):=by
 have hlen:eK false sv=some (vI (l.length:Int)):=by simpa using(hr ⟨0,0,[]⟩).1
 have Na:E' U c (cQ s ends)=U:=by
  funext j;simp only[E'];split
  .rename_i e';rw[e',hc]
  .rfl
 refine e71.r (by simp[c71]) ?_;refine ab.mix 9 ?_;apply sR;simp only[go_sem,seval,aN,aP,c71,hlen];refine ab.loop (λm st=>∃(i:Nat) (h:Int),i<=l.length/\m=l.length-i/\lO times s.H' l=lO times h (l.drop i)/\(0<=h/\h<=1099511627777)/\st.U=E' U c (cQ { s with H':=h } ends)/\
  st.s 0=.ptr c 0 0/\st.s 1=vI times/\st.s 9=sv/\st.s 10=vI l.length/\st.s 11=vI i) l.length ?_ ?_
 .exact⟨0,s.H',by omega,by omega,rfl,hh,Na.symm,rfl,rfl,rfl,rfl,rfl⟩
 .rintro m ⟨s',Z'⟩ ⟨i,h,hi,rfl,hp,hhh,L6,h0,h1,h9,Q1,Po⟩;simp only at h0 h1 h9 Q1 Po L6;subst L6;refine ab.mix 9 ?_;apply sR;simp only[go_sem,seval,aN,aP,h0,h1,h9,Q1,Po];refine And.intro (λLr=>?_) (λPv=>?_)
  .have M5:i<l.length:=by omega
   have hd:l.drop i=l[i]::l.drop (i+1):=iY M5;obtain⟨pp,e1,e2⟩:=(hr (cQ { s with H':=h } ends)).2 i (vI l[i]) (by simp[M5]);have Ym:=hn _ (ML M5);rw[hd,lO]at hp;generalize LR:l[i]=n at*;have jm:=Cx (n:=n) Ym.1 ht.1;simp only[cQ]at e1 e2;simp only[mx]at Ym;have hq:(1099511627776:Int).tdiv n=1099511627776/n:=Int.tdiv_eq_ediv_of_nonneg (by omega);by_cases hz:n=0
   .have OM:kG times n=n*times:=by unfold kG;rw[aI (.inl hz)]
    rw[OM]at hp jm;simp only[go_sem,seval,aN,aP,e1,e2,cQ,hz,h0,h1,h9,Q1,Po];rw[hz]at hp jm;simp only[Int.zero_mul,Int.add_zero]at hp|-;refine⟨au,au,au,_,?_,i+1,h,by omega,rfl,?_,hhh,?_,by simp⟩
    .omega
    .rw[hp,Int.min_eq_left hhh.2]
    .rw[aJ (by omega)]
   .simp only[go_sem,seval,aN,aP,e1,e2,cQ,hz,h0,h1,h9,Q1,Po,hq];have hdiv:0<=1099511627776/n/\1099511627776/n<=1099511627776:=⟨Int.ediv_nonneg (by omega) Ym.1,Int.ediv_le_self _ (by omega)⟩
    refine⟨au,λhle=>?_,λhgt=>?_⟩
    .have OM:kG times n=n*times:=by unfold kG;rw[aI (.inr hle)]
     rw[OM]at hp jm;refine⟨au,au,au,_,?_,i+1,min (h+n*times) 1099511627777,by omega,rfl,hp,by omega,?_,by simp⟩
     .omega
     .rw[show(if 1099511627777<h+n*times then 1099511627777 else h+n*times)=min (h+n*times) 1099511627777 by split<;>omega]
    .have OM:kG times n=1099511627777:=by unfold kG;rw[aJ (by omega)]
     rw[OM]at hp jm;refine⟨au,au,_,?_,i+1,min (h+1099511627777) 1099511627777,by omega,rfl,hp,by omega,?_,by simp⟩
     .omega
     .rw[show(if 1099511627777<h+1099511627777 then 1099511627777 else h+1099511627777)=min (h+1099511627777) 1099511627777 by split<;>omega]
  .have:i=l.length:=by omega
   refine⟨_,_,aa.refl _,Wk.refl (aa.refl _) _,rfl,?_⟩;rw[hp,this,uN];rfl
open Go.Proofs Go.Proofs.Tryz
def CE{P:Program}{n:Nat}{Q:St->Prop}{k:List It}{O:MJ P}{f:Nat}{d:Option Nat}{l:List aK}{v:Nat->V}{ob:Ob}{s:Nat->V}{U:ag}{e:Nat}
 (h:∀id Z',aa (del U e) Z'->Z' id=some ob->U id=none->step P O n f (.d l k) ⟨aU s d (v id),Z'⟩ Q):
 Dy P O n f l k d ⟨s,U⟩ Q (some λid=>(v id,Vc.E' (del U e) id ob)):=by
 rw[aP];refine λid Ls=>h id _ ((aa.refl _).E' ?_) ak Ls;by_cases e':id=e
 .simp[del,e']
 .rw[eT e'];exact Ls
def ln(K U:ag)(v:V)(ends:List Int)(B:Nat):Prop:=
 (v=.bz/\ends=[])\/∃(e k:Nat) (full:List Int),v=.own e 0 k/\U e=some ⟨3,1,full.map vI⟩/\K e=none/\k<=full.length/\full.length<=B/\full.take k=ends
def Ju{K U:ag}{v:V}{ends:List Int}{B c:Nat}{i:Int}(hB:B<=1000000000000)(h:ln K U v ends B)(hK:aa K U)(hc:K c=some ⟨3,1,[vI i]⟩):
 aA prog 69 [v,.fn 70 [.ptr c 0 0]] U λr Z'=>aa K Z'/\ln K Z' r (kept i ends) B:=by
 rcases h with⟨rfl,rfl⟩|⟨e,k,full,rfl,h1,h2,h3,h4,rfl⟩
 .refine(zf (hK _ _ hc)).mono ?_;rintro r Z' ⟨rfl,rfl⟩;exact⟨hK,.inl ⟨rfl,rfl⟩⟩
 .have LR:c≠e:=by rintro rfl;rw[h2]at hc;cases hc
  refine(DB h1 (hK _ _ hc) LR h3 (by omega)).mono ?_;rintro r Z' ⟨k',PS,rfl,rfl,g1,g2,g3⟩;exact⟨hK.aG h2,.inr ⟨e,k',PS,rfl,ak,h2,g1,by omega,g3⟩⟩
def aa.D4{K U:ag}{i:Nat}{o:Ob}(h:aa K U)(hi:U i=some o):aa (Vc.E' K i o) U:=λj x hx=>by
 by_cases e:j=i
 .subst e;rw[ak]at hx;rw[hi];exact hx
 .rw[ad e]at hx;exact h j x hx
def ln.new{K U Z':ag}{v:V}{ends:List Int}{B id:Nat}{o:Ob}(h:ln K U v ends B)(hs:aa U Z')(Ls:U id=none):ln (E' K id o) Z' v ends B:=by
 rcases h with h|⟨e,k,full,h0,h1,h2,h3⟩
 .exact .inl h
 .exact .inr ⟨e,k,full,h0,hs _ _ h1,by rw[ad (ao h1 Ls)];exact h2,h3⟩
def ln.less{K K' U:ag}{v:V}{ends:List Int}{B:Nat}(h:ln K' U v ends B)(hs:aa K K'):ln K U v ends B:=by
 rcases h with h|⟨e,k,full,h0,h1,h2,h3⟩
 .exact .inl h
 .exact .inr ⟨e,k,full,h0,h1,hs.none h2,h3⟩
def GA{K U:ag}{v:V}{ends:List Int}{B c i:Nat}{x:Nd}{s:Sm}(hK:aa K U)(Ru:K c=none)(hc:U c=some (cQ s v))(hE:∀o,ln (E' K c o) U v ends B)(hB:B<=1000000000)
 (hi:i<=10000)(hs:s.tc i)(hsn:s.nodes=i)(hx:x.ok=true)(hw:x.words.length<=200000000000000)(No:1<=x.size/\x.size<=1000000000):
 aA prog 37 [.ptr c 0 0,vI i,ir x] U λr Z'=>r=.LI []/\aa K Z'/\∃v',Z' c=some (cQ (eS i x s ends).1 v')/\∀o,ln (E' K c o) Z' v' (eS i x s ends).2 (B+1):=by
 refine e37.r (by simp[c37]) ?_;refine ab.mix 7 ?_;apply sR;simp only[go_sem,seval,c37,ir,Nd.cells];refine ae λOD Z1 s1 a4 f4=>?_;have RU:=s1 _ _ hc;have Uc:=ao hc f4;simp only[go_sem,seval,a4];refine ae λOE Z2 s2 a5 f5=>?_;have SL:=s2 _ _ RU;have RX:=ao RU f5;have n54:=ao a4 f5;have a4:=s2 _ _ a4;have Th:=(hK.trans s1).trans s2;have k4:K OD=none:=hK.none f4;have k5:K OE=none:=(hK.trans s1).none f5;simp only[go_sem,seval,SL,cQ,a4,a5];have hK':aa (E' (E' (E' K c (cQ s v)) OD ⟨3,1,[vI i]⟩) OE ⟨51,20,[ir x]⟩) Z2:=((Th.D4 SL).D4 a4).D4 a5;have hE':ln (E' (E' (E' K c (cQ s v)) OD ⟨3,1,[vI i]⟩) OE ⟨51,20,[ir x]⟩) Z2 v ends B:=((hE _).new s1 f4).new s2 f5;refine ab.call rfl rfl rfl (Ju (by omega) hE' hK' (by rw[ad n54,ak])) ?_;rintro r Z3 ⟨UL,hE3⟩;have Nq:=UL c _ (by rw[ad RX,ad Uc,ak]);have a4:=UL OD _ (by rw[ad n54,ak]);have a5:=UL OE _ ak;simp only[ir,Nd.cells]at a5;simp only[cQ]at Nq;have hKK:=(((aa.refl K).aG Ru (o:=cQ s v)).aG k4 (o:=⟨3,1,[vI i]⟩)).aG k5 (o:=⟨51,20,[ir x]⟩);have h3:=hKK.trans UL;have Vx:LP .i64 (s.nodes+1):=au;obtain⟨p1,p2,p3,p4,p5,p6⟩:=jw hx;obtain⟨f1,f2,f3⟩:=hs;rcases hE3 with⟨rfl,OW⟩|⟨e,k,full,rfl,he,Ws,hk,XG,OW⟩
 .by_cases Nf:x.kind=1
  .apply sR;simp only[go_sem,seval,a4,a5,Nq,ad Uc.symm,ad RX.symm,Nf];refine⟨Vx,au,?_⟩;refine bG λVs Z4 s4 a8 f8=>?_;have Wt:=s4 c _ ak;have a4:=s4 OD _ (by rw[ad Uc.symm];exact a4);have a5:=s4 OE _ (by rw[ad RX.symm];exact a5);have hs8:∀U,U Vs=some ⟨3,1,[.int .i64 (i+x.size)]⟩->cC U 1 (.own Vs 0 1)=some [.int .i64 (i+x.size)]:=by
    intro U L6;simp only[cC,L6];rw[aI (by simp)];simp
   have hd:∀U,de U 3 1 .bz=some ([],none):=λ_=>rfl;simp only[go_sem,seval,hs8,a8,hd,bT,Nat.reduceLeDiff];refine bG λPm Z5 s5 a9 f9=>?_;have hc5:=s5 c _ Wt;have a4:=s5 OD _ a4;have a5:=s5 OE _ a5;have UM:Pm≠c:=by rintro rfl;rw[Wt]at f9;cases f9
   have n95:Pm≠OE:=by rintro rfl;rw[s4 Pm _ (by rw[ad RX.symm];exact UL Pm _ ak)]at f9;cases f9
   simp only[go_sem,seval,hc5,a4,a5,a9,ad RX.symm,ad UM];refine ae λRs Z6 s6 a6 f6=>?_;have Zc:=s6 c _ ak;have a9:=s6 Pm _ (by rw[ad UM];exact a9);have n6c:Rs≠c:=by rintro rfl;rw[Zc]at a6;simp at a6
   have UN:Rs≠Pm:=by rintro rfl;rw[a9]at a6;simp at a6
   simp only[go_sem,seval,a6];refine ae λWu Z7 s7 Wv f84=>?_;have QE:=s7 c _ (by rw[ad n6c.symm];exact Zc);have a9:=s7 Pm _ (by rw[ad UN.symm];exact a9);have Ww:Wu≠c:=by rintro rfl;rw[QE]at Wv;simp at Wv
   simp only[go_sem,seval];have h4:=(h3.aG Ru).trans s4;have h5:=h4.trans s5;have k9:K Pm=none:=h4.none f9;have Zd:=λo=>h5.aG Ru (o:=o);have k6:K Rs=none:=(Zd _).none f6;have h7:=(((Zd _).trans s6).aG k6).trans s7;obtain⟨q1,q2,q3,q4,q5⟩:=p6 Nf;have hl5:∀n∈[x.st.top,x.st.LM,x.st.LA,x.st.Lt,x.st.head],0<=n/\n<=mx:=by
    intro n hn;simp only[dI,List.not_mem_nil,or_false]at hn;rcases hn with rfl|rfl|rfl|rfl|rfl<;>assumption
   refine ab.call rfl rfl rfl (o6 (s:=⟨if(1:Int)>s.depth then 1 else s.depth,s.pieces,s.nodes+1,s.H'⟩) (l:=[x.st.top,x.st.LM,x.st.LA,x.st.Lt,x.st.head]) (times:=1) QE
    (λob=>Reads.own (off:=0) (len:=5) ((ad Ww).trans Wv) rfl (by simp) (λr hr=>by simp at hr;rcases hr with rfl|rfl|rfl|rfl|rfl<;>rfl)) (by simp) hl5 (by omega) f3 rfl) ?_
   rintro r Z8 ⟨rfl,rfl⟩;apply sR;simp only[go_sem,seval,aN,aP];refine⟨_,_,aa.refl _,Wk.refl (aa.refl _) _,rfl,h7.aG Ru,.own Pm 0 1,?_,λo=>.inr ⟨Pm,1,[i+x.size],rfl,(ad UM).trans a9,fB.2 ⟨UM,k9⟩,by simp,by simp,?_⟩⟩
   .have e:(if(1:Int)>s.depth then 1 else s.depth)=max s.depth 1:=by split<;>omega
    rw[ak,e];simp[eS,Nf,OW,cQ]
   .simp[eS,Nf,OW]
  .by_cases N2:x.kind=2
   .apply sR;simp only[go_sem,seval,a4,a5,Nq,ad Uc.symm,ad RX.symm,N2,dG];refine⟨Vx,au,?_⟩;refine ae λUa Z7 s7 a7 f7=>?_;have QE:=s7 c _ ak;have Wx:Ua≠c:=by rintro rfl;rw[QE]at a7;simp at a7
    simp only[go_sem,seval];have h7:=(h3.aG Ru).trans s7;refine ab.call rfl rfl rfl (o6 (s:=⟨s.depth,s.pieces+x.words.length,s.nodes+1,s.H'⟩) (l:=[x.line]) (times:=x.words.length) QE
     (λob=>Reads.own (off:=0) (len:=1) ((ad Wx).trans a7) rfl (by simp) (λr hr=>by simp at hr;rcases hr with rfl;rfl)) (by simp) (by intro n hn;simp at hn;subst hn;exact⟨p2,p3⟩) (by omega) f3 rfl) ?_
    rintro r Z8 ⟨rfl,rfl⟩;apply sR;simp only[go_sem,seval,aN,aP];refine⟨_,_,aa.refl _,Wk.refl (aa.refl _) _,rfl,h7.aG Ru,_,ak.trans (by simp[eS,N2,cQ];rfl),λo=>?_⟩;have:(eS i x s ends).2=kept i ends:=by simp[eS,N2]
    rw[this];exact .inl ⟨rfl,OW⟩
   .have h4or:=p1;apply sR;simp only[go_sem,seval,a4,a5,Nq,ad Uc.symm,ad RX.symm,Nf,N2,dG];refine⟨Vx,au,?_⟩;refine ae λUa Z7 s7 a7 f7=>?_;have QE:=s7 c _ ak;have Wx:Ua≠c:=by rintro rfl;rw[QE]at a7;simp at a7
    simp only[go_sem,seval];have h7:=(h3.aG Ru).trans s7;refine ab.call rfl rfl rfl (o6 (s:=⟨s.depth,s.pieces+1,s.nodes+1,s.H'⟩) (l:=[x.h]) (times:=1) QE
     (λob=>Reads.own (off:=0) (len:=1) ((ad Wx).trans a7) rfl (by simp) (λr hr=>by simp at hr;rcases hr with rfl;rfl)) (by simp) (by intro n hn;simp at hn;subst hn;exact⟨p4,p5⟩) (by omega) f3 rfl) ?_
    rintro r Z8 ⟨rfl,rfl⟩;apply sR;simp only[go_sem,seval,aN,aP];refine⟨_,_,aa.refl _,Wk.refl (aa.refl _) _,rfl,h7.aG Ru,_,ak.trans (by simp[eS,Nf,N2,cQ];rfl),λo=>?_⟩;have:(eS i x s ends).2=kept i ends:=by simp[eS,Nf,N2]
    rw[this];exact .inl ⟨rfl,OW⟩
 .have TZ:e≠c:=λe'=>by rw[e',ad RX,ad Uc,ak]at Ws;cases Ws
  have he4:e≠OD:=λe'=>by rw[e',ad n54,ak]at Ws;cases Ws
  have he5:e≠OE:=λe'=>by rw[e',ak]at Ws;cases Ws
  have Wy:K e=none:=hKK.none Ws;have hlk:(full.take k).length=k:=by simp;omega
  by_cases Nf:x.kind=1
  .apply sR;simp only[go_sem,seval,a4,a5,Nq,ad Uc.symm,ad RX.symm,Nf];refine⟨Vx,au,?_⟩;refine bG λVs Z4 s4 a8 f8=>?_;have Wt:=s4 c _ ak;have a4:=s4 OD _ (by rw[ad Uc.symm];exact a4);have a5:=s4 OE _ (by rw[ad RX.symm];exact a5);have hs8:∀U,U Vs=some ⟨3,1,[.int .i64 (i+x.size)]⟩->cC U 1 (.own Vs 0 1)=some [.int .i64 (i+x.size)]:=by
    intro U L6;simp only[cC,L6];rw[aI (by simp)];simp
   have he4':=s4 e _ (by rw[ad TZ];exact he);have hd:∀U,U e=some ⟨3,1,full.map vI⟩->de U 3 1 (.own e 0 k)=some ((full.take k).map vI,some e):=by
    intro U L6;simp only[de,L6];rw[aI ⟨trivial,trivial,trivial,by simpa using hk⟩,List.map_take]
   have Rv:((full.take k).map vI).length=k:=by simpa using hlk
   have Nh:(k+1)*9<=140737488355328:=by omega
   simp only[go_sem,seval,hs8,a8,hd,he4',bT,Rv,Nh];refine CE λPm Z5 s5 a9 f9=>?_;have hc5:=s5 c _ (by rw[eT TZ.symm];exact Wt);have a4:=s5 OD _ (by rw[eT he4.symm];exact a4);have a5:=s5 OE _ (by rw[eT he5.symm];exact a5);have UM:Pm≠c:=by rintro rfl;rw[Wt]at f9;cases f9
   have n95:Pm≠OE:=by rintro rfl;rw[s4 Pm _ (by rw[ad RX.symm];exact UL Pm _ ak)]at f9;cases f9
   simp only[go_sem,seval,hc5,a4,a5,a9,ad RX.symm,ad UM];refine ae λRs Z6 s6 a6 f6=>?_;have Zc:=s6 c _ ak;have a9:=s6 Pm _ (by rw[ad UM];exact a9);have n6c:Rs≠c:=by rintro rfl;rw[Zc]at a6;simp at a6
   have UN:Rs≠Pm:=by rintro rfl;rw[a9]at a6;simp at a6
   simp only[go_sem,seval,a6];refine ae λWu Z7 s7 Wv f84=>?_;have QE:=s7 c _ (by rw[ad n6c.symm];exact Zc);have a9:=s7 Pm _ (by rw[ad UN.symm];exact a9);have Ww:Wu≠c:=by rintro rfl;rw[QE]at Wv;simp at Wv
   simp only[go_sem,seval];have h4:=(h3.aG Ru).trans s4;have h4':=h4.Ci Wy;have h5:=h4'.trans s5;have k9:K Pm=none:=h4.none f9;have Zd:=λo=>h5.aG Ru (o:=o);have k6:K Rs=none:=(Zd _).none f6;have h7:=(((Zd _).trans s6).aG k6).trans s7;obtain⟨q1,q2,q3,q4,q5⟩:=p6 Nf;have hl5:∀n∈[x.st.top,x.st.LM,x.st.LA,x.st.Lt,x.st.head],0<=n/\n<=mx:=by
    intro n hn;simp only[dI,List.not_mem_nil,or_false]at hn;rcases hn with rfl|rfl|rfl|rfl|rfl<;>assumption
   refine ab.call rfl rfl rfl (o6 (s:=⟨if((k+1:Nat):Int)>s.depth then((k+1:Nat):Int)else s.depth,s.pieces,s.nodes+1,s.H'⟩) (l:=[x.st.top,x.st.LM,x.st.LA,x.st.Lt,x.st.head]) (times:=1) QE
    (λob=>Reads.own (off:=0) (len:=5) ((ad Ww).trans Wv) rfl (by simp) (λr hr=>by simp at hr;rcases hr with rfl|rfl|rfl|rfl|rfl<;>rfl)) (by simp) hl5 (by omega) f3 rfl) ?_
   rintro r Z8 ⟨rfl,rfl⟩;apply sR;simp only[go_sem,seval,aN,aP];refine⟨_,_,aa.refl _,Wk.refl (aa.refl _) _,rfl,h7.aG Ru,.own Pm 0 (k+1),?_,λo=>.inr ⟨Pm,k+1,full.take k++[i+x.size],rfl,((ad UM).trans a9).trans (by simp),fB.2 ⟨UM,k9⟩,by simp;omega,by simp;omega,?_⟩⟩
   .have e:(if((k+1:Nat):Int)>s.depth then((k+1:Nat):Int)else s.depth)=max s.depth ((k+1:Nat):Int):=by split<;>omega
    rw[ak,e];have Wz:kept i ends=full.take k:=OW.symm;simp[eS,Nf,Wz,hlk,cQ,Nat.min_eq_left hk]
   .have Wz:kept i ends=full.take k:=OW.symm;rw[pj (by simp;omega)];simp[eS,Nf,Wz]
  .by_cases N2:x.kind=2
   .apply sR;simp only[go_sem,seval,a4,a5,Nq,ad Uc.symm,ad RX.symm,N2,dG];refine⟨Vx,au,?_⟩;refine ae λUa Z7 s7 a7 f7=>?_;have QE:=s7 c _ ak;have Wx:Ua≠c:=by rintro rfl;rw[QE]at a7;simp at a7
    simp only[go_sem,seval];have h7:=(h3.aG Ru).trans s7;refine ab.call rfl rfl rfl (o6 (s:=⟨s.depth,s.pieces+x.words.length,s.nodes+1,s.H'⟩) (l:=[x.line]) (times:=x.words.length) QE
     (λob=>Reads.own (off:=0) (len:=1) ((ad Wx).trans a7) rfl (by simp) (λr hr=>by simp at hr;rcases hr with rfl;rfl)) (by simp) (by intro n hn;simp at hn;subst hn;exact⟨p2,p3⟩) (by omega) f3 rfl) ?_
    rintro r Z8 ⟨rfl,rfl⟩;apply sR;simp only[go_sem,seval,aN,aP];refine⟨_,_,aa.refl _,Wk.refl (aa.refl _) _,rfl,h7.aG Ru,_,ak.trans (by simp[eS,N2,cQ];rfl),λo=>?_⟩;have:(eS i x s ends).2=kept i ends:=by simp[eS,N2]
    rw[this];exact .inr ⟨e,k,full,rfl,(ad TZ).trans (s7 e _ (by rw[ad TZ];exact he)),fB.2 ⟨TZ,Wy⟩,hk,by omega,OW⟩
   .have h4or:=p1;apply sR;simp only[go_sem,seval,a4,a5,Nq,ad Uc.symm,ad RX.symm,Nf,N2,dG];refine⟨Vx,au,?_⟩;refine ae λUa Z7 s7 a7 f7=>?_;have QE:=s7 c _ ak;have Wx:Ua≠c:=by rintro rfl;rw[QE]at a7;simp at a7
    simp only[go_sem,seval];have h7:=(h3.aG Ru).trans s7;refine ab.call rfl rfl rfl (o6 (s:=⟨s.depth,s.pieces+1,s.nodes+1,s.H'⟩) (l:=[x.h]) (times:=1) QE
     (λob=>Reads.own (off:=0) (len:=1) ((ad Wx).trans a7) rfl (by simp) (λr hr=>by simp at hr;rcases hr with rfl;rfl)) (by simp) (by intro n hn;simp at hn;subst hn;exact⟨p4,p5⟩) (by omega) f3 rfl) ?_
    rintro r Z8 ⟨rfl,rfl⟩;apply sR;simp only[go_sem,seval,aN,aP];refine⟨_,_,aa.refl _,Wk.refl (aa.refl _) _,rfl,h7.aG Ru,_,ak.trans (by simp[eS,Nf,N2,cQ];rfl),λo=>?_⟩;have:(eS i x s ends).2=kept i ends:=by simp[eS,Nf,N2]
    rw[this];exact .inr ⟨e,k,full,rfl,(ad TZ).trans (s7 e _ (by rw[ad TZ];exact he)),fB.2 ⟨TZ,Wy⟩,hk,by omega,OW⟩
open Go.Proofs Go.Proofs.Tryz
def rW(l:List Nd)(hl:dV l):bc prog 13 [aM l] (.LI [.agg (ej l).1.cells,vI (ej l).2]):=λU=>by
 have Wo:=hl;obtain⟨Vt,UF⟩:=hl;rw[<-Bh l Wo];refine e13.r (by simp[c13]) ?_;refine ab.mix 7 ?_;apply sR;simp only[go_sem,seval,c13];refine ae λUd Z1 s1 aR fR=>?_;simp only[go_sem,seval,aR];refine ab.aC rfl rfl rfl (Av l Wo _) ?_;apply sR;simp only[go_sem,seval,tB,aR];refine And.intro (λhf=>?_) (λhf=>?_)
 .simp only[Bool.not_eq_eq_eq_not,Bool.not_true]at hf;refine aE.pure (s1.aG fR) ?_;simp[uQ,hf,Sm.cells]
 .simp only[Bool.not_eq_eq_eq_not,Bool.not_false]at hf;refine ae λOD Z2 s2 a4 f4=>?_;have nR4:=ao aR f4;have aR:=s2 _ _ aR;have g4:U OD=none:=s1.none f4;have hKR:aa (E' U Ud ⟨53,4,[.agg Sm.zero.cells]⟩) Z2:=(s1.trans s2).D4 aR;have k4:E' U Ud ⟨53,4,[.agg Sm.zero.cells]⟩ OD=none:=fB.2 ⟨nR4.symm,g4⟩;simp only[go_sem,seval,eX];refine ab.loop (λm st=>∃(i:Nat) (v:V),i<=l.length/\m=l.length-i/\aa (E' U Ud ⟨53,4,[.agg Sm.zero.cells]⟩) st.U/\st.U OD=some (cQ (gP l i).1 v)/\
   (∀o,ln (E' (E' U Ud ⟨53,4,[.agg Sm.zero.cells]⟩) OD o) st.U v (gP l i).2 i)/\st.s 2=.ptr Ud 0 0/\st.s 4=.ptr OD 0 0/\st.s 11=aM l/\st.s 12=vI l.length/\st.s 13=vI i) l.length ?_ ?_
  .exact⟨0,.bz,by omega,by omega,hKR,a4,λo=>.inl ⟨rfl,rfl⟩,rfl,rfl,rfl,rfl,rfl⟩
  .rintro m ⟨s,Z'⟩ ⟨i,v,hi,rfl,G',h4s,hE,h2,h4,Po,Ux,XH⟩;simp only at G' h4s hE h2 h4 Po Ux XH;obtain⟨e1,e2,e3,e4⟩:=l6 l Wo hf i hi;have LS:l.all Nd.ok=true/\cg l 0 l.length=true:=by simpa[Mj]using hf
   have hRs:Z' Ud=some ⟨53,4,[.agg Sm.zero.cells]⟩:=G' Ud _ ak;refine ab.mix 7 ?_;apply sR;simp only[go_sem,seval,h2,h4,Po,Ux,XH,h4s,cQ,hRs,Sm.zero,Sm.cells];refine And.intro (λLr=>?_) (λPv=>?_)
   .have M5:i<l.length:=by omega
    have hx:=(fa.1 LS.1) _ (ML M5);have hxw:=UF _ (ML M5);obtain⟨z1,z2,z3⟩:=gZ l (l.length+1) 0 l.length (by omega) (by omega) LS.2 i (by omega) M5 M5;have Vy:gP l (i+1)=eS i l[i] (gP l i).1 (gP l i).2:=by simp[gP,M5]
    generalize SB:l[i]=x at*;simp only[go_sem,seval,lI M5,SB,h2,h4,Po,Ux,XH,Nd.cells];refine ae λRs Z6 s6 a6 f6=>?_;have n64:Rs≠OD:=by rintro rfl;rw[h4s]at f6;cases f6
    have n6R:Rs≠Ud:=by rintro rfl;rw[hRs]at f6;cases f6
    have g6:E' U Ud ⟨53,4,[.agg Sm.zero.cells]⟩ Rs=none:=G'.none f6;simp only[go_sem,seval,a6,h2,h4,Po,Ux,XH];have Ze:=G'.trans s6;have Pb:=(GA (K:=E' U Ud ⟨53,4,[.agg Sm.zero.cells]⟩) (U:=E' Z6 Rs ⟨51,20,[ir x]⟩) (i:=i) (x:=x) (s:=(gP l i).1) (B:=i) (Ze.aG g6) k4 ((ad n64.symm).trans (s6 _ _ h4s))
     (λo=>((hE o).new (s6.aG f6) f6 (o:=⟨0,0,[]⟩)).less ((aa.refl _).aG (fB.2 ⟨n64,g6⟩))) (by omega) (by omega) (by rw[e1];exact e3) (by rw[e1]) hx hxw (by omega))
    simp only[ir,Nd.cells]at Pb;refine ab.call rfl rfl rfl (by simp only[go_sem,seval,aN,aP,h4];exact Pb) ?_
    .rintro r Z7 ⟨rfl,hK7,v',h4',hE'⟩;apply sR;simp only[go_sem,seval,aN,aP,h2,h4,Po,Ux,XH];refine⟨au,_,?_,i+1,v',by omega,rfl,hK7,?_,?_,?_⟩
     .omega
     .rw[Vy,h4'];rfl
     .intro o;rw[Vy];exact hE' o
     .simp
   .have Ni:i=l.length:=by omega
    subst Ni;refine aE.pure ((((aa.refl U).aG fR).trans G').aG fR) ?_;simp[uQ,hf,Sm.cells]
open Go.Proofs Go.Proofs.Tryz
def wZ:((2:Nat):Int)=2:=rfl
def x9:((3:Nat):Int)=3:=rfl
def xP:((4:Nat):Int)=4:=rfl
def yb(l:List Nd)(hl:dV l):bc prog 53 [aM l] (vI (ga l)):=λU=>by
 refine e53.r (by simp[c53]) ?_;refine ab.mix 8 ?_;apply sR;simp only[go_sem,seval,c53];refine ab.aC rfl rfl rfl (rW l hl _) ?_;apply sR;simp only[go_sem,seval,Sm.cells];refine ae λUG Z1 s1 a3 f3=>?_;have G':=λo=>s1.aG f3 (o:=o);simp only[go_sem,seval,a3];have hc:(ej l).2=if Mj l then 0 else 4:=by unfold ej;split<;>rfl
 refine And.intro (λh=>?_) (λh=>?_)
 .refine aE.pure (G' _) ?_;have:Mj l=false:=by
   rw[hc]at h;cases hb:Mj l<;>simp_all
  simp[ga,this,hc]
 .have hb:Mj l=true:=by
   rw[hc]at h;cases hb:Mj l<;>simp_all
  have hR:ga l=if(ej l).1.depth>16\/(ej l).1.pieces>2000\/(ej l).1.nodes>2000\/(ej l).1.H'>1099511627776 then 2 else 0:=by
   simp only[ga,hb,if_true]
  generalize (ej l).1=sm at*;refine ae λOE Z2 s2 a5 f5=>?_;have N8:=(G' _).trans s2;have g5:U OE=none:=(G' _).none f5;simp only[go_sem,seval,a5];refine ab.loop (λm st=>∃(i:Nat),i<=4/\m=4-i/\st.U=E' Z2 OE ⟨174,4,[.agg sm.cells]⟩/\(0<i->sm.depth<=16)/\(1<i->sm.pieces<=2000)/\(2<i->sm.nodes<=2000)/\(3<i->sm.H'<=1099511627776)/\
   st.s 5=.ptr OE 0 0/\st.s 25=.agg [vI 16,vI 2000,vI 2000,vI 1099511627776]/\st.s 26=vI i) 4 ?_ ?_
  .exact⟨0,by omega,by omega,rfl,by omega,by omega,by omega,by omega,rfl,rfl,rfl⟩
  .rintro m ⟨s,Z'⟩ ⟨i,hi,rfl,L6,p1,p2,p3,p4,h5,XI,XJ⟩;simp only at L6 h5 XI XJ;subst L6;have SA:i=0\/i=1\/i=2\/i=3\/i=4:=by omega
   have UI:∀(p:Prop),p->p:=λ_ h=>h;rcases SA with rfl|rfl|rfl|rfl|rfl
   .refine ab.mix 8 ?_;apply sR;simp only[go_sem,seval,aN,aP,h5,XI,XJ,Sm.cells,Int.ofNat_zero,Int.natCast_zero,wZ,x9,xP,Int.toNat_zero,Int.reduceToNat,Nat.zero_mul];refine And.intro (λg=>?_) (λg=>?_)
    .refine aE.pure (N8.aG g5) ?_;rw[hR,aI];omega
    .refine⟨au,_,?_,1,by omega,rfl,?_,?_,?_,?_,rfl⟩<;>omega
   .refine ab.mix 8 ?_;apply sR;simp only[go_sem,seval,aN,aP,h5,XI,XJ,Sm.cells,Int.ofNat_zero,Int.natCast_zero,Int.natCast_one,Int.toNat_one,wZ,x9,xP,Int.toNat_zero,Int.reduceToNat,Nat.zero_mul,Nat.reduceMul];refine And.intro (λg=>?_) (λg=>?_)
    .refine aE.pure (N8.aG g5) ?_;rw[hR,aI];omega
    .refine⟨au,_,?_,2,by omega,rfl,?_,?_,?_,?_,rfl⟩<;>omega
   .refine ab.mix 8 ?_;apply sR;simp only[go_sem,seval,aN,aP,h5,XI,XJ,Sm.cells,Int.ofNat_zero,Int.natCast_zero,Int.natCast_one,Int.toNat_one,wZ,x9,xP,Int.toNat_zero,Int.reduceToNat,Nat.zero_mul,Nat.reduceMul];refine And.intro (λg=>?_) (λg=>?_)
    .refine aE.pure (N8.aG g5) ?_;rw[hR,aI];omega
    .refine⟨au,_,?_,3,by omega,rfl,?_,?_,?_,?_,rfl⟩<;>omega
   .refine ab.mix 8 ?_;apply sR;simp only[go_sem,seval,aN,aP,h5,XI,XJ,Sm.cells,Int.ofNat_zero,Int.natCast_zero,Int.natCast_one,Int.toNat_one,wZ,x9,xP,Int.toNat_zero,Int.reduceToNat,Nat.zero_mul,Nat.reduceMul];refine And.intro (λg=>?_) (λg=>?_)
    .refine aE.pure (N8.aG g5) ?_;rw[hR,aI];omega
    .refine⟨au,_,?_,4,by omega,rfl,?_,?_,?_,?_,rfl⟩<;>omega
   .refine ab.mix 8 ?_;apply sR;simp only[go_sem,seval,aN,aP,h5,XI,XJ,Sm.cells,Int.ofNat_zero,Int.natCast_zero,Int.natCast_one,wZ,x9,xP,Int.toNat_zero,Int.reduceToNat,Nat.zero_mul];refine aE.pure (N8.aG g5) ?_;rw[hR,aJ];omega
open Go.Proofs Go.Proofs.Tryz
def tm(U:ag)(l:List Int):cJ U false 1 (.rp (bj l))=some (bj l):=rfl
end Go.Vc
