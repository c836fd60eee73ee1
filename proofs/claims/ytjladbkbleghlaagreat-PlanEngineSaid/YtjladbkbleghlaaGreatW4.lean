/- Part 4 of the library of this proof. -/
import Derived.Test.YtjladbkbleghlaaGreatW3
set_option linter.all false
set_option maxHeartbeats 8000000
set_option maxRecDepth 100000
namespace Go.Vc
open Go.Proofs Go.Proofs.Tryz
def da(p:Int->Bool):List Int->Int
 |[]=>-1
 |x::l=>if p x then 0 else if da p l<0 then -1 else da p l+1
def pg(p:Int->Bool)(i:Nat)(l:List Int):Int:=if da p l<0 then -1 else da p l+i
def jt(p:Int->Bool):∀l,-1<=da p l
 |[]=>by simp[da]
 |x::l=>by
  have:=jt p l;simp only[da];split
  .omega
  .split<;>omega
def Dw(p:Int->Bool)(l:List Int):da p l=pg p 0 l:=by
 have:=jt p l;unfold pg;split<;>omega
def ny{U:ag}{sv:V}{l:List Int}{f:FuncId}{caps:List V}{p:Int->Bool}(hr:Reads U 1 false sv (l.map vI))(hl:l.length<=200000000000000)
 (hf:∀n∈l,aB prog f (vI n::caps) U λr Z'=>r=.bool (p n)/\Z'=U):
 aB prog 107 [sv,.fn f caps] U λr Z'=>r=vI (da p l)/\Z'=U:=by
 have hlen:dR false sv=some (vI (l.length:Int)):=by simpa using hr.1
 refine OC.r (by simp[LB]) ?_;apply sR;simp only[go_sem,seval,aN,aV,LB,hlen];refine ae.loop (λm st=>∃i:Nat,i<=l.length/\m=l.length-i/\da p l=pg p i (l.drop i)/\st.U=U/\st.s 0=sv/\st.s 1=.fn f caps/\st.s 7=vI l.length/\st.s 8=vI i) l.length ?_ ?_
 .exact⟨0,by omega,by omega,Dw p l,rfl,rfl,rfl,rfl,rfl⟩
 .rintro m ⟨s,Z'⟩ ⟨i,hi,rfl,hp,Qj,h0,h1,h7,h8⟩;simp only at h0 h1 h7 h8 Qj;subst Qj;apply sR;simp only[go_sem,seval,aN,aV,h0,h1,h7,h8];constructor
  .intro H';have Rw:i<l.length:=by omega
   have hd:l.drop i=l[i]::l.drop (i+1):=iy Rw;obtain⟨pp,e1,e2⟩:=hr.2 i (vI l[i]) (by simp[Rw]);simp only[go_sem,seval,aN,aV,e1,e2,uM];refine ae.aC rfl rfl rfl (hf l[i] (QL Rw)) ?_;apply sR;simp only[go_sem,seval,aN,aV,h0,h1,h7,h8];cases hpx:p l[i]
   .simp only[go_sem,seval,aN,aV,h8];refine⟨ar,_,?_,i+1,by omega,rfl,?_,h0,h1,h7,?_⟩
    .omega
    .rw[hp,hd];simp only[pg,da,hpx,jz,if_false];have:=jt p (l.drop (i+1))
     repeat' split
     all_goals omega
    .simp
   .simp only[go_sem,seval,aN,aV];refine av.same ?_;rw[hp,hd];simp[pg,da,hpx]
  .intro UU;have:i=l.length:=by omega
   refine av.same ?_;rw[hp,this,qx];rfl
open Go.Proofs Go.Proofs.Tryz
def Nd.ok(x:Nd):Bool:=
 if x.kind=1 then x.st.ok&&decide (x.line=0)&&decide (x.space=0)&&decide (x.words.length=0)&&decide (x.side=0)&&decide (x.w=0)&&decide (x.h=0)
 else if x.st≠Ru.zero then false
 else if x.kind=2 then x.words.all (br · 1 mx)&&decide (0<x.words.length)&&br x.line 1 mx&&br x.space 0 mx&&decide (x.side=0)&&decide (x.w=0)&&decide (x.h=0)
 else decide (x.line=0)&&decide (x.space=0)&&decide (x.words.length=0)&&br x.w 1 mx&&br x.h 1 mx&&
  (decide (x.kind=3)&&decide (x.side=0)||decide (x.kind=4)&&br x.side 1 2)
def eI(l:List Int):dR false (bD l)=some (.int .i64 l.length):=by simp[bD,dR]
def tO(b:Bool):V.bool b=V.bool (decide (b=true)):=by cases b<;>rfl
open Go.Proofs Go.Proofs.Tryz
def mQ{U:ag}{l:List Nd}{i:Nat}(h:i<l.length):bS U 20 (aQ l) (.int .i64 i)=some (.rp (.agg (Nd.cells l[i]))):=by
 simp[aQ,bS,h,ji]
def cJ(l:List Nd)(a e:Nat):Bool:=
 if _h:a<e then
  match l[a]? with
  |none=>false
  |some x=>if _hx:1<=x.size/\x.size<=(e:Int)-a then
     (decide (x.kind=1)||decide (x.size<=1))&&cJ l (a+1) (a+x.size.toNat)&&cJ l (a+x.size.toNat) e else false
 else true
termination_by e-a
decreasing_by all_goals omega
open Go.Proofs Go.Proofs.Tryz
def ed(l:List Nd):Prop:=l.length<=10000/\∀x∈l,x.words.length<=200000000000000
def Qy(l:List Nd):Bool:=l.all Nd.ok&&cJ l 0 l.length
def wg(U:ag)(x:Nd):cj U true 20 (.rp (.agg x.cells))=some (ji x):=rfl
open Go.Proofs Go.Proofs.Tryz
def jg(l:List Nd):∀(m a e:Nat),e-a<m->e<=l.length->cJ l a e=true->∀k,a<=k->(h:k<e)->(h2:k<l.length)->1<=l[k].size/\l[k].size<=(e:Int)-k/\(l[k].kind=1\/l[k].size<=1)
 |0,_,_,h,_,_=>by omega
 |m+1,a,e,hm,he,hr=>by
  intro k hk hke h2;have Vz:a<e:=by omega
  have ha:a<l.length:=by omega
  rw[cJ,dif_pos Vz]at hr;have hga:l[a]?=some l[a]:=by simp[ha]
  rw[hga]at hr;simp only at hr;split at hr
  .rename_i hx;simp only[Ba,kJ,Sp]at hr;obtain⟨⟨h3,h4⟩,h5⟩:=hr;by_cases hka:k=a
   .subst hka;exact⟨hx.1,hx.2,h3⟩
   .by_cases Vx:k<a+l[a].size.toNat
    .obtain⟨g1,g2,g3⟩:=jg l m (a+1) (a+l[a].size.toNat) (by omega) (by omega) h4 k (by omega) Vx h2;exact⟨g1,by omega,g3⟩
    .exact jg l m (a+l[a].size.toNat) e (by omega) he h5 k (by omega) hke h2
  .cases hr
structure Sm where
 (depth pieces nodes L':Int)
deriving DecidableEq
def Sm.cells(s:Sm):List V:=[vI s.depth,vI s.pieces,vI s.nodes,vI s.L']
def j7(a b:Int):Int:=min (a+b) 1099511627777
def jx(l:List Nd)(i:Nat):Nat->Int
 |0=>0
 |k+1=>jx l i k+(match l[k]? with
  |some y=>if y.kind=1/\(i:Int)<k+y.size then 1 else 0
  |none=>0)
def BM(a b:Int):Nat->Int
 |0=>a
 |n+1=>j7 (BM a b n) b
def pf(l:List Nd)(i:Nat)(x:Nd)(s:Sm):Sm:=
 if x.kind=1 then{ s with depth:=max s.depth (jx l i (i+1)),L':=j7 (j7 (j7 (j7 (j7 s.L' x.st.top) x.st.P8) x.st.PS) x.st.PG) x.st.head }
 else if x.kind=2 then{ s with pieces:=s.pieces+x.words.length,L':=BM s.L' x.line x.words.length }
 else{ s with pieces:=s.pieces+1,L':=j7 s.L' x.h }
def ik(l:List Nd)(s:Sm):Nat->Sm
 |0=>s
 |i+1=>match l[i]? with
  |some x=>pf l i x (ik l s i)
  |none=>ik l s i
def ew(l:List Nd):Sm×Int:=if Qy l then(ik l ⟨0,0,l.length,0⟩ l.length,0)else(⟨0,0,0,0⟩,4)
def gn{a b:Int}(h1:0<=a/\a<=1099511627777)(h2:0<=b):0<=j7 a b/\j7 a b<=1099511627777:=by
 unfold j7;omega
def CR{a b:Int}(h1:0<=a/\a<=1099511627777)(h2:0<=b):∀n,0<=BM a b n/\BM a b n<=1099511627777
 |0=>h1
 |n+1=>gn (CR h1 h2 n) h2
def vJ(l:List Nd)(i:Nat):∀k,0<=jx l i k/\jx l i k<=k
 |0=>by simp[jx]
 |k+1=>by
  have:=vJ l i k;simp only[jx];split
  .split<;>omega
  .omega
def kD{x:Nd}(h:x.ok=true):(x.kind=1\/x.kind=2\/x.kind=3\/x.kind=4)/\0<=x.line/\x.line<=mx/\0<=x.h/\x.h<=mx/\
 (x.kind=1->(0<=x.st.top/\x.st.top<=mx)/\(0<=x.st.P8/\x.st.P8<=mx)/\(0<=x.st.PS/\x.st.PS<=mx)/\(0<=x.st.PG/\x.st.PG<=mx)/\(0<=x.st.head/\x.st.head<=mx)):=by
 unfold Nd.ok at h;split at h
 .rename_i hk;simp only[Ru.ok,br,Ba,Sp]at h|-;simp only[mx]at h|-;refine⟨.inl hk,by omega,by omega,by omega,by omega,λ_=>?_⟩;omega
 .split at h
  .cases h
  .split at h
   .rename_i h1 _ hk;simp only[br,Ba,Sp]at h|-;simp only[mx]at h|-;exact⟨.inr (.inl hk),by omega,by omega,by omega,by omega,λe=>absurd e h1⟩
   .rename_i h1 _ _;simp only[br,Ba,kJ,Sp]at h|-;simp only[mx]at h|-;exact⟨by omega,by omega,by omega,by omega,by omega,λe=>absurd e h1⟩
def Sm.sY(s:Sm)(k:Int):Prop:=(0<=s.depth/\s.depth<=k)/\(0<=s.pieces/\s.pieces<=k*200000000000000)/\(0<=s.L'/\s.L'<=1099511627777)
def DY{l:List Nd}{i:Nat}{x:Nd}{s:Sm}(hx:x.ok=true)(hw:x.words.length<=200000000000000)(h:s.sY i):(pf l i x s).sY (i+1):=by
 obtain⟨h1,h2,h3⟩:=h;obtain⟨g1,g2,g3,g4,g5,g6⟩:=kD hx;unfold pf;split
 .rename_i hk;obtain⟨a1,a2,a3,a4,a5⟩:=g6 hk;have hd:=vJ l i (i+1);refine⟨?_,?_,gn (gn (gn (gn (gn h3 a1.1) a2.1) a3.1) a4.1) a5.1⟩
  .simp only;omega
  .simp only;omega
 .split
  .refine⟨?_,?_,CR h3 g2 _⟩
   .simp only;omega
   .simp only;omega
  .refine⟨?_,?_,gn h3 g4⟩
   .simp only;omega
   .simp only;omega
open Go.Proofs Go.Proofs.Tryz
def Sm.zero:Sm:=⟨0,0,0,0⟩
open Go.Proofs Go.Proofs.Tryz
def ug(p:Int->Bool):∀l,decide (da p l>=0)=l.any p
 |[]=>by simp[da]
 |x::l=>by
  have ih:=ug p l;simp only[da,List.any_cons];have hg:=jt p l;rw[<-ih,Bool.eq_iff_iff];simp only[Sp,kJ];split
  .rename_i h;simp[h]
  .rename_i h;simp only[h,jz,false_or];by_cases hx:da p l<0
   .rw[aE hx];constructor<;>intro hh<;>simp at hh|-<;>omega
   .rw[aH hx];constructor<;>intro hh<;>simp at hh|-<;>omega
def nt{U:ag}{sv:V}{l:List Int}{f:FuncId}{caps:List V}{p:Int->Bool}(hr:Reads U 1 false sv (l.map vI))(hl:l.length<=200000000000000)
 (hf:∀n∈l,aB prog f (vI n::caps) U λr Z'=>r=.bool (p n)/\Z'=U):
 aB prog 130 [sv,.fn f caps] U λr Z'=>r=.bool (l.any p)/\Z'=U:=by
 refine O9.r (by simp[Jt]) ?_;apply sR;simp only[go_sem,seval,aN,aV,Jt];refine ae.aC rfl rfl rfl (ny hr hl hf) ?_;apply sR;simp only[go_sem,seval,aN,aV];refine av.same ?_;rw[<-ug]
def LD{U:ag}{id:Nat}{a b:Int}(h:U id=some ⟨197,2,[.agg [vI a,vI b]]⟩)(n:Int):
 aB prog 131 [vI n,.ptr id 0 0] U λr Z'=>r=.bool (!br n a b)/\Z'=U:=by
 refine Nz.r (by simp[Lz]) ?_;apply sR;simp only[go_sem,seval,aN,aV,Lz,h];refine And.intro (λh=>?_) (λh=>?_)
 .refine av.same ?_;congr 1;simp only[br];rw[<-decide_not,decide_eq_decide];omega
 .refine av.same ?_;have:¬(n>=a/\n<=b):=by omega
  simp only[br,this,decide_false,Bool.not_false]
def Reads.mono{U Z':ag}{sz:Nat}{agg:Bool}{sv:V}{rows:List V}(h:aa U Z')(hr:Reads U sz agg sv rows):Reads Z' sz agg sv rows:=by
 refine⟨hr.1,λi v hv=>?_⟩;obtain⟨p,h1,h2⟩:=hr.2 i v hv;refine⟨p,?_,?_⟩
 .cases sv<;>simp only[bS,reduceCtorEq]at h1|-
  .exact h1
  .rename_i id off len;cases ho:U id with
   |none=>rw[ho]at h1;cases h1
   |some ob=>rw[ho]at h1;rw[h id ob ho];exact h1
 .cases p<;>simp only[cj,reduceCtorEq]at h2|-
  .rename_i id i k;cases ho:U id with
   |none=>rw[ho]at h2;cases h2
   |some ob=>rw[ho]at h2;rw[h id ob ho];exact h2
  .exact h2
def IS{U:ag}{sv:V}{l:List Int}{a b:Int}(hr:Reads U 1 false sv (l.map vI))(hl:l.length<=200000000000000):
 aB prog 106 [.agg [vI a,vI b],sv] U λr Z'=>r=.bool (l.all λn=>br n a b)/\Z'=U:=by
 refine O4.r (by simp[Kf]) ?_;apply sR;simp only[go_sem,seval,aN,aV,Kf];intro id M';refine ae.aC rfl rfl rfl (nt (p:=λn=>!br n a b) (hr.mono ((aa.refl U).C' M')) hl (λn _=>LD af n)) ?_;apply sR;simp only[go_sem,seval,aN,aV];refine av.pure ((aa.refl U).C' M') ?_;rw[List.all_eq_not_any_not]
open Go.Proofs Go.Proofs.Tryz
def fX:List V->Option (List Int)
 |[]=>some []
 |.int .i64 n::l=>(fX l).map (n::·)
 |_=>none
def lP:∀{l:List V} {m:List Int},fX l=some m->l=m.map vI
 |[],m,h=>by simp[fX]at h;subst h;rfl
 |v::l,m,h=>by
  cases v<;>try (simp[fX]at h)
  rename_i k n;cases k<;>try (simp[fX]at h)
  obtain⟨m',h1,rfl⟩:=h;rw[lP h1];rfl
def tX(m:List Int):fX (m.map vI)=some m:=by
 induction m with
 |nil=>rfl
 |cons n m ih=>simp[fX,ih]
def fE(U:ag):V->Option (List Int)
 |.own id off len=>match U id with
   |some ob=>if ob.sz=1/\off+len<=ob.rows.length/\len<=200000000000000 then(if(fX ob.rows).isSome then fX ((ob.rows.drop off).take len)else none)else none
   |none=>none
 |.sl 1 rows=>if rows.length<=200000000000000 then fX rows else none
 |_=>none
def mY{U:ag}{sv:V}{l:List Int}(h:fE U sv=some l):Reads U 1 false sv (l.map vI)/\l.length<=200000000000000:=by
 unfold fE at h;split at h
 .rename_i id off len;split at h
  .rename_i ob Q5;split at h
   .rename_i hc;split at h
    .rename_i hi;have he:=lP h;obtain⟨m,hm⟩:=Option.isSome_iff_exists.1 hi;have hm:=lP hm;have hr:=Reads.own (U:=U) Q5 hc.1 hc.2.1 (λr hr=>by rw[hm]at hr;simp only[fM]at hr;obtain⟨n,_,rfl⟩:=hr;rfl);rw[he]at hr;have hl:l.length=len:=by
      have:=congrArg List.length he;simp at this;omega
     exact⟨hr,by omega⟩
    .cases h
   .cases h
  .cases h
 .rename_i rows;split at h
  .rename_i hc;have he:=lP h;subst he;exact⟨Reads.ints,by simpa using hc⟩
  .cases h
 .cases h
def oH{U Z':ag}(hs:aa U Z'){sv:V}{l:List Int}(h:fE U sv=some l):fE Z' sv=some l:=by
 unfold fE at h|-;split at h
 .split at h
  .rename_i ob Q5;simp only[hs _ _ Q5];exact h
  .cases h
 .exact h
 .cases h
def oc(U:ag){l:List Int}(h:l.length<=200000000000000):fE U (bD l)=some l:=by
 simp only[bD,fE,du,aE h];exact tX l
def o10(f:FuncId)(args:List V)(U:ag):Option V:=if f=106 then(match args with
 |[.agg [.int .i64 a,.int .i64 b],sv]=>(fE U sv).map λl=>.bool (l.all λn=>br n a b)
 |_=>none)else none
def O10:Rd prog where
 get:=o10
 up f args U Z' v hs h:=by
  unfold o10 at h|-;split at h
  .rename_i hf;rw[aE hf];split at h
   .simp only[Zq8]at h|-;obtain⟨l,h1,h2⟩:=h;exact⟨l,oH hs h1,h2⟩
   .cases h
  .cases h
 ok f args U v h:=by
  unfold o10 at h;split at h
  .rename_i hf;subst hf;split at h
   .simp only[Zq8]at h;obtain⟨l,h1,rfl⟩:=h;obtain⟨g1,g2⟩:=mY h1;exact IS g1 g2
   .cases h
  .cases h
def uD(a b:Int)(sv:V)(U:ag):O10.get 106 [.agg [.int .i64 a,.int .i64 b],sv] U=(fE U sv).map λl=>.bool (l.all λn=>br n a b):=rfl
def df(U:ag)(id off len:Nat):fE U (.own id off len)=match U id with
 |some ob=>if ob.sz=1/\off+len<=ob.rows.length/\len<=200000000000000 then(if(fX ob.rows).isSome then fX ((ob.rows.drop off).take len)else none)else none
 |none=>none:=rfl
def eu(n:Int)(l:List V):fX (.int .i64 n::l)=(fX l).map (n::·):=rfl
def ej:fX []=some []:=rfl
def E8(s:Ru):bb prog 105 [.agg s.cells] (.bool s.ok):=λU=>by
 refine O3.r (by simp[LG]) ?_;refine ae.mix 6 ?_
 (refine ae.bL O10 300 ?_;simp only[go_sem,seval,LG,Ru.cells])
 refine ad λTi Z1 s1 a1 f1=>?_;simp only[go_sem,seval];refine ad λid3 Z2 s2 a3 f3=>?_;have UM:=al a1 f3;have a1:=s2 _ _ a1;simp only[go_sem,seval,a1];refine ad λTH Z3 s3 a4 f4=>?_;have n14:=al a1 f4;have XU:=al a3 f4;have a1:=s3 _ _ a1;have a3:=s3 _ _ a3;have hs:aa U Z3:=(s1.trans s2).trans s3;have g3:U id3=none:=s1.none f3;have g4:U TH=none:=(s1.trans s2).none f4;simp only[go_sem,seval,a1,a3,a4,ab XU,ab XU.symm,ab UM,ab n14];have PZ:=λo o'=>(hs.aD (o:=o) g3).aD (o:=o') g4;refine ad λTI Z4 s4 a5 f5=>?_;have a1:=s4 Ti _ (by rw[ab n14,ab UM];exact a1);have a4:=s4 TH _ af;have hs:=(PZ _ _).trans s4;simp only[go_sem,seval,a1,a4,a5,uD,df,eu,ej,br,<-Bool.decide_and];refine And.intro (λp0=>?_) (λp0=>av.pure hs (by rw[V.bool.injEq];symm;rw[Bool.eq_false_iff];intro h;simp[Ru.ok,br,mx]at h;omega));refine ad λW3 Z5 s5 a6 f6=>?_;have a1:=s5 _ _ a1;have hs:=hs.trans s5;simp only[go_sem,seval,a1,a6,uD,df,eu,ej,br,<-Bool.decide_and];refine And.intro (λp1=>?_) (λp1=>av.pure hs (by rw[V.bool.injEq];symm;rw[Bool.eq_false_iff];intro h;simp[Ru.ok,br,mx]at h;omega));refine ad λZP Z6 s6 a7 f7=>?_;have a1:=s6 _ _ a1;have hs:=hs.trans s6;simp only[go_sem,seval,a1,a7,uD,df,eu,ej,br,<-Bool.decide_and];refine And.intro (λp2=>?_) (λp2=>av.pure hs (by rw[V.bool.injEq];symm;rw[Bool.eq_false_iff];intro h;simp[Ru.ok,br,mx]at h;omega));refine ad λid8 Z7 s7 a8 f8=>?_;have a1:=s7 _ _ a1;have hs:=hs.trans s7;simp only[go_sem,seval,a1,a8,uD,df,eu,ej,br,<-Bool.decide_and];refine And.intro (λp3=>?_) (λp3=>av.pure hs (by rw[V.bool.injEq];symm;rw[Bool.eq_false_iff];intro h;simp[Ru.ok,br,mx]at h;omega));refine ad λUN Z8 s8 a9 f9=>?_;have a1:=s8 _ _ a1;have hs:=hs.trans s8;simp only[go_sem,seval,a1,a9,uD,df,eu,ej,br,<-Bool.decide_and];refine av.pure hs ?_;rw[V.bool.injEq,Bool.eq_iff_iff];simp[Ru.ok,br,mx];omega
open Go.Proofs Go.Proofs.Tryz
def ia(l:List Nd):Int:=if Qy l then(if(ew l).1.depth>16\/(ew l).1.pieces>2000\/(ew l).1.nodes>2000\/(ew l).1.L'>1099511627776 then 2 else 0)else 4
open Go.Proofs Go.Proofs.Tryz
def o12(f:FuncId)(args:List V)(U:ag):Option V:=if f=106 then(match args with
 |[.agg [.int .i64 a,.int .i64 b],sv]=>(fE U sv).map λl=>.bool (l.all λn=>br n a b)
 |_=>none)else if f=105 then(match args with
 |[.agg [.int .i64 a,.int .i64 b,.int .i64 c,.int .i64 d,.int .i64 e,.int .i64 f,.int .i64 g,.int .i64 h,.int .i64 i,.int .i64 j,.int .i64 k,.int .i64 l]]=>some (.bool (Ru.ok ⟨a,b,c,d,e,f,g,h,i,j,k,l⟩))
 |_=>none)else none
def O12:Rd prog where
 get:=o12
 up f args U Z' v hs h:=by
  unfold o12 at h|-;split at h
  .rename_i hf;rw[aE hf];split at h
   .simp only[Zq8]at h|-;obtain⟨l,h1,h2⟩:=h;exact⟨l,oH hs h1,h2⟩
   .cases h
  .rename_i hf;rw[aH hf];exact h
 ok f args U v h:=by
  unfold o12 at h;split at h
  .rename_i hf;subst hf;split at h
   .simp only[Zq8]at h;obtain⟨l,h1,rfl⟩:=h;obtain⟨g1,g2⟩:=mY h1;exact IS g1 g2
   .cases h
  .split at h
   .rename_i hf;subst hf;split at h
    .simp only[bf]at h;subst h;exact E8 ⟨_,_,_,_,_,_,_,_,_,_,_,_⟩ U
    .cases h
   .cases h
def ri(a b:Int)(sv:V)(U:ag):O12.get 106 [.agg [.int .i64 a,.int .i64 b],sv] U=(fE U sv).map λl=>.bool (l.all λn=>br n a b):=rfl
def qS(a b c d e f g h i j k l:Int)(U:ag):O12.get 105 [.agg [.int .i64 a,.int .i64 b,.int .i64 c,.int .i64 d,.int .i64 e,.int .i64 f,.int .i64 g,.int .i64 h,.int .i64 i,.int .i64 j,.int .i64 k,.int .i64 l]] U=
 some (.bool (Ru.ok ⟨a,b,c,d,e,f,g,h,i,j,k,l⟩)):=rfl
def j2(s:Ru):(decide (s.top=0)&&(decide (s.P8=0)&&(decide (s.PS=0)&&(decide (s.PG=0)&&(decide (s.QE=0)&&(decide (s.Qk=0)&&(decide (s.Qw=0)&&(decide (s.head=0)&&
 (decide (s.before=0)&&(decide (s.after=0)&&(decide (s.inside=0)&&decide (s.clear=0))))))))))))=decide (s=Ru.zero):=by
 rw[Bool.eq_iff_iff];cases s;simp[Ru.zero]
def Hn(x:Nd)(hl:x.words.length<=200000000000000)(k4:x.kind=4):bb prog 68 [ji x] (.bool x.ok):=λU=>by
 refine e68.r (by simp[c68]) ?_;refine ae.mix 6 ?_
 (refine ae.bL O12 300 ?_;simp only[go_sem,seval,c68,ji,Nd.cells])
 refine ad λTi Z1 s1 a1 f1=>?_;simp only[go_sem,seval,a1];refine ad λid3 Z2 s2 a3 f3=>?_;have UM:=al a1 f3;have a1:=s2 _ _ a1;have hs:=(s1.trans s2).aD (s1.none f3) (o:=⟨197,2,[.agg [vI 1,vI 1099511627776]]⟩);have XV:x.ok=(decide (x.st=Ru.zero)&&(decide (x.line=0)&&decide (x.space=0)&&decide (x.words.length=0)&&br x.w 1 mx&&br x.h 1 mx&&br x.side 1 2)):=by
  by_cases Qi:x.st=Ru.zero<;>simp[Nd.ok,k4,Qi]
 simp only[go_sem,seval,a1,a3,ab UM,j2,eI,k4,qS,vT,af];refine And.intro (λe1=>And.intro (λe2=>And.intro (λz=>And.intro (λw=>?_) (λw=>?_)) (λz=>?_)) (λe2=>?_)) (λe1=>?_)
 .refine ad λTH Z3 s3 a4 f4=>?_;have a1:=s3 Ti _ (by rw[ab UM];exact a1);have a3:=s3 id3 _ af;have hs:=hs.trans s3;simp only[go_sem,seval,a1,a3,a4,ri,df,eu,ej,br,yD,List.all_nil,<-Bool.decide_and];refine And.intro (λq1=>?_) (λq1=>av.pure hs ?_)
  .refine ad λTI Z4 s4 a5 f5=>?_;have a1:=s4 _ _ a1;have hs:=hs.trans s4;simp only[go_sem,seval,a1,a5,ri,df,eu,ej,br,yD,List.all_nil,<-Bool.decide_and];refine av.pure hs ?_;rw[V.bool.injEq,XV,Bool.eq_iff_iff];simp only[br,mx];simp at w;simp[e1,e2,z,w];omega
  .rw[V.bool.injEq,XV,Bool.eq_iff_iff];simp only[br,mx];simp[e1,e2,z];omega
 all_goals (repeat' (first
  |with_reducible refine And.intro (λh=>?_) (λh=>?_)
  |with_reducible refine av.pure hs ?_))
 all_goals (rw[V.bool.injEq,XV,Bool.eq_iff_iff];simp_all)
def KY(x:Nd)(hl:x.words.length<=200000000000000):bb prog 68 [ji x] (.bool x.ok):=λU=>by
 by_cases k4:x.kind=4
 .exact Hn x hl k4 U
 refine e68.r (by simp[c68]) ?_;refine ae.mix 6 ?_
 (refine ae.bL O12 300 ?_;simp only[go_sem,seval,c68,ji,Nd.cells])
 refine ad λTi Z1 s1 a1 f1=>?_;simp only[go_sem,seval,a1];refine ad λid3 Z2 s2 a3 f3=>?_;have UM:=al a1 f3;have a1:=s2 _ _ a1;have hs:=(s1.trans s2).aD (s1.none f3) (o:=⟨197,2,[.agg [vI 1,vI 1099511627776]]⟩);have hz:(x.kind=1->x.ok=(x.st.ok&&decide (x.line=0)&&decide (x.space=0)&&decide (x.words.length=0)&&decide (x.side=0)&&decide (x.w=0)&&decide (x.h=0))):=λh=>by simp[Nd.ok,h]
 have hwl:x.words.length<=200000000000000:=by omega
 by_cases k1:x.kind=1
 .simp only[go_sem,seval,a1,a3,ab UM,j2,eI,k1,qS,vT];rw[hz k1]
  repeat' (first
   |with_reducible refine And.intro (λh=>?_) (λh=>?_)
   |with_reducible refine av.pure hs ?_)
  all_goals (rw[V.bool.injEq,Bool.eq_iff_iff];simp_all)
 .by_cases k2:x.kind=2
  .by_cases e1:x.line=0
   .have hok0:x.ok=false:=by
     by_cases Qi:x.st=Ru.zero<;>simp[Nd.ok,k2,Qi,e1,br]
    rw[hok0];simp only[go_sem,seval,a1,a3,ab UM,j2,eI,k1,k2,e1,qS,vT,af]
    repeat' (first
     |with_reducible refine And.intro (λh=>?_) (λh=>?_)
     |with_reducible refine av.pure hs rfl
     |(refine ad λTH Z3 s3 a4 f4=>?_
       have a1:=s3 Ti _ (by rw[ab UM];exact a1);have a3:=s3 id3 _ af;simp only[go_sem,seval,a1,a3,a4,ri,df,eu,ej,br,yD,List.all_nil,false_and];exact av.pure (hs.trans s3) rfl))
   .simp only[go_sem,seval,a1,a3,ab UM,j2,eI,k1,k2,e1,qS,vT,af];have Wa:x.ok=(decide (x.st=Ru.zero)&&(x.words.all (br · 1 mx)&&decide (0<x.words.length)&&br x.line 1 mx&&br x.space 0 mx&&decide (x.side=0)&&decide (x.w=0)&&decide (x.h=0))):=by
     by_cases Qi:x.st=Ru.zero<;>simp[Nd.ok,k2,Qi]
    refine And.intro (λz=>?_) (λz=>av.pure hs (by rw[Wa];simp_all));refine And.intro (λw1=>?_) (λw1=>av.pure hs (by rw[Wa];simp[w1]));refine And.intro (λw2=>?_) (λw2=>av.pure hs (by rw[Wa];simp[w2]));refine And.intro (λw3=>?_) (λw3=>av.pure hs (by rw[Wa];simp[w3]));refine ad λTH Z3 s3 a4 f4=>?_;have a1:=s3 Ti _ (by rw[ab UM];exact a1);have a3:=s3 id3 _ af;have hs:=hs.trans s3;simp only[go_sem,seval,a1,a3,a4,ri,df,eu,ej,oc _ hwl,vT,tO (List.all _ _)];refine And.intro (λq1=>?_) (λq1=>av.pure hs (by rw[Wa];simp[mx]at q1|-;simp[q1]));refine And.intro (λq2=>?_) (λq2=>av.pure hs (by rw[Wa];simp only[mx,q2];simp));refine ad λTI Z4 s4 a5 f5=>?_;have a1:=s4 _ _ a1;have hs:=hs.trans s4;simp only[go_sem,seval,a1,a5,ri,df,eu,ej,oc _ hwl,vT,eI,tO (List.all _ _)];refine And.intro (λq3=>?_) (λq3=>av.pure hs (by rw[Wa];simp[mx]at q3|-;simp[q3]));refine av.pure hs ?_;rw[Wa];simp only[mx,q1,q2,q3,z,w1,w2,w3];simp
  .have XV:x.ok=(decide (x.st=Ru.zero)&&(decide (x.line=0)&&decide (x.space=0)&&decide (x.words.length=0)&&br x.w 1 mx&&br x.h 1 mx&&
    (decide (x.kind=3)&&decide (x.side=0)||decide (x.kind=4)&&br x.side 1 2))):=by
    by_cases Qi:x.st=Ru.zero<;>simp[Nd.ok,k1,k2,Qi]
   by_cases k3:x.kind=3
   .simp only[go_sem,seval,a1,a3,ab UM,j2,eI,k1,k2,k3,qS,vT,af]
    repeat' (first
     |with_reducible refine And.intro (λh=>?_) (λh=>?_)
     |with_reducible refine av.pure hs ?_
     |(refine ad λTH Z3 s3 a4 f4=>?_
       have a1:=s3 Ti _ (by rw[ab UM];exact a1);have a3:=s3 id3 _ af;simp only[go_sem,seval,a1,a3,a4,ri,df,eu,ej,br,yD,List.all_nil,<-Bool.decide_and];refine av.pure (hs.trans s3) ?_))
    all_goals (rw[V.bool.injEq,XV,Bool.eq_iff_iff];simp_all [br,mx]<;>omega)
   .simp only[go_sem,seval,a1,a3,ab UM,j2,eI,k1,k2,k3,k4,qS,vT,af]
    repeat' (first
     |with_reducible refine And.intro (λh=>?_) (λh=>?_)
     |with_reducible refine av.pure hs ?_)
    all_goals (rw[V.bool.injEq,XV];simp[k3,k4])
open Go.Proofs Go.Proofs.Tryz
def sS(i:Nat):List Int->List Int
 |a::b::s=>if a=i then sS i (b::s)else a::b::s
 |s=>s
def isS:List Nd->Nat->List Int->Bool
 |[],_,_=>true
 |x::r,i,R4=>match sS i R4 with
  |[]=>false
  |a::s=>if x.ok=true/\1<=x.size/\x.size<=a-i/\(x.kind=1\/x.size<=1)then isS r (i+1) ((i+x.size)::a::s)else false
def VA(n:Nat):Nat->List Int->Prop
 |lo,[]=>lo=n
 |lo,a::s=>(lo:Int)<=a/\VA n a.toNat s
def lp(l:List Nd):Nat->List Int->Bool
 |_,[]=>true
 |lo,a::s=>cJ l lo a.toNat&&lp l a.toNat s
def Db(l:List Nd)(a:Nat):cJ l a a=true:=by rw[cJ,dif_neg (Nat.lt_irrefl a)]
def uu(l:List Nd)(n i:Nat)(hi:i<n):∀R4,VA n i R4->∃a s,sS i R4=a::s/\(i:Int)<a/\VA n i (a::s)/\lp l i (a::s)=lp l i R4
 |[],h=>by simp only[VA]at h;omega
 |[a],h=>by
  have h':=h;simp only[VA]at h';exact⟨a,[],rfl,by omega,h,rfl⟩
 |a::b::s,h=>by
  by_cases ha:a=i
  .have h':=h.2;rw[ha,fp]at h';obtain⟨c,t,g1,g2,g3,g4⟩:=uu l n i hi (b::s) h';refine⟨c,t,by simp[sS,ha,g1],g2,g3,?_⟩;rw[g4];show _=(cJ l i a.toNat&&lp l a.toNat (b::s));rw[ha,fp,Db,Bool.true_and]
  .have h':=h.1;exact⟨a,b::s,by simp[sS,ha],by omega,h,rfl⟩
def CH(l:List Nd):∀(r:List Nd) (i:Nat) (R4:List Int),l.drop i=r->VA l.length i R4->isS r i R4=(r.all Nd.ok&&lp l i R4)
 |[],i,R4,hr,hs=>by
  have hi:l.length<=i:=by simpa using hr
  have key:∀(R4:List Int) (lo:Nat),l.length<=lo->VA l.length lo R4->lp l lo R4=true:=by
   intro R4
   induction R4 with
   |nil=>intro _ _ _;rfl
   |cons a s ih=>
    intro lo Tj h;have h1:=h.1;simp only[lp];rw[ih a.toNat (by omega) h.2,cJ,Bool.and_true];split
    .have:l[lo]?=none:=by simp[Tj]
     rw[this];have hend:∀(R4:List Int) (lo:Nat),VA l.length lo R4->lo<=l.length:=by
      intro R4
      induction R4 with
      |nil=>intro lo h;simp only[VA]at h;omega
      |cons b t ih=>intro lo h;have:=h.1;have:=ih _ h.2;omega
     have:=hend _ _ h.2;omega
    .rfl
  simp[isS,key R4 i hi hs]
 |x::r,i,R4,hr,hs=>by
  have hi:i<l.length:=by
   rcases Nat.lt_or_ge i l.length with h|h
   .exact h
   .rw[E6 h]at hr;cases hr
  have hx:l[i]?=some x:=by
   have:(l.drop i)[0]?=some x:=by rw[hr];rfl
   simpa using this
  have hr':l.drop (i+1)=r:=by
   have:(l.drop i).drop 1=r:=by rw[hr];rfl
   simpa using this
  obtain⟨a,s,h1,h2,h3,h4⟩:=uu l l.length i hi R4 hs;rw[isS,h1];simp only;rw[<-h4];simp only[lp,yD];have Q0:cJ l i a.toNat=if _hx:1<=x.size/\x.size<=(a.toNat:Int)-i then
   (decide (x.kind=1)||decide (x.size<=1))&&cJ l (i+1) (i+x.size.toNat)&&cJ l (i+x.size.toNat) a.toNat else false:=by
   rw[cJ,dif_pos (by omega),hx]
  rw[Q0];have RG:(a.toNat:Int)=a:=by omega
  rw[RG];by_cases hc:1<=x.size/\x.size<=a-i
  .rw[dif_pos hc];have e:(i+x.size).toNat=i+x.size.toNat:=by omega
   have ih:=CH l r (i+1) ((i+x.size)::a::s) hr' ⟨by omega,by rw[e];omega,h3.2⟩;by_cases hk:x.ok=true/\(x.kind=1\/x.size<=1)
   .rw[aE ⟨hk.1,hc.1,hc.2,hk.2⟩,ih];simp only[lp,e,hk.1,Bool.true_and];have:(decide (x.kind=1)||decide (x.size<=1))=true:=by simpa using hk.2
    rw[this,Bool.true_and,Bool.and_assoc]
   .rw[aH (λh=>hk ⟨h.1,h.2.2.2⟩)];symm;rw[Bool.eq_false_iff];intro h;simp only[Ba,kJ,Sp]at h;exact hk ⟨h.1.1,h.2.1.1.1⟩
  .rw[dif_neg hc,aH (λh=>hc ⟨h.2.1,h.2.2.1⟩)];simp
def H9(l:List Nd):isS l 0 [(l.length:Int)]=Qy l:=by
 rw[CH l l 0 [(l.length:Int)] rfl ⟨by omega,by simp[VA]⟩];simp[lp,Qy]
open Go.Proofs Go.Proofs.Tryz
def o14(f:FuncId)(args:List V):Option V:=if f=68 then(match args with
 |[.agg [.int .i64 a0,.int .i64 a1,.int .i64 a2,.int .i64 a3,.int .i64 a4,.int .i64 a5,.int .i64 a6,.int .i64 a7,.int .i64 a8,.int .i64 a9,.int .i64 P0,.int .i64 SA,.int .i64 a12,.int .i64 R5,.int .i64 Uc,.int .i64 SR,.sl 1 rows,.int .i64 SB,.int .i64 TJ,.int .i64 Vd]]=>
  (fX rows).bind λws=>if ws.length<=200000000000000 then some (.bool (Nd.ok ⟨a0,a1,⟨a2,a3,a4,a5,a6,a7,a8,a9,P0,SA,a12,R5⟩,Uc,SR,ws,SB,TJ,Vd⟩))else none
 |_=>none)else none
def O14:Rd prog where
 get f args _:=o14 f args
 ok f args U v h:=by
  unfold o14 at h;split at h
  .rename_i hf;subst hf;split at h
   .rw[Option.bind_eq_some_iff]at h;obtain⟨ws,h1,h2⟩:=h;split at h2
    .rename_i hw;simp only[bf]at h2;subst h2;rw[lP h1];exact KY ⟨_,_,⟨_,_,_,_,_,_,_,_,_,_,_,_⟩,_,_,ws,_,_,_⟩ hw U
    .cases h2
   .cases h
  .cases h
def L4{x:Nd}(hw:x.words.length<=200000000000000)(U:ag):O14.get 68 [.agg [.int .i64 x.kind,.int .i64 x.size,.int .i64 x.st.top,.int .i64 x.st.P8,.int .i64 x.st.PS,.int .i64 x.st.PG,.int .i64 x.st.QE,.int .i64 x.st.Qk,.int .i64 x.st.Qw,.int .i64 x.st.head,.int .i64 x.st.before,.int .i64 x.st.after,.int .i64 x.st.inside,.int .i64 x.st.clear,.int .i64 x.line,.int .i64 x.space,bD x.words,.int .i64 x.side,.int .i64 x.w,.int .i64 x.h]] U=
 some (.bool x.ok):=by
 show((fX (x.words.map vI)).bind λws=>if ws.length<=200000000000000 then some (V.bool (Nd.ok ⟨x.kind,x.size,⟨x.st.top,x.st.P8,x.st.PS,x.st.PG,x.st.QE,x.st.Qk,x.st.Qw,x.st.head,x.st.before,x.st.after,x.st.inside,x.st.clear⟩,x.line,x.space,ws,x.side,x.w,x.h⟩))else none)=_;rw[tX,Option.bind_some,aE hw]
def Gh{rows:List V}{k:Nat}{a:Int}{s:List Int}(hk:k=(a::s).length)(ht:rows.take k=(a::s).reverse.map vI):rows[k-1]?=some (.int .i64 a)/\rows.take (k-1)=s.reverse.map vI:=by
 simp only[Q4]at hk;have h1:(rows.take k)[k-1]?=rows[k-1]?:=by rw[List.getElem?_take,aE (by omega)]
 constructor
 .rw[<-h1,ht,hk];simp
 .have h2:rows.take (k-1)=(rows.take k).take (k-1):=by rw[List.take_take];congr 1;omega
  rw[h2,ht,hk];simp
def VA.le{n:Nat}:∀{R4:List Int} {lo:Nat},VA n lo R4->lo<=n
 |[],lo,h=>by simp only[VA]at h;omega
 |a::s,lo,h=>by have h1:=h.1;have h2:=VA.le h.2;omega
def Cp(l:List Nd)(hl:ed l):bb prog 36 [aQ l] (.bool (Qy l)):=λU=>by
 have hl0:=hl;obtain⟨hl1,hl2⟩:=hl;refine e36.r (by simp[c36]) ?_;refine ae.mix 6 ?_;apply sR;simp only[go_sem,seval,aN,aV,c36,fe];intro e0 he0;refine ae.loop (λm st=>∃i R4 e k rows,i<=l.length/\m=l.length-i/\Qy l=isS (l.drop i) i R4/\VA l.length i R4/\R4≠[]/\R4.length<=i+1/\aa U st.U/\st.U e=some ⟨3,1,rows⟩/\U e=none/\k=R4.length/\k<=rows.length/\rows.take k=R4.reverse.map vI/\
  st.s 3=.own e 0 k/\st.s 9=aQ l/\st.s 10=vI l.length/\st.s 11=vI i) l.length ?_ ?_
 .refine⟨0,[(l.length:Int)],e0,1,[vI l.length],by omega,by omega,by rw[<-H9];rfl,⟨by omega,by simp[VA]⟩,by simp,by simp,(aa.refl U).C' he0,af,he0,rfl,by simp,rfl,rfl,rfl,rfl,rfl⟩
 .rintro m ⟨s,Z'⟩ ⟨i,R4,e,k,rows,hi,rfl,hB,hasc,P',TD,G',Q0,hnew,hk,hkr,QF,h3,h9,VB,Up⟩;simp only at G' Q0 h3 h9 VB Up;refine ae.mix 6 ?_;apply sR;simp only[go_sem,seval,aN,aV,h3,h9,VB,Up];refine And.intro (λH'=>?_) (λUU=>?_)
  .have Rw:i<l.length:=by simp at H';omega
   have hd:l.drop i=l[i]::l.drop (i+1):=iy Rw;have hxw:l[i].words.length<=200000000000000:=hl2 _ (QL Rw);rw[hd]at hB;generalize Yi:l[i]=x at*;simp only[go_sem,seval,aN,aV,mQ Rw,Yi,wg,h3,h9,VB,Up,Nd.cells];intro TI Ub;replace Ub:Z' TI=none:=Ub;have n5e:e≠TI:=by rintro rfl;rw[Q0]at Ub;cases Ub
   have n5n:U TI=none:=G'.none Ub;refine ae.loop (λm st=>∃Wb k',m=Wb.length/\sS i R4=sS i Wb/\VA l.length i Wb/\Wb≠[]/\Wb.length<=R4.length/\st.U=C' Z' TI ⟨51,20,[.agg x.cells]⟩/\k'=Wb.length/\k'<=rows.length/\rows.take k'=Wb.reverse.map vI/\
    st.s 3=.own e 0 k'/\st.s 4=vI i/\st.s 5=.ptr TI 0 0/\st.s 9=aQ l/\st.s 10=vI l.length/\st.s 11=vI i) R4.length ?_ ?_
   .exact⟨R4,k,rfl,rfl,hasc,P',Qt _,rfl,hk,hkr,QF,h3,rfl,rfl,h9,VB,Up⟩
   .rintro m ⟨s,Z''⟩ ⟨Wb,k',rfl,hpop,hasc',hne',hsl',Qj,Q8,hkr',htk',h3,h4,h5,h9,VB,Up⟩;simp only at Qj h3 h4 h5 h9 VB Up;subst Qj;obtain⟨a,tl,rfl⟩:=List.exists_cons_of_ne_nil hne';obtain⟨Wc,htk2⟩:=Gh Q8 htk';have hkpos:1<=k':=by rw[Q8];simp
    have g0:(k':Int)-1<k':=by omega
    have g1:(0:Int)<=(k':Int)-1:=by omega
    have g2:(k':Int)-1<=k':=by omega
    have g3:((k':Int)-1).toNat=k'-1:=by omega
    have hrng:PY .i64 ((k':Int)-1):=ar;refine ae.mix 6 ?_
    (refine ae.bL O14 300 ?_;simp only[go_sem,seval,aN,aV,h3,h4,h5,h9,VB,Up,ab n5e,Q0,g0,g1,g2,g3,Int.le_refl,Int.toNat_zero,Nat.sub_zero,Wc,vT,Nd.cells,L4 hxw,tO (Nd.ok x)])
    refine And.intro (λh1=>⟨hrng,And.intro (λh2=>?_) (λh2=>?_)⟩) (λh1=>?_)
    .obtain⟨b,tl',rfl⟩:∃b tl',tl=b::tl':=by
      cases tl with
      |nil=>simp at Q8;omega
      |cons b tl'=>exact⟨b,tl',rfl⟩
     have hp2:sS i (a::b::tl')=sS i (b::tl'):=by simp[sS,h2]
     have ha2:=hasc'.2;rw[h2,fp]at ha2;refine⟨hrng,_,?_,b::tl',k'-1,rfl,by rw[hpop,hp2],ha2,by simp,?_,?_,by omega,htk2,rfl⟩
     .simp
     .simp only[Q4]at hsl'|-;omega
     .simp only[Q4]at Q8|-;omega
    all_goals
     have Uq:sS i (a::tl)=a::tl:=by
      cases tl with
      |nil=>rfl
      |cons b tl'=>
       have:a≠i:=by first
        |simpa using h2
        |(exfalso;simp at Q8 h1;omega)
       simp[sS,this]
     obtain⟨c,t,p1,p2,p3,p4⟩:=uu l l.length i Rw (a::tl) hasc';rw[Uq,List.cons.injEq]at p1;obtain⟨rfl,rfl⟩:=p1;have hIs:Qy l=if x.ok=true/\1<=x.size/\x.size<=a-i/\(x.kind=1\/x.size<=1)then isS (l.drop (i+1)) (i+1) ((i+x.size)::a::tl)else false:=by
      rw[hB,isS,hpop,Uq]
     have hale:=VA.le p3.2;have hlenk:(rows.take k').length=k':=by simp;omega
     have hstk:k'<=i+1:=by rw[Q8];omega
     have happ:x.ok=true/\1<=x.size/\x.size<=a-i/\(x.kind=1\/x.size<=1)->∀(X Y:Ob) (id Ti:Nat),C' Z' TI X id=none->C' (C' Z' TI X) id Y Ti=none->
      Qy l=isS (l.drop (i+1)) (i+1) ((i+x.size)::a::tl)/\VA l.length (i+1) ((i+x.size)::a::tl)/\aa U (C' (del (C' (C' Z' TI X) id Y) e) Ti ⟨3,1,rows.take k'++[.int .i64 (i+x.size)]⟩)/\U Ti=none/\
      (rows.take k'++[V.int .i64 (i+x.size)]).take (k'+1)=((i+x.size)::a::tl).reverse.map vI:=by
      intro hc X Y id Ti M' UE;rw[gk]at M';rw[gk,gk]at UE;rw[aE hc]at hIs;refine⟨hIs,⟨by omega,?_,p3.2⟩,?_,G'.none UE.2.2,?_⟩
      .have:(i+x.size).toNat=i+x.size.toNat:=by omega
       omega
      .exact aa.aD (aa.Gb ((G'.aD n5n).aD (G'.none M'.2)) hnew) (G'.none UE.2.2)
      .rw[nX (by simp;omega),htk'];simp
     refine And.intro (λq1=>And.intro (λq2=>⟨hrng,ar,And.intro (λq3=>And.intro (λq4=>And.intro (λq5=>?_) (λq5=>?_)) (λq4=>?_)) (λq3=>?_)⟩) (λq2=>?_)) (λq1=>?_)
     .refine av.pure (G'.C' Ub) ?_;rw[hIs,aH];rintro⟨c1,c2,c3,c4⟩;omega
     .refine⟨ar,?_⟩;intro id M';have WX:=(gk.1 M').2;have nie:e≠id:=by rintro rfl;rw[Q0]at WX;cases WX
      have W4:∀U,U e=some ⟨3,1,rows⟩->cZ U 3 1 (.own e 0 k')=some (rows.take k',some e):=by
       intro U Qj;simp only[cZ,Qj];rw[aE ⟨trivial,trivial,trivial,hkr'⟩]
      have Sn:∀U,U id=some ⟨3,1,[.int .i64 (i+x.size)]⟩->cK U 1 (.own id 0 1)=some [.int .i64 (i+x.size)]:=by
       intro U Qj;simp only[cK,Qj];rw[aE (by simp)];simp
      have hb:(k'+1)*9<=140737488355328:=by omega
      simp only[go_sem,seval,aN,aV,W4,Sn,ab n5e,ab nie,Q0,hlenk,hb,bI,h3,h4,h5,h9,VB,Up];intro Ti UE;obtain⟨z1,z2,z3,z4,z5⟩:=happ ⟨by simpa using q1,by omega,by omega,by first|(left;simpa using q4)|(right;simp at q5;omega)⟩ _ _ id Ti M' UE
      refine⟨ar,_,?_,i+1,_,Ti,k'+1,_,by omega,rfl,z1,z2,by simp,?_,z3,af,z4,?_,?_,z5,rfl,?_⟩
      .omega
      .simp only[Q4]at Q8 hsl'|-;omega
      .simp only[Q4]at Q8|-;omega
      .simp;omega
      .simp
     .refine⟨ar,?_⟩;intro id M';have WX:=(gk.1 M').2;have nie:e≠id:=by rintro rfl;rw[Q0]at WX;cases WX
      have W4:∀U,U e=some ⟨3,1,rows⟩->cZ U 3 1 (.own e 0 k')=some (rows.take k',some e):=by
       intro U Qj;simp only[cZ,Qj];rw[aE ⟨trivial,trivial,trivial,hkr'⟩]
      have Sn:∀U,U id=some ⟨3,1,[.int .i64 (i+x.size)]⟩->cK U 1 (.own id 0 1)=some [.int .i64 (i+x.size)]:=by
       intro U Qj;simp only[cK,Qj];rw[aE (by simp)];simp
      have hb:(k'+1)*9<=140737488355328:=by omega
      simp only[go_sem,seval,aN,aV,W4,Sn,ab n5e,ab nie,Q0,hlenk,hb,bI,h3,h4,h5,h9,VB,Up];intro Ti UE;obtain⟨z1,z2,z3,z4,z5⟩:=happ ⟨by simpa using q1,by omega,by omega,by first|(left;simpa using q4)|(right;simp at q5;omega)⟩ _ _ id Ti M' UE
      refine⟨ar,_,?_,i+1,_,Ti,k'+1,_,by omega,rfl,z1,z2,by simp,?_,z3,af,z4,?_,?_,z5,rfl,?_⟩
      .omega
      .simp only[Q4]at Q8 hsl'|-;omega
      .simp only[Q4]at Q8|-;omega
      .simp;omega
      .simp
     .refine av.pure (G'.C' Ub) ?_;rw[hIs,aH];rintro⟨c1,c2,c3,c4⟩;omega
     .refine av.pure (G'.C' Ub) ?_;rw[hIs,aH];rintro⟨c1,c2,c3,c4⟩;omega
     .refine av.pure (G'.C' Ub) ?_;rw[hIs,aH];rintro⟨c1,c2,c3,c4⟩;exact q1 (by simp[c1])
  .have XQ:i=l.length:=by simp at UU;omega
   refine av.pure G' ?_;rw[hB,XQ,qx];rfl
open Go.Proofs Go.Proofs.Tryz
def lZ(times n:Int):Int:=if n=0\/times<=1099511627776/n then n*times else 1099511627777
def mM(times h:Int):List Int->Int
 |[]=>h
 |n::l=>mM times (min (h+lZ times n) 1099511627777) l
def eZ(i:Nat)(x:Nd)(s:Sm)(ends:List Int):Sm×List Int:=
 let ends:=ends.filter λn=>!decide (n<=(i:Int))
 if x.kind=1 then
  let ends:=ends++[i+x.size]
  (⟨max s.depth ends.length,s.pieces,s.nodes+1,mM 1 s.L' [x.st.top,x.st.P8,x.st.PS,x.st.PG,x.st.head]⟩,ends)
 else if x.kind=2 then(⟨s.depth,s.pieces+x.words.length,s.nodes+1,mM x.words.length s.L' [x.line]⟩,ends)
 else(⟨s.depth,s.pieces+1,s.nodes+1,mM 1 s.L' [x.h]⟩,ends)
def ja(l:List Nd):Nat->Sm×List Int
 |0=>(⟨0,0,0,0⟩,[])
 |i+1=>match l[i]? with
  |some x=>eZ i x (ja l i).1 (ja l i).2
  |none=>ja l i
def zc{times n:Int}(h0:0<=n)(h1:n<=mx)(t0:0<=times)(a:Int)(ha:0<=a):min (a+lZ times n) 1099511627777=min (a+n*times) 1099511627777:=by
 unfold lZ;split
 .rfl
 .rename_i h;have hn:0<n:=by omega
  have hq:1099511627776/n<times:=by omega
  have h2:1099511627776<n*times:=by
   have:=Int.ediv_lt_iff_lt_mul (a:=1099511627776) (b:=times) hn;have h3:=this.1 hq;rw[Int.mul_comm];exact h3
  omega
def te{a b:Int}(h1:0<=a/\a<=1099511627777)(h2:0<=b):∀n:Nat,BM a b n=min (a+b*n) 1099511627777
 |0=>by simp[BM];omega
 |n+1=>by
  rw[BM,te h1 h2 n,j7];have e:b*((n+1:Nat):Int)=b*n+b:=by rw[Int.natCast_add,Int.mul_add];simp
  rw[e];have:0<=b*(n:Int):=Int.mul_nonneg h2 (by omega);generalize b*(n:Int)=q at*;omega
def lQ{h n:Int}(h1:0<=h)(n0:0<=n)(n1:n<=mx):min (h+lZ 1 n) 1099511627777=j7 h n:=by
 rw[zc n0 n1 (by omega) h h1,Int.mul_one];rfl
def ky(l:List Nd)(i:Nat):Nat->List Int
 |0=>[]
 |k+1=>ky l i k++(match l[k]? with
  |some y=>if y.kind=1/\(i:Int)<k+y.size then[(k:Int)+y.size]else[]
  |none=>[])
def og(l:List Nd)(i:Nat):∀k,((ky l i k).length:Int)=jx l i k
 |0=>rfl
 |k+1=>by
  simp only[ky,jx,gY,Int.natCast_add,og l i k];cases l[k]? with
  |none=>simp
  |some y=>simp only[];split<;>simp
def oF(l:List Nd)(i:Nat):∀k,(ky l i k).filter (λn=>!decide (n<=((i+1:Nat):Int)))=ky l (i+1) k
 |0=>rfl
 |k+1=>by
  simp only[ky,List.filter_append,oF l i k];congr 1;split
  .rename_i y _;by_cases hk:y.kind=1
   .by_cases h1:((i+1:Nat):Int)<k+y.size
    .rw[aE ⟨hk,by omega⟩,aE ⟨hk,h1⟩];have:¬((k:Int)+y.size<=((i+1:Nat):Int)):=by omega
     simp only[List.filter_cons,this,decide_false,Bool.not_false,if_true,List.filter_nil]
    .rw[aH (show¬(y.kind=1/\((i+1:Nat):Int)<k+y.size)from λh=>h1 h.2)];split
     .have:(k:Int)+y.size<=((i+1:Nat):Int):=by omega
      simp only[List.filter_cons,this,decide_true,Bool.not_true,jz,if_false,List.filter_nil]
     .rfl
   .rw[aH (λh=>hk h.1),aH (λh=>hk h.1)];rfl
  .rfl
def nE(l:List Nd)(hl:ed l)(hb:Qy l=true):∀i,i<=l.length->(ja l i).1={ ik l ⟨0,0,l.length,0⟩ i with nodes:=i }/\(ja l i).2=(match i with
 |0=>[]
 |j+1=>ky l j (j+1))/\(ik l ⟨0,0,l.length,0⟩ i).sY i/\(ik l ⟨0,0,l.length,0⟩ i).nodes=l.length
 |0,_=>⟨rfl,rfl,by simp[ik,Sm.sY],rfl⟩
 |i+1,hi=>by
  obtain⟨h1,h2,h3,h4⟩:=nE l hl hb i (by omega);have P5:l.all Nd.ok=true/\cJ l 0 l.length=true:=by simpa[Qy]using hb
  have hx:=(fv.1 P5.1) _ (QL (show i<l.length by omega));have hg:l[i]?=some l[i]:=by simp[show i<l.length by omega]
  obtain⟨z1,z2,z3⟩:=jg l (l.length+1) 0 l.length (by omega) (by omega) P5.2 i (by omega) (by omega) (by omega);have hw:=hl.2 _ (QL (show i<l.length by omega));have YQ:=DY (l:=l) hx hw h3;generalize Yi:l[i]=x at*;obtain⟨p1,p2,p3,p4,p5,p6⟩:=kD hx;have hS:ja l (i+1)=eZ i x (ja l i).1 (ja l i).2:=by simp only[ja,hg]
  have hR:ik l ⟨0,0,l.length,0⟩ (i+1)=pf l i x (ik l ⟨0,0,l.length,0⟩ i):=by simp only[ik,hg]
  have hf:(ja l i).2.filter (λn=>!decide (n<=(i:Int)))=ky l i i:=by
   rw[h2];cases i with
   |zero=>rfl
   |succ j=>exact oF l j (j+1)
  rw[hS,hR,h1];generalize hsm:ik l ⟨0,0,l.length,0⟩ i=sm at*;obtain⟨f1,f2,f3⟩:=h3;have Wd:ky l i (i+1)=ky l i i++(if x.kind=1 then[(i:Int)+x.size]else[]):=by
   simp only[ky,hg];by_cases hk:x.kind=1
   .rw[aE ⟨hk,by omega⟩,aE hk]
   .rw[aH (λh=>hk h.1),aH hk]
  refine⟨?_,?_,by rw[Int.natCast_add];exact YQ,?_⟩
  .by_cases hk:x.kind=1
   .obtain⟨q1,q2,q3,q4,q5⟩:=p6 hk;have r1:=gn f3 q1.1;have r2:=gn r1 q2.1;have r3:=gn r2 q3.1;have r4:=gn r3 q4.1;have hlen:=og l i (i+1);rw[Wd,aE hk]at hlen;simp only[eZ,pf,aE hk,hf,mM,Sm.mk.injEq];refine⟨?_,trivial,by simp,?_⟩
    .rw[hlen]
    .rw[lQ f3.1 q1.1 q1.2,lQ r1.1 q2.1 q2.2,lQ r2.1 q3.1 q3.2,lQ r3.1 q4.1 q4.2,lQ r4.1 q5.1 q5.2]
   .by_cases SF:x.kind=2
    .simp only[eZ,pf,aH hk,aE SF,mM,Sm.mk.injEq];refine⟨trivial,trivial,by simp,?_⟩;rw[zc p2 p3 (by omega) _ f3.1,te f3 p2]
    .simp only[eZ,pf,aH hk,aH SF,mM,Sm.mk.injEq];exact⟨trivial,trivial,by simp,lQ f3.1 p4 p5⟩
  .by_cases hk:x.kind=1
   .simp only[eZ,aE hk,hf,Wd]
   .by_cases SF:x.kind=2
    .simp only[eZ,aH hk,aE SF,hf,Wd,kL]
    .simp only[eZ,aH hk,aH SF,hf,Wd,kL]
  .rw[<-h4];unfold pf;split
   .rfl
   .split<;>rfl
def xV(l:List Nd):Sm×Int:=if Qy l then((ja l l.length).1,0)else(⟨0,0,0,0⟩,4)
def Da(l:List Nd)(hl:ed l):xV l=ew l:=by
 unfold xV ew;by_cases hb:Qy l=true
 .obtain⟨h1,_,_,h4⟩:=nE l hl hb l.length (Qt _);rw[aE hb,aE hb,h1];generalize ik l ⟨0,0,l.length,0⟩ l.length=sm at*;cases sm;simp_all
 .rw[aH hb,aH hb]
open Go.Proofs Go.Proofs.Tryz
def BR{U:ag}{c:Nat}{i:Int}(h:U c=some ⟨3,1,[vI i]⟩)(n:Int):aB prog 70 [vI n,.ptr c 0 0] U λr Z'=>r=.bool (decide (n<=i))/\Z'=U:=by
 refine e70.r (by simp[c70]) ?_;apply sR;simp only[go_sem,seval,aN,aV,c70,h];exact av.same rfl
abbrev kept(i:Int)(l:List Int):List Int:=l.filter λn=>!decide (n<=i)
def se{p:Int->Bool}:∀{l:List Int},da p l<0->l.filter (λn=>!p n)=l
 |[],_=>rfl
 |x::l,h=>by
  simp only[da]at h;split at h
  .omega
  .rename_i hp;have ZQ:p x=false:=by simpa using hp
   split at h
   .rename_i h2;simp only[List.filter_cons,ZQ,Bool.not_false,if_true,se h2]
   .have:=jt p l;omega
def rL{p:Int->Bool}:∀{l:List Int},¬da p l<0->(da p l).toNat<l.length/\(l.take (da p l).toNat).filter (λn=>!p n)=l.take (da p l).toNat/\
 ∀x,l[(da p l).toNat]?=some x->p x=true
 |[],h=>by simp[da]at h
 |x::l,h=>by
  simp only[da]at h|-;split
  .rename_i hp;refine⟨by simp,by simp,?_⟩;intro y hy;simp at hy;subst hy;exact hp
  .rename_i hp;rw[aH hp]at h;have ZQ:p x=false:=by simpa using hp
   split
   .rename_i h2;rw[aE h2]at h;omega
   .rename_i h2;obtain⟨g1,g2,g3⟩:=rL h2;have:=jt p l;have e:(da p l+1).toNat=(da p l).toNat+1:=by omega
    rw[e];refine⟨by simp;omega,?_,?_⟩
    .simp only[Bo,List.filter_cons,ZQ,Bool.not_false,if_true,g2]
    .simpa using g3
def Gl{U:ag}{e c k:Nat}{i:Int}{full:List Int}(he:U e=some ⟨3,1,full.map vI⟩)(hc:U c=some ⟨3,1,[vI i]⟩)(P':c≠e)(hk:k<=full.length)(Tu:full.length<=1000000000000):
 aB prog 69 [.own e 0 k,.fn 70 [.ptr c 0 0]] U λr Z'=>∃(k':Nat) (Ve:List Int),r=.own e 0 k'/\Z'=C' U e ⟨3,1,Ve.map vI⟩/\k'<=Ve.length/\Ve.length<=full.length/\Ve.take k'=kept i (full.take k):=by
 have hlk:(full.take k).length=k:=by simp;omega
 have hr:Reads U 1 false (.own e 0 k) ((full.take k).map vI):=by
  have:=Reads.own (U:=U) (off:=0) (len:=k) he rfl (by simpa using hk) (λr hr=>by simp only[fM]at hr;obtain⟨n,_,rfl⟩:=hr;rfl);simpa using this
 refine e69.r (by simp[c69]) ?_;refine ae.mix 8 ?_;apply sR;simp only[go_sem,seval,aN,aV,c69];refine ae.aC rfl rfl rfl (ny (p:=λn=>decide (n<=i)) hr (by omega) (λn _=>BR hc n)) ?_;generalize hw:da (λn=>decide (n<=i)) (full.take k)=w;have hwg:-1<=w:=by rw[<-hw];exact jt _ _
 apply sR;simp only[go_sem,seval,aN,aV];have RV:C' U e ⟨3,1,full.map vI⟩=U:=by
  funext j;simp only[C'];split
  .rename_i e';rw[e',he]
  .rfl
 refine And.intro (λhm=>?_) (λhm=>?_)
 .refine⟨_,U,aa.refl U,Wk.refl (aa.refl U) _,k,full,rfl,RV.symm,hk,Qt _,?_⟩;exact(se (by rw[hw];omega)).symm
 .have hw0:¬da (λn=>decide (n<=i)) (full.take k)<0:=by rw[hw];omega
  obtain⟨g1,g2,g3⟩:=rL hw0;rw[hw]at g1 g2 g3;rw[hlk]at g1;refine⟨ar,?_⟩;refine ae.loop (λm st=>∃(u j:Nat) (cur:List Int),u<j/\j<=k/\m=k-j/\cur.length=full.length/\cur.take u=kept i (full.take j)/\(∀q,j<=q->cur[q]?=full[q]?)/\st.U=C' U e ⟨3,1,cur.map vI⟩/\
   st.s 0=.own e 0 k/\st.s 1=.fn 70 [.ptr c 0 0]/\st.s 5=vI u/\st.s 6=vI j) (k-(w.toNat+1)) ?_ ?_
  .have hw1:w=((w.toNat:Nat):Int):=by omega
   refine⟨w.toNat,w.toNat+1,full,by omega,by omega,rfl,rfl,?_,λ_ _=>rfl,RV.symm,rfl,rfl,?_,?_⟩
   .have hx:(full.take k)[w.toNat]?=some (full[w.toNat]'(by omega)):=by rw[List.getElem?_take,aE g1,Tq]
    have hp:=g3 _ hx;have e1:(full.take k).take w.toNat=full.take w.toNat:=by rw[List.take_take];congr 1;omega
    rw[e1]at g2;rw[Tp (by omega)];have g2':kept i (full.take w.toNat)=full.take w.toNat:=g2;simp only[kept,List.filter_append]at g2'|-;rw[g2'];simp[hp]
   .show vI w=_;rw[<-hw1]
   .show vI (w+1)=_;rw[Int.natCast_add,<-hw1];rfl
  .rintro m ⟨s,Z'⟩ ⟨u,j,cur,huj,Yh,rfl,QG,hct,Vu,Qj,h0,h1,h5,h6⟩;simp only at Qj h0 h1 h5 h6;subst Qj;refine ae.mix 8 ?_;apply sR;simp only[go_sem,seval,aN,aV,h0,h1,h5,h6];refine And.intro (λH'=>?_) (λUU=>?_)
   .have Rw:j<k:=by omega
    have hjc:j<cur.length:=by omega
    have Rp:cur[j]?=some cur[j]:=by simp[hjc]
    have UU:(cur.map vI)[j]?=some (vI cur[j]):=by simp[hjc]
    have b1:(0:Int)<=j:=by omega
    have b2:(j:Int)<k:=by omega
    have b3:(0:Int)<=u:=by omega
    have b4:(u:Int)<k:=by omega
    simp only[go_sem,seval,aN,aV,h0,h1,h5,h6,b1,b2,UU,fp];refine ae.aC rfl rfl rfl (BR (i:=i) (by rw[ab P'];exact hc) cur[j]) ?_;have hgu:(cur.map vI)[u]?=some (vI (cur[u]'(by omega))):=by simp[show u<cur.length by omega]
    apply sR;simp only[go_sem,seval,aN,aV,h0,h1,h5,h6,b1,b2,b3,b4,UU,hgu,fp];have hfj:full[j]?=some cur[j]:=by rw[<-Vu j (Qt _)];exact Rp
    have htj:full.take (j+1)=full.take j++[cur[j]]:=by
     have hjf:j<full.length:=by omega
     rw[Tp hjf];congr 2;rw[Tq hjf]at hfj;simpa using hfj
    refine And.intro (λhd=>?_) (λhd=>?_)
    .refine⟨ar,ar,_,?_,u+1,j+1,cur.set u cur[j],by omega,by omega,rfl,by simpa using QG,?_,?_,?_,?_,?_⟩
     .omega
     .rw[htj];have hul:u<cur.length:=by omega
      have:(cur.set u cur[j]).take (u+1)=cur.take u++[cur[j]]:=by
       rw[Tp (by simpa using hul),List.take_set,List.set_eq_of_length_le (by simp;omega)];simp
      rw[this,hct];simp only[kept,List.filter_append];congr 1;have hd':¬cur[j]<=i:=by simpa using hd
      simp[hd']
     .intro q hq;rw[List.getElem?_set_ne (by omega)];exact Vu q (by omega)
     .simp
     .simp
     .simp
    .refine⟨ar,_,?_,u,j+1,cur,by omega,by omega,rfl,QG,?_,λq hq=>Vu q (by omega),rfl,?_⟩
     .omega
     .rw[htj,hct];simp only[kept,List.filter_append];have hd':cur[j]<=i:=by simpa using hd
      simp[hd']
     .simp
   .have hjk':j=k:=by omega
    subst hjk';have b3:(0:Int)<=u:=by omega
    have b4:(u:Int)<=j:=by omega
    simp only[go_sem,seval,aN,aV,h0,h1,h5,h6,b3,b4,Int.le_refl,fp,kI];refine ae.clear (id:=e) (off:=u) (len:=j-u) (ob:=⟨3,1,cur.map vI⟩) rfl rfl rfl af rfl (by simp;omega) ?_;apply sR;simp only[go_sem,seval,aN,aV,h0,h1,h5,h6,b3,b4,Int.le_refl,fp,kI,Nat.sub_zero];refine⟨_,_,aa.refl _,Wk.refl (aa.refl _) _,u,cur.take u++List.replicate (j-u) 0++cur.drop (u+(j-u)),by simp,?_,?_,?_,?_⟩
    .simp[List.map_take,List.map_drop]
    .simp;omega
    .simp;omega
    .rw[ly,LM (by simp;omega),List.take_take,Nat.min_self,hct]
open Go.Proofs Go.Proofs.Tryz
def Reads.aT(U:ag):Reads U 1 false .aT []:=⟨rfl,λi v h=>by simp at h⟩
def BJ{U:ag}{c:Nat}{i:Int}(hc:U c=some ⟨3,1,[vI i]⟩):aB prog 69 [.aT,.fn 70 [.ptr c 0 0]] U λr Z'=>r=.aT/\Z'=U:=by
 refine e69.r (by simp[c69]) ?_;refine ae.mix 8 ?_;apply sR;simp only[go_sem,seval,aN,aV,c69];refine ae.aC rfl rfl rfl (ny (l:=[]) (p:=λn=>decide (n<=i)) (Reads.aT U) (by simp) (λn _=>BR hc n)) ?_;apply sR;simp only[go_sem,seval,aN,aV,da];exact av.same rfl
def Gp{times n:Int}(h0:0<=n)(t0:0<=times):0<=lZ times n/\lZ times n<=1099511627777:=by
 unfold lZ;split
 .rename_i h;refine⟨Int.mul_nonneg h0 t0,?_⟩;rcases h with h|h
  .subst h;simp
  .by_cases hn:n=0
   .subst hn;simp
   .have:=Int.mul_le_of_le_ediv (by omega:0<n) h;rw[Int.mul_comm];omega
 .omega
def de(s:Sm)(ends:V):Ob:=⟨102,5,[.agg [vI s.depth,vI s.pieces,vI s.nodes,vI s.L',ends]]⟩
def rF{U:ag}{c:Nat}{s:Sm}{ends sv:V}{times:Int}{l:List Int}(hc:U c=some (de s ends))(hr:∀ob,Reads (C' U c ob) 1 false sv (l.map vI))(hl:l.length<=200000000000000)
 (hn:∀n∈l,0<=n/\n<=mx)(ht:0<=times/\times<=200000000000000)(hh:0<=s.L'/\s.L'<=1099511627777)(Wd:ends.cells=[ends]):
 aB prog 71 [.ptr c 0 0,vI times,sv] U λr Z'=>r=.PN []/\Z'=C' U c (de { s with L':=mM times s.L' l } ends):=by
 have hlen:dR false sv=some (vI (l.length:Int)):=by simpa using(hr ⟨0,0,[]⟩).1
 have RV:C' U c (de s ends)=U:=by
  funext j;simp only[C'];split
  .rename_i e';rw[e',hc]
  .rfl
 refine e71.r (by simp[c71]) ?_;refine ae.mix 9 ?_;apply sR;simp only[go_sem,seval,aN,aV,c71,hlen];refine ae.loop (λm st=>∃(i:Nat) (h:Int),i<=l.length/\m=l.length-i/\mM times s.L' l=mM times h (l.drop i)/\(0<=h/\h<=1099511627777)/\st.U=C' U c (de { s with L':=h } ends)/\
  st.s 0=.ptr c 0 0/\st.s 1=vI times/\st.s 9=sv/\st.s 10=vI l.length/\st.s 11=vI i) l.length ?_ ?_
 .exact⟨0,s.L',by omega,by omega,rfl,hh,RV.symm,rfl,rfl,rfl,rfl,rfl⟩
 .rintro m ⟨s',Z'⟩ ⟨i,h,hi,rfl,hp,hhh,Qj,h0,h1,h9,VB,Up⟩;simp only at h0 h1 h9 VB Up Qj;subst Qj;refine ae.mix 9 ?_;apply sR;simp only[go_sem,seval,aN,aV,h0,h1,h9,VB,Up];refine And.intro (λH'=>?_) (λUU=>?_)
  .have Rw:i<l.length:=by omega
   have hd:l.drop i=l[i]::l.drop (i+1):=iy Rw;obtain⟨pp,e1,e2⟩:=(hr (de { s with L':=h } ends)).2 i (vI l[i]) (by simp[Rw]);have hni:=hn _ (QL Rw);rw[hd,mM]at hp;generalize P':l[i]=n at*;have jA:=Gp (n:=n) hni.1 ht.1;simp only[de]at e1 e2;simp only[mx]at hni;have hq:(1099511627776:Int).tdiv n=1099511627776/n:=Int.tdiv_eq_ediv_of_nonneg (by omega);by_cases hz:n=0
   .have QP:lZ times n=n*times:=by unfold lZ;rw[aE (.inl hz)]
    rw[QP]at hp jA;simp only[go_sem,seval,aN,aV,e1,e2,de,hz,h0,h1,h9,VB,Up];rw[hz]at hp jA;simp only[Int.zero_mul,Int.add_zero]at hp|-;refine⟨ar,ar,ar,_,?_,i+1,h,by omega,rfl,?_,hhh,?_,by simp⟩
    .omega
    .rw[hp,Int.min_eq_left hhh.2]
    .rw[aH (by omega)]
   .simp only[go_sem,seval,aN,aV,e1,e2,de,hz,h0,h1,h9,VB,Up,hq];have hdiv:0<=1099511627776/n/\1099511627776/n<=1099511627776:=⟨Int.ediv_nonneg (by omega) hni.1,Int.ediv_le_self _ (by omega)⟩
    refine⟨ar,λhle=>?_,λhgt=>?_⟩
    .have QP:lZ times n=n*times:=by unfold lZ;rw[aE (.inr hle)]
     rw[QP]at hp jA;refine⟨ar,ar,ar,_,?_,i+1,min (h+n*times) 1099511627777,by omega,rfl,hp,by omega,?_,by simp⟩
     .omega
     .rw[show(if 1099511627777<h+n*times then 1099511627777 else h+n*times)=min (h+n*times) 1099511627777 by split<;>omega]
    .have QP:lZ times n=1099511627777:=by unfold lZ;rw[aH (by omega)]
     rw[QP]at hp jA;refine⟨ar,ar,_,?_,i+1,min (h+1099511627777) 1099511627777,by omega,rfl,hp,by omega,?_,by simp⟩
     .omega
     .rw[show(if 1099511627777<h+1099511627777 then 1099511627777 else h+1099511627777)=min (h+1099511627777) 1099511627777 by split<;>omega]
  .have:i=l.length:=by omega
   refine⟨_,_,aa.refl _,Wk.refl (aa.refl _) _,rfl,?_⟩;rw[hp,this,qx];rfl
open Go.Proofs Go.Proofs.Tryz
def Ff{P:Program}{n:Nat}{Q:St->Prop}{k:List It}{O:Rd P}{f:Nat}{d:Option Nat}{l:List aK}{v:Nat->V}{ob:Ob}{s:Nat->V}{U:ag}{e:Nat}
 (h:∀id Z',aa (del U e) Z'->Z' id=some ob->U id=none->step P O n f (.d l k) ⟨aZ s d (v id),Z'⟩ Q):
 FZ P O n f l k d ⟨s,U⟩ Q (some λid=>(v id,Vc.C' (del U e) id ob)):=by
 rw[aV];refine λid M'=>h id _ ((aa.refl _).C' ?_) af M';by_cases e':id=e
 .simp[del,e']
 .rw[dN e'];exact M'
def mD(K U:ag)(v:V)(ends:List Int)(B:Nat):Prop:=
 (v=.aT/\ends=[])\/∃(e k:Nat) (full:List Int),v=.own e 0 k/\U e=some ⟨3,1,full.map vI⟩/\K e=none/\k<=full.length/\full.length<=B/\full.take k=ends
def MQ{K U:ag}{v:V}{ends:List Int}{B c:Nat}{i:Int}(hB:B<=1000000000000)(h:mD K U v ends B)(hK:aa K U)(hc:K c=some ⟨3,1,[vI i]⟩):
 aB prog 69 [v,.fn 70 [.ptr c 0 0]] U λr Z'=>aa K Z'/\mD K Z' r (kept i ends) B:=by
 rcases h with⟨rfl,rfl⟩|⟨e,k,full,rfl,h1,h2,h3,h4,rfl⟩
 .refine(BJ (hK _ _ hc)).mono ?_;rintro r Z' ⟨rfl,rfl⟩;exact⟨hK,.inl ⟨rfl,rfl⟩⟩
 .have P':c≠e:=by rintro rfl;rw[h2]at hc;cases hc
  refine(Gl h1 (hK _ _ hc) P' h3 (by omega)).mono ?_;rintro r Z' ⟨k',Ve,rfl,rfl,g1,g2,g3⟩;exact⟨hK.aD h2,.inr ⟨e,k',Ve,rfl,af,h2,g1,by omega,g3⟩⟩
def aa.IK{K U:ag}{i:Nat}{o:Ob}(h:aa K U)(hi:U i=some o):aa (Vc.C' K i o) U:=λj x hx=>by
 by_cases e:j=i
 .subst e;rw[af]at hx;rw[hi];exact hx
 .rw[ab e]at hx;exact h j x hx
def mD.new{K U Z':ag}{v:V}{ends:List Int}{B id:Nat}{o:Ob}(h:mD K U v ends B)(hs:aa U Z')(M':U id=none):mD (C' K id o) Z' v ends B:=by
 rcases h with h|⟨e,k,full,h0,h1,h2,h3⟩
 .exact .inl h
 .exact .inr ⟨e,k,full,h0,hs _ _ h1,by rw[ab (al h1 M')];exact h2,h3⟩
def mD.less{K K' U:ag}{v:V}{ends:List Int}{B:Nat}(h:mD K' U v ends B)(hs:aa K K'):mD K U v ends B:=by
 rcases h with h|⟨e,k,full,h0,h1,h2,h3⟩
 .exact .inl h
 .exact .inr ⟨e,k,full,h0,h1,hs.none h2,h3⟩
def LF{K U:ag}{v:V}{ends:List Int}{B c i:Nat}{x:Nd}{s:Sm}(hK:aa K U)(VC:K c=none)(hc:U c=some (de s v))(hE:∀o,mD (C' K c o) U v ends B)(hB:B<=1000000000)
 (hi:i<=10000)(hs:s.sY i)(hsn:s.nodes=i)(hx:x.ok=true)(hw:x.words.length<=200000000000000)(RS:1<=x.size/\x.size<=1000000000):
 aB prog 37 [.ptr c 0 0,vI i,ji x] U λr Z'=>r=.PN []/\aa K Z'/\∃v',Z' c=some (de (eZ i x s ends).1 v')/\∀o,mD (C' K c o) Z' v' (eZ i x s ends).2 (B+1):=by
 refine e37.r (by simp[c37]) ?_;refine ae.mix 7 ?_;apply sR;simp only[go_sem,seval,c37,ji,Nd.cells];refine ad λTH Z1 s1 a4 f4=>?_;have Xt:=s1 _ _ hc;have ZR:=al hc f4;simp only[go_sem,seval,a4];refine ad λTI Z2 s2 a5 f5=>?_;have Yx:=s2 _ _ Xt;have Xw:=al Xt f5;have UO:=al a4 f5;have a4:=s2 _ _ a4;have hK2:=(hK.trans s1).trans s2;have k4:K TH=none:=hK.none f4;have k5:K TI=none:=(hK.trans s1).none f5;simp only[go_sem,seval,Yx,de,a4,a5];have hK':aa (C' (C' (C' K c (de s v)) TH ⟨3,1,[vI i]⟩) TI ⟨51,20,[ji x]⟩) Z2:=((hK2.IK Yx).IK a4).IK a5;have hE':mD (C' (C' (C' K c (de s v)) TH ⟨3,1,[vI i]⟩) TI ⟨51,20,[ji x]⟩) Z2 v ends B:=((hE _).new s1 f4).new s2 f5;refine ae.call rfl rfl rfl (MQ (by omega) hE' hK' (by rw[ab UO,af])) ?_;rintro r Z3 ⟨hK3,hE3⟩;have Sa:=hK3 c _ (by rw[ab Xw,ab ZR,af]);have a4:=hK3 TH _ (by rw[ab UO,af]);have a5:=hK3 TI _ af;simp only[ji,Nd.cells]at a5;simp only[de]at Sa;have hKK:=(((aa.refl K).aD VC (o:=de s v)).aD k4 (o:=⟨3,1,[vI i]⟩)).aD k5 (o:=⟨51,20,[ji x]⟩);have h3:=hKK.trans hK3;have hsr:PY .i64 (s.nodes+1):=ar;obtain⟨p1,p2,p3,p4,p5,p6⟩:=kD hx;obtain⟨f1,f2,f3⟩:=hs;rcases hE3 with⟨rfl,TK⟩|⟨e,k,full,rfl,he,hKe,hk,Tu,TK⟩
 .by_cases R0:x.kind=1
  .apply sR;simp only[go_sem,seval,a4,a5,Sa,ab ZR.symm,ab Xw.symm,R0];refine⟨hsr,ar,?_⟩;refine bc λid8 Z4 s4 a8 f8=>?_;have hc4:=s4 c _ af;have a4:=s4 TH _ (by rw[ab ZR.symm];exact a4);have a5:=s4 TI _ (by rw[ab Xw.symm];exact a5);have hs8:∀U,U id8=some ⟨3,1,[.int .i64 (i+x.size)]⟩->cK U 1 (.own id8 0 1)=some [.int .i64 (i+x.size)]:=by
    intro U Qj;simp only[cK,Qj];rw[aE (by simp)];simp
   have hd:∀U,cZ U 3 1 .aT=some ([],none):=λ_=>rfl;simp only[go_sem,seval,hs8,a8,hd,bI,Nat.reduceLeDiff];refine bc λUN Z5 s5 a9 f9=>?_;have hc5:=s5 c _ hc4;have a4:=s5 TH _ a4;have a5:=s5 TI _ a5;have n9c:UN≠c:=by rintro rfl;rw[hc4]at f9;cases f9
   have n95:UN≠TI:=by rintro rfl;rw[s4 UN _ (by rw[ab Xw.symm];exact hK3 UN _ af)]at f9;cases f9
   simp only[go_sem,seval,hc5,a4,a5,a9,ab Xw.symm,ab n9c];refine ad λW3 Z6 s6 a6 f6=>?_;have hc6:=s6 c _ af;have a9:=s6 UN _ (by rw[ab n9c];exact a9);have n6c:W3≠c:=by rintro rfl;rw[hc6]at a6;simp at a6
   have YR:W3≠UN:=by rintro rfl;rw[a9]at a6;simp at a6
   simp only[go_sem,seval,a6];refine ad λid84 Z7 s7 a84 f84=>?_;have We:=s7 c _ (by rw[ab n6c.symm];exact hc6);have a9:=s7 UN _ (by rw[ab YR.symm];exact a9);have n84c:id84≠c:=by rintro rfl;rw[We]at a84;simp at a84
   simp only[go_sem,seval];have h4:=(h3.aD VC).trans s4;have h5:=h4.trans s5;have k9:K UN=none:=h4.none f9;have h6':=λo=>h5.aD VC (o:=o);have k6:K W3=none:=(h6' _).none f6;have h7:=(((h6' _).trans s6).aD k6).trans s7;obtain⟨q1,q2,q3,q4,q5⟩:=p6 R0;have hl5:∀n∈[x.st.top,x.st.P8,x.st.PS,x.st.PG,x.st.head],0<=n/\n<=mx:=by
    intro n hn;simp only[dc,List.not_mem_nil,or_false]at hn;rcases hn with rfl|rfl|rfl|rfl|rfl<;>assumption
   refine ae.call rfl rfl rfl (rF (s:=⟨if(1:Int)>s.depth then 1 else s.depth,s.pieces,s.nodes+1,s.L'⟩) (l:=[x.st.top,x.st.P8,x.st.PS,x.st.PG,x.st.head]) (times:=1) We
    (λob=>Reads.own (off:=0) (len:=5) ((ab n84c).trans a84) rfl (by simp) (λr hr=>by simp at hr;rcases hr with rfl|rfl|rfl|rfl|rfl<;>rfl)) (by simp) hl5 (by omega) f3 rfl) ?_
   rintro r Z8 ⟨rfl,rfl⟩;apply sR;simp only[go_sem,seval,aN,aV];refine⟨_,_,aa.refl _,Wk.refl (aa.refl _) _,rfl,h7.aD VC,.own UN 0 1,?_,λo=>.inr ⟨UN,1,[i+x.size],rfl,(ab n9c).trans a9,gk.2 ⟨n9c,k9⟩,by simp,by simp,?_⟩⟩
   .have e:(if(1:Int)>s.depth then 1 else s.depth)=max s.depth 1:=by split<;>omega
    rw[af,e];simp[eZ,R0,TK,de]
   .simp[eZ,R0,TK]
  .by_cases SF:x.kind=2
   .apply sR;simp only[go_sem,seval,a4,a5,Sa,ab ZR.symm,ab Xw.symm,SF,eI];refine⟨hsr,ar,?_⟩;refine ad λZP Z7 s7 a7 f7=>?_;have We:=s7 c _ af;have n7c:ZP≠c:=by rintro rfl;rw[We]at a7;simp at a7
    simp only[go_sem,seval];have h7:=(h3.aD VC).trans s7;refine ae.call rfl rfl rfl (rF (s:=⟨s.depth,s.pieces+x.words.length,s.nodes+1,s.L'⟩) (l:=[x.line]) (times:=x.words.length) We
     (λob=>Reads.own (off:=0) (len:=1) ((ab n7c).trans a7) rfl (by simp) (λr hr=>by simp at hr;rcases hr with rfl;rfl)) (by simp) (by intro n hn;simp at hn;subst hn;exact⟨p2,p3⟩) (by omega) f3 rfl) ?_
    rintro r Z8 ⟨rfl,rfl⟩;apply sR;simp only[go_sem,seval,aN,aV];refine⟨_,_,aa.refl _,Wk.refl (aa.refl _) _,rfl,h7.aD VC,_,af.trans (by simp[eZ,SF,de];rfl),λo=>?_⟩;have:(eZ i x s ends).2=kept i ends:=by simp[eZ,SF]
    rw[this];exact .inl ⟨rfl,TK⟩
   .have h4or:=p1;apply sR;simp only[go_sem,seval,a4,a5,Sa,ab ZR.symm,ab Xw.symm,R0,SF,eI];refine⟨hsr,ar,?_⟩;refine ad λZP Z7 s7 a7 f7=>?_;have We:=s7 c _ af;have n7c:ZP≠c:=by rintro rfl;rw[We]at a7;simp at a7
    simp only[go_sem,seval];have h7:=(h3.aD VC).trans s7;refine ae.call rfl rfl rfl (rF (s:=⟨s.depth,s.pieces+1,s.nodes+1,s.L'⟩) (l:=[x.h]) (times:=1) We
     (λob=>Reads.own (off:=0) (len:=1) ((ab n7c).trans a7) rfl (by simp) (λr hr=>by simp at hr;rcases hr with rfl;rfl)) (by simp) (by intro n hn;simp at hn;subst hn;exact⟨p4,p5⟩) (by omega) f3 rfl) ?_
    rintro r Z8 ⟨rfl,rfl⟩;apply sR;simp only[go_sem,seval,aN,aV];refine⟨_,_,aa.refl _,Wk.refl (aa.refl _) _,rfl,h7.aD VC,_,af.trans (by simp[eZ,R0,SF,de];rfl),λo=>?_⟩;have:(eZ i x s ends).2=kept i ends:=by simp[eZ,R0,SF]
    rw[this];exact .inl ⟨rfl,TK⟩
 .have XO:e≠c:=λe'=>by rw[e',ab Xw,ab ZR,af]at hKe;cases hKe
  have he4:e≠TH:=λe'=>by rw[e',ab UO,af]at hKe;cases hKe
  have he5:e≠TI:=λe'=>by rw[e',af]at hKe;cases hKe
  have hKe0:K e=none:=hKK.none hKe;have hlk:(full.take k).length=k:=by simp;omega
  by_cases R0:x.kind=1
  .apply sR;simp only[go_sem,seval,a4,a5,Sa,ab ZR.symm,ab Xw.symm,R0];refine⟨hsr,ar,?_⟩;refine bc λid8 Z4 s4 a8 f8=>?_;have hc4:=s4 c _ af;have a4:=s4 TH _ (by rw[ab ZR.symm];exact a4);have a5:=s4 TI _ (by rw[ab Xw.symm];exact a5);have hs8:∀U,U id8=some ⟨3,1,[.int .i64 (i+x.size)]⟩->cK U 1 (.own id8 0 1)=some [.int .i64 (i+x.size)]:=by
    intro U Qj;simp only[cK,Qj];rw[aE (by simp)];simp
   have he4':=s4 e _ (by rw[ab XO];exact he);have hd:∀U,U e=some ⟨3,1,full.map vI⟩->cZ U 3 1 (.own e 0 k)=some ((full.take k).map vI,some e):=by
    intro U Qj;simp only[cZ,Qj];rw[aE ⟨trivial,trivial,trivial,by simpa using hk⟩,List.map_take]
   have Vf:((full.take k).map vI).length=k:=by simpa using hlk
   have QH:(k+1)*9<=140737488355328:=by omega
   simp only[go_sem,seval,hs8,a8,hd,he4',bI,Vf,QH];refine Ff λUN Z5 s5 a9 f9=>?_;have hc5:=s5 c _ (by rw[dN XO.symm];exact hc4);have a4:=s5 TH _ (by rw[dN he4.symm];exact a4);have a5:=s5 TI _ (by rw[dN he5.symm];exact a5);have n9c:UN≠c:=by rintro rfl;rw[hc4]at f9;cases f9
   have n95:UN≠TI:=by rintro rfl;rw[s4 UN _ (by rw[ab Xw.symm];exact hK3 UN _ af)]at f9;cases f9
   simp only[go_sem,seval,hc5,a4,a5,a9,ab Xw.symm,ab n9c];refine ad λW3 Z6 s6 a6 f6=>?_;have hc6:=s6 c _ af;have a9:=s6 UN _ (by rw[ab n9c];exact a9);have n6c:W3≠c:=by rintro rfl;rw[hc6]at a6;simp at a6
   have YR:W3≠UN:=by rintro rfl;rw[a9]at a6;simp at a6
   simp only[go_sem,seval,a6];refine ad λid84 Z7 s7 a84 f84=>?_;have We:=s7 c _ (by rw[ab n6c.symm];exact hc6);have a9:=s7 UN _ (by rw[ab YR.symm];exact a9);have n84c:id84≠c:=by rintro rfl;rw[We]at a84;simp at a84
   simp only[go_sem,seval];have h4:=(h3.aD VC).trans s4;have h4':=h4.Gb hKe0;have h5:=h4'.trans s5;have k9:K UN=none:=h4.none f9;have h6':=λo=>h5.aD VC (o:=o);have k6:K W3=none:=(h6' _).none f6;have h7:=(((h6' _).trans s6).aD k6).trans s7;obtain⟨q1,q2,q3,q4,q5⟩:=p6 R0;have hl5:∀n∈[x.st.top,x.st.P8,x.st.PS,x.st.PG,x.st.head],0<=n/\n<=mx:=by
    intro n hn;simp only[dc,List.not_mem_nil,or_false]at hn;rcases hn with rfl|rfl|rfl|rfl|rfl<;>assumption
   refine ae.call rfl rfl rfl (rF (s:=⟨if((k+1:Nat):Int)>s.depth then((k+1:Nat):Int)else s.depth,s.pieces,s.nodes+1,s.L'⟩) (l:=[x.st.top,x.st.P8,x.st.PS,x.st.PG,x.st.head]) (times:=1) We
    (λob=>Reads.own (off:=0) (len:=5) ((ab n84c).trans a84) rfl (by simp) (λr hr=>by simp at hr;rcases hr with rfl|rfl|rfl|rfl|rfl<;>rfl)) (by simp) hl5 (by omega) f3 rfl) ?_
   rintro r Z8 ⟨rfl,rfl⟩;apply sR;simp only[go_sem,seval,aN,aV];refine⟨_,_,aa.refl _,Wk.refl (aa.refl _) _,rfl,h7.aD VC,.own UN 0 (k+1),?_,λo=>.inr ⟨UN,k+1,full.take k++[i+x.size],rfl,((ab n9c).trans a9).trans (by simp),gk.2 ⟨n9c,k9⟩,by simp;omega,by simp;omega,?_⟩⟩
   .have e:(if((k+1:Nat):Int)>s.depth then((k+1:Nat):Int)else s.depth)=max s.depth ((k+1:Nat):Int):=by split<;>omega
    rw[af,e];have hk0':kept i ends=full.take k:=TK.symm;simp[eZ,R0,hk0',hlk,de,Nat.min_eq_left hk]
   .have hk0':kept i ends=full.take k:=TK.symm;rw[nX (by simp;omega)];simp[eZ,R0,hk0']
  .by_cases SF:x.kind=2
   .apply sR;simp only[go_sem,seval,a4,a5,Sa,ab ZR.symm,ab Xw.symm,SF,eI];refine⟨hsr,ar,?_⟩;refine ad λZP Z7 s7 a7 f7=>?_;have We:=s7 c _ af;have n7c:ZP≠c:=by rintro rfl;rw[We]at a7;simp at a7
    simp only[go_sem,seval];have h7:=(h3.aD VC).trans s7;refine ae.call rfl rfl rfl (rF (s:=⟨s.depth,s.pieces+x.words.length,s.nodes+1,s.L'⟩) (l:=[x.line]) (times:=x.words.length) We
     (λob=>Reads.own (off:=0) (len:=1) ((ab n7c).trans a7) rfl (by simp) (λr hr=>by simp at hr;rcases hr with rfl;rfl)) (by simp) (by intro n hn;simp at hn;subst hn;exact⟨p2,p3⟩) (by omega) f3 rfl) ?_
    rintro r Z8 ⟨rfl,rfl⟩;apply sR;simp only[go_sem,seval,aN,aV];refine⟨_,_,aa.refl _,Wk.refl (aa.refl _) _,rfl,h7.aD VC,_,af.trans (by simp[eZ,SF,de];rfl),λo=>?_⟩;have:(eZ i x s ends).2=kept i ends:=by simp[eZ,SF]
    rw[this];exact .inr ⟨e,k,full,rfl,(ab XO).trans (s7 e _ (by rw[ab XO];exact he)),gk.2 ⟨XO,hKe0⟩,hk,by omega,TK⟩
   .have h4or:=p1;apply sR;simp only[go_sem,seval,a4,a5,Sa,ab ZR.symm,ab Xw.symm,R0,SF,eI];refine⟨hsr,ar,?_⟩;refine ad λZP Z7 s7 a7 f7=>?_;have We:=s7 c _ af;have n7c:ZP≠c:=by rintro rfl;rw[We]at a7;simp at a7
    simp only[go_sem,seval];have h7:=(h3.aD VC).trans s7;refine ae.call rfl rfl rfl (rF (s:=⟨s.depth,s.pieces+1,s.nodes+1,s.L'⟩) (l:=[x.h]) (times:=1) We
     (λob=>Reads.own (off:=0) (len:=1) ((ab n7c).trans a7) rfl (by simp) (λr hr=>by simp at hr;rcases hr with rfl;rfl)) (by simp) (by intro n hn;simp at hn;subst hn;exact⟨p4,p5⟩) (by omega) f3 rfl) ?_
    rintro r Z8 ⟨rfl,rfl⟩;apply sR;simp only[go_sem,seval,aN,aV];refine⟨_,_,aa.refl _,Wk.refl (aa.refl _) _,rfl,h7.aD VC,_,af.trans (by simp[eZ,R0,SF,de];rfl),λo=>?_⟩;have:(eZ i x s ends).2=kept i ends:=by simp[eZ,R0,SF]
    rw[this];exact .inr ⟨e,k,full,rfl,(ab XO).trans (s7 e _ (by rw[ab XO];exact he)),gk.2 ⟨XO,hKe0⟩,hk,by omega,TK⟩
open Go.Proofs Go.Proofs.Tryz
def tK(l:List Nd)(hl:ed l):bb prog 13 [aQ l] (.PN [.agg (ew l).1.cells,vI (ew l).2]):=λU=>by
 have hl0:=hl;obtain⟨hl1,hl2⟩:=hl;rw[<-Da l hl0];refine e13.r (by simp[c13]) ?_;refine ae.mix 7 ?_;apply sR;simp only[go_sem,seval,c13];refine ad λZS Z1 s1 aR fR=>?_;simp only[go_sem,seval,aR];refine ae.aC rfl rfl rfl (Cp l hl0 _) ?_;apply sR;simp only[go_sem,seval,vT,aR];refine And.intro (λhf=>?_) (λhf=>?_)
 .simp only[Bool.not_eq_eq_eq_not,Bool.not_true]at hf;refine av.pure (s1.aD fR) ?_;simp[xV,hf,Sm.cells]
 .simp only[Bool.not_eq_eq_eq_not,Bool.not_false]at hf;refine ad λTH Z2 s2 a4 f4=>?_;have nR4:=al aR f4;have aR:=s2 _ _ aR;have g4:U TH=none:=s1.none f4;have hKR:aa (C' U ZS ⟨53,4,[.agg Sm.zero.cells]⟩) Z2:=(s1.trans s2).IK aR;have k4:C' U ZS ⟨53,4,[.agg Sm.zero.cells]⟩ TH=none:=gk.2 ⟨nR4.symm,g4⟩;simp only[go_sem,seval,fe];refine ae.loop (λm st=>∃(i:Nat) (v:V),i<=l.length/\m=l.length-i/\aa (C' U ZS ⟨53,4,[.agg Sm.zero.cells]⟩) st.U/\st.U TH=some (de (ja l i).1 v)/\
   (∀o,mD (C' (C' U ZS ⟨53,4,[.agg Sm.zero.cells]⟩) TH o) st.U v (ja l i).2 i)/\st.s 2=.ptr ZS 0 0/\st.s 4=.ptr TH 0 0/\st.s 11=aQ l/\st.s 12=vI l.length/\st.s 13=vI i) l.length ?_ ?_
  .exact⟨0,.aT,by omega,by omega,hKR,a4,λo=>.inl ⟨rfl,rfl⟩,rfl,rfl,rfl,rfl,rfl⟩
  .rintro m ⟨s,Z'⟩ ⟨i,v,hi,rfl,G',h4s,hE,h2,h4,Up,h12,h13⟩;simp only at G' h4s hE h2 h4 Up h12 h13;obtain⟨e1,e2,e3,e4⟩:=nE l hl0 hf i hi;have P5:l.all Nd.ok=true/\cJ l 0 l.length=true:=by simpa[Qy]using hf
   have hRs:Z' ZS=some ⟨53,4,[.agg Sm.zero.cells]⟩:=G' ZS _ af;refine ae.mix 7 ?_;apply sR;simp only[go_sem,seval,h2,h4,Up,h12,h13,h4s,de,hRs,Sm.zero,Sm.cells];refine And.intro (λH'=>?_) (λUU=>?_)
   .have Rw:i<l.length:=by omega
    have hx:=(fv.1 P5.1) _ (QL Rw);have hxw:=hl2 _ (QL Rw);obtain⟨z1,z2,z3⟩:=jg l (l.length+1) 0 l.length (by omega) (by omega) P5.2 i (by omega) Rw Rw;have UG:ja l (i+1)=eZ i l[i] (ja l i).1 (ja l i).2:=by simp[ja,Rw]
    generalize Yi:l[i]=x at*;simp only[go_sem,seval,mQ Rw,Yi,h2,h4,Up,h12,h13,Nd.cells];refine ad λW3 Z6 s6 a6 f6=>?_;have n64:W3≠TH:=by rintro rfl;rw[h4s]at f6;cases f6
    have n6R:W3≠ZS:=by rintro rfl;rw[hRs]at f6;cases f6
    have g6:C' U ZS ⟨53,4,[.agg Sm.zero.cells]⟩ W3=none:=G'.none f6;simp only[go_sem,seval,a6,h2,h4,Up,h12,h13];have hsub6:=G'.trans s6;have Rq:=(LF (K:=C' U ZS ⟨53,4,[.agg Sm.zero.cells]⟩) (U:=C' Z6 W3 ⟨51,20,[ji x]⟩) (i:=i) (x:=x) (s:=(ja l i).1) (B:=i) (hsub6.aD g6) k4 ((ab n64.symm).trans (s6 _ _ h4s))
     (λo=>((hE o).new (s6.aD f6) f6 (o:=⟨0,0,[]⟩)).less ((aa.refl _).aD (gk.2 ⟨n64,g6⟩))) (by omega) (by omega) (by rw[e1];exact e3) (by rw[e1]) hx hxw (by omega))
    simp only[ji,Nd.cells]at Rq;refine ae.call rfl rfl rfl (by simp only[go_sem,seval,aN,aV,h4];exact Rq) ?_
    .rintro r Z7 ⟨rfl,hK7,v',h4',hE'⟩;apply sR;simp only[go_sem,seval,aN,aV,h2,h4,Up,h12,h13];refine⟨ar,_,?_,i+1,v',by omega,rfl,hK7,?_,?_,?_⟩
     .omega
     .rw[UG,h4'];rfl
     .intro o;rw[UG];exact hE' o
     .simp
   .have RH:i=l.length:=by omega
    subst RH;refine av.pure ((((aa.refl U).aD fR).trans G').aD fR) ?_;simp[xV,hf,Sm.cells]
open Go.Proofs Go.Proofs.Tryz
def zw:((2:Nat):Int)=2:=rfl
def Ak:((3:Nat):Int)=3:=rfl
def y7:((4:Nat):Int)=4:=rfl
def AB(l:List Nd)(hl:ed l):bb prog 53 [aQ l] (vI (ia l)):=λU=>by
 refine e53.r (by simp[c53]) ?_;refine ae.mix 8 ?_;apply sR;simp only[go_sem,seval,c53];refine ae.aC rfl rfl rfl (tK l hl _) ?_;apply sR;simp only[go_sem,seval,Sm.cells];refine ad λid3 Z1 s1 a3 f3=>?_;have G':=λo=>s1.aD f3 (o:=o);simp only[go_sem,seval,a3];have hc:(ew l).2=if Qy l then 0 else 4:=by unfold ew;split<;>rfl
 refine And.intro (λh=>?_) (λh=>?_)
 .refine av.pure (G' _) ?_;have:Qy l=false:=by
   rw[hc]at h;cases hb:Qy l<;>simp_all
  simp[ia,this,hc]
 .have hb:Qy l=true:=by
   rw[hc]at h;cases hb:Qy l<;>simp_all
  have hR:ia l=if(ew l).1.depth>16\/(ew l).1.pieces>2000\/(ew l).1.nodes>2000\/(ew l).1.L'>1099511627776 then 2 else 0:=by
   simp only[ia,hb,if_true]
  generalize (ew l).1=sm at*;refine ad λTI Z2 s2 a5 f5=>?_;have SQ:=(G' _).trans s2;have g5:U TI=none:=(G' _).none f5;simp only[go_sem,seval,a5];refine ae.loop (λm st=>∃(i:Nat),i<=4/\m=4-i/\st.U=C' Z2 TI ⟨174,4,[.agg sm.cells]⟩/\(0<i->sm.depth<=16)/\(1<i->sm.pieces<=2000)/\(2<i->sm.nodes<=2000)/\(3<i->sm.L'<=1099511627776)/\
   st.s 5=.ptr TI 0 0/\st.s 25=.agg [vI 16,vI 2000,vI 2000,vI 1099511627776]/\st.s 26=vI i) 4 ?_ ?_
  .exact⟨0,by omega,by omega,rfl,by omega,by omega,by omega,by omega,rfl,rfl,rfl⟩
  .rintro m ⟨s,Z'⟩ ⟨i,hi,rfl,Qj,p1,p2,p3,p4,h5,h25,h26⟩;simp only at Qj h5 h25 h26;subst Qj;have XQ:i=0\/i=1\/i=2\/i=3\/i=4:=by omega
   have hend:∀(p:Prop),p->p:=λ_ h=>h;rcases XQ with rfl|rfl|rfl|rfl|rfl
   .refine ae.mix 8 ?_;apply sR;simp only[go_sem,seval,aN,aV,h5,h25,h26,Sm.cells,Int.ofNat_zero,Int.natCast_zero,zw,Ak,y7,Int.toNat_zero,Int.reduceToNat,Nat.zero_mul];refine And.intro (λg=>?_) (λg=>?_)
    .refine av.pure (SQ.aD g5) ?_;rw[hR,aE];omega
    .refine⟨ar,_,?_,1,by omega,rfl,?_,?_,?_,?_,rfl⟩<;>omega
   .refine ae.mix 8 ?_;apply sR;simp only[go_sem,seval,aN,aV,h5,h25,h26,Sm.cells,Int.ofNat_zero,Int.natCast_zero,Int.natCast_one,Int.toNat_one,zw,Ak,y7,Int.toNat_zero,Int.reduceToNat,Nat.zero_mul,Nat.reduceMul];refine And.intro (λg=>?_) (λg=>?_)
    .refine av.pure (SQ.aD g5) ?_;rw[hR,aE];omega
    .refine⟨ar,_,?_,2,by omega,rfl,?_,?_,?_,?_,rfl⟩<;>omega
   .refine ae.mix 8 ?_;apply sR;simp only[go_sem,seval,aN,aV,h5,h25,h26,Sm.cells,Int.ofNat_zero,Int.natCast_zero,Int.natCast_one,Int.toNat_one,zw,Ak,y7,Int.toNat_zero,Int.reduceToNat,Nat.zero_mul,Nat.reduceMul];refine And.intro (λg=>?_) (λg=>?_)
    .refine av.pure (SQ.aD g5) ?_;rw[hR,aE];omega
    .refine⟨ar,_,?_,3,by omega,rfl,?_,?_,?_,?_,rfl⟩<;>omega
   .refine ae.mix 8 ?_;apply sR;simp only[go_sem,seval,aN,aV,h5,h25,h26,Sm.cells,Int.ofNat_zero,Int.natCast_zero,Int.natCast_one,Int.toNat_one,zw,Ak,y7,Int.toNat_zero,Int.reduceToNat,Nat.zero_mul,Nat.reduceMul];refine And.intro (λg=>?_) (λg=>?_)
    .refine av.pure (SQ.aD g5) ?_;rw[hR,aE];omega
    .refine⟨ar,_,?_,4,by omega,rfl,?_,?_,?_,?_,rfl⟩<;>omega
   .refine ae.mix 8 ?_;apply sR;simp only[go_sem,seval,aN,aV,h5,h25,h26,Sm.cells,Int.ofNat_zero,Int.natCast_zero,Int.natCast_one,zw,Ak,y7,Int.toNat_zero,Int.reduceToNat,Nat.zero_mul];refine av.pure (SQ.aD g5) ?_;rw[hR,aH];omega
open Go.Proofs Go.Proofs.Tryz
def wi(U:ag)(l:List Int):cj U false 1 (.rp (bD l))=some (bD l):=rfl
end Go.Vc
