/- Part 4 of the library of this proof. -/
import Derived.Test.YtdaelobhgmdoeaaGreatW3
set_option linter.all false
set_option maxHeartbeats 8000000
set_option maxRecDepth 100000
namespace Go.Vc
open Go.Proofs Go.Proofs.Tryz
def cz(p:Int->Bool):List Int->Int
 |[]=>-1
 |x::l=>if p x then 0 else if cz p l<0 then -1 else cz p l+1
def qU(p:Int->Bool)(i:Nat)(l:List Int):Int:=if cz p l<0 then -1 else cz p l+i
def ja(p:Int->Bool):∀l,-1<=cz p l
 |[]=>by simp[cz]
 |x::l=>by
  have:=ja p l;simp only[cz];split
  .omega
  .split<;>omega
def GX(p:Int->Bool)(l:List Int):cz p l=qU p 0 l:=by
 have:=ja p l;unfold qU;split<;>omega
def nZ{U:af}{sv:V}{l:List Int}{f:FuncId}{caps:List V}{p:Int->Bool}(hr:Reads U 1 false sv (l.map vI))(hl:l.length<=200000000000000)
 (hf:∀n∈l,au prog f (vI n::caps) U λr Z'=>r=.bool (p n)/\Z'=U):
 au prog 212 [sv,.fn f caps] U λr Z'=>r=vI (cz p l)/\Z'=U:=by
 have hlen:cW false sv=some (vI (l.length:Int)):=by simpa using hr.1
 refine Xh.r (by simp[Q6]) ?_;apply sR;simp only[go_sem,seval,Q6,hlen];refine ab.loop (λm st=>∃i:Nat,i<=l.length/\m=l.length-i/\cz p l=qU p i (l.drop i)/\st.U=U/\st.s 0=sv/\st.s 1=.fn f caps/\st.s 7=vI l.length/\st.s 8=vI i) l.length ?_ ?_
 .exact⟨0,by omega,by omega,GX p l,rfl,rfl,rfl,rfl,rfl⟩
 .rintro m ⟨s,Z'⟩ ⟨i,hi,rfl,hp,YF,h0,h1,h7,h8⟩;simp only at h0 h1 h7 h8 YF;subst YF;apply sR;simp only[go_sem,seval,h0,h1,h7,h8];constructor
  .intro H';have hlt':i<l.length:=by omega
   have hd:l.drop i=l[i]::l.drop (i+1):=ia hlt';obtain⟨pp,e1,e2⟩:=hr.2 i (vI l[i]) (by simp[hlt']);simp only[go_sem,seval,e1,e2];refine ab.ay rfl rfl rfl (hf l[i] (Zr hlt')) ?_;apply sR;simp only[go_sem,seval];cases hpx:p l[i]
   .simp only[go_sem,seval,h8];refine⟨ai,_,?_,i+1,by omega,rfl,?_,h0,h1,h7,?_⟩
    .omega
    .rw[hp,hd];simp only[qU,cz,hpx,eQ,if_false];have:=ja p (l.drop (i+1))
     repeat' split
     all_goals omega
    .simp
   .simp only[go_sem,seval];refine ak.same ?_;rw[hp,hd];simp[qU,cz,hpx]
  .intro hge;have:i=l.length:=by omega
   refine ak.same ?_;rw[hp,this,x5];rfl
open Go.Proofs Go.Proofs.Tryz
def Nd.ok(x:Nd):Bool:=
 if x.kind=1 then x.st.ok&&decide (x.line=0)&&decide (x.space=0)&&decide (x.words.length=0)&&decide (x.side=0)&&decide (x.w=0)&&decide (x.h=0)
 else if x.st≠Sty.zero then false
 else if x.kind=2 then x.words.all (bc · 1 mx)&&decide (0<x.words.length)&&bc x.line 1 mx&&bc x.space 0 mx&&decide (x.side=0)&&decide (x.w=0)&&decide (x.h=0)
 else decide (x.line=0)&&decide (x.space=0)&&decide (x.words.length=0)&&bc x.w 1 mx&&bc x.h 1 mx&&
  (decide (x.kind=3)&&decide (x.side=0)||decide (x.kind=4)&&bc x.side 1 2)
def fU(l:List Int):cW false (bl l)=some (.int .i64 l.length):=by simp[bl,cW]
def wy(b:Bool):V.bool b=V.bool (decide (b=true)):=by cases b<;>rfl
open Go.Proofs Go.Proofs.Tryz
def nC{U:af}{l:List Nd}{i:Nat}(h:i<l.length):bo U 20 (aH l) (.int .i64 i)=some (.rp (.agg (Nd.cells l[i]))):=by
 simp[aH,bo,h,jE]
def bQ(l:List Nd)(a e:Nat):Bool:=
 if _h:a<e then
  match l[a]? with
  |none=>false
  |some x=>if _hx:1<=x.size/\x.size<=(e:Int)-a then
     (decide (x.kind=1)||decide (x.size<=1))&&bQ l (a+1) (a+x.size.toNat)&&bQ l (a+x.size.toNat) e else false
 else true
termination_by e-a
decreasing_by all_goals omega
open Go.Proofs Go.Proofs.Tryz
def dU(l:List Nd):Prop:=l.length<=10000/\∀x∈l,x.words.length<=200000000000000
def Zd(l:List Nd):Bool:=l.all Nd.ok&&bQ l 0 l.length
open Go.Proofs Go.Proofs.Tryz
def jl(l:List Nd):∀(m a e:Nat),e-a<m->e<=l.length->bQ l a e=true->∀k,a<=k->(h:k<e)->(h2:k<l.length)->1<=l[k].size/\l[k].size<=(e:Int)-k/\(l[k].kind=1\/l[k].size<=1)
 |0,_,_,h,_,_=>by omega
 |m+1,a,e,hm,he,hr=>by
  intro k hk hke h2;have hae:a<e:=by omega
  have ha:a<l.length:=by omega
  rw[bQ,dif_pos hae]at hr;have hga:l[a]?=some l[a]:=by simp[ha]
  rw[hga]at hr;simp only at hr;split at hr
  .rename_i hx;simp only[Ba,kS,Zq9]at hr;obtain⟨⟨h3,h4⟩,h5⟩:=hr;by_cases hka:k=a
   .subst hka;exact⟨hx.1,hx.2,h3⟩
   .by_cases hin:k<a+l[a].size.toNat
    .obtain⟨g1,g2,g3⟩:=jl l m (a+1) (a+l[a].size.toNat) (by omega) (by omega) h4 k (by omega) hin h2;exact⟨g1,by omega,g3⟩
    .exact jl l m (a+l[a].size.toNat) e (by omega) he h5 k (by omega) hke h2
  .cases hr
structure Sm where
 (depth pieces nodes Ya:Int)
deriving DecidableEq
def Sm.cells(s:Sm):List V:=[vI s.depth,vI s.pieces,vI s.nodes,vI s.Ya]
def kM(a b:Int):Int:=min (a+b) 1099511627777
def jm(l:List Nd)(i:Nat):Nat->Int
 |0=>0
 |k+1=>jm l i k+(match l[k]? with
  |some y=>if y.kind=1/\(i:Int)<k+y.size then 1 else 0
  |none=>0)
def ER(a b:Int):Nat->Int
 |0=>a
 |n+1=>kM (ER a b n) b
def qp(l:List Nd)(i:Nat)(x:Nd)(s:Sm):Sm:=
 if x.kind=1 then{ s with depth:=max s.depth (jm l i (i+1)),Ya:=kM (kM (kM (kM (kM s.Ya x.st.top) x.st.Yv) x.st.Yj) x.st.Yc) x.st.head }
 else if x.kind=2 then{ s with pieces:=s.pieces+x.words.length,Ya:=ER s.Ya x.line x.words.length }
 else{ s with pieces:=s.pieces+1,Ya:=kM s.Ya x.h }
def gQ(l:List Nd)(s:Sm):Nat->Sm
 |0=>s
 |i+1=>match l[i]? with
  |some x=>qp l i x (gQ l s i)
  |none=>gQ l s i
def jr(l:List Nd):Sm×Int:=if Zd l then(gQ l ⟨0,0,l.length,0⟩ l.length,0)else(⟨0,0,0,0⟩,4)
def fT{a b:Int}(h1:0<=a/\a<=1099511627777)(h2:0<=b):0<=kM a b/\kM a b<=1099511627777:=by
 unfold kM;omega
def FB{a b:Int}(h1:0<=a/\a<=1099511627777)(h2:0<=b):∀n,0<=ER a b n/\ER a b n<=1099511627777
 |0=>h1
 |n+1=>fT (FB h1 h2 n) h2
def xK(l:List Nd)(i:Nat):∀k,0<=jm l i k/\jm l i k<=k
 |0=>by simp[jm]
 |k+1=>by
  have:=xK l i k;simp only[jm];split
  .split<;>omega
  .omega
def kc{x:Nd}(h:x.ok=true):(x.kind=1\/x.kind=2\/x.kind=3\/x.kind=4)/\0<=x.line/\x.line<=mx/\0<=x.h/\x.h<=mx/\
 (x.kind=1->(0<=x.st.top/\x.st.top<=mx)/\(0<=x.st.Yv/\x.st.Yv<=mx)/\(0<=x.st.Yj/\x.st.Yj<=mx)/\(0<=x.st.Yc/\x.st.Yc<=mx)/\(0<=x.st.head/\x.st.head<=mx)):=by
 unfold Nd.ok at h;split at h
 .rename_i hk;simp only[Sty.ok,bc,Ba,Zq9]at h|-;simp only[mx]at h|-;refine⟨.inl hk,by omega,by omega,by omega,by omega,λ_=>?_⟩;omega
 .split at h
  .cases h
  .split at h
   .rename_i h1 _ hk;simp only[bc,Ba,Zq9]at h|-;simp only[mx]at h|-;exact⟨.inr (.inl hk),by omega,by omega,by omega,by omega,λe=>absurd e h1⟩
   .rename_i h1 _ _;simp only[bc,Ba,kS,Zq9]at h|-;simp only[mx]at h|-;exact⟨by omega,by omega,by omega,by omega,by omega,λe=>absurd e h1⟩
def Sm.u7(s:Sm)(k:Int):Prop:=(0<=s.depth/\s.depth<=k)/\(0<=s.pieces/\s.pieces<=k*200000000000000)/\(0<=s.Ya/\s.Ya<=1099511627777)
def Hj{l:List Nd}{i:Nat}{x:Nd}{s:Sm}(hx:x.ok=true)(hw:x.words.length<=200000000000000)(h:s.u7 i):(qp l i x s).u7 (i+1):=by
 obtain⟨h1,h2,h3⟩:=h;obtain⟨g1,g2,g3,g4,g5,g6⟩:=kc hx;unfold qp;split
 .rename_i hk;obtain⟨a1,a2,a3,a4,a5⟩:=g6 hk;have hd:=xK l i (i+1);refine⟨?_,?_,fT (fT (fT (fT (fT h3 a1.1) a2.1) a3.1) a4.1) a5.1⟩
  .simp only;omega
  .simp only;omega
 .split
  .refine⟨?_,?_,FB h3 g2 _⟩
   .simp only;omega
   .simp only;omega
  .refine⟨?_,?_,fT h3 g4⟩
   .simp only;omega
   .simp only;omega
open Go.Proofs Go.Proofs.Tryz
def Sm.zero:Sm:=⟨0,0,0,0⟩
open Go.Proofs Go.Proofs.Tryz
def w8(p:Int->Bool):∀l,decide (cz p l>=0)=l.any p
 |[]=>by simp[cz]
 |x::l=>by
  have ih:=w8 p l;simp only[cz,List.any_cons];have hg:=ja p l;rw[<-ih,Bool.eq_iff_iff];simp only[Zq9,kS];split
  .rename_i h;simp[h]
  .rename_i h;simp only[h,eQ,false_or];by_cases hx:cz p l<0
   .rw[ar hx];constructor<;>intro hh<;>simp at hh|-<;>omega
   .rw[av hx];constructor<;>intro hh<;>simp at hh|-<;>omega
def nI{U:af}{sv:V}{l:List Int}{f:FuncId}{caps:List V}{p:Int->Bool}(hr:Reads U 1 false sv (l.map vI))(hl:l.length<=200000000000000)
 (hf:∀n∈l,au prog f (vI n::caps) U λr Z'=>r=.bool (p n)/\Z'=U):
 au prog 257 [sv,.fn f caps] U λr Z'=>r=.bool (l.any p)/\Z'=U:=by
 refine Wq.r (by simp[QT]) ?_;apply sR;simp only[go_sem,seval,QT];refine ab.ay rfl rfl rfl (nZ hr hl hf) ?_;apply sR;simp only[go_sem,seval];refine ak.same ?_;rw[<-w8]
def Px{U:af}{id:Nat}{a b:Int}(h:U id=some ⟨301,2,[.agg [vI a,vI b]]⟩)(n:Int):
 au prog 258 [vI n,.ptr id 0 0] U λr Z'=>r=.bool (!bc n a b)/\Z'=U:=by
 refine Xv.r (by simp[Sr]) ?_;apply sR;simp only[go_sem,seval,Sr,h];refine And.intro (λh=>?_) (λh=>?_)
 .refine ak.same ?_;congr 1;simp only[bc];rw[<-decide_not,decide_eq_decide];omega
 .refine ak.same ?_;have:¬(n>=a/\n<=b):=by omega
  simp only[bc,this,decide_false,Bool.not_false]
def Reads.mono{U Z':af}{sz:Nat}{agg:Bool}{sv:V}{rows:List V}(h:aa U Z')(hr:Reads U sz agg sv rows):Reads Z' sz agg sv rows:=by
 refine⟨hr.1,λi v hv=>?_⟩;obtain⟨p,h1,h2⟩:=hr.2 i v hv;refine⟨p,?_,?_⟩
 .cases sv<;>simp only[bo,reduceCtorEq]at h1|-
  .exact h1
  .rename_i id off len;cases ho:U id with
   |none=>rw[ho]at h1;cases h1
   |some ob=>rw[ho]at h1;rw[h id ob ho];exact h1
 .cases p<;>simp only[bB,reduceCtorEq]at h2|-
  .rename_i id i k;cases ho:U id with
   |none=>rw[ho]at h2;cases h2
   |some ob=>rw[ho]at h2;rw[h id ob ho];exact h2
  .exact h2
def Oz{U:af}{sv:V}{l:List Int}{a b:Int}(hr:Reads U 1 false sv (l.map vI))(hl:l.length<=200000000000000):
 au prog 211 [.agg [vI a,vI b],sv] U λr Z'=>r=.bool (l.all λn=>bc n a b)/\Z'=U:=by
 refine XA.r (by simp[SD]) ?_;apply sR;simp only[go_sem,seval,bG,SD];intro id O';refine ab.ay rfl rfl rfl (nI (p:=λn=>!bc n a b) (hr.mono ((aa.refl U).C' O')) hl (λn _=>Px ag n)) ?_;apply sR;simp only[go_sem,seval];refine ak.pure ((aa.refl U).C' O') ?_;rw[List.all_eq_not_any_not]
open Go.Proofs Go.Proofs.Tryz
def fP:List V->Option (List Int)
 |[]=>some []
 |.int .i64 n::l=>(fP l).map (n::·)
 |_=>none
def lQ:∀{l:List V} {m:List Int},fP l=some m->l=m.map vI
 |[],m,h=>by simp[fP]at h;subst h;rfl
 |v::l,m,h=>by
  cases v<;>try (simp[fP]at h)
  rename_i k n;cases k<;>try (simp[fP]at h)
  obtain⟨m',h1,rfl⟩:=h;rw[lQ h1];rfl
def xg(m:List Int):fP (m.map vI)=some m:=by
 induction m with
 |nil=>rfl
 |cons n m ih=>simp[fP,ih]
def eY(U:af):V->Option (List Int)
 |.own id off len=>match U id with
   |some ob=>if ob.sz=1/\off+len<=ob.rows.length/\len<=200000000000000 then(if(fP ob.rows).isSome then fP ((ob.rows.drop off).take len)else none)else none
   |none=>none
 |.sl 1 rows=>if rows.length<=200000000000000 then fP rows else none
 |_=>none
def oz{U:af}{sv:V}{l:List Int}(h:eY U sv=some l):Reads U 1 false sv (l.map vI)/\l.length<=200000000000000:=by
 unfold eY at h;split at h
 .rename_i id off len;split at h
  .rename_i ob YV;split at h
   .rename_i hc;split at h
    .rename_i hi;have he:=lQ h;obtain⟨m,hm⟩:=Option.isSome_iff_exists.1 hi;have hm:=lQ hm;have hr:=Reads.own (U:=U) YV hc.1 hc.2.1 (λr hr=>by rw[hm]at hr;simp only[gg]at hr;obtain⟨n,_,rfl⟩:=hr;rfl);rw[he]at hr;have hl:l.length=len:=by
      have:=congrArg List.length he;simp at this;omega
     exact⟨hr,by omega⟩
    .cases h
   .cases h
  .cases h
 .rename_i rows;split at h
  .rename_i hc;have he:=lQ h;subst he;exact⟨Reads.ints,by simpa using hc⟩
  .cases h
 .cases h
def pR{U Z':af}(hs:aa U Z'){sv:V}{l:List Int}(h:eY U sv=some l):eY Z' sv=some l:=by
 unfold eY at h|-;split at h
 .split at h
  .rename_i ob YV;simp only[hs _ _ YV];exact h
  .cases h
 .exact h
 .cases h
def x9(U:af){l:List Int}(h:l.length<=200000000000000):eY U (bl l)=some l:=by
 simp only[bl,eY,cL,ar h];exact xg l
def o10(f:FuncId)(args:List V)(U:af):Option V:=if f=211 then(match args with
 |[.agg [.int .i64 a,.int .i64 b],sv]=>(eY U sv).map λl=>.bool (l.all λn=>bc n a b)
 |_=>none)else none
def O10:ZQ prog where
 get:=o10
 up f args U Z' v hs h:=by
  unfold o10 at h|-;split at h
  .rename_i hf;rw[ar hf];split at h
   .simp only[Zq8]at h|-;obtain⟨l,h1,h2⟩:=h;exact⟨l,pR hs h1,h2⟩
   .cases h
  .cases h
 ok f args U v h:=by
  unfold o10 at h;split at h
  .rename_i hf;subst hf;split at h
   .simp only[Zq8]at h;obtain⟨l,h1,rfl⟩:=h;obtain⟨g1,g2⟩:=oz h1;exact Oz g1 g2
   .cases h
  .cases h
def xE(a b:Int)(sv:V)(U:af):O10.get 211 [.agg [.int .i64 a,.int .i64 b],sv] U=(eY U sv).map λl=>.bool (l.all λn=>bc n a b):=rfl
def cH(U:af)(id off len:Nat):eY U (.own id off len)=match U id with
 |some ob=>if ob.sz=1/\off+len<=ob.rows.length/\len<=200000000000000 then(if(fP ob.rows).isSome then fP ((ob.rows.drop off).take len)else none)else none
 |none=>none:=rfl
def dL(n:Int)(l:List V):fP (.int .i64 n::l)=(fP l).map (n::·):=rfl
def dR:fP []=some []:=rfl
def Kw(s:Sty):aJ prog 210 [.agg s.cells] (.bool s.ok):=λU=>by
 refine WH.r (by simp[RK]) ?_;refine ab.mix 6 ?_
 (refine ab.bg O10 300 ?_;simp only[go_sem,seval,RK,Sty.cells])
 refine ad λid1 Z1 s1 a1 f1=>?_;simp only[go_sem,seval];refine ad λid3 Z2 s2 a3 f3=>?_;have n13:=ao a1 f3;have a1:=s2 _ _ a1;simp only[go_sem,seval];refine ad λid4 Z3 s3 a4 f4=>?_;have n14:=ao a1 f4;have n34:=ao a3 f4;have a1:=s3 _ _ a1;have a3:=s3 _ _ a3;have hs:aa U Z3:=(s1.trans s2).trans s3;have g3:U id3=none:=s1.none f3;have g4:U id4=none:=(s1.trans s2).none f4;simp only[go_sem,seval,a1,a3,a4,ae n34,ae n34.symm,ae n13,ae n14];have Ye:=λo o'=>(hs.ax (o:=o) g3).ax (o:=o') g4;refine ad λid5 Z4 s4 a5 f5=>?_;have a1:=s4 id1 _ (by rw[ae n14,ae n13];exact a1);have a4:=s4 id4 _ ag;have hs:=(Ye _ _).trans s4;simp only[go_sem,seval,a1,a4,a5,xE,cH,dL,dR,bc,<-Bool.decide_and];refine And.intro (λp0=>?_) (λp0=>ak.pure hs (by rw[V.bool.injEq];symm;rw[Bool.eq_false_iff];intro h;simp[Sty.ok,bc,mx]at h;omega));refine ad λid6 Z5 s5 a6 f6=>?_;have a1:=s5 _ _ a1;have hs:=hs.trans s5;simp only[go_sem,seval,a1,a6,xE,cH,dL,dR,bc,<-Bool.decide_and];refine And.intro (λp1=>?_) (λp1=>ak.pure hs (by rw[V.bool.injEq];symm;rw[Bool.eq_false_iff];intro h;simp[Sty.ok,bc,mx]at h;omega));refine ad λid7 Z6 s6 a7 f7=>?_;have a1:=s6 _ _ a1;have hs:=hs.trans s6;simp only[go_sem,seval,a1,a7,xE,cH,dL,dR,bc,<-Bool.decide_and];refine And.intro (λp2=>?_) (λp2=>ak.pure hs (by rw[V.bool.injEq];symm;rw[Bool.eq_false_iff];intro h;simp[Sty.ok,bc,mx]at h;omega));refine ad λid8 Z7 s7 a8 f8=>?_;have a1:=s7 _ _ a1;have hs:=hs.trans s7;simp only[go_sem,seval,a1,a8,xE,cH,dL,dR,bc];refine And.intro (λp3=>?_) (λp3=>ak.pure hs (by rw[V.bool.injEq];symm;rw[Bool.eq_false_iff];intro h;simp[Sty.ok,bc,mx]at h;omega));refine ad λid9 Z8 s8 a9 f9=>?_;have a1:=s8 _ _ a1;have hs:=hs.trans s8;simp only[go_sem,seval,a9,xE,cH,dL,dR,bc];refine ak.pure hs ?_;rw[V.bool.injEq,Bool.eq_iff_iff];simp[Sty.ok,bc,mx];omega
open Go.Proofs Go.Proofs.Tryz
def iu(l:List Nd):Int:=if Zd l then(if(jr l).1.depth>16\/(jr l).1.pieces>2000\/(jr l).1.nodes>2000\/(jr l).1.Ya>1099511627776 then 2 else 0)else 4
open Go.Proofs Go.Proofs.Tryz
def o12(f:FuncId)(args:List V)(U:af):Option V:=if f=211 then(match args with
 |[.agg [.int .i64 a,.int .i64 b],sv]=>(eY U sv).map λl=>.bool (l.all λn=>bc n a b)
 |_=>none)else if f=210 then(match args with
 |[.agg [.int .i64 a,.int .i64 b,.int .i64 c,.int .i64 d,.int .i64 e,.int .i64 f,.int .i64 g,.int .i64 h,.int .i64 i,.int .i64 j,.int .i64 k,.int .i64 l]]=>some (.bool (Sty.ok ⟨a,b,c,d,e,f,g,h,i,j,k,l⟩))
 |_=>none)else none
def O12:ZQ prog where
 get:=o12
 up f args U Z' v hs h:=by
  unfold o12 at h|-;split at h
  .rename_i hf;rw[ar hf];split at h
   .simp only[Zq8]at h|-;obtain⟨l,h1,h2⟩:=h;exact⟨l,pR hs h1,h2⟩
   .cases h
  .rename_i hf;rw[av hf];exact h
 ok f args U v h:=by
  unfold o12 at h;split at h
  .rename_i hf;subst hf;split at h
   .simp only[Zq8]at h;obtain⟨l,h1,rfl⟩:=h;obtain⟨g1,g2⟩:=oz h1;exact Oz g1 g2
   .cases h
  .split at h
   .rename_i hf;subst hf;split at h
    .simp only[aB]at h;subst h;exact Kw ⟨_,_,_,_,_,_,_,_,_,_,_,_⟩ U
    .cases h
   .cases h
def sJ(a b:Int)(sv:V)(U:af):O12.get 211 [.agg [.int .i64 a,.int .i64 b],sv] U=(eY U sv).map λl=>.bool (l.all λn=>bc n a b):=rfl
def wB(a b c d e f g h i j k l:Int)(U:af):O12.get 210 [.agg [.int .i64 a,.int .i64 b,.int .i64 c,.int .i64 d,.int .i64 e,.int .i64 f,.int .i64 g,.int .i64 h,.int .i64 i,.int .i64 j,.int .i64 k,.int .i64 l]] U=
 some (.bool (Sty.ok ⟨a,b,c,d,e,f,g,h,i,j,k,l⟩)):=rfl
def j8(s:Sty):(decide (s.top=0)&&(decide (s.Yv=0)&&(decide (s.Yj=0)&&(decide (s.Yc=0)&&(decide (s.Zp=0)&&(decide (s.YN=0)&&(decide (s.YY=0)&&(decide (s.head=0)&&
 (decide (s.before=0)&&(decide (s.after=0)&&(decide (s.inside=0)&&decide (s.clear=0))))))))))))=decide (s=Sty.zero):=by
 rw[Bool.eq_iff_iff];cases s;simp[Sty.zero]
def LF(x:Nd)(hl:x.words.length<=200000000000000)(k4:x.kind=4):aJ prog 154 [jE x] (.bool x.ok):=λU=>by
 refine Uz.r (by simp[JX]) ?_;refine ab.mix 6 ?_
 (refine ab.bg O12 300 ?_;simp only[go_sem,seval,JX,jE,Nd.cells])
 refine ad λid1 Z1 s1 a1 f1=>?_;simp only[go_sem,seval];refine ad λid3 Z2 s2 a3 f3=>?_;have n13:=ao a1 f3;have a1:=s2 _ _ a1;have hs:=(s1.trans s2).ax (s1.none f3) (o:=⟨301,2,[.agg [vI 1,vI 1099511627776]]⟩);have hok3:x.ok=(decide (x.st=Sty.zero)&&(decide (x.line=0)&&decide (x.space=0)&&decide (x.words.length=0)&&bc x.w 1 mx&&bc x.h 1 mx&&bc x.side 1 2)):=by
  by_cases Ys:x.st=Sty.zero<;>simp[Nd.ok,k4,Ys]
 simp only[go_sem,seval,a1,a3,ae n13,j8,fU,k4,wB,Bz,ag];refine And.intro (λe1=>And.intro (λe2=>And.intro (λz=>And.intro (λw=>?_) (λw=>?_)) (λz=>?_)) (λe2=>?_)) (λe1=>?_)
 .refine ad λid4 Z3 s3 a4 f4=>?_;have a1:=s3 id1 _ (by rw[ae n13];exact a1);have a3:=s3 id3 _ ag;have hs:=hs.trans s3;simp only[go_sem,seval,a1,a4,sJ,cH,dL,dR,bc,iV,List.all_nil,<-Bool.decide_and];refine And.intro (λq1=>?_) (λq1=>ak.pure hs ?_)
  .refine ad λid5 Z4 s4 a5 f5=>?_;have a1:=s4 _ _ a1;have hs:=hs.trans s4;simp only[go_sem,seval,a5,sJ,cH,dL,dR,bc,iV,List.all_nil];refine ak.pure hs ?_;rw[V.bool.injEq,hok3,Bool.eq_iff_iff];simp only[bc,mx];simp at w;simp[e1,e2,z,w];omega
  .rw[V.bool.injEq,hok3,Bool.eq_iff_iff];simp only[bc,mx];simp[e1,e2,z];omega
 all_goals (repeat' (first
  |with_reducible refine And.intro (λh=>?_) (λh=>?_)
  |with_reducible refine ak.pure hs ?_))
 all_goals (rw[V.bool.injEq,hok3,Bool.eq_iff_iff];simp_all)
def QZ(x:Nd)(hl:x.words.length<=200000000000000):aJ prog 154 [jE x] (.bool x.ok):=λU=>by
 by_cases k4:x.kind=4
 .exact LF x hl k4 U
 refine Uz.r (by simp[JX]) ?_;refine ab.mix 6 ?_
 (refine ab.bg O12 300 ?_;simp only[go_sem,seval,JX,jE,Nd.cells])
 refine ad λid1 Z1 s1 a1 f1=>?_;simp only[go_sem,seval];refine ad λid3 Z2 s2 a3 f3=>?_;have n13:=ao a1 f3;have a1:=s2 _ _ a1;have hs:=(s1.trans s2).ax (s1.none f3) (o:=⟨301,2,[.agg [vI 1,vI 1099511627776]]⟩);have hz:(x.kind=1->x.ok=(x.st.ok&&decide (x.line=0)&&decide (x.space=0)&&decide (x.words.length=0)&&decide (x.side=0)&&decide (x.w=0)&&decide (x.h=0))):=λh=>by simp[Nd.ok,h]
 have hwl:x.words.length<=200000000000000:=by omega
 by_cases k1:x.kind=1
 .simp only[go_sem,seval,a1,a3,ae n13,j8,fU,k1,wB,Bz];rw[hz k1]
  repeat' (first
   |with_reducible refine And.intro (λh=>?_) (λh=>?_)
   |with_reducible refine ak.pure hs ?_)
  all_goals (rw[V.bool.injEq,Bool.eq_iff_iff];simp_all)
 .by_cases k2:x.kind=2
  .by_cases e1:x.line=0
   .have hok0:x.ok=false:=by
     by_cases Ys:x.st=Sty.zero<;>simp[Nd.ok,k2,Ys,e1,bc]
    rw[hok0];simp only[go_sem,seval,a1,a3,ae n13,j8,fU,k2,e1,wB,Bz,ag]
    repeat' (first
     |with_reducible refine And.intro (λh=>?_) (λh=>?_)
     |with_reducible refine ak.pure hs rfl
     |(refine ad λid4 Z3 s3 a4 f4=>?_
       have a1:=s3 id1 _ (by rw[ae n13];exact a1);have a3:=s3 id3 _ ag;simp only[go_sem,seval,a4,sJ,cH,dL,dR,bc,iV,List.all_nil,false_and];exact ak.pure (hs.trans s3) rfl))
   .simp only[go_sem,seval,a1,a3,ae n13,j8,k2,e1,Bz,ag];have hok2:x.ok=(decide (x.st=Sty.zero)&&(x.words.all (bc · 1 mx)&&decide (0<x.words.length)&&bc x.line 1 mx&&bc x.space 0 mx&&decide (x.side=0)&&decide (x.w=0)&&decide (x.h=0))):=by
     by_cases Ys:x.st=Sty.zero<;>simp[Nd.ok,k2,Ys]
    refine And.intro (λz=>?_) (λz=>ak.pure hs (by rw[hok2];simp_all));refine And.intro (λw1=>?_) (λw1=>ak.pure hs (by rw[hok2];simp[w1]));refine And.intro (λw2=>?_) (λw2=>ak.pure hs (by rw[hok2];simp[w2]));refine And.intro (λw3=>?_) (λw3=>ak.pure hs (by rw[hok2];simp[w3]));refine ad λid4 Z3 s3 a4 f4=>?_;have a1:=s3 id1 _ (by rw[ae n13];exact a1);have a3:=s3 id3 _ ag;have hs:=hs.trans s3;simp only[go_sem,seval,a1,a3,a4,sJ,cH,dL,dR,x9 _ hwl,wy (List.all _ _)];refine And.intro (λq1=>?_) (λq1=>ak.pure hs (by rw[hok2];simp[mx]at q1|-;simp[q1]));refine And.intro (λq2=>?_) (λq2=>ak.pure hs (by rw[hok2];simp only[mx,q2];simp));refine ad λid5 Z4 s4 a5 f5=>?_;have a1:=s4 _ _ a1;have hs:=hs.trans s4;simp only[go_sem,seval,a1,a5,sJ,cH,dL,dR,fU,wy (List.all _ _)];refine And.intro (λq3=>?_) (λq3=>ak.pure hs (by rw[hok2];simp[mx]at q3|-;simp[q3]));refine ak.pure hs ?_;rw[hok2];simp only[mx,q1,q2,q3,z,w1,w2,w3];simp
  .have hok3:x.ok=(decide (x.st=Sty.zero)&&(decide (x.line=0)&&decide (x.space=0)&&decide (x.words.length=0)&&bc x.w 1 mx&&bc x.h 1 mx&&
    (decide (x.kind=3)&&decide (x.side=0)||decide (x.kind=4)&&bc x.side 1 2))):=by
    by_cases Ys:x.st=Sty.zero<;>simp[Nd.ok,k1,k2,Ys]
   by_cases k3:x.kind=3
   .simp only[go_sem,seval,a1,a3,ae n13,j8,fU,k3,wB,Bz,ag]
    repeat' (first
     |with_reducible refine And.intro (λh=>?_) (λh=>?_)
     |with_reducible refine ak.pure hs ?_
     |(refine ad λid4 Z3 s3 a4 f4=>?_
       have a1:=s3 id1 _ (by rw[ae n13];exact a1);have a3:=s3 id3 _ ag;simp only[go_sem,seval,a4,sJ,cH,dL,dR,bc,iV,List.all_nil,<-Bool.decide_and];refine ak.pure (hs.trans s3) ?_))
    all_goals (rw[V.bool.injEq,hok3,Bool.eq_iff_iff];simp_all [bc,mx]<;>omega)
   .simp only[go_sem,seval,a1,a3,ae n13,j8,fU,k1,k2,k3,k4,wB,Bz,ag]
    repeat' (first
     |with_reducible refine And.intro (λh=>?_) (λh=>?_)
     |with_reducible refine ak.pure hs ?_)
    all_goals (rw[V.bool.injEq,hok3];simp[k3,k4])
open Go.Proofs Go.Proofs.Tryz
def uC(i:Nat):List Int->List Int
 |a::b::s=>if a=i then uC i (b::s)else a::b::s
 |s=>s
def isS:List Nd->Nat->List Int->Bool
 |[],_,_=>true
 |x::r,i,stk=>match uC i stk with
  |[]=>false
  |a::s=>if x.ok=true/\1<=x.size/\x.size<=a-i/\(x.kind=1\/x.size<=1)then isS r (i+1) ((i+x.size)::a::s)else false
def Asc(n:Nat):Nat->List Int->Prop
 |lo,[]=>lo=n
 |lo,a::s=>(lo:Int)<=a/\Asc n a.toNat s
def lK(l:List Nd):Nat->List Int->Bool
 |_,[]=>true
 |lo,a::s=>bQ l lo a.toNat&&lK l a.toNat s
def H7(l:List Nd)(a:Nat):bQ l a a=true:=by rw[bQ,dif_neg (Nat.lt_irrefl a)]
def vP(l:List Nd)(n i:Nat)(hi:i<n):∀stk,Asc n i stk->∃a s,uC i stk=a::s/\(i:Int)<a/\Asc n i (a::s)/\lK l i (a::s)=lK l i stk
 |[],h=>by simp only[Asc]at h;omega
 |[a],h=>by
  have h':=h;simp only[Asc]at h';exact⟨a,[],rfl,by omega,h,rfl⟩
 |a::b::s,h=>by
  by_cases ha:a=i
  .have h':=h.2;rw[ha,eX]at h';obtain⟨c,t,g1,g2,g3,g4⟩:=vP l n i hi (b::s) h';refine⟨c,t,by simp[uC,ha,g1],g2,g3,?_⟩;rw[g4];show _=(bQ l i a.toNat&&lK l a.toNat (b::s));rw[ha,eX,H7,Bool.true_and]
  .have h':=h.1;exact⟨a,b::s,by simp[uC,ha],by omega,h,rfl⟩
def Gc(l:List Nd):∀(r:List Nd) (i:Nat) (stk:List Int),l.drop i=r->Asc l.length i stk->isS r i stk=(r.all Nd.ok&&lK l i stk)
 |[],i,stk,hr,hs=>by
  have hi:l.length<=i:=by simpa using hr
  have key:∀(stk:List Int) (lo:Nat),l.length<=lo->Asc l.length lo stk->lK l lo stk=true:=by
   intro stk
   induction stk with
   |nil=>intro _ _ _;rfl
   |cons a s ih=>
    intro lo hlo h;have h1:=h.1;simp only[lK];rw[ih a.toNat (by omega) h.2,bQ,Bool.and_true];split
    .have:l[lo]?=none:=by simp[hlo]
     rw[this];have hend:∀(stk:List Int) (lo:Nat),Asc l.length lo stk->lo<=l.length:=by
      intro stk
      induction stk with
      |nil=>intro lo h;simp only[Asc]at h;omega
      |cons b t ih=>intro lo h;have:=h.1;have:=ih _ h.2;omega
     have:=hend _ _ h.2;omega
    .rfl
  simp[isS,key stk i hi hs]
 |x::r,i,stk,hr,hs=>by
  have hi:i<l.length:=by
   rcases Nat.lt_or_ge i l.length with h|h
   .exact h
   .rw[Ah h]at hr;cases hr
  have hx:l[i]?=some x:=by
   have:(l.drop i)[0]?=some x:=by rw[hr];rfl
   simpa using this
  have hr':l.drop (i+1)=r:=by
   have:(l.drop i).drop 1=r:=by rw[hr];rfl
   simpa using this
  obtain⟨a,s,h1,h2,h3,h4⟩:=vP l l.length i hi stk hs;rw[isS,h1];simp only;rw[<-h4];simp only[lK,iV];have ZO:bQ l i a.toNat=if _hx:1<=x.size/\x.size<=(a.toNat:Int)-i then
   (decide (x.kind=1)||decide (x.size<=1))&&bQ l (i+1) (i+x.size.toNat)&&bQ l (i+x.size.toNat) a.toNat else false:=by
   rw[bQ,dif_pos (by omega),hx]
  rw[ZO];have hat:(a.toNat:Int)=a:=by omega
  rw[hat];by_cases hc:1<=x.size/\x.size<=a-i
  .rw[dif_pos hc];have e:(i+x.size).toNat=i+x.size.toNat:=by omega
   have ih:=Gc l r (i+1) ((i+x.size)::a::s) hr' ⟨by omega,by rw[e];omega,h3.2⟩;by_cases hk:x.ok=true/\(x.kind=1\/x.size<=1)
   .rw[ar ⟨hk.1,hc.1,hc.2,hk.2⟩,ih];simp only[lK,e,hk.1,Bool.true_and];have:(decide (x.kind=1)||decide (x.size<=1))=true:=by simpa using hk.2
    rw[this,Bool.true_and,Bool.and_assoc]
   .rw[av (λh=>hk ⟨h.1,h.2.2.2⟩)];symm;rw[Bool.eq_false_iff];intro h;simp only[Ba,kS,Zq9]at h;exact hk ⟨h.1.1,h.2.1.1.1⟩
  .rw[dif_neg hc,av (λh=>hc ⟨h.2.1,h.2.2.1⟩)];simp
def Mg(l:List Nd):isS l 0 [(l.length:Int)]=Zd l:=by
 rw[Gc l l 0 [(l.length:Int)] rfl ⟨by omega,by simp[Asc]⟩];simp[lK,Zd]
open Go.Proofs Go.Proofs.Tryz
def o14(f:FuncId)(args:List V):Option V:=if f=154 then(match args with
 |[.agg [.int .i64 a0,.int .i64 a1,.int .i64 a2,.int .i64 a3,.int .i64 a4,.int .i64 a5,.int .i64 a6,.int .i64 a7,.int .i64 a8,.int .i64 a9,.int .i64 YX,.int .i64 a11,.int .i64 a12,.int .i64 a13,.int .i64 a14,.int .i64 a15,.sl 1 rows,.int .i64 a17,.int .i64 a18,.int .i64 a19]]=>
  (fP rows).bind λws=>if ws.length<=200000000000000 then some (.bool (Nd.ok ⟨a0,a1,⟨a2,a3,a4,a5,a6,a7,a8,a9,YX,a11,a12,a13⟩,a14,a15,ws,a17,a18,a19⟩))else none
 |_=>none)else none
def O14:ZQ prog where
 get f args _:=o14 f args
 ok f args U v h:=by
  unfold o14 at h;split at h
  .rename_i hf;subst hf;split at h
   .rw[Option.bind_eq_some_iff]at h;obtain⟨ws,h1,h2⟩:=h;split at h2
    .rename_i hw;simp only[aB]at h2;subst h2;rw[lQ h1];exact QZ ⟨_,_,⟨_,_,_,_,_,_,_,_,_,_,_,_⟩,_,_,ws,_,_,_⟩ hw U
    .cases h2
   .cases h
  .cases h
def OS{x:Nd}(hw:x.words.length<=200000000000000)(U:af):O14.get 154 [.agg [.int .i64 x.kind,.int .i64 x.size,.int .i64 x.st.top,.int .i64 x.st.Yv,.int .i64 x.st.Yj,.int .i64 x.st.Yc,.int .i64 x.st.Zp,.int .i64 x.st.YN,.int .i64 x.st.YY,.int .i64 x.st.head,.int .i64 x.st.before,.int .i64 x.st.after,.int .i64 x.st.inside,.int .i64 x.st.clear,.int .i64 x.line,.int .i64 x.space,bl x.words,.int .i64 x.side,.int .i64 x.w,.int .i64 x.h]] U=
 some (.bool x.ok):=by
 show((fP (x.words.map vI)).bind λws=>if ws.length<=200000000000000 then some (V.bool (Nd.ok ⟨x.kind,x.size,⟨x.st.top,x.st.Yv,x.st.Yj,x.st.Yc,x.st.Zp,x.st.YN,x.st.YY,x.st.head,x.st.before,x.st.after,x.st.inside,x.st.clear⟩,x.line,x.space,ws,x.side,x.w,x.h⟩))else none)=_;rw[xg,Option.bind_some,ar hw]
def JR{rows:List V}{k:Nat}{a:Int}{s:List Int}(hk:k=(a::s).length)(ht:rows.take k=(a::s).reverse.map vI):rows[k-1]?=some (.int .i64 a)/\rows.take (k-1)=s.reverse.map vI:=by
 simp only[ZK]at hk;have h1:(rows.take k)[k-1]?=rows[k-1]?:=by rw[List.getElem?_take,ar (by omega)]
 constructor
 .rw[<-h1,ht,hk];simp
 .have h2:rows.take (k-1)=(rows.take k).take (k-1):=by rw[List.take_take];congr 1;omega
  rw[h2,ht,hk];simp
def Asc.le{n:Nat}:∀{stk:List Int} {lo:Nat},Asc n lo stk->lo<=n
 |[],lo,h=>by simp only[Asc]at h;omega
 |a::s,lo,h=>by have h1:=h.1;have h2:=Asc.le h.2;omega
def Gj(l:List Nd)(hl:dU l):aJ prog 101 [aH l] (.bool (Zd l)):=λU=>by
 obtain⟨hl1,hl2⟩:=hl;refine Wb.r (by simp[Pd]) ?_;refine ab.mix 6 ?_;apply sR;simp only[go_sem,seval,bG,Pd,eO];intro e0 he0;refine ab.loop (λm st=>∃i stk e k rows,i<=l.length/\m=l.length-i/\Zd l=isS (l.drop i) i stk/\Asc l.length i stk/\stk≠[]/\stk.length<=i+1/\aa U st.U/\st.U e=some ⟨3,1,rows⟩/\U e=none/\k=stk.length/\k<=rows.length/\rows.take k=stk.reverse.map vI/\
  st.s 3=.own e 0 k/\st.s 9=aH l/\st.s 10=vI l.length/\st.s 11=vI i) l.length ?_ ?_
 .refine⟨0,[(l.length:Int)],e0,1,[vI l.length],by omega,by omega,by rw[<-Mg];rfl,⟨by omega,by simp[Asc]⟩,by simp,by simp,(aa.refl U).C' he0,ag,he0,rfl,by simp,rfl,rfl,rfl,rfl,rfl⟩
 .rintro m ⟨s,Z'⟩ ⟨i,stk,e,k,rows,hi,rfl,hB,hasc,YA,hsl,G',ZO,hnew,hk,hkr,Zb,h3,h9,h10,h11⟩;simp only at G' ZO h3 h9 h10 h11;refine ab.mix 6 ?_;apply sR;simp only[go_sem,seval,h9,h10,h11];refine And.intro (λH'=>?_) (λhge=>?_)
  .have hlt':i<l.length:=by simp at H';omega
   have hd:l.drop i=l[i]::l.drop (i+1):=ia hlt';have hxw:l[i].words.length<=200000000000000:=hl2 _ (Zr hlt');rw[hd]at hB;generalize hxe:l[i]=x at*;simp only[go_sem,seval,bG,nC hlt',hxe,Nd.cells];intro id5 hid5;replace hid5:Z' id5=none:=hid5;have n5e:e≠id5:=by rintro rfl;rw[ZO]at hid5;cases hid5
   have n5n:U id5=none:=G'.none hid5;refine ab.loop (λm st=>∃stk' k',m=stk'.length/\uC i stk=uC i stk'/\Asc l.length i stk'/\stk'≠[]/\stk'.length<=stk.length/\st.U=C' Z' id5 ⟨59,20,[.agg x.cells]⟩/\k'=stk'.length/\k'<=rows.length/\rows.take k'=stk'.reverse.map vI/\
    st.s 3=.own e 0 k'/\st.s 4=vI i/\st.s 5=.ptr id5 0 0/\st.s 9=aH l/\st.s 10=vI l.length/\st.s 11=vI i) stk.length ?_ ?_
   .exact⟨stk,k,rfl,rfl,hasc,YA,YQ _,rfl,hk,hkr,Zb,h3,rfl,rfl,h9,h10,h11⟩
   .rintro m ⟨s,Z''⟩ ⟨stk',k',rfl,hpop,hasc',hne',hsl',YF,ZL,hkr',htk',h3,h4,h5,h9,h10,h11⟩;simp only at YF h3 h4 h5 h9 h10 h11;subst YF;obtain⟨a,tl,rfl⟩:=List.exists_cons_of_ne_nil hne';obtain⟨htop,htk2⟩:=JR ZL htk';have hkpos:1<=k':=by rw[ZL];simp
    have g0:(k':Int)-1<k':=by omega
    have g1:(0:Int)<=(k':Int)-1:=by omega
    have g2:(k':Int)-1<=k':=by omega
    have g3:((k':Int)-1).toNat=k'-1:=by omega
    have hrng:Yl .i64 ((k':Int)-1):=ai;refine ab.mix 6 ?_
    (refine ab.bg O14 300 ?_;simp only[go_sem,seval,bG,h3,h4,h5,h9,h10,h11,ae n5e,ZO,g0,g1,g2,g3,Int.le_refl,Int.toNat_zero,Nat.sub_zero,htop,Bz,Nd.cells,OS hxw,wy (Nd.ok x)])
    refine And.intro (λh1=>⟨hrng,And.intro (λh2=>?_) (λh2=>?_)⟩) (λh1=>?_)
    .obtain⟨b,tl',rfl⟩:∃b tl',tl=b::tl':=by
      cases tl with
      |nil=>simp at ZL;omega
      |cons b tl'=>exact⟨b,tl',rfl⟩
     have hp2:uC i (a::b::tl')=uC i (b::tl'):=by simp[uC,h2]
     have ha2:=hasc'.2;rw[h2,eX]at ha2;refine⟨hrng,_,?_,b::tl',k'-1,rfl,by rw[hpop,hp2],ha2,by simp,?_,?_,by omega,htk2,rfl⟩
     .simp
     .simp only[ZK]at hsl'|-;omega
     .simp only[ZK]at ZL|-;omega
    all_goals
     have hps:uC i (a::tl)=a::tl:=by
      cases tl with
      |nil=>rfl
      |cons b tl'=>
       have:a≠i:=by first
        |simpa using h2
        |(exfalso;simp at ZL h1;omega)
       simp[uC,this]
     obtain⟨c,t,p1,p2,p3,p4⟩:=vP l l.length i hlt' (a::tl) hasc';rw[hps,List.cons.injEq]at p1;obtain⟨rfl,rfl⟩:=p1;have hIs:Zd l=if x.ok=true/\1<=x.size/\x.size<=a-i/\(x.kind=1\/x.size<=1)then isS (l.drop (i+1)) (i+1) ((i+x.size)::a::tl)else false:=by
      rw[hB,isS,hpop,hps]
     have hale:=Asc.le p3.2;have hlenk:(rows.take k').length=k':=by simp;omega
     have hstk:k'<=i+1:=by rw[ZL];omega
     have happ:x.ok=true/\1<=x.size/\x.size<=a-i/\(x.kind=1\/x.size<=1)->∀(X Y:Ob) (id id1:Nat),C' Z' id5 X id=none->C' (C' Z' id5 X) id Y id1=none->
      Zd l=isS (l.drop (i+1)) (i+1) ((i+x.size)::a::tl)/\Asc l.length (i+1) ((i+x.size)::a::tl)/\aa U (C' (del (C' (C' Z' id5 X) id Y) e) id1 ⟨3,1,rows.take k'++[.int .i64 (i+x.size)]⟩)/\U id1=none/\
      (rows.take k'++[V.int .i64 (i+x.size)]).take (k'+1)=((i+x.size)::a::tl).reverse.map vI:=by
      intro hc X Y id id1 O' hid1;rw[fA]at O';rw[fA,fA]at hid1;rw[ar hc]at hIs;refine⟨hIs,⟨by omega,?_,p3.2⟩,?_,G'.none hid1.2.2,?_⟩
      .have:(i+x.size).toNat=i+x.size.toNat:=by omega
       omega
      .exact aa.ax (aa.xP ((G'.ax n5n).ax (G'.none O'.2)) hnew) (G'.none hid1.2.2)
      .rw[jj (by simp;omega),htk'];simp
     refine And.intro (λq1=>And.intro (λq2=>⟨hrng,ai,And.intro (λq3=>And.intro (λq4=>And.intro (λq5=>?_) (λq5=>?_)) (λq4=>?_)) (λq3=>?_)⟩) (λq2=>?_)) (λq1=>?_)
     .refine ak.pure (G'.C' hid5) ?_;rw[hIs,av];rintro⟨c1,c2,c3,c4⟩;omega
     .refine⟨ai,?_⟩;intro id O';have hid':=(fA.1 O').2;have nie:e≠id:=by rintro rfl;rw[ZO]at hid';cases hid'
      have hd1:∀U,U e=some ⟨3,1,rows⟩->bN U 3 1 (.own e 0 k')=some (rows.take k',some e):=by
       intro U YF;simp only[bN,YF];rw[ar ⟨trivial,trivial,trivial,hkr'⟩]
      have ZM:∀U,U id=some ⟨3,1,[.int .i64 (i+x.size)]⟩->bz U 1 (.own id 0 1)=some [.int .i64 (i+x.size)]:=by
       intro U YF;simp only[bz,YF];rw[ar (by simp)];simp
      have hb:(k'+1)*9<=140737488355328:=by omega
      simp only[go_sem,seval,bG,hd1,ZM,ae n5e,ae nie,ZO,hlenk,hb,bt,h9,h10,h11];intro id1 hid1;obtain⟨z1,z2,z3,z4,z5⟩:=happ ⟨by simpa using q1,by omega,by omega,by first|(left;simpa using q4)|(right;simp at q5;omega)⟩ _ _ id id1 O' hid1
      refine⟨ai,_,?_,i+1,_,id1,k'+1,_,by omega,rfl,z1,z2,by simp,?_,z3,ag,z4,?_,?_,z5,rfl,?_⟩
      .omega
      .simp only[ZK]at ZL hsl'|-;omega
      .simp only[ZK]at ZL|-;omega
      .simp;omega
      .simp
     .refine⟨ai,?_⟩;intro id O';have hid':=(fA.1 O').2;have nie:e≠id:=by rintro rfl;rw[ZO]at hid';cases hid'
      have hd1:∀U,U e=some ⟨3,1,rows⟩->bN U 3 1 (.own e 0 k')=some (rows.take k',some e):=by
       intro U YF;simp only[bN,YF];rw[ar ⟨trivial,trivial,trivial,hkr'⟩]
      have ZM:∀U,U id=some ⟨3,1,[.int .i64 (i+x.size)]⟩->bz U 1 (.own id 0 1)=some [.int .i64 (i+x.size)]:=by
       intro U YF;simp only[bz,YF];rw[ar (by simp)];simp
      have hb:(k'+1)*9<=140737488355328:=by omega
      simp only[go_sem,seval,bG,hd1,ZM,ae n5e,ae nie,ZO,hlenk,hb,bt,h9,h10,h11];intro id1 hid1;obtain⟨z1,z2,z3,z4,z5⟩:=happ ⟨by simpa using q1,by omega,by omega,by first|(left;simpa using q4)|(right;simp at q5;omega)⟩ _ _ id id1 O' hid1
      refine⟨ai,_,?_,i+1,_,id1,k'+1,_,by omega,rfl,z1,z2,by simp,?_,z3,ag,z4,?_,?_,z5,rfl,?_⟩
      .omega
      .simp only[ZK]at ZL hsl'|-;omega
      .simp only[ZK]at ZL|-;omega
      .simp;omega
      .simp
     .refine ak.pure (G'.C' hid5) ?_;rw[hIs,av];rintro⟨c1,c2,c3,c4⟩;omega
     .refine ak.pure (G'.C' hid5) ?_;rw[hIs,av];rintro⟨c1,c2,c3,c4⟩;omega
     .refine ak.pure (G'.C' hid5) ?_;rw[hIs,av];rintro⟨c1,c2,c3,c4⟩;exact q1 (by simp[c1])
  .have hi':i=l.length:=by simp at hge;omega
   refine ak.pure G' ?_;rw[hB,hi',x5];rfl
open Go.Proofs Go.Proofs.Tryz
def l5(times n:Int):Int:=if n=0\/times<=1099511627776/n then n*times else 1099511627777
def oM(times h:Int):List Int->Int
 |[]=>h
 |n::l=>oM times (min (h+l5 times n) 1099511627777) l
def eE(i:Nat)(x:Nd)(s:Sm)(ends:List Int):Sm×List Int:=
 let ends:=ends.filter λn=>!decide (n<=(i:Int))
 if x.kind=1 then
  let ends:=ends++[i+x.size]
  (⟨max s.depth ends.length,s.pieces,s.nodes+1,oM 1 s.Ya [x.st.top,x.st.Yv,x.st.Yj,x.st.Yc,x.st.head]⟩,ends)
 else if x.kind=2 then(⟨s.depth,s.pieces+x.words.length,s.nodes+1,oM x.words.length s.Ya [x.line]⟩,ends)
 else(⟨s.depth,s.pieces+1,s.nodes+1,oM 1 s.Ya [x.h]⟩,ends)
def iO(l:List Nd):Nat->Sm×List Int
 |0=>(⟨0,0,0,0⟩,[])
 |i+1=>match l[i]? with
  |some x=>eE i x (iO l i).1 (iO l i).2
  |none=>iO l i
def C1{times n:Int}(h0:0<=n)(h1:n<=mx)(t0:0<=times)(a:Int)(ha:0<=a):min (a+l5 times n) 1099511627777=min (a+n*times) 1099511627777:=by
 unfold l5;split
 .rfl
 .rename_i h;have hn:0<n:=by omega
  have hq:1099511627776/n<times:=by omega
  have h2:1099511627776<n*times:=by
   have:=Int.ediv_lt_iff_lt_mul (a:=1099511627776) (b:=times) hn;have h3:=this.1 hq;rw[Int.mul_comm];exact h3
  omega
def u5{a b:Int}(h1:0<=a/\a<=1099511627777)(h2:0<=b):∀n:Nat,ER a b n=min (a+b*n) 1099511627777
 |0=>by simp[ER];omega
 |n+1=>by
  rw[ER,u5 h1 h2 n,kM];have e:b*((n+1:Nat):Int)=b*n+b:=by rw[Int.natCast_add,Int.mul_add];simp
  rw[e];have:0<=b*(n:Int):=Int.mul_nonneg h2 (by omega);generalize b*(n:Int)=q at*;omega
def lT{h n:Int}(h1:0<=h)(n0:0<=n)(n1:n<=mx):min (h+l5 1 n) 1099511627777=kM h n:=by
 rw[C1 n0 n1 (by omega) h h1,Int.mul_one];rfl
def kI(l:List Nd)(i:Nat):Nat->List Int
 |0=>[]
 |k+1=>kI l i k++(match l[k]? with
  |some y=>if y.kind=1/\(i:Int)<k+y.size then[(k:Int)+y.size]else[]
  |none=>[])
def pS(l:List Nd)(i:Nat):∀k,((kI l i k).length:Int)=jm l i k
 |0=>rfl
 |k+1=>by
  simp only[kI,jm,gZ,Int.natCast_add,pS l i k];cases l[k]? with
  |none=>simp
  |some y=>simp only[];split<;>simp
def pG(l:List Nd)(i:Nat):∀k,(kI l i k).filter (λn=>!decide (n<=((i+1:Nat):Int)))=kI l (i+1) k
 |0=>rfl
 |k+1=>by
  simp only[kI,List.filter_append,pG l i k];congr 1;split
  .rename_i y _;by_cases hk:y.kind=1
   .by_cases h1:((i+1:Nat):Int)<k+y.size
    .rw[ar ⟨hk,by omega⟩,ar ⟨hk,h1⟩];have:¬((k:Int)+y.size<=((i+1:Nat):Int)):=by omega
     simp only[List.filter_cons,this,decide_false,Bool.not_false,if_true,List.filter_nil]
    .rw[av (show¬(y.kind=1/\((i+1:Nat):Int)<k+y.size)from λh=>h1 h.2)];split
     .have:(k:Int)+y.size<=((i+1:Nat):Int):=by omega
      simp only[List.filter_cons,this,decide_true,Bool.not_true,eQ,if_false,List.filter_nil]
     .rfl
   .rw[av (λh=>hk h.1),av (λh=>hk h.1)];rfl
  .rfl
def nA(l:List Nd)(hl:dU l)(hb:Zd l=true):∀i,i<=l.length->(iO l i).1={ gQ l ⟨0,0,l.length,0⟩ i with nodes:=i }/\(iO l i).2=(match i with
 |0=>[]
 |j+1=>kI l j (j+1))/\(gQ l ⟨0,0,l.length,0⟩ i).u7 i/\(gQ l ⟨0,0,l.length,0⟩ i).nodes=l.length
 |0,_=>⟨rfl,rfl,by simp[gQ,Sm.u7],rfl⟩
 |i+1,hi=>by
  obtain⟨h1,h2,h3,h4⟩:=nA l hl hb i (by omega);have M':l.all Nd.ok=true/\bQ l 0 l.length=true:=by simpa[Zd]using hb
  have hx:=(dX.1 M'.1) _ (Zr (show i<l.length by omega));have hg:l[i]?=some l[i]:=by simp[show i<l.length by omega]
  obtain⟨z1,z2,z3⟩:=jl l (l.length+1) 0 l.length (by omega) (by omega) M'.2 i (by omega) (by omega) (by omega);have hw:=hl.2 _ (Zr (show i<l.length by omega));have hfine:=Hj (l:=l) hx hw h3;generalize hxe:l[i]=x at*;obtain⟨p1,p2,p3,p4,p5,p6⟩:=kc hx;have hS:iO l (i+1)=eE i x (iO l i).1 (iO l i).2:=by simp only[iO,hg]
  have hR:gQ l ⟨0,0,l.length,0⟩ (i+1)=qp l i x (gQ l ⟨0,0,l.length,0⟩ i):=by simp only[gQ,hg]
  have hf:(iO l i).2.filter (λn=>!decide (n<=(i:Int)))=kI l i i:=by
   rw[h2];cases i with
   |zero=>rfl
   |succ j=>exact pG l j (j+1)
  rw[hS,hR,h1];generalize hsm:gQ l ⟨0,0,l.length,0⟩ i=sm at*;obtain⟨f1,f2,f3⟩:=h3;have hends:kI l i (i+1)=kI l i i++(if x.kind=1 then[(i:Int)+x.size]else[]):=by
   simp only[kI,hg];by_cases hk:x.kind=1
   .rw[ar ⟨hk,by omega⟩,ar hk]
   .rw[av (λh=>hk h.1),av hk]
  refine⟨?_,?_,by rw[Int.natCast_add];exact hfine,?_⟩
  .by_cases hk:x.kind=1
   .obtain⟨q1,q2,q3,q4,q5⟩:=p6 hk;have r1:=fT f3 q1.1;have r2:=fT r1 q2.1;have r3:=fT r2 q3.1;have r4:=fT r3 q4.1;have hlen:=pS l i (i+1);rw[hends,ar hk]at hlen;simp only[eE,qp,ar hk,hf,oM,Sm.mk.injEq];refine⟨?_,trivial,by simp,?_⟩
    .rw[hlen]
    .rw[lT f3.1 q1.1 q1.2,lT r1.1 q2.1 q2.2,lT r2.1 q3.1 q3.2,lT r3.1 q4.1 q4.2,lT r4.1 q5.1 q5.2]
   .by_cases hk2:x.kind=2
    .simp only[eE,qp,av hk,ar hk2,oM,Sm.mk.injEq];refine⟨trivial,trivial,by simp,?_⟩;rw[C1 p2 p3 (by omega) _ f3.1,u5 f3 p2]
    .simp only[eE,qp,av hk,av hk2,oM,Sm.mk.injEq];exact⟨trivial,trivial,by simp,lT f3.1 p4 p5⟩
  .by_cases hk:x.kind=1
   .simp only[eE,ar hk,hf,hends]
   .by_cases hk2:x.kind=2
    .simp only[eE,av hk,ar hk2,hf,hends,lH]
    .simp only[eE,av hk,av hk2,hf,hends,lH]
  .rw[<-h4];unfold qp;split
   .rfl
   .split<;>rfl
def Am(l:List Nd):Sm×Int:=if Zd l then((iO l l.length).1,0)else(⟨0,0,0,0⟩,4)
def GQ(l:List Nd)(hl:dU l):Am l=jr l:=by
 unfold Am jr;by_cases hb:Zd l=true
 .obtain⟨h1,_,_,h4⟩:=nA l hl hb l.length (YQ _);rw[ar hb,ar hb,h1];generalize gQ l ⟨0,0,l.length,0⟩ l.length=sm at*;cases sm;simp_all
 .rw[av hb,av hb]
open Go.Proofs Go.Proofs.Tryz
def Ei{U:af}{c:Nat}{i:Int}(h:U c=some ⟨3,1,[vI i]⟩)(n:Int):au prog 156 [vI n,.ptr c 0 0] U λr Z'=>r=.bool (decide (n<=i))/\Z'=U:=by
 refine XZ.r (by simp[OL]) ?_;apply sR;simp only[go_sem,seval,OL,h];exact ak.same rfl
abbrev kept(i:Int)(l:List Int):List Int:=l.filter λn=>!decide (n<=i)
def tv{p:Int->Bool}:∀{l:List Int},cz p l<0->l.filter (λn=>!p n)=l
 |[],_=>rfl
 |x::l,h=>by
  simp only[cz]at h;split at h
  .omega
  .rename_i hp;have hp':p x=false:=by simpa using hp
   split at h
   .rename_i h2;simp only[List.filter_cons,hp',Bool.not_false,if_true,tv h2]
   .have:=ja p l;omega
def ui{p:Int->Bool}:∀{l:List Int},¬cz p l<0->(cz p l).toNat<l.length/\(l.take (cz p l).toNat).filter (λn=>!p n)=l.take (cz p l).toNat/\
 ∀x,l[(cz p l).toNat]?=some x->p x=true
 |[],h=>by simp[cz]at h
 |x::l,h=>by
  simp only[cz]at h|-;split
  .rename_i hp;refine⟨by simp,by simp,?_⟩;intro y hy;simp at hy;subst hy;exact hp
  .rename_i hp;rw[av hp]at h;have hp':p x=false:=by simpa using hp
   split
   .rename_i h2;rw[ar h2]at h;omega
   .rename_i h2;obtain⟨g1,g2,g3⟩:=ui h2;have:=ja p l;have e:(cz p l+1).toNat=(cz p l).toNat+1:=by omega
    rw[e];refine⟨by simp;omega,?_,?_⟩
    .simp only[pA,List.filter_cons,hp',Bool.not_false,if_true,g2]
    .simpa using g3
def KW{U:af}{e c k:Nat}{i:Int}{full:List Int}(he:U e=some ⟨3,1,full.map vI⟩)(hc:U c=some ⟨3,1,[vI i]⟩)(YA:c≠e)(hk:k<=full.length)(hfl:full.length<=1000000000000):
 au prog 155 [.own e 0 k,.fn 156 [.ptr c 0 0]] U λr Z'=>∃(k':Nat) (full':List Int),r=.own e 0 k'/\Z'=C' U e ⟨3,1,full'.map vI⟩/\k'<=full'.length/\full'.length<=full.length/\full'.take k'=kept i (full.take k):=by
 have hlk:(full.take k).length=k:=by simp;omega
 have hr:Reads U 1 false (.own e 0 k) ((full.take k).map vI):=by
  have:=Reads.own (U:=U) (off:=0) (len:=k) he rfl (by simpa using hk) (λr hr=>by simp only[gg]at hr;obtain⟨n,_,rfl⟩:=hr;rfl);simpa using this
 refine Tv.r (by simp[Ir]) ?_;refine ab.mix 8 ?_;apply sR;simp only[go_sem,seval,Ir];refine ab.ay rfl rfl rfl (nZ (p:=λn=>decide (n<=i)) hr (by omega) (λn _=>Ei hc n)) ?_;generalize hw:cz (λn=>decide (n<=i)) (full.take k)=w;have hwg:-1<=w:=by rw[<-hw];exact ja _ _
 apply sR;simp only[go_sem,seval];have ZZ:C' U e ⟨3,1,full.map vI⟩=U:=by
  funext j;simp only[C'];split
  .rename_i e';rw[e',he]
  .rfl
 refine And.intro (λhm=>?_) (λhm=>?_)
 .refine⟨_,U,aa.refl U,Wk.refl (aa.refl U) _,k,full,rfl,ZZ.symm,hk,YQ _,?_⟩;exact(tv (by rw[hw];omega)).symm
 .have hw0:¬cz (λn=>decide (n<=i)) (full.take k)<0:=by rw[hw];omega
  obtain⟨g1,g2,g3⟩:=ui hw0;rw[hw]at g1 g2 g3;rw[hlk]at g1;refine⟨ai,?_⟩;refine ab.loop (λm st=>∃(u j:Nat) (cur:List Int),u<j/\j<=k/\m=k-j/\cur.length=full.length/\cur.take u=kept i (full.take j)/\(∀q,j<=q->cur[q]?=full[q]?)/\st.U=C' U e ⟨3,1,cur.map vI⟩/\
   st.s 0=.own e 0 k/\st.s 1=.fn 156 [.ptr c 0 0]/\st.s 5=vI u/\st.s 6=vI j) (k-(w.toNat+1)) ?_ ?_
  .have hw1:w=((w.toNat:Nat):Int):=by omega
   refine⟨w.toNat,w.toNat+1,full,by omega,by omega,rfl,rfl,?_,λ_ _=>rfl,ZZ.symm,rfl,rfl,?_,?_⟩
   .have hx:(full.take k)[w.toNat]?=some (full[w.toNat]'(by omega)):=by rw[List.getElem?_take,ar g1,Zq6]
    have hp:=g3 _ hx;have e1:(full.take k).take w.toNat=full.take w.toNat:=by rw[List.take_take];congr 1;omega
    rw[e1]at g2;rw[Zq0 (by omega)];have g2':kept i (full.take w.toNat)=full.take w.toNat:=g2;simp only[kept,List.filter_append]at g2'|-;rw[g2'];simp[hp]
   .show vI w=_;rw[<-hw1]
   .show vI (w+1)=_;rw[Int.natCast_add,<-hw1];rfl
  .rintro m ⟨s,Z'⟩ ⟨u,j,cur,huj,hjk,rfl,YZ,hct,hcr,YF,h0,h1,h5,h6⟩;simp only at YF h0 h1 h5 h6;subst YF;refine ab.mix 8 ?_;apply sR;simp only[go_sem,seval,h0,h5,h6];refine And.intro (λH'=>?_) (λhge=>?_)
   .have hlt':j<k:=by omega
    have hjc:j<cur.length:=by omega
    have hget:cur[j]?=some cur[j]:=by simp[hjc]
    have hge:(cur.map vI)[j]?=some (vI cur[j]):=by simp[hjc]
    have b1:(0:Int)<=j:=by omega
    have b2:(j:Int)<k:=by omega
    have b3:(0:Int)<=u:=by omega
    have b4:(u:Int)<k:=by omega
    simp only[go_sem,seval,h1,b1,b2,hge,eX];refine ab.ay rfl rfl rfl (Ei (i:=i) (by rw[ae YA];exact hc) cur[j]) ?_;have hgu:(cur.map vI)[u]?=some (vI (cur[u]'(by omega))):=by simp[show u<cur.length by omega]
    apply sR;simp only[go_sem,seval,h0,h1,h5,h6,b3,b4,hgu,eX];have hfj:full[j]?=some cur[j]:=by rw[<-hcr j (YQ _)];exact hget
    have htj:full.take (j+1)=full.take j++[cur[j]]:=by
     have hjf:j<full.length:=by omega
     rw[Zq0 hjf];congr 2;rw[Zq6 hjf]at hfj;simpa using hfj
    refine And.intro (λhd=>?_) (λhd=>?_)
    .refine⟨ai,ai,_,?_,u+1,j+1,cur.set u cur[j],by omega,by omega,rfl,by simpa using YZ,?_,?_,?_,?_,?_⟩
     .omega
     .rw[htj];have hul:u<cur.length:=by omega
      have:(cur.set u cur[j]).take (u+1)=cur.take u++[cur[j]]:=by
       rw[Zq0 (by simpa using hul),List.take_set,List.set_eq_of_length_le (by simp;omega)];simp
      rw[this,hct];simp only[kept,List.filter_append];congr 1;have hd':¬cur[j]<=i:=by simpa using hd
      simp[hd']
     .intro q hq;rw[List.getElem?_set_ne (by omega)];exact hcr q (by omega)
     .simp
     .simp
     .simp
    .refine⟨ai,_,?_,u,j+1,cur,by omega,by omega,rfl,YZ,?_,λq hq=>hcr q (by omega),rfl,?_⟩
     .omega
     .rw[htj,hct];simp only[kept,List.filter_append];have hd':cur[j]<=i:=by simpa using hd
      simp[hd']
     .simp
   .have hjk':j=k:=by omega
    subst hjk';have b3:(0:Int)<=u:=by omega
    have b4:(u:Int)<=j:=by omega
    simp only[go_sem,seval,b3,b4,Int.le_refl,eX];refine ab.clear (id:=e) (off:=u) (len:=j-u) (ob:=⟨3,1,cur.map vI⟩) rfl rfl rfl ag rfl (by simp;omega) ?_;apply sR;simp only[go_sem,seval,h0,h5,b3,b4,Int.le_refl,eX,gY,Nat.sub_zero];refine⟨_,_,aa.refl _,Wk.refl (aa.refl _) _,u,cur.take u++List.replicate (j-u) 0++cur.drop (u+(j-u)),by simp,?_,?_,?_,?_⟩
    .simp[List.map_take,List.map_drop]
    .simp;omega
    .simp;omega
    .rw[lz,MN (by simp;omega),List.take_take,Nat.min_self,hct]
open Go.Proofs Go.Proofs.Tryz
def Reads.aC(U:af):Reads U 1 false .aC []:=⟨rfl,λi v h=>by simp at h⟩
def Ee{U:af}{c:Nat}{i:Int}(hc:U c=some ⟨3,1,[vI i]⟩):au prog 155 [.aC,.fn 156 [.ptr c 0 0]] U λr Z'=>r=.aC/\Z'=U:=by
 refine Tv.r (by simp[Ir]) ?_;refine ab.mix 8 ?_;apply sR;simp only[go_sem,seval,Ir];refine ab.ay rfl rfl rfl (nZ (l:=[]) (p:=λn=>decide (n<=i)) (Reads.aC U) (by simp) (λn _=>Ei hc n)) ?_;apply sR;simp only[go_sem,seval,cz];exact ak.same rfl
def KQ{times n:Int}(h0:0<=n)(t0:0<=times):0<=l5 times n/\l5 times n<=1099511627777:=by
 unfold l5;split
 .rename_i h;refine⟨Int.mul_nonneg h0 t0,?_⟩;rcases h with h|h
  .subst h;simp
  .by_cases hn:n=0
   .subst hn;simp
   .have:=Int.mul_le_of_le_ediv (by omega:0<n) h;rw[Int.mul_comm];omega
 .omega
def cG(s:Sm)(ends:V):Ob:=⟨198,5,[.agg [vI s.depth,vI s.pieces,vI s.nodes,vI s.Ya,ends]]⟩
def sk{U:af}{c:Nat}{s:Sm}{ends sv:V}{times:Int}{l:List Int}(hc:U c=some (cG s ends))(hr:∀ob,Reads (C' U c ob) 1 false sv (l.map vI))(hl:l.length<=200000000000000)
 (hn:∀n∈l,0<=n/\n<=mx)(ht:0<=times/\times<=200000000000000)(hh:0<=s.Ya/\s.Ya<=1099511627777)(hends:ends.cells=[ends]):
 au prog 157 [.ptr c 0 0,vI times,sv] U λr Z'=>r=.P' []/\Z'=C' U c (cG { s with Ya:=oM times s.Ya l } ends):=by
 have hlen:cW false sv=some (vI (l.length:Int)):=by simpa using(hr ⟨0,0,[]⟩).1
 have ZZ:C' U c (cG s ends)=U:=by
  funext j;simp only[C'];split
  .rename_i e';rw[e',hc]
  .rfl
 refine UY.r (by simp[Se]) ?_;refine ab.mix 9 ?_;apply sR;simp only[go_sem,seval,Se,hlen];refine ab.loop (λm st=>∃(i:Nat) (h:Int),i<=l.length/\m=l.length-i/\oM times s.Ya l=oM times h (l.drop i)/\(0<=h/\h<=1099511627777)/\st.U=C' U c (cG { s with Ya:=h } ends)/\
  st.s 0=.ptr c 0 0/\st.s 1=vI times/\st.s 9=sv/\st.s 10=vI l.length/\st.s 11=vI i) l.length ?_ ?_
 .exact⟨0,s.Ya,by omega,by omega,rfl,hh,ZZ.symm,rfl,rfl,rfl,rfl,rfl⟩
 .rintro m ⟨s',Z'⟩ ⟨i,h,hi,rfl,hp,hhh,YF,h0,h1,h9,h10,h11⟩;simp only at h0 h1 h9 h10 h11 YF;subst YF;refine ab.mix 9 ?_;apply sR;simp only[go_sem,seval,h9,h10,h11];refine And.intro (λH'=>?_) (λhge=>?_)
  .have hlt':i<l.length:=by omega
   have hd:l.drop i=l[i]::l.drop (i+1):=ia hlt';obtain⟨pp,e1,e2⟩:=(hr (cG { s with Ya:=h } ends)).2 i (vI l[i]) (by simp[hlt']);have hni:=hn _ (Zr hlt');rw[hd,oM]at hp;generalize YA:l[i]=n at*;have j4:=KQ (n:=n) hni.1 ht.1;simp only[cG]at e1 e2;simp only[mx]at hni;have hq:(1099511627776:Int).tdiv n=1099511627776/n:=Int.tdiv_eq_ediv_of_nonneg (by omega);by_cases hz:n=0
   .have YL:l5 times n=n*times:=by unfold l5;rw[ar (.inl hz)]
    rw[YL]at hp j4;simp only[go_sem,seval,e1,e2,cG,hz,h0,h1,h9,h10,h11];rw[hz]at hp j4;simp only[Int.zero_mul,Int.add_zero]at hp|-;refine⟨ai,ai,ai,_,?_,i+1,h,by omega,rfl,?_,hhh,?_,by simp⟩
    .omega
    .rw[hp,Int.min_eq_left hhh.2]
    .rw[av (by omega)]
   .simp only[go_sem,seval,e1,e2,cG,hz,h0,h1,h9,h10,h11,hq];have hdiv:0<=1099511627776/n/\1099511627776/n<=1099511627776:=⟨Int.ediv_nonneg (by omega) hni.1,Int.ediv_le_self _ (by omega)⟩
    refine⟨ai,λhle=>?_,λhgt=>?_⟩
    .have YL:l5 times n=n*times:=by unfold l5;rw[ar (.inr hle)]
     rw[YL]at hp j4;refine⟨ai,ai,ai,_,?_,i+1,min (h+n*times) 1099511627777,by omega,rfl,hp,by omega,?_,by simp⟩
     .omega
     .rw[show(if 1099511627777<h+n*times then 1099511627777 else h+n*times)=min (h+n*times) 1099511627777 by split<;>omega]
    .have YL:l5 times n=1099511627777:=by unfold l5;rw[av (by omega)]
     rw[YL]at hp j4;refine⟨ai,ai,_,?_,i+1,min (h+1099511627777) 1099511627777,by omega,rfl,hp,by omega,?_,by simp⟩
     .omega
     .rw[show(if 1099511627777<h+1099511627777 then 1099511627777 else h+1099511627777)=min (h+1099511627777) 1099511627777 by split<;>omega]
  .have:i=l.length:=by omega
   refine⟨_,_,aa.refl _,Wk.refl (aa.refl _) _,rfl,?_⟩;rw[hp,this,x5];rfl
open Go.Proofs Go.Proofs.Tryz
def KY{P:Program}{n:Nat}{Q:St->Prop}{k:List It}{O:ZQ P}{f:Nat}{d:Option Nat}{l:List az}{v:Nat->V}{ob:Ob}{s:Nat->V}{U:af}{e:Nat}
 (h:∀id Z',aa (del U e) Z'->Z' id=some ob->U id=none->step P O n f (.d l k) ⟨aO s d (v id),Z'⟩ Q):
 I9 P O n f l k d ⟨s,U⟩ Q (some λid=>(v id,Vc.C' (del U e) id ob)):=by
 rw[fc];refine λid O'=>h id _ ((aa.refl _).C' ?_) ag O';by_cases e':id=e
 .simp[del,e']
 .rw[bR e'];exact O'
def mX(K U:af)(v:V)(ends:List Int)(B:Nat):Prop:=
 (v=.aC/\ends=[])\/∃(e k:Nat) (full:List Int),v=.own e 0 k/\U e=some ⟨3,1,full.map vI⟩/\K e=none/\k<=full.length/\full.length<=B/\full.take k=ends
def Up{K U:af}{v:V}{ends:List Int}{B c:Nat}{i:Int}(hB:B<=1000000000000)(h:mX K U v ends B)(hK:aa K U)(hc:K c=some ⟨3,1,[vI i]⟩):
 au prog 155 [v,.fn 156 [.ptr c 0 0]] U λr Z'=>aa K Z'/\mX K Z' r (kept i ends) B:=by
 rcases h with⟨rfl,rfl⟩|⟨e,k,full,rfl,h1,h2,h3,h4,rfl⟩
 .refine(Ee (hK _ _ hc)).mono ?_;rintro r Z' ⟨rfl,rfl⟩;exact⟨hK,.inl ⟨rfl,rfl⟩⟩
 .have YA:c≠e:=by rintro rfl;rw[h2]at hc;cases hc
  refine(KW h1 (hK _ _ hc) YA h3 (by omega)).mono ?_;rintro r Z' ⟨k',full',rfl,rfl,g1,g2,g3⟩;exact⟨hK.ax h2,.inr ⟨e,k',full',rfl,ag,h2,g1,by omega,g3⟩⟩
def aa.LR{K U:af}{i:Nat}{o:Ob}(h:aa K U)(hi:U i=some o):aa (Vc.C' K i o) U:=λj x hx=>by
 by_cases e:j=i
 .subst e;rw[ag]at hx;rw[hi];exact hx
 .rw[ae e]at hx;exact h j x hx
def mX.new{K U Z':af}{v:V}{ends:List Int}{B id:Nat}{o:Ob}(h:mX K U v ends B)(hs:aa U Z')(O':U id=none):mX (C' K id o) Z' v ends B:=by
 rcases h with h|⟨e,k,full,h0,h1,h2,h3⟩
 .exact .inl h
 .exact .inr ⟨e,k,full,h0,hs _ _ h1,by rw[ae (ao h1 O')];exact h2,h3⟩
def mX.less{K K' U:af}{v:V}{ends:List Int}{B:Nat}(h:mX K' U v ends B)(hs:aa K K'):mX K U v ends B:=by
 rcases h with h|⟨e,k,full,h0,h1,h2,h3⟩
 .exact .inl h
 .exact .inr ⟨e,k,full,h0,h1,hs.none h2,h3⟩
def Ri{K U:af}{v:V}{ends:List Int}{B c i:Nat}{x:Nd}{s:Sm}(hK:aa K U)(hKc:K c=none)(hc:U c=some (cG s v))(hE:∀o,mX (C' K c o) U v ends B)(hB:B<=1000000000)
 (hi:i<=10000)(hs:s.u7 i)(hsn:s.nodes=i)(hx:x.ok=true)(hw:x.words.length<=200000000000000)(hsz:1<=x.size/\x.size<=1000000000):
 au prog 102 [.ptr c 0 0,vI i,jE x] U λr Z'=>r=.P' []/\aa K Z'/\∃v',Z' c=some (cG (eE i x s ends).1 v')/\∀o,mX (C' K c o) Z' v' (eE i x s ends).2 (B+1):=by
 refine WQ.r (by simp[Py]) ?_;refine ab.mix 7 ?_;apply sR;simp only[go_sem,seval,Py,jE,Nd.cells];refine ad λid4 Z1 s1 a4 f4=>?_;have hc1:=s1 _ _ hc;have n4c:=ao hc f4;simp only[go_sem,seval];refine ad λid5 Z2 s2 a5 f5=>?_;have hc2:=s2 _ _ hc1;have n5c:=ao hc1 f5;have n54:=ao a4 f5;have a4:=s2 _ _ a4;have hK2:=(hK.trans s1).trans s2;have k4:K id4=none:=hK.none f4;have k5:K id5=none:=(hK.trans s1).none f5;simp only[go_sem,seval,hc2,cG];have hK':aa (C' (C' (C' K c (cG s v)) id4 ⟨3,1,[vI i]⟩) id5 ⟨59,20,[jE x]⟩) Z2:=((hK2.LR hc2).LR a4).LR a5;have hE':mX (C' (C' (C' K c (cG s v)) id4 ⟨3,1,[vI i]⟩) id5 ⟨59,20,[jE x]⟩) Z2 v ends B:=((hE _).new s1 f4).new s2 f5;refine ab.call rfl rfl rfl (Up (by omega) hE' hK' (by rw[ae n54,ag])) ?_;rintro r Z3 ⟨hK3,hE3⟩;have hc3:=hK3 c _ (by rw[ae n5c,ae n4c,ag]);have a4:=hK3 id4 _ (by rw[ae n54,ag]);have a5:=hK3 id5 _ ag;simp only[jE,Nd.cells]at a5;simp only[cG]at hc3;have hKK:=(((aa.refl K).ax hKc (o:=cG s v)).ax k4 (o:=⟨3,1,[vI i]⟩)).ax k5 (o:=⟨59,20,[jE x]⟩);have h3:=hKK.trans hK3;have hsr:Yl .i64 (s.nodes+1):=ai;obtain⟨p1,p2,p3,p4,p5,p6⟩:=kc hx;obtain⟨f1,f2,f3⟩:=hs;rcases hE3 with⟨rfl,hk0⟩|⟨e,k,full,rfl,he,hKe,hk,hfl,hk0⟩
 .by_cases hk1:x.kind=1
  .apply sR;simp only[go_sem,seval,a4,a5,hc3,ae n4c.symm,ae n5c.symm,hk1];refine⟨hsr,ai,?_⟩;refine aW λid8 Z4 s4 a8 f8=>?_;have hc4:=s4 c _ ag;have a4:=s4 id4 _ (by rw[ae n4c.symm];exact a4);have a5:=s4 id5 _ (by rw[ae n5c.symm];exact a5);have hs8:∀U,U id8=some ⟨3,1,[.int .i64 (i+x.size)]⟩->bz U 1 (.own id8 0 1)=some [.int .i64 (i+x.size)]:=by
    intro U YF;simp only[bz,YF];rw[ar (by simp)];simp
   have hd:∀U,bN U 3 1 .aC=some ([],none):=λ_=>rfl;simp only[go_sem,seval,hs8,a8,hd,bt,Nat.reduceLeDiff];refine aW λid9 Z5 s5 a9 f9=>?_;have hc5:=s5 c _ hc4;have a4:=s5 id4 _ a4;have a5:=s5 id5 _ a5;have n9c:id9≠c:=by rintro rfl;rw[hc4]at f9;cases f9
   have n95:id9≠id5:=by rintro rfl;rw[s4 id9 _ (by rw[ae n5c.symm];exact hK3 id9 _ ag)]at f9;cases f9
   simp only[go_sem,seval,hc5,a5,ae n5c.symm];refine ad λid6 Z6 s6 a6 f6=>?_;have hc6:=s6 c _ ag;have a9:=s6 id9 _ (by rw[ae n9c];exact a9);have n6c:id6≠c:=by rintro rfl;rw[hc6]at a6;simp at a6
   have n69:id6≠id9:=by rintro rfl;rw[a9]at a6;simp at a6
   simp only[go_sem,seval,a6];refine ad λid84 Z7 s7 a84 f84=>?_;have hc7:=s7 c _ (by rw[ae n6c.symm];exact hc6);have a9:=s7 id9 _ (by rw[ae n69.symm];exact a9);have n84c:id84≠c:=by rintro rfl;rw[hc7]at a84;simp at a84
   simp only[go_sem,seval];have h4:=(h3.ax hKc).trans s4;have h5:=h4.trans s5;have k9:K id9=none:=h4.none f9;have h6':=λo=>h5.ax hKc (o:=o);have k6:K id6=none:=(h6' _).none f6;have h7:=(((h6' _).trans s6).ax k6).trans s7;obtain⟨q1,q2,q3,q4,q5⟩:=p6 hk1;have hl5:∀n∈[x.st.top,x.st.Yv,x.st.Yj,x.st.Yc,x.st.head],0<=n/\n<=mx:=by
    intro n hn;simp only[cg,List.not_mem_nil,or_false]at hn;rcases hn with rfl|rfl|rfl|rfl|rfl<;>assumption
   refine ab.call rfl rfl rfl (sk (s:=⟨if(1:Int)>s.depth then 1 else s.depth,s.pieces,s.nodes+1,s.Ya⟩) (l:=[x.st.top,x.st.Yv,x.st.Yj,x.st.Yc,x.st.head]) (times:=1) hc7
    (λob=>Reads.own (off:=0) (len:=5) ((ae n84c).trans a84) rfl (by simp) (λr hr=>by simp at hr;rcases hr with rfl|rfl|rfl|rfl|rfl<;>rfl)) (by simp) hl5 (by omega) f3 rfl) ?_
   rintro r Z8 ⟨rfl,rfl⟩;apply sR;simp only[go_sem,seval];refine⟨_,_,aa.refl _,Wk.refl (aa.refl _) _,rfl,h7.ax hKc,.own id9 0 1,?_,λo=>.inr ⟨id9,1,[i+x.size],rfl,(ae n9c).trans a9,fA.2 ⟨n9c,k9⟩,by simp,by simp,?_⟩⟩
   .have e:(if(1:Int)>s.depth then 1 else s.depth)=max s.depth 1:=by split<;>omega
    rw[ag,e];simp[eE,hk1,hk0,cG]
   .simp[eE,hk1,hk0]
  .by_cases hk2:x.kind=2
   .apply sR;simp only[go_sem,seval,a5,hc3,ae n5c.symm,hk2,fU];refine⟨hsr,ai,?_⟩;refine ad λid7 Z7 s7 a7 f7=>?_;have hc7:=s7 c _ ag;have n7c:id7≠c:=by rintro rfl;rw[hc7]at a7;simp at a7
    simp only[go_sem,seval];have h7:=(h3.ax hKc).trans s7;refine ab.call rfl rfl rfl (sk (s:=⟨s.depth,s.pieces+x.words.length,s.nodes+1,s.Ya⟩) (l:=[x.line]) (times:=x.words.length) hc7
     (λob=>Reads.own (off:=0) (len:=1) ((ae n7c).trans a7) rfl (by simp) (λr hr=>by simp at hr;rcases hr with rfl;rfl)) (by simp) (by intro n hn;simp at hn;subst hn;exact⟨p2,p3⟩) (by omega) f3 rfl) ?_
    rintro r Z8 ⟨rfl,rfl⟩;apply sR;simp only[go_sem,seval];refine⟨_,_,aa.refl _,Wk.refl (aa.refl _) _,rfl,h7.ax hKc,_,ag.trans (by simp[eE,hk2,cG];rfl),λo=>?_⟩;have:(eE i x s ends).2=kept i ends:=by simp[eE,hk2]
    rw[this];exact .inl ⟨rfl,hk0⟩
   .have h4or:=p1;apply sR;simp only[go_sem,seval,a5,hc3,ae n5c.symm,hk1,hk2];refine⟨hsr,ai,?_⟩;refine ad λid7 Z7 s7 a7 f7=>?_;have hc7:=s7 c _ ag;have n7c:id7≠c:=by rintro rfl;rw[hc7]at a7;simp at a7
    simp only[go_sem,seval];have h7:=(h3.ax hKc).trans s7;refine ab.call rfl rfl rfl (sk (s:=⟨s.depth,s.pieces+1,s.nodes+1,s.Ya⟩) (l:=[x.h]) (times:=1) hc7
     (λob=>Reads.own (off:=0) (len:=1) ((ae n7c).trans a7) rfl (by simp) (λr hr=>by simp at hr;rcases hr with rfl;rfl)) (by simp) (by intro n hn;simp at hn;subst hn;exact⟨p4,p5⟩) (by omega) f3 rfl) ?_
    rintro r Z8 ⟨rfl,rfl⟩;apply sR;simp only[go_sem,seval];refine⟨_,_,aa.refl _,Wk.refl (aa.refl _) _,rfl,h7.ax hKc,_,ag.trans (by simp[eE,hk1,hk2,cG];rfl),λo=>?_⟩;have:(eE i x s ends).2=kept i ends:=by simp[eE,hk1,hk2]
    rw[this];exact .inl ⟨rfl,hk0⟩
 .have hec:e≠c:=λe'=>by rw[e',ae n5c,ae n4c,ag]at hKe;cases hKe
  have he4:e≠id4:=λe'=>by rw[e',ae n54,ag]at hKe;cases hKe
  have he5:e≠id5:=λe'=>by rw[e',ag]at hKe;cases hKe
  have hKe0:K e=none:=hKK.none hKe;have hlk:(full.take k).length=k:=by simp;omega
  by_cases hk1:x.kind=1
  .apply sR;simp only[go_sem,seval,a4,a5,hc3,ae n4c.symm,ae n5c.symm,hk1];refine⟨hsr,ai,?_⟩;refine aW λid8 Z4 s4 a8 f8=>?_;have hc4:=s4 c _ ag;have a4:=s4 id4 _ (by rw[ae n4c.symm];exact a4);have a5:=s4 id5 _ (by rw[ae n5c.symm];exact a5);have hs8:∀U,U id8=some ⟨3,1,[.int .i64 (i+x.size)]⟩->bz U 1 (.own id8 0 1)=some [.int .i64 (i+x.size)]:=by
    intro U YF;simp only[bz,YF];rw[ar (by simp)];simp
   have he4':=s4 e _ (by rw[ae hec];exact he);have hd:∀U,U e=some ⟨3,1,full.map vI⟩->bN U 3 1 (.own e 0 k)=some ((full.take k).map vI,some e):=by
    intro U YF;simp only[bN,YF];rw[ar ⟨trivial,trivial,trivial,by simpa using hk⟩,List.map_take]
   have hlm:((full.take k).map vI).length=k:=by simpa using hlk
   have Zn:(k+1)*9<=140737488355328:=by omega
   simp only[go_sem,seval,hs8,a8,hd,he4',bt,hlm,Zn];refine KY λid9 Z5 s5 a9 f9=>?_;have hc5:=s5 c _ (by rw[bR hec.symm];exact hc4);have a4:=s5 id4 _ (by rw[bR he4.symm];exact a4);have a5:=s5 id5 _ (by rw[bR he5.symm];exact a5);have n9c:id9≠c:=by rintro rfl;rw[hc4]at f9;cases f9
   have n95:id9≠id5:=by rintro rfl;rw[s4 id9 _ (by rw[ae n5c.symm];exact hK3 id9 _ ag)]at f9;cases f9
   simp only[go_sem,seval,hc5,a5,ae n5c.symm];refine ad λid6 Z6 s6 a6 f6=>?_;have hc6:=s6 c _ ag;have a9:=s6 id9 _ (by rw[ae n9c];exact a9);have n6c:id6≠c:=by rintro rfl;rw[hc6]at a6;simp at a6
   have n69:id6≠id9:=by rintro rfl;rw[a9]at a6;simp at a6
   simp only[go_sem,seval,a6];refine ad λid84 Z7 s7 a84 f84=>?_;have hc7:=s7 c _ (by rw[ae n6c.symm];exact hc6);have a9:=s7 id9 _ (by rw[ae n69.symm];exact a9);have n84c:id84≠c:=by rintro rfl;rw[hc7]at a84;simp at a84
   simp only[go_sem,seval];have h4:=(h3.ax hKc).trans s4;have h4':=h4.xP hKe0;have h5:=h4'.trans s5;have k9:K id9=none:=h4.none f9;have h6':=λo=>h5.ax hKc (o:=o);have k6:K id6=none:=(h6' _).none f6;have h7:=(((h6' _).trans s6).ax k6).trans s7;obtain⟨q1,q2,q3,q4,q5⟩:=p6 hk1;have hl5:∀n∈[x.st.top,x.st.Yv,x.st.Yj,x.st.Yc,x.st.head],0<=n/\n<=mx:=by
    intro n hn;simp only[cg,List.not_mem_nil,or_false]at hn;rcases hn with rfl|rfl|rfl|rfl|rfl<;>assumption
   refine ab.call rfl rfl rfl (sk (s:=⟨if((k+1:Nat):Int)>s.depth then((k+1:Nat):Int)else s.depth,s.pieces,s.nodes+1,s.Ya⟩) (l:=[x.st.top,x.st.Yv,x.st.Yj,x.st.Yc,x.st.head]) (times:=1) hc7
    (λob=>Reads.own (off:=0) (len:=5) ((ae n84c).trans a84) rfl (by simp) (λr hr=>by simp at hr;rcases hr with rfl|rfl|rfl|rfl|rfl<;>rfl)) (by simp) hl5 (by omega) f3 rfl) ?_
   rintro r Z8 ⟨rfl,rfl⟩;apply sR;simp only[go_sem,seval];refine⟨_,_,aa.refl _,Wk.refl (aa.refl _) _,rfl,h7.ax hKc,.own id9 0 (k+1),?_,λo=>.inr ⟨id9,k+1,full.take k++[i+x.size],rfl,((ae n9c).trans a9).trans (by simp),fA.2 ⟨n9c,k9⟩,by simp;omega,by simp;omega,?_⟩⟩
   .have e:(if((k+1:Nat):Int)>s.depth then((k+1:Nat):Int)else s.depth)=max s.depth ((k+1:Nat):Int):=by split<;>omega
    rw[ag,e];have hk0':kept i ends=full.take k:=hk0.symm;simp[eE,hk1,hk0',hlk,cG]
   .have hk0':kept i ends=full.take k:=hk0.symm;rw[jj (by simp;omega)];simp[eE,hk1,hk0']
  .by_cases hk2:x.kind=2
   .apply sR;simp only[go_sem,seval,a5,hc3,ae n5c.symm,hk2,fU];refine⟨hsr,ai,?_⟩;refine ad λid7 Z7 s7 a7 f7=>?_;have hc7:=s7 c _ ag;have n7c:id7≠c:=by rintro rfl;rw[hc7]at a7;simp at a7
    simp only[go_sem,seval];have h7:=(h3.ax hKc).trans s7;refine ab.call rfl rfl rfl (sk (s:=⟨s.depth,s.pieces+x.words.length,s.nodes+1,s.Ya⟩) (l:=[x.line]) (times:=x.words.length) hc7
     (λob=>Reads.own (off:=0) (len:=1) ((ae n7c).trans a7) rfl (by simp) (λr hr=>by simp at hr;rcases hr with rfl;rfl)) (by simp) (by intro n hn;simp at hn;subst hn;exact⟨p2,p3⟩) (by omega) f3 rfl) ?_
    rintro r Z8 ⟨rfl,rfl⟩;apply sR;simp only[go_sem,seval];refine⟨_,_,aa.refl _,Wk.refl (aa.refl _) _,rfl,h7.ax hKc,_,ag.trans (by simp[eE,hk2,cG];rfl),λo=>?_⟩;have:(eE i x s ends).2=kept i ends:=by simp[eE,hk2]
    rw[this];exact .inr ⟨e,k,full,rfl,(ae hec).trans (s7 e _ (by rw[ae hec];exact he)),fA.2 ⟨hec,hKe0⟩,hk,by omega,hk0⟩
   .have h4or:=p1;apply sR;simp only[go_sem,seval,a5,hc3,ae n5c.symm,hk1,hk2];refine⟨hsr,ai,?_⟩;refine ad λid7 Z7 s7 a7 f7=>?_;have hc7:=s7 c _ ag;have n7c:id7≠c:=by rintro rfl;rw[hc7]at a7;simp at a7
    simp only[go_sem,seval];have h7:=(h3.ax hKc).trans s7;refine ab.call rfl rfl rfl (sk (s:=⟨s.depth,s.pieces+1,s.nodes+1,s.Ya⟩) (l:=[x.h]) (times:=1) hc7
     (λob=>Reads.own (off:=0) (len:=1) ((ae n7c).trans a7) rfl (by simp) (λr hr=>by simp at hr;rcases hr with rfl;rfl)) (by simp) (by intro n hn;simp at hn;subst hn;exact⟨p4,p5⟩) (by omega) f3 rfl) ?_
    rintro r Z8 ⟨rfl,rfl⟩;apply sR;simp only[go_sem,seval];refine⟨_,_,aa.refl _,Wk.refl (aa.refl _) _,rfl,h7.ax hKc,_,ag.trans (by simp[eE,hk1,hk2,cG];rfl),λo=>?_⟩;have:(eE i x s ends).2=kept i ends:=by simp[eE,hk1,hk2]
    rw[this];exact .inr ⟨e,k,full,rfl,(ae hec).trans (s7 e _ (by rw[ae hec];exact he)),fA.2 ⟨hec,hKe0⟩,hk,by omega,hk0⟩
open Go.Proofs Go.Proofs.Tryz
def CN(l:List Nd)(hl:dU l):aJ prog 46 [aH l] (.P' [.agg (jr l).1.cells,vI (jr l).2]):=λU=>by
 have hl0:=hl;obtain⟨hl1,hl2⟩:=hl;rw[<-GQ l hl0];refine e46.r (by simp[c46]) ?_;refine ab.mix 7 ?_;apply sR;simp only[go_sem,seval,c46];refine ad λidR Z1 s1 aR fR=>?_;simp only[go_sem,seval];refine ab.ay rfl rfl rfl (Gj l hl0 _) ?_;apply sR;simp only[go_sem,seval,Bz,aR];refine And.intro (λhf=>?_) (λhf=>?_)
 .simp only[Bool.not_eq_eq_eq_not,Bool.not_true]at hf;refine ak.pure (s1.ax fR) ?_;simp[Am,hf,Sm.cells]
 .simp only[Bool.not_eq_eq_eq_not,Bool.not_false]at hf;refine ad λid4 Z2 s2 a4 f4=>?_;have nR4:=ao aR f4;have aR:=s2 _ _ aR;have g4:U id4=none:=s1.none f4;have hKR:aa (C' U idR ⟨125,4,[.agg Sm.zero.cells]⟩) Z2:=(s1.trans s2).LR aR;have k4:C' U idR ⟨125,4,[.agg Sm.zero.cells]⟩ id4=none:=fA.2 ⟨nR4.symm,g4⟩;simp only[go_sem,seval,eO];refine ab.loop (λm st=>∃(i:Nat) (v:V),i<=l.length/\m=l.length-i/\aa (C' U idR ⟨125,4,[.agg Sm.zero.cells]⟩) st.U/\st.U id4=some (cG (iO l i).1 v)/\
   (∀o,mX (C' (C' U idR ⟨125,4,[.agg Sm.zero.cells]⟩) id4 o) st.U v (iO l i).2 i)/\st.s 2=.ptr idR 0 0/\st.s 4=.ptr id4 0 0/\st.s 11=aH l/\st.s 12=vI l.length/\st.s 13=vI i) l.length ?_ ?_
  .exact⟨0,.aC,by omega,by omega,hKR,a4,λo=>.inl ⟨rfl,rfl⟩,rfl,rfl,rfl,rfl,rfl⟩
  .rintro m ⟨s,Z'⟩ ⟨i,v,hi,rfl,G',h4s,hE,h2,h4,h11,h12,h13⟩;simp only at G' h4s hE h2 h4 h11 h12 h13;obtain⟨e1,e2,e3,e4⟩:=nA l hl0 hf i hi;have M':l.all Nd.ok=true/\bQ l 0 l.length=true:=by simpa[Zd]using hf
   have hRs:Z' idR=some ⟨125,4,[.agg Sm.zero.cells]⟩:=G' idR _ ag;refine ab.mix 7 ?_;apply sR;simp only[go_sem,seval,h2,h4,h11,h12,h13,h4s,cG,hRs,Sm.zero,Sm.cells];refine And.intro (λH'=>?_) (λhge=>?_)
   .have hlt':i<l.length:=by omega
    have hx:=(dX.1 M'.1) _ (Zr hlt');have hxw:=hl2 _ (Zr hlt');obtain⟨z1,z2,z3⟩:=jl l (l.length+1) 0 l.length (by omega) (by omega) M'.2 i (by omega) hlt' hlt';have hstep:iO l (i+1)=eE i l[i] (iO l i).1 (iO l i).2:=by simp[iO,hlt']
    generalize hxe:l[i]=x at*;simp only[go_sem,seval,nC hlt',hxe,Nd.cells];refine ad λid6 Z6 s6 a6 f6=>?_;have n64:id6≠id4:=by rintro rfl;rw[h4s]at f6;cases f6
    have g6:C' U idR ⟨125,4,[.agg Sm.zero.cells]⟩ id6=none:=G'.none f6;simp only[go_sem,seval,a6];have hsub6:=G'.trans s6;have Zi:=(Ri (K:=C' U idR ⟨125,4,[.agg Sm.zero.cells]⟩) (U:=C' Z6 id6 ⟨59,20,[jE x]⟩) (i:=i) (x:=x) (s:=(iO l i).1) (B:=i) (hsub6.ax g6) k4 ((ae n64.symm).trans (s6 _ _ h4s))
     (λo=>((hE o).new (s6.ax f6) f6 (o:=⟨0,0,[]⟩)).less ((aa.refl _).ax (fA.2 ⟨n64,g6⟩))) (by omega) (by omega) (by rw[e1];exact e3) (by rw[e1]) hx hxw (by omega))
    simp only[jE,Nd.cells]at Zi;refine ab.call rfl rfl rfl (by simp only[go_sem,seval,h4];exact Zi) ?_
    .rintro r Z7 ⟨rfl,hK7,v',h4',hE'⟩;apply sR;simp only[go_sem,seval,h2,h4,h11,h12,h13];refine⟨ai,_,?_,i+1,v',by omega,rfl,hK7,?_,?_,?_⟩
     .omega
     .rw[hstep,h4'];rfl
     .intro o;rw[hstep];exact hE' o
     .simp
   .have hie:i=l.length:=by omega
    subst hie;refine ak.pure ((((aa.refl U).ax fR).trans G').ax fR) ?_;simp[Am,hf]
open Go.Proofs Go.Proofs.Tryz
def Tz:((2:Nat):Int)=2:=rfl
def UM:((3:Nat):Int)=3:=rfl
def A9:((4:Nat):Int)=4:=rfl
def DN(l:List Nd)(hl:dU l):aJ prog 45 [aH l] (vI (iu l)):=λU=>by
 refine e45.r (by simp[c45]) ?_;refine ab.mix 8 ?_;apply sR;simp only[go_sem,seval,c45];refine ab.ay rfl rfl rfl (CN l hl _) ?_;apply sR;simp only[go_sem,seval,Sm.cells];refine ad λid3 Z1 s1 a3 f3=>?_;have G':=λo=>s1.ax f3 (o:=o);simp only[go_sem,seval,a3];have hc:(jr l).2=if Zd l then 0 else 4:=by unfold jr;split<;>rfl
 refine And.intro (λh=>?_) (λh=>?_)
 .refine ak.pure (G' _) ?_;have:Zd l=false:=by
   rw[hc]at h;cases hb:Zd l<;>simp_all
  simp[iu,this,hc]
 .have hb:Zd l=true:=by
   rw[hc]at h;cases hb:Zd l<;>simp_all
  have hR:iu l=if(jr l).1.depth>16\/(jr l).1.pieces>2000\/(jr l).1.nodes>2000\/(jr l).1.Ya>1099511627776 then 2 else 0:=by
   simp only[iu,hb,if_true]
  generalize (jr l).1=sm at*;refine ad λid5 Z2 s2 a5 f5=>?_;have hs2:=(G' _).trans s2;have g5:U id5=none:=(G' _).none f5;simp only[go_sem,seval,a5];refine ab.loop (λm st=>∃(i:Nat),i<=4/\m=4-i/\st.U=C' Z2 id5 ⟨195,4,[.agg sm.cells]⟩/\(0<i->sm.depth<=16)/\(1<i->sm.pieces<=2000)/\(2<i->sm.nodes<=2000)/\(3<i->sm.Ya<=1099511627776)/\
   st.s 5=.ptr id5 0 0/\st.s 25=.agg [vI 16,vI 2000,vI 2000,vI 1099511627776]/\st.s 26=vI i) 4 ?_ ?_
  .exact⟨0,by omega,by omega,rfl,by omega,by omega,by omega,by omega,rfl,rfl,rfl⟩
  .rintro m ⟨s,Z'⟩ ⟨i,hi,rfl,YF,p1,p2,p3,p4,h5,h25,h26⟩;simp only at YF h5 h25 h26;subst YF;have hi':i=0\/i=1\/i=2\/i=3\/i=4:=by omega
   rcases hi' with rfl|rfl|rfl|rfl|rfl
   .refine ab.mix 8 ?_;apply sR;simp only[go_sem,seval,h5,h25,h26,Sm.cells,Int.ofNat_zero,A9,Int.toNat_zero,Nat.zero_mul];refine And.intro (λg=>?_) (λg=>?_)
    .refine ak.pure (hs2.ax g5) ?_;rw[hR,ar];omega
    .refine⟨ai,_,?_,1,by omega,rfl,?_,?_,?_,?_,rfl⟩<;>omega
   .refine ab.mix 8 ?_;apply sR;simp only[go_sem,seval,h5,h25,h26,Sm.cells,Int.natCast_one,Int.toNat_one,A9,Nat.reduceMul];refine And.intro (λg=>?_) (λg=>?_)
    .refine ak.pure (hs2.ax g5) ?_;rw[hR,ar];omega
    .refine⟨ai,_,?_,2,by omega,rfl,?_,?_,?_,?_,rfl⟩<;>omega
   .refine ab.mix 8 ?_;apply sR;simp only[go_sem,seval,h5,h25,h26,Sm.cells,Tz,A9,Int.reduceToNat,Nat.reduceMul];refine And.intro (λg=>?_) (λg=>?_)
    .refine ak.pure (hs2.ax g5) ?_;rw[hR,ar];omega
    .refine⟨ai,_,?_,3,by omega,rfl,?_,?_,?_,?_,rfl⟩<;>omega
   .refine ab.mix 8 ?_;apply sR;simp only[go_sem,seval,h5,h25,h26,Sm.cells,UM,A9,Int.reduceToNat,Nat.reduceMul];refine And.intro (λg=>?_) (λg=>?_)
    .refine ak.pure (hs2.ax g5) ?_;rw[hR,ar];omega
    .refine⟨ai,_,?_,4,by omega,rfl,?_,?_,?_,?_,rfl⟩<;>omega
   .refine ab.mix 8 ?_;apply sR;simp only[go_sem,seval,h26,Sm.cells,A9];refine ak.pure (hs2.ax g5) ?_;rw[hR,av];omega
open Go.Proofs Go.Proofs.Tryz
def xW(U:af)(l:List Int):bB U false 1 (.rp (bl l))=some (bl l):=rfl
end Go.Vc
