import Derived.Test.YtinojdikhfbfbaaGreatW3
set_option linter.all false
set_option maxHeartbeats 8000000
set_option maxRecDepth 100000
open Go.Proofs.Tryz
namespace Go.Vc
open Go.Proofs
def GP(n a b:Int):aX prog 158 [vI n,vI a,vI b] (.bool (decide (n>=a/\n<=b))):=λU=>by
 refine Q4.q ?_;apply sR;simp only[go_sem,seval,aH,aJ,Nw];constructor<;>intro h<;>exact aD.same (by simp[h])
def Kr(a b:Int)(h1:0<=a/\a<=1099511627777)(h2:-1000000000000000000<=b/\b<=9000000000000000000):aX prog 105 [vI a,vI b] (vI (min (a+b) 1099511627777)):=λU=>by
 refine RU.q ?_;apply sR;simp only[go_sem,seval,aH,aJ,Mh];refine⟨ar,?_⟩;exact aD.same (by simp only[vI,V.int.injEq,true_and];omega)
open Go.Proofs
def du(p:Int->Bool):List Int->Int
 |[]=>-1
 |x::l=>if p x then 0 else if du p l<0 then -1 else du p l+1
def pT(p:Int->Bool)(i:Nat)(l:List Int):Int:=if du p l<0 then -1 else du p l+i
def jB(p:Int->Bool):∀l,-1<=du p l
 |[]=>by simp[du]
 |x::l=>by
  have:=jB p l;simp only[du];split
  .omega
  .split<;>omega
def Et(p:Int->Bool)(l:List Int):du p l=pT p 0 l:=by
 have:=jB p l;unfold pT;split<;>omega
def nr{U:al}{sv:V}{l:List Int}{f:FuncId}{caps:List V}{p:Int->Bool}(hr:Reads U 1 false sv (l.map vI))(hl:l.length<=200000000000000)
 (hf:∀n∈l,aG prog f (vI n::caps) U λr Z'=>r=.bool (p n)/\Z'=U):
 aG prog 170 [sv,.fn f caps] U λr Z'=>r=vI (du p l)/\Z'=U:=by
 have hlen:eM false sv=some (vI (l.length:Int)):=by simpa using hr.1
 refine PX.q ?_;apply sR;simp only[go_sem,seval,aH,aJ,Mx,hlen];refine ay.loop (λm st=>∃i:Nat,i<=l.length/\m=l.length-i/\du p l=pT p i (l.drop i)/\st.U=U/\st.s 0=sv/\st.s 1=.fn f caps/\st.s 7=vI l.length/\st.s 8=vI i) l.length ?_ ?_
 .exact⟨0,by omega,by omega,Et p l,rfl,rfl,rfl,rfl,rfl⟩
 .rintro m ⟨s,Z'⟩ ⟨i,hi,rfl,hp,Su,h0,h1,h7,h8⟩;simp only at h0 h1 h7 h8 Su;subst Su;apply sR;simp only[go_sem,seval,aH,aJ,h0,h1,h7,h8];constructor
  .intro u';have SX:i<l.length:=by omega
   have hd:l.drop i=l[i]::l.drop (i+1):=jt SX;obtain⟨pp,e1,e2⟩:=hr.2 i (vI l[i]) (by simp[SX]);simp only[go_sem,seval,aH,aJ,e1,e2,vV];refine pS rfl (hf l[i] (SU SX)) ?_;simp only[go_sem,seval,aH,aJ,h0,h1,h7,h8];cases hpx:p l[i]
   .simp only[go_sem,seval,aH,aJ,h8];refine⟨ar,_,?_,i+1,by omega,rfl,?_,h0,h1,h7,?_⟩
    .omega
    .rw[hp,hd];simp only[pT,du,hpx,jb,if_false];have:=jB p (l.drop (i+1))
     repeat' split
     all_goals omega
    .simp
   .simp only[go_sem,seval,aH,aJ];refine aD.same ?_;rw[hp,hd];simp[pT,du,hpx]
  .intro Ve;have:i=l.length:=by omega
   refine aD.same ?_;rw[hp,this,uY];rfl
open Go.Proofs
def o1(f:FuncId)(args:List V):Option V:=if f=158 then(match args with
 |[.int .i64 n,.int .i64 a,.int .i64 b]=>some (.bool (decide (n>=a/\n<=b)))
 |_=>none)else none
def O1:Tx prog where
 get f args _:=o1 f args
 ok f args U v h:=by
  unfold o1 at h;split at h
  .rename_i hf;subst hf;split at h
   .simp only[bh]at h;subst h;exact GP _ _ _ U
   .cases h
  .cases h
def Mi(n a b:Int)(U:al):O1.get 158 [.int .i64 n,.int .i64 a,.int .i64 b] U=some (.bool (decide (n>=a/\n<=b))):=rfl
def Gt(s:TA):aX prog 157 [.agg s.cells] (.bool s.ok):=λU=>by
 refine Ru.q ?_;refine ay.mix 4 ?_
 (refine ay.bB O1 300 ?_;simp only[go_sem,seval,aH,aJ,OX,TA.cells,Mi])
 intro id L'
 repeat' (first
  |with_reducible refine And.intro (λh=>?_) (λh=>?_)
  |with_reducible refine aD.pure ((aa.refl U).C' L') ?_)
 all_goals simp only[go_sem,seval,aH,aJ,TA.ok,bg,mx,V.bool.injEq]
 all_goals (rw[Bool.eq_iff_iff];simp[*])
open Go.Proofs
def Nd.ok(x:Nd):Bool:=
 if x.kind=1 then x.st.ok&&decide (x.line=0)&&decide (x.space=0)&&decide (x.words.length=0)&&decide (x.side=0)&&decide (x.w=0)&&decide (x.h=0)
 else if x.st≠TA.zero then false
 else if x.kind=2 then x.words.all (bg · 1 mx)&&decide (0<x.words.length)&&bg x.line 1 mx&&bg x.space 0 mx&&decide (x.side=0)&&decide (x.w=0)&&decide (x.h=0)
 else decide (x.line=0)&&decide (x.space=0)&&decide (x.words.length=0)&&bg x.w 1 mx&&bg x.h 1 mx&&
  (decide (x.kind=3)&&decide (x.side=0)||decide (x.kind=4)&&bg x.side 1 2)
def o4(f:FuncId)(args:List V):Option V:=if f=158 then(match args with
 |[.int .i64 n,.int .i64 a,.int .i64 b]=>some (.bool (decide (n>=a/\n<=b)))
 |_=>none)else if f=157 then(match args with
 |[.agg [.int .i64 a,.int .i64 b,.int .i64 c,.int .i64 d,.int .i64 e,.int .i64 f,.int .i64 g,.int .i64 h,.int .i64 i,.int .i64 j,.int .i64 k,.int .i64 l]]=>some (.bool (TA.ok ⟨a,b,c,d,e,f,g,h,i,j,k,l⟩))
 |_=>none)else none
def O4:Tx prog where
 get f args _:=o4 f args
 ok f args U v h:=by
  unfold o4 at h;split at h
  .rename_i hf;subst hf;split at h
   .simp only[bh]at h;subst h;exact GP _ _ _ U
   .cases h
  .split at h
   .rename_i hf;subst hf;split at h
    .simp only[bh]at h;subst h;exact Gt ⟨_,_,_,_,_,_,_,_,_,_,_,_⟩ U
    .cases h
   .cases h
def FJ(n a b:Int)(U:al):O4.get 158 [.int .i64 n,.int .i64 a,.int .i64 b] U=some (.bool (decide (n>=a/\n<=b))):=rfl
def Mw(a b c d e f g h i j k l:Int)(U:al):O4.get 157 [.agg [.int .i64 a,.int .i64 b,.int .i64 c,.int .i64 d,.int .i64 e,.int .i64 f,.int .i64 g,.int .i64 h,.int .i64 i,.int .i64 j,.int .i64 k,.int .i64 l]] U=
 some (.bool (TA.ok ⟨a,b,c,d,e,f,g,h,i,j,k,l⟩)):=rfl
def cK(l:List Int):eM false (aZ l)=some (.int .i64 l.length):=by simp[aZ,eM]
def qE(b:Bool):V.bool b=V.bool (decide (b=true)):=by cases b<;>rfl
def GX(p:Int->Bool)(l:List Int)(i:Nat)(h:i<l.length):(l.take (i+1)).all p=((l.take i).all p&&p l[i]):=by
 rw[Vn h,List.all_append];simp
def uq{U:al}{l:List Int}{i:Nat}(h:i<l.length):bI U 1 (aZ l) (.int .i64 i)=some (.rp (.int .i64 l[i])):=by
 simp[aZ,bI,h]
def MA(x:Nd)(hl:x.words.length<=200000000000000):aX prog 126 [ie x] (.bool x.ok):=λU=>by
 refine P8.q ?_;refine ay.mix 5 ?_
 (refine ay.bB O4 300 ?_;simp only[go_sem,seval,aH,aJ,NR,ie,Nd.cells,FJ,Mw,iU,qE (TA.ok _),cK])
 intro id L';have G':=(aa.refl U).C' L' (o:=⟨59,20,[ie x]⟩);have hz:x.st=TA.zero↔(x.st.top=0/\x.st.Sk=0/\x.st.R5=0/\x.st.O'=0/\x.st.SG=0/\x.st.R9=0/\x.st.Sl=0/\x.st.head=0/\x.st.before=0/\x.st.after=0/\x.st.inside=0/\x.st.clear=0):=by
  cases h:x.st;simp[TA.zero]
 refine And.intro (λhk=>?_) (λhk=>And.intro (λhs=>?_) (λhs=>And.intro (λTK=>?_) (λTK=>?_)))
 .have Se:x.ok=(x.st.ok&&decide (x.line=0)&&decide (x.space=0)&&decide (x.words.length=0)&&decide (x.side=0)&&decide (x.w=0)&&decide (x.h=0)):=by simp[Nd.ok,hk]
  rw[Se]
  repeat' (first
   |with_reducible refine And.intro (λh=>?_) (λh=>?_)
   |with_reducible refine aD.pure ((aa.refl U).C' L') ?_)
  all_goals simp only[go_sem,seval,aH,aJ,V.bool.injEq]
  all_goals (rw[Bool.eq_iff_iff];simp_all)
 .refine aD.pure G' ?_;have:x.st≠TA.zero:=by rw[Ne,hz];simp at hs;intro h;simp_all
  have h1:x.kind≠1:=by simpa using hk
  simp[Nd.ok,h1,this]
 .have Sg:x.st=TA.zero:=by rw[hz];simp at hs;simp_all
  have Se:x.ok=(x.words.all (bg · 1 mx)&&decide (0<x.words.length)&&bg x.line 1 mx&&bg x.space 0 mx&&decide (x.side=0)&&decide (x.w=0)&&decide (x.h=0)):=by simp[Nd.ok,TK,Sg]
  refine ay.loop (λm st=>∃i:Nat,i<=x.words.length/\m=x.words.length-i/\(x.words.take i).all (bg · 1 mx)=true/\st.U=C' U id ⟨59,20,[ie x]⟩/\st.s 1=.ptr id 0 0/\st.s 3=vI mx/\st.s 4=vI i) x.words.length ?_ ?_
  .exact⟨0,by omega,by omega,by simp,rfl,rfl,rfl,rfl⟩
  .rintro m ⟨s,Z'⟩ ⟨i,hi,rfl,hp,Su,h1,h3,h4⟩;simp only at h1 h3 h4 Su;subst Su;refine ay.mix 5 ?_
   (refine ay.bB O4 300 ?_;simp only[go_sem,seval,aH,aJ,h1,h3,h4,ie,Nd.cells,FJ,iU,cK,mx])
   refine And.intro (λu'=>?_) (λVe=>?_)
   .have SX:i<x.words.length:=by omega
    have ht:=GX (bg · 1 mx) x.words i SX;rw[hp,Bool.true_and]at ht;simp only[go_sem,seval,aH,aJ,uq SX,FJ,h1,h3,h4,mx,iU];refine And.intro (λhw=>?_) (λhw=>?_)
    .refine aD.pure ((aa.refl U).C' L') ?_;have hw':bg x.words[i] 1 mx=false:=by simp at hw;simp[bg,mx];omega
     rw[Se];have:(x.words.all (bg · 1 mx))=false:=by
      rw[List.all_eq_false];exact⟨_,SU SX,by simp[hw']⟩
     simp[this]
    .have hw':bg x.words[i] 1 mx=true:=by simp at hw;simp[bg,mx];omega
     refine⟨ar,_,?_,i+1,by omega,rfl,?_,?_⟩
     .omega
     .rw[<-mx,ht];exact hw'
     .simp
   .have ZE:i=x.words.length:=by simp at Ve;omega
    subst ZE;rw[iC]at hp;rw[Se,hp]
    repeat' (first
     |with_reducible refine And.intro (λh=>?_) (λh=>?_)
     |with_reducible refine aD.pure ((aa.refl U).C' L') ?_)
    all_goals try simp only[go_sem,seval,aH,aJ,V.bool.injEq]
    all_goals (rw[Bool.eq_iff_iff];simp_all [bg,mx]<;>omega)
 .have Sg:x.st=TA.zero:=by rw[hz];simp at hs;simp_all
  have h1:x.kind≠1:=by simpa using hk
  have Se:x.ok=(decide (x.line=0)&&decide (x.space=0)&&decide (x.words.length=0)&&bg x.w 1 mx&&bg x.h 1 mx&&
   (decide (x.kind=3)&&decide (x.side=0)||decide (x.kind=4)&&bg x.side 1 2)):=by have h2:x.kind≠2:=(by simpa using TK);simp[Nd.ok,h1,h2,Sg]
  rw[Se]
  repeat' (first
   |with_reducible refine And.intro (λh=>?_) (λh=>?_)
   |with_reducible refine aD.pure ((aa.refl U).C' L') ?_)
  all_goals try simp only[go_sem,seval,aH,aJ,V.bool.injEq]
  all_goals (rw[Bool.eq_iff_iff];simp_all [bg,mx]<;>omega)
open Go.Proofs
def gZ{U:al}{l:List Nd}{i:Nat}(h:i<l.length):bI U 20 (aQ l) (.int .i64 i)=some (.rp (.agg (Nd.cells l[i]))):=by
 simp[aQ,bI,h,ie]
def bE(l:List Nd)(a e:Nat):Bool:=
 if _h:a<e then
  match l[a]? with
  |none=>false
  |some x=>if _hx:1<=x.size/\x.size<=(e:Int)-a then
     (decide (x.kind=1)||decide (x.size<=1))&&bE l (a+1) (a+x.size.toNat)&&bE l (a+x.size.toNat) e else false
 else true
termination_by e-a
decreasing_by all_goals omega
def Fe(l:List Nd)(hl:l.length<=1000000000000):∀(m a e:Nat),e-a<m->a<=e->e<=l.length->aX prog 127 [aQ l,vI a,vI e] (.bool (bE l a e))
 |0,_,_,h,_,_=>by omega
 |m+1,a,e,hm,W9,he=>λU=>by
  refine Rz.q ?_;refine mS 8 ?_;simp only[go_sem,seval,aH,aJ,N2];refine ay.loop (λmm st=>∃b:Nat,a<=b/\b<=e/\mm=e-b/\bE l a e=bE l b e/\aa U st.U/\st.s 0=aQ l/\st.s 1=vI b/\st.s 2=vI e) (e-a) ?_ ?_
  .exact⟨a,by omega,by omega,rfl,rfl,aa.refl U,rfl,rfl,rfl⟩
  .rintro mm ⟨s,Z'⟩ ⟨b,VT,WU,rfl,hr,G',h0,h1,h2⟩;simp only at h0 h1 h2 G';refine mS 8 ?_;simp only[go_sem,seval,aH,aJ,h0,h1,h2,iU,Nd.cells];refine And.intro (λu'=>?_) (λVe=>?_)
   .have SX:b<l.length:=by simp at u';omega
    simp only[go_sem,seval,aH,aJ,gZ SX,h0,h1,h2,iU,Nd.cells];intro id L';have Xa:=G'.C' L' (o:=⟨59,20,[.agg (Nd.cells l[b])]⟩);have hb:l[b]?=some l[b]:=by simp[SX]
    have WJ:b<e:=by simp at u';omega
    have hR:bE l b e=if _hx:1<=l[b].size/\l[b].size<=(e:Int)-b then
     (decide (l[b].kind=1)||decide (l[b].size<=1))&&bE l (b+1) (b+l[b].size.toNat)&&bE l (b+l[b].size.toNat) e else false:=by
     rw[bE,dif_pos WJ,hb]
    refine And.intro (λhs=>?_) (λhs=>?_)
    .refine⟨ar,And.intro (λU2=>?_) (λU2=>?_)⟩
     .have hx:1<=l[b].size/\l[b].size<=(e:Int)-b:=by simp at hs U2;omega
      rw[dif_pos hx]at hR;have ih:=Fe l hl m (b+1) (b+l[b].size.toNat) (by omega) (by omega) (by omega);have e2:((b+l[b].size.toNat:Nat):Int)=b+l[b].size:=by omega
      rw[e2,Int.natCast_add,Int.natCast_one]at ih;refine And.intro (λhk=>And.intro (λhs3=>?_) (λhs3=>?_)) (λhk=>?_)
      .refine⟨ar,ar,?_⟩;refine pS rfl (ih _) ?_;simp only[go_sem,seval,aH,aJ,h0,h1,h2,iU,Nd.cells];refine And.intro (λhf=>?_) (λhf=>?_)
       .refine aD.pure Xa ?_;simp only[Bool.not_eq_eq_eq_not,Bool.not_true]at hf;rw[hr,hR,hf];simp
       .simp only[Bool.not_eq_eq_eq_not,Bool.not_false]at hf;refine⟨ar,_,?_,b+l[b].size.toNat,by omega,by omega,rfl,?_,Xa,?_⟩
        .omega
        .rw[hr,hR,hf];simp;omega
        .rw[e2]
      .refine aD.pure Xa ?_;rw[hr,hR];have:¬l[b].size<=1:=by omega
       simp[hk,this]
      .refine⟨ar,ar,?_⟩;refine pS rfl (ih _) ?_;simp only[go_sem,seval,aH,aJ,h0,h1,h2,iU,Nd.cells];refine And.intro (λhf=>?_) (λhf=>?_)
       .refine aD.pure Xa ?_;simp only[Bool.not_eq_eq_eq_not,Bool.not_true]at hf;rw[hr,hR,hf];simp
       .simp only[Bool.not_eq_eq_eq_not,Bool.not_false]at hf;refine⟨ar,_,?_,b+l[b].size.toNat,by omega,by omega,rfl,?_,Xa,?_⟩
        .omega
        .rw[hr,hR,hf];simp;omega
        .rw[e2]
     .refine aD.pure Xa ?_;rw[hr,hR,dif_neg (by omega)]
    .refine aD.pure Xa ?_;rw[hr,hR,dif_neg (by omega)]
   .have:b=e:=by simp at Ve;omega
    subst this;refine aD.pure G' ?_;rw[hr,bE];simp
open Go.Proofs
def dN(l:List Nd):Prop:=l.length<=10000/\∀x∈l,x.words.length<=200000000000000
def DW{α:Type}(p:α->Bool)(l:List α)(i:Nat)(h:i<l.length):(l.take (i+1)).all p=((l.take i).all p&&p l[i]):=by
 rw[Vn h,List.all_append];simp
def SA(l:List Nd):Bool:=l.all Nd.ok&&bE l 0 l.length
def jR(U:al)(x:Nd):dr U true 20 (.rp (.agg x.cells))=some (ie x):=rfl
def KF(l:List Nd)(hl:dN l):aX prog 104 [aQ l] (.bool (SA l)):=λU=>by
 obtain⟨hl1,ZG⟩:=hl;refine PV.q ?_;refine mS 4 ?_;simp only[go_sem,seval,aH,aJ,N1];refine ay.loop (λm st=>∃i:Nat,i<=l.length/\m=l.length-i/\(l.take i).all Nd.ok=true/\st.U=U/\st.s 0=aQ l/\st.s 3=vI i) l.length ?_ ?_
 .exact⟨0,by omega,by omega,by simp,rfl,rfl,rfl⟩
 .rintro m ⟨s,Z'⟩ ⟨i,hi,rfl,hp,Su,h0,h3⟩;simp only at h0 h3 Su;subst Su;refine mS 4 ?_;simp only[go_sem,seval,aH,aJ,h0,h3,iU,bT];refine And.intro (λu'=>?_) (λVe=>?_)
  .have SX:i<l.length:=by simp at u';omega
   have ht:=DW Nd.ok l i SX;rw[hp,Bool.true_and]at ht;simp only[go_sem,seval,aH,aJ,gZ SX,jR,h0,h3,iU];refine pS rfl (MA l[i] (by have:=ZG _ (SU SX);omega) _) ?_;simp only[go_sem,seval,aH,aJ,h0,h3,iU];refine And.intro (λhf=>?_) (λhf=>?_)
   .simp only[Bool.not_eq_eq_eq_not,Bool.not_true]at hf;refine aD.same ?_;have:l.all Nd.ok=false:=by
     rw[List.all_eq_false];exact⟨_,SU SX,by simp[hf]⟩
    simp[SA,this]
   .simp only[Bool.not_eq_eq_eq_not,Bool.not_false]at hf;refine⟨ar,_,?_,i+1,by omega,rfl,?_,?_⟩
    .omega
    .rw[ht];exact hf
    .simp
  .have ZE:i=l.length:=by simp at Ve;omega
   subst ZE;rw[iC]at hp;have hr:=Fe l (by omega) (l.length+1) 0 l.length (by omega) (by omega) (by omega);refine pS rfl (hr _) ?_;simp only[go_sem,seval,aH,aJ,h0,h3,iU];refine aD.same ?_;simp[SA,hp]
open Go.Proofs
def iQ(l:List Nd):∀(m a e:Nat),e-a<m->e<=l.length->bE l a e=true->∀k,a<=k->(h:k<e)->(h2:k<l.length)->1<=l[k].size/\l[k].size<=(e:Int)-k/\(l[k].kind=1\/l[k].size<=1)
 |0,_,_,h,_,_=>by omega
 |m+1,a,e,hm,he,hr=>by
  intro k hk hke h2;have W9:a<e:=by omega
  have ha:a<l.length:=by omega
  rw[bE,dif_pos W9]at hr;have hga:l[a]?=some l[a]:=by simp[ha]
  rw[hga]at hr;simp only at hr;split at hr
  .rename_i hx;simp only[Ba,kI,US]at hr;obtain⟨⟨h3,h4⟩,h5⟩:=hr;by_cases hka:k=a
   .subst hka;exact⟨hx.1,hx.2,h3⟩
   .by_cases W6:k<a+l[a].size.toNat
    .obtain⟨g1,g2,g3⟩:=iQ l m (a+1) (a+l[a].size.toNat) (by omega) (by omega) h4 k (by omega) W6 h2;exact⟨g1,by omega,g3⟩
    .exact iQ l m (a+l[a].size.toNat) e (by omega) he h5 k (by omega) hke h2
  .cases hr
structure Sm where
 (depth pieces nodes M':Int)
deriving DecidableEq
def Sm.cells(s:Sm):List V:=[vI s.depth,vI s.pieces,vI s.nodes,vI s.M']
def jz(a b:Int):Int:=min (a+b) 1099511627777
def fE(l:List Nd)(i:Nat):Nat->Int
 |0=>0
 |k+1=>fE l i k+(match l[k]? with
  |some y=>if y.kind=1/\(i:Int)<k+y.size then 1 else 0
  |none=>0)
def zT(a b:Int):Nat->Int
 |0=>a
 |n+1=>jz (zT a b n) b
def my(l:List Nd)(i:Nat)(x:Nd)(s:Sm):Sm:=
 if x.kind=1 then{ s with depth:=max s.depth (fE l i (i+1)),M':=jz (jz (jz (jz (jz s.M' x.st.top) x.st.Sk) x.st.R5) x.st.O') x.st.head }
 else if x.kind=2 then{ s with pieces:=s.pieces+x.words.length,M':=zT s.M' x.line x.words.length }
 else{ s with pieces:=s.pieces+1,M':=jz s.M' x.h }
def gd(l:List Nd)(s:Sm):Nat->Sm
 |0=>s
 |i+1=>match l[i]? with
  |some x=>my l i x (gd l s i)
  |none=>gd l s i
def gy(l:List Nd):Sm×Int:=if SA l then(gd l ⟨0,0,l.length,0⟩ l.length,0)else(⟨0,0,0,0⟩,4)
def o7(f:FuncId)(args:List V):Option V:=if f=105 then(match args with
 |[.int .i64 a,.int .i64 b]=>if(0<=a/\a<=1099511627777)/\(0<=b/\b<=1099511627777)then some (.int .i64 (jz a b))else none
 |_=>none)else none
def O7:Tx prog where
 get f args _:=o7 f args
 ok f args U v h:=by
  unfold o7 at h;split at h
  .rename_i hf;subst hf;split at h
   .split at h
    .rename_i hc;simp only[bh]at h;subst h;exact Kr _ _ hc.1 ⟨by omega,by omega⟩ U
    .cases h
   .cases h
  .cases h
def su(a b:Int)(U:al)(h1:0<=a/\a<=1099511627777)(h2:0<=b/\b<=1099511627777):O7.get 105 [.int .i64 a,.int .i64 b] U=some (.int .i64 (jz a b)):=by
 have:O7.get 105 [.int .i64 a,.int .i64 b] U=if(0<=a/\a<=1099511627777)/\(0<=b/\b<=1099511627777)then some (V.int .i64 (jz a b))else none:=rfl
 rw[this,aI ⟨h1,h2⟩]
def eG{a b:Int}(h1:0<=a/\a<=1099511627777)(h2:0<=b):0<=jz a b/\jz a b<=1099511627777:=by
 unfold jz;omega
def yQ{a b:Int}(h1:0<=a/\a<=1099511627777)(h2:0<=b):∀n,0<=zT a b n/\zT a b n<=1099511627777
 |0=>h1
 |n+1=>eG (yQ h1 h2 n) h2
def pe(l:List Nd)(i:Nat):∀k,0<=fE l i k/\fE l i k<=k
 |0=>by simp[fE]
 |k+1=>by
  have:=pe l i k;simp only[fE];split
  .split<;>omega
  .omega
def jO{x:Nd}(h:x.ok=true):(x.kind=1\/x.kind=2\/x.kind=3\/x.kind=4)/\0<=x.line/\x.line<=mx/\0<=x.h/\x.h<=mx/\
 (x.kind=1->(0<=x.st.top/\x.st.top<=mx)/\(0<=x.st.Sk/\x.st.Sk<=mx)/\(0<=x.st.R5/\x.st.R5<=mx)/\(0<=x.st.O'/\x.st.O'<=mx)/\(0<=x.st.head/\x.st.head<=mx)):=by
 unfold Nd.ok at h;split at h
 .rename_i hk;simp only[TA.ok,bg,Ba,US]at h|-;simp only[mx]at h|-;refine⟨.inl hk,by omega,by omega,by omega,by omega,λ_=>?_⟩;omega
 .split at h
  .cases h
  .split at h
   .rename_i h1 _ hk;simp only[bg,Ba,US]at h|-;simp only[mx]at h|-;exact⟨.inr (.inl hk),by omega,by omega,by omega,by omega,λe=>absurd e h1⟩
   .rename_i h1 _ _;simp only[bg,Ba,kI,US]at h|-;simp only[mx]at h|-;exact⟨by omega,by omega,by omega,by omega,by omega,λe=>absurd e h1⟩
def Sm.qQ(s:Sm)(k:Int):Prop:=(0<=s.depth/\s.depth<=k)/\(0<=s.pieces/\s.pieces<=k*200000000000000)/\(0<=s.M'/\s.M'<=1099511627777)
def rF{l:List Nd}{i:Nat}{x:Nd}{s:Sm}(hx:x.ok=true)(hw:x.words.length<=200000000000000)(h:s.qQ i):(my l i x s).qQ (i+1):=by
 obtain⟨h1,h2,h3⟩:=h;obtain⟨g1,g2,g3,g4,g5,g6⟩:=jO hx;unfold my;split
 .rename_i hk;obtain⟨a1,a2,a3,a4,a5⟩:=g6 hk;have hd:=pe l i (i+1);refine⟨?_,?_,eG (eG (eG (eG (eG h3 a1.1) a2.1) a3.1) a4.1) a5.1⟩
  .simp only;omega
  .simp only;omega
 .split
  .refine⟨?_,?_,yQ h3 g2 _⟩
   .simp only;omega
   .simp only;omega
  .refine⟨?_,?_,eG h3 g4⟩
   .simp only;omega
   .simp only;omega
open Go.Proofs
def Sm.zero:Sm:=⟨0,0,0,0⟩
def Au(l:List Nd)(hl:dN l):aX prog 69 [aQ l] (.Sa [.agg (gy l).1.cells,vI (gy l).2]):=λU=>by
 have hl0:=hl;obtain⟨hl1,ZG⟩:=hl;refine e69.q ?_;refine mS 10 ?_;simp only[go_sem,seval,aH,aJ,c69];intro YI hidR;have hsub1:=(aa.refl U).C' hidR (o:=⟨120,4,[.agg Sm.zero.cells]⟩);refine pS rfl (KF l hl0 _) ?_;simp only[go_sem,seval,aH,aJ,iU,bT];refine And.intro (λhf=>?_) (λhf=>?_)
 .simp only[Bool.not_eq_eq_eq_not,Bool.not_true]at hf;refine aD.pure hsub1 ?_;simp[gy,hf,Sm.cells]
 .simp only[Bool.not_eq_eq_eq_not,Bool.not_false]at hf;intro U6 hid4;have Sh:U6≠YI:=by rintro rfl;simp[aA]at hid4
  have hid4':U U6=none:=by rw[ad Sh]at hid4;exact hid4
  refine ay.loop (λm st=>∃i:Nat,i<=l.length/\m=l.length-i/\aa U st.U/\st.U YI=some ⟨120,4,[.agg Sm.zero.cells]⟩/\
   st.U U6=some ⟨120,4,[.agg (gd l ⟨0,0,l.length,0⟩ i).cells]⟩/\st.s 0=aQ l/\st.s 2=.ptr YI 0 0/\st.s 4=.ptr U6 0 0/\st.s 5=vI i/\(gd l ⟨0,0,l.length,0⟩ i).qQ i) l.length ?_ ?_
  .refine⟨0,by omega,by omega,?_,?_,?_,rfl,rfl,rfl,rfl,by simp[gd,Sm.qQ]⟩
   .exact((aa.refl U).C' hidR).C' hid4
   .simp only[ad Sh.symm,aA];rfl
   .simp only[aA];rfl
  .rintro m ⟨s,Z'⟩ ⟨i,hi,rfl,G',hR,h4s,h0,h2,h4,h5,XS⟩;simp only at G' hR h4s h0 h2 h4 h5;have Se:l.all Nd.ok=true/\bE l 0 l.length=true:=by simpa[SA]using hf
   generalize Xp:gd l ⟨0,0,l.length,0⟩ i=sm at*;refine ay.mix 10 ?_
   (refine ay.bB O7 300 ?_;simp only[go_sem,seval,aH,aJ,h0,h2,h4,h5,h4s,hR,iU,bT,Sm.cells])
   refine And.intro (λu'=>?_) (λVe=>?_)
   .have SX:i<l.length:=by simp at u';omega
    have hx:=(gj.1 Se.1) _ (SU SX);generalize Wf:l[i]=x at*;simp only[go_sem,seval,aH,aJ,gZ SX,Wf,jR,h0,h2,h4,h5,iU,Nd.cells,cK,h4s];have VW:gd l ⟨0,0,l.length,0⟩ (i+1)=my l i x sm:=by simp[gd,SX,Wf,Xp]
    intro Xq Zf;have n64:Xq≠U6:=by rintro rfl;rw[h4s]at Zf;cases Zf
    have n6R:Xq≠YI:=by rintro rfl;rw[hR]at Zf;cases Zf
    have hsub6:=G'.C' Zf (o:=⟨59,20,[.agg x.cells]⟩);obtain⟨p1,p2,p3,p4,p5,p6⟩:=jO hx;have hfine0:=XS;obtain⟨f1,f2,f3⟩:=XS;have hxw:x.words.length<=200000000000000:=ZG x (Wf▸SU SX);refine And.intro (λhk=>?_) (λhk=>?_)
    .have Tt:x.kind=1:=by simpa using hk
     obtain⟨q1,q2,q3,q4,q5⟩:=p6 Tt;refine ay.loop (λmm st=>∃k:Nat,k<=i+1/\mm=i+1-k/\st.U=C' Z' Xq ⟨59,20,[.agg x.cells]⟩/\
      st.s 0=aQ l/\st.s 2=.ptr YI 0 0/\st.s 4=.ptr U6 0 0/\st.s 5=vI i/\st.s 6=.ptr Xq 0 0/\st.s 7=vI (fE l i k)/\st.s 8=vI k) (i+1) ?_ ?_
     .exact⟨0,by omega,by omega,by rfl,h0,h2,h4,h5,rfl,rfl,rfl⟩
     .rintro mm ⟨s,Z''⟩ ⟨k,hki,rfl,Su,h0,h2,h4,h5,h6,h7,h8⟩;simp only at Su h0 h2 h4 h5 h6 h7 h8;subst Su;have hdt:=pe l i k;refine ay.mix 10 ?_
      (refine ay.bB O7 300 ?_;simp only[go_sem,seval,aH,aJ,h0,h2,h4,h5,h6,h7,h8,iU,bT])
      refine And.intro (λWJ=>?_) (λhge2=>?_)
      .have hlt2':k<l.length:=by simp at WJ;omega
       have hki2:k<=i:=by simp at WJ;omega
       obtain⟨z1,z2,z3⟩:=iQ l (l.length+1) 0 l.length (by omega) (by omega) Se.2 k (by omega) hlt2' hlt2';have hdk:fE l i (k+1)=fE l i k+(if l[k].kind=1/\(i:Int)<k+l[k].size then 1 else 0):=by simp[fE,hlt2']
       simp only[go_sem,seval,aH,aJ,gZ hlt2',jR,h0,h2,h4,h5,h6,h7,h8,iU,Nd.cells];refine And.intro (λTK=>⟨ar,And.intro (λhc=>?_) (λhc=>?_)⟩) (λTK=>?_)
       .refine⟨ar,ar,_,?_,k+1,by omega,rfl,?_,?_⟩
        .omega
        .rw[hdk,aI ⟨TK,hc⟩]
        .simp
       .refine⟨ar,_,?_,k+1,by omega,rfl,?_,?_⟩
        .omega
        .rw[hdk,aK (by simp at hc;omega),Int.add_zero]
        .simp
       .refine⟨ar,_,?_,k+1,by omega,rfl,?_,?_⟩
        .omega
        .rw[hdk,aK (by omega),Int.add_zero]
        .simp
      .have hke:k=i+1:=by simp at hge2;omega
       subst hke;have r1:=eG f3 q1.1;have r2:=eG r1 q2.1;have r3:=eG r2 q3.1;have r4:=eG r3 q4.1;have r5:=eG r4 q5.1;have c1:=λU=>su _ _ U f3 ⟨q1.1,by have:=q1.2;simp only[mx]at this;omega⟩;have c2:=λU=>su _ _ U r1 ⟨q2.1,by have:=q2.2;simp only[mx]at this;omega⟩;have c3:=λU=>su _ _ U r2 ⟨q3.1,by have:=q3.2;simp only[mx]at this;omega⟩;have c4:=λU=>su _ _ U r3 ⟨q4.1,by have:=q4.2;simp only[mx]at this;omega⟩;have c5:=λU=>su _ _ U r4 ⟨q5.1,by have:=q5.2;simp only[mx]at this;omega⟩;simp only[go_sem,seval,aH,aJ,c1,c2,c3,c4,c5,ad n64,ad n64.symm,h4s,Tt,h0,h2,h4,h5,h6,h7,h8,iU,Nd.cells,Sm.cells,mx];have hfx:=rF (l:=l) hx hxw hfine0;refine⟨ar,_,?_,i+1,by omega,rfl,(G'.C' Zf).aL hid4',?_,?_,?_,?_⟩
       .omega
       .rw[ad Sh.symm,ad n6R.symm,hR];rfl
       .rw[VW];have:(if fE l i (i+1)>sm.depth then fE l i (i+1)else sm.depth)=max sm.depth (fE l i (i+1)):=by split<;>omega
        simp[my,Tt,this]
       .simp
       .rw[VW];simpa using hfx
    .have Tt:x.kind≠1:=by simpa using hk
     have hfx:=rF (l:=l) hx hxw hfine0;refine And.intro (λTK=>?_) (λTK=>?_)
     .simp only[go_sem,seval,aH,aJ,su,ad n64,ad n64.symm,h4s,TK,h0,h2,h4,h5,iU,Nd.cells,Sm.cells,cK];refine⟨ar,?_⟩;refine ay.loop (λmm st=>∃k:Nat,k<=x.words.length/\mm=x.words.length-k/\aa U st.U/\st.U YI=some ⟨120,4,[.agg Sm.zero.cells]⟩/\
       st.U U6=some ⟨120,4,[.agg (Sm.cells ⟨sm.depth,sm.pieces+x.words.length,sm.nodes,zT sm.M' x.line k⟩)]⟩/\st.U Xq=some ⟨59,20,[.agg x.cells]⟩/\
       st.s 0=aQ l/\st.s 2=.ptr YI 0 0/\st.s 4=.ptr U6 0 0/\st.s 5=vI i/\st.s 6=.ptr Xq 0 0/\st.s 9=vI k) x.words.length ?_ ?_
      .refine⟨0,by omega,by omega,(G'.C' Zf).aL hid4',?_,?_,?_,h0,h2,h4,h5,rfl,rfl⟩
       .simp only[ad Sh.symm,ad n6R.symm,hR]
       .simp only[aA];rfl
       .simp only[ad n64,aA,Nd.cells,TK]
      .rintro mm ⟨s,Z''⟩ ⟨k,hki,rfl,hs'',hR'',h4'',h6'',h0,h2,h4,h5,h6,h9⟩;simp only at hs'' hR'' h4'' h6'' h0 h2 h4 h5 h6 h9;have ha:=yQ f3 p2 k;have c1:=λU=>su _ _ U ha ⟨p2,by have:=p3;simp only[mx]at this;omega⟩;refine ay.mix 10 ?_
       (refine ay.bB O7 300 ?_;simp only[go_sem,seval,aH,aJ,c1,TK,h4'',h6'',h0,h2,h4,h5,h6,h9,iU,bT,cK,Nd.cells,Sm.cells])
       refine And.intro (λWJ=>?_) (λhge2=>?_)
       .refine⟨ar,_,?_,k+1,by omega,rfl,hs''.aL hid4',?_,rfl,?_,?_⟩
        .omega
        .rw[ad Sh.symm,hR''];rfl
        .rw[ad n64,h6''];simp[Nd.cells,TK]
        .simp
       .have hke:k=x.words.length:=by simp at hge2;omega
        subst hke;refine⟨ar,_,?_,i+1,by omega,rfl,hs'',?_,?_,?_,?_⟩
        .omega
        .rw[hR''];rfl
        .rw[VW];simp[my,Tt,TK]
        .simp
        .rw[VW];simpa using hfx
     .have hk2':x.kind≠2:=by simpa using TK
      have Xz:x.kind>2:=by omega
      have c1:=λU=>su _ _ U f3 ⟨p4,by have:=p5;simp only[mx]at this;omega⟩;simp only[go_sem,seval,aH,aJ,c1,ad n64,ad n64.symm,h4s,h0,h2,h4,h5,iU,Nd.cells,Sm.cells,cK];refine And.intro (λ_=>?_) (λhn=>?_)
      .refine⟨ar,ar,_,?_,i+1,by omega,rfl,(G'.C' Zf).aL hid4',?_,?_,?_,?_⟩
       .omega
       .rw[ad Sh.symm,ad n6R.symm,hR];rfl
       .rw[VW];simp[my,Tt,hk2']
       .simp
       .rw[VW];simpa using hfx
      .simp at hn;omega
   .have Uv:i=l.length:=by simp at Ve;omega
    refine aD.pure (G'.aL hidR) ?_;subst Uv;simp[gy,hf,Xp,Sm.cells]
open Go.Proofs
def tS(p:Int->Bool):∀l,decide (du p l>=0)=l.any p
 |[]=>by simp[du]
 |x::l=>by
  have ih:=tS p l;simp only[du,List.any_cons];have hg:=jB p l;rw[<-ih,Bool.eq_iff_iff];simp only[US,kI];split
  .rename_i h;simp[h]
  .rename_i h;simp only[h,jb,false_or];by_cases hx:du p l<0
   .rw[aI hx];constructor<;>intro hh<;>simp at hh|-<;>omega
   .rw[aK hx];constructor<;>intro hh<;>simp at hh|-<;>omega
def nH{U:al}{sv:V}{l:List Int}{f:FuncId}{caps:List V}{p:Int->Bool}(hr:Reads U 1 false sv (l.map vI))(hl:l.length<=200000000000000)
 (hf:∀n∈l,aG prog f (vI n::caps) U λr Z'=>r=.bool (p n)/\Z'=U):
 aG prog 199 [sv,.fn f caps] U λr Z'=>r=.bool (l.any p)/\Z'=U:=by
 refine RQ.q ?_;apply sR;simp only[go_sem,seval,aH,aJ,OM];refine pS rfl (nr hr hl hf) ?_;simp only[go_sem,seval,aH,aJ];refine aD.same ?_;rw[<-tS]
def LI{U:al}{id:Nat}{a b:Int}(h:U id=some ⟨244,2,[.agg [vI a,vI b]]⟩)(n:Int):
 aG prog 200 [vI n,.ptr id 0 0] U λr Z'=>r=.bool (!bg n a b)/\Z'=U:=by
 refine QF.q ?_;apply sR;simp only[go_sem,seval,aH,aJ,Nh,h];refine And.intro (λh=>?_) (λh=>?_)
 .refine aD.same ?_;congr 1;simp only[bg];rw[<-decide_not,decide_eq_decide];omega
 .refine aD.same ?_;have:¬(n>=a/\n<=b):=by omega
  simp only[bg,this,decide_false,Bool.not_false]
def Reads.mono{U Z':al}{sz:Nat}{agg:Bool}{sv:V}{rows:List V}(h:aa U Z')(hr:Reads U sz agg sv rows):Reads Z' sz agg sv rows:=by
 refine⟨hr.1,λi v hv=>?_⟩;obtain⟨p,h1,h2⟩:=hr.2 i v hv;refine⟨p,?_,?_⟩
 .cases sv<;>simp only[bI,reduceCtorEq]at h1|-
  .exact h1
  .rename_i id off len;cases ho:U id with
   |none=>rw[ho]at h1;cases h1
   |some ob=>rw[ho]at h1;rw[h id ob ho];exact h1
 .cases p<;>simp only[dr,reduceCtorEq]at h2|-
  .rename_i id i k;cases ho:U id with
   |none=>rw[ho]at h2;cases h2
   |some ob=>rw[ho]at h2;rw[h id ob ho];exact h2
  .exact h2
def JS{U:al}{sv:V}{l:List Int}{a b:Int}(hr:Reads U 1 false sv (l.map vI))(hl:l.length<=200000000000000):
 aG prog 169 [.agg [vI a,vI b],sv] U λr Z'=>r=.bool (l.all λn=>bg n a b)/\Z'=U:=by
 refine Rp.q ?_;apply sR;simp only[go_sem,seval,aH,aJ,NI];intro id L';refine pS rfl (nH (p:=λn=>!bg n a b) (hr.mono ((aa.refl U).C' L')) hl (λn _=>LI aA n)) ?_;simp only[go_sem,seval,aH,aJ];refine aD.pure ((aa.refl U).C' L') ?_;rw[List.all_eq_not_any_not]
open Go.Proofs
def gV:List V->Option (List Int)
 |[]=>some []
 |.int .i64 n::l=>(gV l).map (n::·)
 |_=>none
def lX:∀{l:List V} {m:List Int},gV l=some m->l=m.map vI
 |[],m,h=>by simp[gV]at h;subst h;rfl
 |v::l,m,h=>by
  cases v<;>try (simp[gV]at h)
  rename_i k n;cases k<;>try (simp[gV]at h)
  obtain⟨m',h1,rfl⟩:=h;rw[lX h1];rfl
def ud(m:List Int):gV (m.map vI)=some m:=by
 induction m with
 |nil=>rfl
 |cons n m ih=>simp[gV,ih]
def gq(U:al):V->Option (List Int)
 |.own id off len=>match U id with
   |some ob=>if ob.sz=1/\off+len<=ob.rows.length/\len<=200000000000000 then(if(gV ob.rows).isSome then gV ((ob.rows.drop off).take len)else none)else none
   |none=>none
 |.sl 1 rows=>if rows.length<=200000000000000 then gV rows else none
 |_=>none
def nI{U:al}{sv:V}{l:List Int}(h:gq U sv=some l):Reads U 1 false sv (l.map vI)/\l.length<=200000000000000:=by
 unfold gq at h;split at h
 .rename_i id off len;split at h
  .rename_i ob TT;split at h
   .rename_i hc;split at h
    .rename_i hi;have he:=lX h;obtain⟨m,hm⟩:=Option.isSome_iff_exists.1 hi;have hm:=lX hm;have hr:=Reads.own (U:=U) TT hc.1 hc.2.1 (λr hr=>by rw[hm]at hr;simp only[iE]at hr;obtain⟨n,_,rfl⟩:=hr;rfl);rw[he]at hr;have hl:l.length=len:=by
      have:=congrArg List.length he;simp at this;omega
     exact⟨hr,by omega⟩
    .cases h
   .cases h
  .cases h
 .rename_i rows;split at h
  .rename_i hc;have he:=lX h;subst he;exact⟨Reads.ints,by simpa using hc⟩
  .cases h
 .cases h
def oS{U Z':al}(hs:aa U Z'){sv:V}{l:List Int}(h:gq U sv=some l):gq Z' sv=some l:=by
 unfold gq at h|-;split at h
 .split at h
  .rename_i ob TT;simp only[hs _ _ TT];exact h
  .cases h
 .exact h
 .cases h
def oL(U:al){l:List Int}(h:l.length<=200000000000000):gq U (aZ l)=some l:=by
 simp only[aZ,gq,dO,aI h];exact ud l
def o10(f:FuncId)(args:List V)(U:al):Option V:=if f=169 then(match args with
 |[.agg [.int .i64 a,.int .i64 b],sv]=>(gq U sv).map λl=>.bool (l.all λn=>bg n a b)
 |_=>none)else none
def O10:Tx prog where
 get:=o10
 up f args U Z' v hs h:=by
  unfold o10 at h|-;split at h
  .rename_i hf;rw[aI hf];split at h
   .simp only[Zq8]at h|-;obtain⟨l,h1,h2⟩:=h;exact⟨l,oS hs h1,h2⟩
   .cases h
  .cases h
 ok f args U v h:=by
  unfold o10 at h;split at h
  .rename_i hf;subst hf;split at h
   .simp only[Zq8]at h;obtain⟨l,h1,rfl⟩:=h;obtain⟨g1,g2⟩:=nI h1;exact JS g1 g2
   .cases h
  .cases h
def vL(a b:Int)(sv:V)(U:al):O10.get 169 [.agg [.int .i64 a,.int .i64 b],sv] U=(gq U sv).map λl=>.bool (l.all λn=>bg n a b):=rfl
def dE(U:al)(id off len:Nat):gq U (.own id off len)=match U id with
 |some ob=>if ob.sz=1/\off+len<=ob.rows.length/\len<=200000000000000 then(if(gV ob.rows).isSome then gV ((ob.rows.drop off).take len)else none)else none
 |none=>none:=rfl
def eT(n:Int)(l:List V):gV (.int .i64 n::l)=(gV l).map (n::·):=rfl
def eX:gV []=some []:=rfl
def GS(s:TA):aX prog 168 [.agg s.cells] (.bool s.ok):=λU=>by
 refine QR.q ?_;refine ay.mix 6 ?_
 (refine ay.bB O10 300 ?_;simp only[go_sem,seval,Ms,TA.cells])
 refine aF λVY Z1 s1 a1 f1=>?_;simp only[go_sem,seval];refine aF λid3 Z2 s2 a3 f3=>?_;have Yn:=bf a1 f3;have a1:=s2 _ _ a1;simp only[go_sem,seval,a1];refine aF λU6 Z3 s3 a4 f4=>?_;have n14:=bf a1 f4;have YJ:=bf a3 f4;have a1:=s3 _ _ a1;have a3:=s3 _ _ a3;have hs:aa U Z3:=(s1.trans s2).trans s3;have g3:U id3=none:=s1.none f3;have g4:U U6=none:=(s1.trans s2).none f4;simp only[go_sem,seval,a1,a3,a4,ad YJ,ad YJ.symm,ad Yn,ad n14];have Sj:=λo o'=>(hs.aL (o:=o) g3).aL (o:=o') g4;refine aF λWg Z4 s4 a5 f5=>?_;have a1:=s4 VY _ (by rw[ad n14,ad Yn];exact a1);have a4:=s4 U6 _ aA;have hs:=(Sj _ _).trans s4;simp only[go_sem,seval,a1,a4,a5,vL,dE,eT,eX,bg,<-Bool.decide_and];refine And.intro (λp0=>?_) (λp0=>aD.pure hs (by rw[V.bool.injEq];symm;rw[Bool.eq_false_iff];intro h;simp[TA.ok,bg,mx]at h;omega));refine aF λXq Z5 s5 a6 f6=>?_;have a1:=s5 _ _ a1;have hs:=hs.trans s5;simp only[go_sem,seval,a1,a6,vL,dE,eT,eX,bg,<-Bool.decide_and];refine And.intro (λp1=>?_) (λp1=>aD.pure hs (by rw[V.bool.injEq];symm;rw[Bool.eq_false_iff];intro h;simp[TA.ok,bg,mx]at h;omega));refine aF λid7 Z6 s6 a7 f7=>?_;have a1:=s6 _ _ a1;have hs:=hs.trans s6;simp only[go_sem,seval,a1,a7,vL,dE,eT,eX,bg,<-Bool.decide_and];refine And.intro (λp2=>?_) (λp2=>aD.pure hs (by rw[V.bool.injEq];symm;rw[Bool.eq_false_iff];intro h;simp[TA.ok,bg,mx]at h;omega));refine aF λid8 Z7 s7 a8 f8=>?_;have a1:=s7 _ _ a1;have hs:=hs.trans s7;simp only[go_sem,seval,a1,a8,vL,dE,eT,eX,bg,<-Bool.decide_and];refine And.intro (λp3=>?_) (λp3=>aD.pure hs (by rw[V.bool.injEq];symm;rw[Bool.eq_false_iff];intro h;simp[TA.ok,bg,mx]at h;omega));refine aF λXr Z8 s8 a9 f9=>?_;have a1:=s8 _ _ a1;have hs:=hs.trans s8;simp only[go_sem,seval,a1,a9,vL,dE,eT,eX,bg,<-Bool.decide_and];refine aD.pure hs ?_;rw[V.bool.injEq,Bool.eq_iff_iff];simp[TA.ok,bg,mx];omega
open Go.Proofs
def eC(l:List Nd):Int:=if SA l then(if(gy l).1.depth>16\/(gy l).1.pieces>2000\/(gy l).1.nodes>2000\/(gy l).1.M'>1099511627776 then 2 else 0)else 4
def Dk(l:List Nd)(hl:dN l):aX prog 68 [aQ l] (vI (eC l)):=λU=>by
 refine e68.q ?_;refine mS 6 ?_;simp only[go_sem,seval,aH,aJ,c68];refine pS rfl (Au l hl _) ?_;simp only[go_sem,seval,aH,aJ,Sm.cells,iU];intro id L';have G':=λo=>(aa.refl U).C' L' (o:=o);have hc:(gy l).2=if SA l then 0 else 4:=by unfold gy;split<;>rfl
 refine And.intro (λh=>?_) (λh=>?_)
 .refine aD.pure (G' _) ?_;have:SA l=false:=by
   rw[hc]at h;cases hb:SA l<;>simp_all
  simp[eC,this,hc]
 .have hb:SA l=true:=by
   rw[hc]at h;cases hb:SA l<;>simp_all
  repeat' (first
   |with_reducible refine And.intro (λh=>?_) (λh=>?_)
   |with_reducible refine aD.pure (G' _) ?_)
  all_goals (simp only[eC,hb,if_true,V.int.injEq,true_and];split<;>simp_all<;>omega)
open Go.Proofs
def o12(f:FuncId)(args:List V)(U:al):Option V:=if f=169 then(match args with
 |[.agg [.int .i64 a,.int .i64 b],sv]=>(gq U sv).map λl=>.bool (l.all λn=>bg n a b)
 |_=>none)else if f=168 then(match args with
 |[.agg [.int .i64 a,.int .i64 b,.int .i64 c,.int .i64 d,.int .i64 e,.int .i64 f,.int .i64 g,.int .i64 h,.int .i64 i,.int .i64 j,.int .i64 k,.int .i64 l]]=>some (.bool (TA.ok ⟨a,b,c,d,e,f,g,h,i,j,k,l⟩))
 |_=>none)else none
def O12:Tx prog where
 get:=o12
 up f args U Z' v hs h:=by
  unfold o12 at h|-;split at h
  .rename_i hf;rw[aI hf];split at h
   .simp only[Zq8]at h|-;obtain⟨l,h1,h2⟩:=h;exact⟨l,oS hs h1,h2⟩
   .cases h
  .rename_i hf;rw[aK hf];exact h
 ok f args U v h:=by
  unfold o12 at h;split at h
  .rename_i hf;subst hf;split at h
   .simp only[Zq8]at h;obtain⟨l,h1,rfl⟩:=h;obtain⟨g1,g2⟩:=nI h1;exact JS g1 g2
   .cases h
  .split at h
   .rename_i hf;subst hf;split at h
    .simp only[bh]at h;subst h;exact GS ⟨_,_,_,_,_,_,_,_,_,_,_,_⟩ U
    .cases h
   .cases h
def qX(a b:Int)(sv:V)(U:al):O12.get 169 [.agg [.int .i64 a,.int .i64 b],sv] U=(gq U sv).map λl=>.bool (l.all λn=>bg n a b):=rfl
def ri(a b c d e f g h i j k l:Int)(U:al):O12.get 168 [.agg [.int .i64 a,.int .i64 b,.int .i64 c,.int .i64 d,.int .i64 e,.int .i64 f,.int .i64 g,.int .i64 h,.int .i64 i,.int .i64 j,.int .i64 k,.int .i64 l]] U=
 some (.bool (TA.ok ⟨a,b,c,d,e,f,g,h,i,j,k,l⟩)):=rfl
def kD(s:TA):(decide (s.top=0)&&(decide (s.Sk=0)&&(decide (s.R5=0)&&(decide (s.O'=0)&&(decide (s.SG=0)&&(decide (s.R9=0)&&(decide (s.Sl=0)&&(decide (s.head=0)&&
 (decide (s.before=0)&&(decide (s.after=0)&&(decide (s.inside=0)&&decide (s.clear=0))))))))))))=decide (s=TA.zero):=by
 rw[Bool.eq_iff_iff];cases s;simp[TA.zero]
def ID(x:Nd)(hl:x.words.length<=200000000000000)(k4:x.kind=4):aX prog 138 [ie x] (.bool x.ok):=λU=>by
 refine M5.q ?_;refine ay.mix 6 ?_
 (refine ay.bB O12 300 ?_;simp only[go_sem,seval,Lw,ie,Nd.cells])
 refine aF λVY Z1 s1 a1 f1=>?_;simp only[go_sem,seval,a1];refine aF λid3 Z2 s2 a3 f3=>?_;have Yn:=bf a1 f3;have a1:=s2 _ _ a1;have hs:=(s1.trans s2).aL (s1.none f3) (o:=⟨244,2,[.agg [vI 1,vI 1099511627776]]⟩);have hok3:x.ok=(decide (x.st=TA.zero)&&(decide (x.line=0)&&decide (x.space=0)&&decide (x.words.length=0)&&bg x.w 1 mx&&bg x.h 1 mx&&bg x.side 1 2)):=by
  by_cases Sg:x.st=TA.zero<;>simp[Nd.ok,k4,Sg]
 simp only[go_sem,seval,a1,a3,ad Yn,kD,cK,k4,ri,iU,aA];refine And.intro (λe1=>And.intro (λe2=>And.intro (λz=>And.intro (λw=>?_) (λw=>?_)) (λz=>?_)) (λe2=>?_)) (λe1=>?_)
 .refine aF λU6 Z3 s3 a4 f4=>?_;have a1:=s3 VY _ (by rw[ad Yn];exact a1);have a3:=s3 id3 _ aA;have hs:=hs.trans s3;simp only[go_sem,seval,a1,a3,a4,qX,dE,eT,eX,bg,yD,List.all_nil,<-Bool.decide_and];refine And.intro (λq1=>?_) (λq1=>aD.pure hs ?_)
  .refine aF λWg Z4 s4 a5 f5=>?_;have a1:=s4 _ _ a1;have hs:=hs.trans s4;simp only[go_sem,seval,a1,a5,qX,dE,eT,eX,bg,yD,List.all_nil,<-Bool.decide_and];refine aD.pure hs ?_;rw[V.bool.injEq,hok3,Bool.eq_iff_iff];simp only[bg,mx];simp at w;simp[e1,e2,z,w];omega
  .rw[V.bool.injEq,hok3,Bool.eq_iff_iff];simp only[bg,mx];simp[e1,e2,z];omega
 all_goals (repeat' (first
  |with_reducible refine And.intro (λh=>?_) (λh=>?_)
  |with_reducible refine aD.pure hs ?_))
 all_goals (rw[V.bool.injEq,hok3,Bool.eq_iff_iff];simp_all)
def KU(x:Nd)(hl:x.words.length<=200000000000000):aX prog 138 [ie x] (.bool x.ok):=λU=>by
 by_cases k4:x.kind=4
 .exact ID x hl k4 U
 refine M5.q ?_;refine ay.mix 6 ?_
 (refine ay.bB O12 300 ?_;simp only[go_sem,seval,Lw,ie,Nd.cells])
 refine aF λVY Z1 s1 a1 f1=>?_;simp only[go_sem,seval,a1];refine aF λid3 Z2 s2 a3 f3=>?_;have Yn:=bf a1 f3;have a1:=s2 _ _ a1;have hs:=(s1.trans s2).aL (s1.none f3) (o:=⟨244,2,[.agg [vI 1,vI 1099511627776]]⟩);have hz:(x.kind=1->x.ok=(x.st.ok&&decide (x.line=0)&&decide (x.space=0)&&decide (x.words.length=0)&&decide (x.side=0)&&decide (x.w=0)&&decide (x.h=0))):=λh=>by simp[Nd.ok,h]
 have hwl:x.words.length<=200000000000000:=by omega
 by_cases k1:x.kind=1
 .simp only[go_sem,seval,a1,a3,ad Yn,kD,cK,k1,ri,iU];rw[hz k1]
  repeat' (first
   |with_reducible refine And.intro (λh=>?_) (λh=>?_)
   |with_reducible refine aD.pure hs ?_)
  all_goals (rw[V.bool.injEq,Bool.eq_iff_iff];simp_all)
 .by_cases k2:x.kind=2
  .by_cases e1:x.line=0
   .have hok0:x.ok=false:=by
     by_cases Sg:x.st=TA.zero<;>simp[Nd.ok,k2,Sg,e1,bg]
    rw[hok0];simp only[go_sem,seval,a1,a3,ad Yn,kD,cK,k1,k2,e1,ri,iU,aA]
    repeat' (first
     |with_reducible refine And.intro (λh=>?_) (λh=>?_)
     |with_reducible refine aD.pure hs rfl
     |(refine aF λU6 Z3 s3 a4 f4=>?_
       have a1:=s3 VY _ (by rw[ad Yn];exact a1);have a3:=s3 id3 _ aA;simp only[go_sem,seval,a1,a3,a4,qX,dE,eT,eX,bg,yD,List.all_nil,false_and];exact aD.pure (hs.trans s3) rfl))
   .simp only[go_sem,seval,a1,a3,ad Yn,kD,cK,k1,k2,e1,ri,iU,aA];have Zg:x.ok=(decide (x.st=TA.zero)&&(x.words.all (bg · 1 mx)&&decide (0<x.words.length)&&bg x.line 1 mx&&bg x.space 0 mx&&decide (x.side=0)&&decide (x.w=0)&&decide (x.h=0))):=by
     by_cases Sg:x.st=TA.zero<;>simp[Nd.ok,k2,Sg]
    refine And.intro (λz=>?_) (λz=>aD.pure hs (by rw[Zg];simp_all));refine And.intro (λw1=>?_) (λw1=>aD.pure hs (by rw[Zg];simp[w1]));refine And.intro (λw2=>?_) (λw2=>aD.pure hs (by rw[Zg];simp[w2]));refine And.intro (λw3=>?_) (λw3=>aD.pure hs (by rw[Zg];simp[w3]));refine aF λU6 Z3 s3 a4 f4=>?_;have a1:=s3 VY _ (by rw[ad Yn];exact a1);have a3:=s3 id3 _ aA;have hs:=hs.trans s3;simp only[go_sem,seval,a1,a3,a4,qX,dE,eT,eX,oL _ hwl,iU,qE (List.all _ _)];refine And.intro (λq1=>?_) (λq1=>aD.pure hs (by rw[Zg];simp[mx]at q1|-;simp[q1]));refine And.intro (λq2=>?_) (λq2=>aD.pure hs (by rw[Zg];simp only[mx,q2];simp));refine aF λWg Z4 s4 a5 f5=>?_;have a1:=s4 _ _ a1;have hs:=hs.trans s4;simp only[go_sem,seval,a1,a5,qX,dE,eT,eX,oL _ hwl,iU,cK,qE (List.all _ _)];refine And.intro (λq3=>?_) (λq3=>aD.pure hs (by rw[Zg];simp[mx]at q3|-;simp[q3]));refine aD.pure hs ?_;rw[Zg];simp only[mx,q1,q2,q3,z,w1,w2,w3];simp
  .have hok3:x.ok=(decide (x.st=TA.zero)&&(decide (x.line=0)&&decide (x.space=0)&&decide (x.words.length=0)&&bg x.w 1 mx&&bg x.h 1 mx&&
    (decide (x.kind=3)&&decide (x.side=0)||decide (x.kind=4)&&bg x.side 1 2))):=by
    by_cases Sg:x.st=TA.zero<;>simp[Nd.ok,k1,k2,Sg]
   by_cases k3:x.kind=3
   .simp only[go_sem,seval,a1,a3,ad Yn,kD,cK,k1,k2,k3,ri,iU,aA]
    repeat' (first
     |with_reducible refine And.intro (λh=>?_) (λh=>?_)
     |with_reducible refine aD.pure hs ?_
     |(refine aF λU6 Z3 s3 a4 f4=>?_
       have a1:=s3 VY _ (by rw[ad Yn];exact a1);have a3:=s3 id3 _ aA;simp only[go_sem,seval,a1,a3,a4,qX,dE,eT,eX,bg,yD,List.all_nil,<-Bool.decide_and];refine aD.pure (hs.trans s3) ?_))
    all_goals (rw[V.bool.injEq,hok3,Bool.eq_iff_iff];simp_all [bg,mx]<;>omega)
   .simp only[go_sem,seval,a1,a3,ad Yn,kD,cK,k1,k2,k3,k4,ri,iU,aA]
    repeat' (first
     |with_reducible refine And.intro (λh=>?_) (λh=>?_)
     |with_reducible refine aD.pure hs ?_)
    all_goals (rw[V.bool.injEq,hok3];simp[k3,k4])
open Go.Proofs
def th(i:Nat):List Int->List Int
 |a::b::s=>if a=i then th i (b::s)else a::b::s
 |s=>s
def isS:List Nd->Nat->List Int->Bool
 |[],_,_=>true
 |x::r,i,UL=>match th i UL with
  |[]=>false
  |a::s=>if x.ok=true/\1<=x.size/\x.size<=a-i/\(x.kind=1\/x.size<=1)then isS r (i+1) ((i+x.size)::a::s)else false
def Yo(n:Nat):Nat->List Int->Prop
 |lo,[]=>lo=n
 |lo,a::s=>(lo:Int)<=a/\Yo n a.toNat s
def lL(l:List Nd):Nat->List Int->Bool
 |_,[]=>true
 |lo,a::s=>bE l lo a.toNat&&lL l a.toNat s
def DQ(l:List Nd)(a:Nat):bE l a a=true:=by rw[bE,dif_neg (Nat.lt_irrefl a)]
def wa(l:List Nd)(n i:Nat)(hi:i<n):∀UL,Yo n i UL->∃a s,th i UL=a::s/\(i:Int)<a/\Yo n i (a::s)/\lL l i (a::s)=lL l i UL
 |[],h=>by simp only[Yo]at h;omega
 |[a],h=>by
  have h':=h;simp only[Yo]at h';exact⟨a,[],rfl,by omega,h,rfl⟩
 |a::b::s,h=>by
  by_cases ha:a=i
  .have h':=h.2;rw[ha,gM]at h';obtain⟨c,t,g1,g2,g3,g4⟩:=wa l n i hi (b::s) h';refine⟨c,t,by simp[th,ha,g1],g2,g3,?_⟩;rw[g4];show _=(bE l i a.toNat&&lL l a.toNat (b::s));rw[ha,gM,DQ,Bool.true_and]
  .have h':=h.1;exact⟨a,b::s,by simp[th,ha],by omega,h,rfl⟩
def C7(l:List Nd):∀(r:List Nd) (i:Nat) (UL:List Int),l.drop i=r->Yo l.length i UL->isS r i UL=(r.all Nd.ok&&lL l i UL)
 |[],i,UL,hr,hs=>by
  have hi:l.length<=i:=by simpa using hr
  have key:∀(UL:List Int) (lo:Nat),l.length<=lo->Yo l.length lo UL->lL l lo UL=true:=by
   intro UL
   induction UL with
   |nil=>intro _ _ _;rfl
   |cons a s ih=>
    intro lo S1 h;have h1:=h.1;simp only[lL];rw[ih a.toNat (by omega) h.2,bE,Bool.and_true];split
    .have:l[lo]?=none:=by simp[S1]
     rw[this];have Zh:∀(UL:List Int) (lo:Nat),Yo l.length lo UL->lo<=l.length:=by
      intro UL
      induction UL with
      |nil=>intro lo h;simp only[Yo]at h;omega
      |cons b t ih=>intro lo h;have:=h.1;have:=ih _ h.2;omega
     have:=Zh _ _ h.2;omega
    .rfl
  simp[isS,key UL i hi hs]
 |x::r,i,UL,hr,hs=>by
  have hi:i<l.length:=by
   rcases Nat.lt_or_ge i l.length with h|h
   .exact h
   .rw[HA h]at hr;cases hr
  have hx:l[i]?=some x:=by
   have:(l.drop i)[0]?=some x:=by rw[hr];rfl
   simpa using this
  have hr':l.drop (i+1)=r:=by
   have:(l.drop i).drop 1=r:=by rw[hr];rfl
   simpa using this
  obtain⟨a,s,h1,h2,h3,h4⟩:=wa l l.length i hi UL hs;rw[isS,h1];simp only;rw[<-h4];simp only[lL,yD];have TH:bE l i a.toNat=if _hx:1<=x.size/\x.size<=(a.toNat:Int)-i then
   (decide (x.kind=1)||decide (x.size<=1))&&bE l (i+1) (i+x.size.toNat)&&bE l (i+x.size.toNat) a.toNat else false:=by
   rw[bE,dif_pos (by omega),hx]
  rw[TH];have U7:(a.toNat:Int)=a:=by omega
  rw[U7];by_cases hc:1<=x.size/\x.size<=a-i
  .rw[dif_pos hc];have e:(i+x.size).toNat=i+x.size.toNat:=by omega
   have ih:=C7 l r (i+1) ((i+x.size)::a::s) hr' ⟨by omega,by rw[e];omega,h3.2⟩;by_cases hk:x.ok=true/\(x.kind=1\/x.size<=1)
   .rw[aI ⟨hk.1,hc.1,hc.2,hk.2⟩,ih];simp only[lL,e,hk.1,Bool.true_and];have:(decide (x.kind=1)||decide (x.size<=1))=true:=by simpa using hk.2
    rw[this,Bool.true_and,Bool.and_assoc]
   .rw[aK (λh=>hk ⟨h.1,h.2.2.2⟩)];symm;rw[Bool.eq_false_iff];intro h;simp only[Ba,kI,US]at h;exact hk ⟨h.1.1,h.2.1.1.1⟩
  .rw[dif_neg hc,aK (λh=>hc ⟨h.2.1,h.2.2.1⟩)];simp
def Jd(l:List Nd):isS l 0 [(l.length:Int)]=SA l:=by
 rw[C7 l l 0 [(l.length:Int)] rfl ⟨by omega,by simp[Yo]⟩];simp[lL,SA]
open Go.Proofs
def o14(f:FuncId)(args:List V):Option V:=if f=138 then(match args with
 |[.agg [.int .i64 a0,.int .i64 a1,.int .i64 a2,.int .i64 a3,.int .i64 a4,.int .i64 a5,.int .i64 a6,.int .i64 a7,.int .i64 a8,.int .i64 a9,.int .i64 Sb,.int .i64 Ts,.int .i64 a12,.int .i64 TF,.int .i64 Vu,.int .i64 Vg,.sl 1 rows,.int .i64 Zi,.int .i64 WV,.int .i64 a19]]=>
  (gV rows).bind λws=>if ws.length<=200000000000000 then some (.bool (Nd.ok ⟨a0,a1,⟨a2,a3,a4,a5,a6,a7,a8,a9,Sb,Ts,a12,TF⟩,Vu,Vg,ws,Zi,WV,a19⟩))else none
 |_=>none)else none
def O14:Tx prog where
 get f args _:=o14 f args
 ok f args U v h:=by
  unfold o14 at h;split at h
  .rename_i hf;subst hf;split at h
   .rw[Option.bind_eq_some_iff]at h;obtain⟨ws,h1,h2⟩:=h;split at h2
    .rename_i hw;simp only[bh]at h2;subst h2;rw[lX h1];exact KU ⟨_,_,⟨_,_,_,_,_,_,_,_,_,_,_,_⟩,_,_,ws,_,_,_⟩ hw U
    .cases h2
   .cases h
  .cases h
def Ku{x:Nd}(hw:x.words.length<=200000000000000)(U:al):O14.get 138 [.agg [.int .i64 x.kind,.int .i64 x.size,.int .i64 x.st.top,.int .i64 x.st.Sk,.int .i64 x.st.R5,.int .i64 x.st.O',.int .i64 x.st.SG,.int .i64 x.st.R9,.int .i64 x.st.Sl,.int .i64 x.st.head,.int .i64 x.st.before,.int .i64 x.st.after,.int .i64 x.st.inside,.int .i64 x.st.clear,.int .i64 x.line,.int .i64 x.space,aZ x.words,.int .i64 x.side,.int .i64 x.w,.int .i64 x.h]] U=
 some (.bool x.ok):=by
 show((gV (x.words.map vI)).bind λws=>if ws.length<=200000000000000 then some (V.bool (Nd.ok ⟨x.kind,x.size,⟨x.st.top,x.st.Sk,x.st.R5,x.st.O',x.st.SG,x.st.R9,x.st.Sl,x.st.head,x.st.before,x.st.after,x.st.inside,x.st.clear⟩,x.line,x.space,ws,x.side,x.w,x.h⟩))else none)=_;rw[ud,Option.bind_some,aI hw]
def Gq{rows:List V}{k:Nat}{a:Int}{s:List Int}(hk:k=(a::s).length)(ht:rows.take k=(a::s).reverse.map vI):rows[k-1]?=some (.int .i64 a)/\rows.take (k-1)=s.reverse.map vI:=by
 simp only[Uf]at hk;have h1:(rows.take k)[k-1]?=rows[k-1]?:=by rw[List.getElem?_take,aI (by omega)]
 constructor
 .rw[<-h1,ht,hk];simp
 .have h2:rows.take (k-1)=(rows.take k).take (k-1):=by rw[List.take_take];congr 1;omega
  rw[h2,ht,hk];simp
def Yo.le{n:Nat}:∀{UL:List Int} {lo:Nat},Yo n lo UL->lo<=n
 |[],lo,h=>by simp only[Yo]at h;omega
 |a::s,lo,h=>by have h1:=h.1;have h2:=Yo.le h.2;omega
def C9(l:List Nd)(hl:dN l):aX prog 109 [aQ l] (.bool (SA l)):=λU=>by
 have hl0:=hl;obtain⟨hl1,ZG⟩:=hl;refine RH.q ?_;refine mS 6 ?_;simp only[go_sem,seval,aH,aJ,Nb,bT];intro e0 he0;refine ay.loop (λm st=>∃i UL e k rows,i<=l.length/\m=l.length-i/\SA l=isS (l.drop i) i UL/\Yo l.length i UL/\UL≠[]/\UL.length<=i+1/\aa U st.U/\st.U e=some ⟨3,1,rows⟩/\U e=none/\k=UL.length/\k<=rows.length/\rows.take k=UL.reverse.map vI/\
  st.s 3=.own e 0 k/\st.s 9=aQ l/\st.s 10=vI l.length/\st.s 11=vI i) l.length ?_ ?_
 .refine⟨0,[(l.length:Int)],e0,1,[vI l.length],by omega,by omega,by rw[<-Jd];rfl,⟨by omega,by simp[Yo]⟩,by simp,by simp,(aa.refl U).C' he0,aA,he0,rfl,by simp,rfl,rfl,rfl,rfl,rfl⟩
 .rintro m ⟨s,Z'⟩ ⟨i,UL,e,k,rows,hi,rfl,hB,hasc,Sh,W2,G',TH,Vd,hk,hkr,SB,h3,h9,ZH,Xs⟩;simp only at G' TH h3 h9 ZH Xs;refine mS 6 ?_;simp only[go_sem,seval,aH,aJ,h3,h9,ZH,Xs];refine And.intro (λu'=>?_) (λVe=>?_)
  .have SX:i<l.length:=by simp at u';omega
   have hd:l.drop i=l[i]::l.drop (i+1):=jt SX;have hxw:l[i].words.length<=200000000000000:=ZG _ (SU SX);rw[hd]at hB;generalize Wf:l[i]=x at*;simp only[go_sem,seval,aH,aJ,gZ SX,Wf,jR,h3,h9,ZH,Xs,Nd.cells];intro Wg WI;replace WI:Z' Wg=none:=WI;have n5e:e≠Wg:=by rintro rfl;rw[TH]at WI;cases WI
   have n5n:U Wg=none:=G'.none WI;refine ay.loop (λm st=>∃Zj k',m=Zj.length/\th i UL=th i Zj/\Yo l.length i Zj/\Zj≠[]/\Zj.length<=UL.length/\st.U=C' Z' Wg ⟨59,20,[.agg x.cells]⟩/\k'=Zj.length/\k'<=rows.length/\rows.take k'=Zj.reverse.map vI/\
    st.s 3=.own e 0 k'/\st.s 4=vI i/\st.s 5=.ptr Wg 0 0/\st.s 9=aQ l/\st.s 10=vI l.length/\st.s 11=vI i) UL.length ?_ ?_
   .exact⟨UL,k,rfl,rfl,hasc,Sh,SD _,rfl,hk,hkr,SB,h3,rfl,rfl,h9,ZH,Xs⟩
   .rintro m ⟨s,Z''⟩ ⟨Zj,k',rfl,hpop,hasc',hne',hsl',Su,TP,hkr',htk',h3,h4,h5,h9,ZH,Xs⟩;simp only at Su h3 h4 h5 h9 ZH Xs;subst Su;obtain⟨a,tl,rfl⟩:=List.exists_cons_of_ne_nil hne';obtain⟨htop,htk2⟩:=Gq TP htk';have hkpos:1<=k':=by rw[TP];simp
    have g0:(k':Int)-1<k':=by omega
    have g1:(0:Int)<=(k':Int)-1:=by omega
    have g2:(k':Int)-1<=k':=by omega
    have g3:((k':Int)-1).toNat=k'-1:=by omega
    have hrng:Sn .i64 ((k':Int)-1):=ar;refine ay.mix 6 ?_
    (refine ay.bB O14 300 ?_;simp only[go_sem,seval,aH,aJ,h3,h4,h5,h9,ZH,Xs,ad n5e,TH,g0,g1,g2,g3,Int.le_refl,Int.toNat_zero,Nat.sub_zero,htop,iU,Nd.cells,Ku hxw,qE (Nd.ok x)])
    refine And.intro (λh1=>⟨hrng,And.intro (λh2=>?_) (λh2=>?_)⟩) (λh1=>?_)
    .obtain⟨b,tl',rfl⟩:∃b tl',tl=b::tl':=by
      cases tl with
      |nil=>simp at TP;omega
      |cons b tl'=>exact⟨b,tl',rfl⟩
     have hp2:th i (a::b::tl')=th i (b::tl'):=by simp[th,h2]
     have ha2:=hasc'.2;rw[h2,gM]at ha2;refine⟨hrng,_,?_,b::tl',k'-1,rfl,by rw[hpop,hp2],ha2,by simp,?_,?_,by omega,htk2,rfl⟩
     .simp
     .simp only[Uf]at hsl'|-;omega
     .simp only[Uf]at TP|-;omega
    all_goals
     have hps:th i (a::tl)=a::tl:=by
      cases tl with
      |nil=>rfl
      |cons b tl'=>
       have:a≠i:=by first
        |simpa using h2
        |(exfalso;simp at TP h1;omega)
       simp[th,this]
     obtain⟨c,t,p1,p2,p3,p4⟩:=wa l l.length i SX (a::tl) hasc';rw[hps,List.cons.injEq]at p1;obtain⟨rfl,rfl⟩:=p1;have hIs:SA l=if x.ok=true/\1<=x.size/\x.size<=a-i/\(x.kind=1\/x.size<=1)then isS (l.drop (i+1)) (i+1) ((i+x.size)::a::tl)else false:=by
      rw[hB,isS,hpop,hps]
     have hale:=Yo.le p3.2;have hlenk:(rows.take k').length=k':=by simp;omega
     have hstk:k'<=i+1:=by rw[TP];omega
     have happ:x.ok=true/\1<=x.size/\x.size<=a-i/\(x.kind=1\/x.size<=1)->∀(X Y:Ob) (id VY:Nat),C' Z' Wg X id=none->C' (C' Z' Wg X) id Y VY=none->
      SA l=isS (l.drop (i+1)) (i+1) ((i+x.size)::a::tl)/\Yo l.length (i+1) ((i+x.size)::a::tl)/\aa U (C' (del (C' (C' Z' Wg X) id Y) e) VY ⟨3,1,rows.take k'++[.int .i64 (i+x.size)]⟩)/\U VY=none/\
      (rows.take k'++[V.int .i64 (i+x.size)]).take (k'+1)=((i+x.size)::a::tl).reverse.map vI:=by
      intro hc X Y id VY L' W8;rw[gP]at L';rw[gP,gP]at W8;rw[aI hc]at hIs;refine⟨hIs,⟨by omega,?_,p3.2⟩,?_,G'.none W8.2.2,?_⟩
      .have:(i+x.size).toNat=i+x.size.toNat:=by omega
       omega
      .exact aa.aL (aa.uL ((G'.aL n5n).aL (G'.none L'.2)) Vd) (G'.none W8.2.2)
      .rw[qq (by simp;omega),htk'];simp
     refine And.intro (λq1=>And.intro (λq2=>⟨hrng,ar,And.intro (λq3=>And.intro (λq4=>And.intro (λq5=>?_) (λq5=>?_)) (λq4=>?_)) (λq3=>?_)⟩) (λq2=>?_)) (λq1=>?_)
     .refine aD.pure (G'.C' WI) ?_;rw[hIs,aK];rintro⟨c1,c2,c3,c4⟩;omega
     .refine⟨ar,?_⟩;intro id L';have hid':=(gP.1 L').2;have nie:e≠id:=by rintro rfl;rw[TH]at hid';cases hid'
      have Us:∀U,U e=some ⟨3,1,rows⟩->bX U 3 1 (.own e 0 k')=some (rows.take k',some e):=by
       intro U Su;simp only[bX,Su];rw[aI ⟨trivial,trivial,trivial,hkr'⟩]
      have TJ:∀U,U id=some ⟨3,1,[.int .i64 (i+x.size)]⟩->cy U 1 (.own id 0 1)=some [.int .i64 (i+x.size)]:=by
       intro U Su;simp only[cy,Su];rw[aI (by simp)];simp
      have hb:(k'+1)*9<=140737488355328:=by omega
      simp only[go_sem,seval,aH,aJ,Us,TJ,ad n5e,ad nie,TH,hlenk,hb,bW,h3,h4,h5,h9,ZH,Xs];intro VY W8;obtain⟨z1,z2,z3,z4,z5⟩:=happ ⟨by simpa using q1,by omega,by omega,by first|(left;simpa using q4)|(right;simp at q5;omega)⟩ _ _ id VY L' W8
      refine⟨ar,_,?_,i+1,_,VY,k'+1,_,by omega,rfl,z1,z2,by simp,?_,z3,aA,z4,?_,?_,z5,rfl,?_⟩
      .omega
      .simp only[Uf]at TP hsl'|-;omega
      .simp only[Uf]at TP|-;omega
      .simp;omega
      .simp
     .refine⟨ar,?_⟩;intro id L';have hid':=(gP.1 L').2;have nie:e≠id:=by rintro rfl;rw[TH]at hid';cases hid'
      have Us:∀U,U e=some ⟨3,1,rows⟩->bX U 3 1 (.own e 0 k')=some (rows.take k',some e):=by
       intro U Su;simp only[bX,Su];rw[aI ⟨trivial,trivial,trivial,hkr'⟩]
      have TJ:∀U,U id=some ⟨3,1,[.int .i64 (i+x.size)]⟩->cy U 1 (.own id 0 1)=some [.int .i64 (i+x.size)]:=by
       intro U Su;simp only[cy,Su];rw[aI (by simp)];simp
      have hb:(k'+1)*9<=140737488355328:=by omega
      simp only[go_sem,seval,aH,aJ,Us,TJ,ad n5e,ad nie,TH,hlenk,hb,bW,h3,h4,h5,h9,ZH,Xs];intro VY W8;obtain⟨z1,z2,z3,z4,z5⟩:=happ ⟨by simpa using q1,by omega,by omega,by first|(left;simpa using q4)|(right;simp at q5;omega)⟩ _ _ id VY L' W8
      refine⟨ar,_,?_,i+1,_,VY,k'+1,_,by omega,rfl,z1,z2,by simp,?_,z3,aA,z4,?_,?_,z5,rfl,?_⟩
      .omega
      .simp only[Uf]at TP hsl'|-;omega
      .simp only[Uf]at TP|-;omega
      .simp;omega
      .simp
     .refine aD.pure (G'.C' WI) ?_;rw[hIs,aK];rintro⟨c1,c2,c3,c4⟩;omega
     .refine aD.pure (G'.C' WI) ?_;rw[hIs,aK];rintro⟨c1,c2,c3,c4⟩;omega
     .refine aD.pure (G'.C' WI) ?_;rw[hIs,aK];rintro⟨c1,c2,c3,c4⟩;exact q1 (by simp[c1])
  .have ZE:i=l.length:=by simp at Ve;omega
   refine aD.pure G' ?_;rw[hB,ZE,uY];rfl
open Go.Proofs
def lW(times n:Int):Int:=if n=0\/times<=1099511627776/n then n*times else 1099511627777
def nQ(times h:Int):List Int->Int
 |[]=>h
 |n::l=>nQ times (min (h+lW times n) 1099511627777) l
def fV(i:Nat)(x:Nd)(s:Sm)(ends:List Int):Sm×List Int:=
 let ends:=ends.filter λn=>!decide (n<=(i:Int))
 if x.kind=1 then
  let ends:=ends++[i+x.size]
  (⟨max s.depth ends.length,s.pieces,s.nodes+1,nQ 1 s.M' [x.st.top,x.st.Sk,x.st.R5,x.st.O',x.st.head]⟩,ends)
 else if x.kind=2 then(⟨s.depth,s.pieces+x.words.length,s.nodes+1,nQ x.words.length s.M' [x.line]⟩,ends)
 else(⟨s.depth,s.pieces+1,s.nodes+1,nQ 1 s.M' [x.h]⟩,ends)
def ju(l:List Nd):Nat->Sm×List Int
 |0=>(⟨0,0,0,0⟩,[])
 |i+1=>match l[i]? with
  |some x=>fV i x (ju l i).1 (ju l i).2
  |none=>ju l i
def zc{times n:Int}(h0:0<=n)(h1:n<=mx)(t0:0<=times)(a:Int)(ha:0<=a):min (a+lW times n) 1099511627777=min (a+n*times) 1099511627777:=by
 unfold lW;split
 .rfl
 .rename_i h;have hn:0<n:=by omega
  have hq:1099511627776/n<times:=by omega
  have h2:1099511627776<n*times:=by
   have:=Int.ediv_lt_iff_lt_mul (a:=1099511627776) (b:=times) hn;have h3:=this.1 hq;rw[Int.mul_comm];exact h3
  omega
def tC{a b:Int}(h1:0<=a/\a<=1099511627777)(h2:0<=b):∀n:Nat,zT a b n=min (a+b*n) 1099511627777
 |0=>by simp[zT];omega
 |n+1=>by
  rw[zT,tC h1 h2 n,jz];have e:b*((n+1:Nat):Int)=b*n+b:=by rw[Int.natCast_add,Int.mul_add];simp
  rw[e];have:0<=b*(n:Int):=Int.mul_nonneg h2 (by omega);generalize b*(n:Int)=q at*;omega
def lR{h n:Int}(h1:0<=h)(n0:0<=n)(n1:n<=mx):min (h+lW 1 n) 1099511627777=jz h n:=by
 rw[zc n0 n1 (by omega) h h1,Int.mul_one];rfl
def kH(l:List Nd)(i:Nat):Nat->List Int
 |0=>[]
 |k+1=>kH l i k++(match l[k]? with
  |some y=>if y.kind=1/\(i:Int)<k+y.size then[(k:Int)+y.size]else[]
  |none=>[])
def oV(l:List Nd)(i:Nat):∀k,((kH l i k).length:Int)=fE l i k
 |0=>rfl
 |k+1=>by
  simp only[kH,fE,kL,Int.natCast_add,oV l i k];cases l[k]? with
  |none=>simp
  |some y=>simp only[];split<;>simp
def oR(l:List Nd)(i:Nat):∀k,(kH l i k).filter (λn=>!decide (n<=((i+1:Nat):Int)))=kH l (i+1) k
 |0=>rfl
 |k+1=>by
  simp only[kH,List.filter_append,oR l i k];congr 1;split
  .rename_i y _;by_cases hk:y.kind=1
   .by_cases h1:((i+1:Nat):Int)<k+y.size
    .rw[aI ⟨hk,by omega⟩,aI ⟨hk,h1⟩];have:¬((k:Int)+y.size<=((i+1:Nat):Int)):=by omega
     simp only[List.filter_cons,this,decide_false,Bool.not_false,if_true,List.filter_nil]
    .rw[aK (show¬(y.kind=1/\((i+1:Nat):Int)<k+y.size)from λh=>h1 h.2)];split
     .have:(k:Int)+y.size<=((i+1:Nat):Int):=by omega
      simp only[List.filter_cons,this,decide_true,Bool.not_true,jb,if_false,List.filter_nil]
     .rfl
   .rw[aK (λh=>hk h.1),aK (λh=>hk h.1)];rfl
  .rfl
def nx(l:List Nd)(hl:dN l)(hb:SA l=true):∀i,i<=l.length->(ju l i).1={ gd l ⟨0,0,l.length,0⟩ i with nodes:=i }/\(ju l i).2=(match i with
 |0=>[]
 |j+1=>kH l j (j+1))/\(gd l ⟨0,0,l.length,0⟩ i).qQ i/\(gd l ⟨0,0,l.length,0⟩ i).nodes=l.length
 |0,_=>⟨rfl,rfl,by simp[gd,Sm.qQ],rfl⟩
 |i+1,hi=>by
  obtain⟨h1,h2,h3,h4⟩:=nx l hl hb i (by omega);have Se:l.all Nd.ok=true/\bE l 0 l.length=true:=by simpa[SA]using hb
  have hx:=(gj.1 Se.1) _ (SU (show i<l.length by omega));have hg:l[i]?=some l[i]:=by simp[show i<l.length by omega]
  obtain⟨z1,z2,z3⟩:=iQ l (l.length+1) 0 l.length (by omega) (by omega) Se.2 i (by omega) (by omega) (by omega);have hw:=hl.2 _ (SU (show i<l.length by omega));have XS:=rF (l:=l) hx hw h3;generalize Wf:l[i]=x at*;obtain⟨p1,p2,p3,p4,p5,p6⟩:=jO hx;have hS:ju l (i+1)=fV i x (ju l i).1 (ju l i).2:=by simp only[ju,hg]
  have hR:gd l ⟨0,0,l.length,0⟩ (i+1)=my l i x (gd l ⟨0,0,l.length,0⟩ i):=by simp only[gd,hg]
  have hf:(ju l i).2.filter (λn=>!decide (n<=(i:Int)))=kH l i i:=by
   rw[h2];cases i with
   |zero=>rfl
   |succ j=>exact oR l j (j+1)
  rw[hS,hR,h1];generalize Xp:gd l ⟨0,0,l.length,0⟩ i=sm at*;obtain⟨f1,f2,f3⟩:=h3;have Zk:kH l i (i+1)=kH l i i++(if x.kind=1 then[(i:Int)+x.size]else[]):=by
   simp only[kH,hg];by_cases hk:x.kind=1
   .rw[aI ⟨hk,by omega⟩,aI hk]
   .rw[aK (λh=>hk h.1),aK hk]
  refine⟨?_,?_,by rw[Int.natCast_add];exact XS,?_⟩
  .by_cases hk:x.kind=1
   .obtain⟨q1,q2,q3,q4,q5⟩:=p6 hk;have r1:=eG f3 q1.1;have r2:=eG r1 q2.1;have r3:=eG r2 q3.1;have r4:=eG r3 q4.1;have hlen:=oV l i (i+1);rw[Zk,aI hk]at hlen;simp only[fV,my,aI hk,hf,nQ,Sm.mk.injEq];refine⟨?_,trivial,by simp,?_⟩
    .rw[hlen]
    .rw[lR f3.1 q1.1 q1.2,lR r1.1 q2.1 q2.2,lR r2.1 q3.1 q3.2,lR r3.1 q4.1 q4.2,lR r4.1 q5.1 q5.2]
   .by_cases TK:x.kind=2
    .simp only[fV,my,aK hk,aI TK,nQ,Sm.mk.injEq];refine⟨trivial,trivial,by simp,?_⟩;rw[zc p2 p3 (by omega) _ f3.1,tC f3 p2]
    .simp only[fV,my,aK hk,aK TK,nQ,Sm.mk.injEq];exact⟨trivial,trivial,by simp,lR f3.1 p4 p5⟩
  .by_cases hk:x.kind=1
   .simp only[fV,aI hk,hf,Zk]
   .by_cases TK:x.kind=2
    .simp only[fV,aK hk,aI TK,hf,Zk,kr]
    .simp only[fV,aK hk,aK TK,hf,Zk,kr]
  .rw[<-h4];unfold my;split
   .rfl
   .split<;>rfl
def xT(l:List Nd):Sm×Int:=if SA l then((ju l l.length).1,0)else(⟨0,0,0,0⟩,4)
def D7(l:List Nd)(hl:dN l):xT l=gy l:=by
 unfold xT gy;by_cases hb:SA l=true
 .obtain⟨h1,_,_,h4⟩:=nx l hl hb l.length (SD _);rw[aI hb,aI hb,h1];generalize gd l ⟨0,0,l.length,0⟩ l.length=sm at*;cases sm;simp_all
 .rw[aK hb,aK hb]
open Go.Proofs
def Bx{U:al}{c:Nat}{i:Int}(h:U c=some ⟨3,1,[vI i]⟩)(n:Int):aG prog 140 [vI n,.ptr c 0 0] U λr Z'=>r=.bool (decide (n<=i))/\Z'=U:=by
 refine Qr.q ?_;apply sR;simp only[go_sem,seval,aH,aJ,M8,h];exact aD.same rfl
abbrev kept(i:Int)(l:List Int):List Int:=l.filter λn=>!decide (n<=i)
def rR{p:Int->Bool}:∀{l:List Int},du p l<0->l.filter (λn=>!p n)=l
 |[],_=>rfl
 |x::l,h=>by
  simp only[du]at h;split at h
  .omega
  .rename_i hp;have hp':p x=false:=by simpa using hp
   split at h
   .rename_i h2;simp only[List.filter_cons,hp',Bool.not_false,if_true,rR h2]
   .have:=jB p l;omega
def rM{p:Int->Bool}:∀{l:List Int},¬du p l<0->(du p l).toNat<l.length/\(l.take (du p l).toNat).filter (λn=>!p n)=l.take (du p l).toNat/\
 ∀x,l[(du p l).toNat]?=some x->p x=true
 |[],h=>by simp[du]at h
 |x::l,h=>by
  simp only[du]at h|-;split
  .rename_i hp;refine⟨by simp,by simp,?_⟩;intro y hy;simp at hy;subst hy;exact hp
  .rename_i hp;rw[aK hp]at h;have hp':p x=false:=by simpa using hp
   split
   .rename_i h2;rw[aI h2]at h;omega
   .rename_i h2;obtain⟨g1,g2,g3⟩:=rM h2;have:=jB p l;have e:(du p l+1).toNat=(du p l).toNat+1:=by omega
    rw[e];refine⟨by simp;omega,?_,?_⟩
    .simp only[DX,List.filter_cons,hp',Bool.not_false,if_true,g2]
    .simpa using g3
def FK{U:al}{e c k:Nat}{i:Int}{full:List Int}(he:U e=some ⟨3,1,full.map vI⟩)(hc:U c=some ⟨3,1,[vI i]⟩)(Sh:c≠e)(hk:k<=full.length)(hfl:full.length<=1000000000000):
 aG prog 139 [.own e 0 k,.fn 140 [.ptr c 0 0]] U λr Z'=>∃(k':Nat) (XU:List Int),r=.own e 0 k'/\Z'=C' U e ⟨3,1,XU.map vI⟩/\k'<=XU.length/\XU.length<=full.length/\XU.take k'=kept i (full.take k):=by
 have hlk:(full.take k).length=k:=by simp;omega
 have hr:Reads U 1 false (.own e 0 k) ((full.take k).map vI):=by
  have:=Reads.own (U:=U) (off:=0) (len:=k) he rfl (by simpa using hk) (λr hr=>by simp only[iE]at hr;obtain⟨n,_,rfl⟩:=hr;rfl);simpa using this
 refine On.q ?_;refine mS 8 ?_;simp only[go_sem,seval,aH,aJ,KG];refine pR rfl (nr (p:=λn=>decide (n<=i)) hr (by omega) (λn _=>Bx hc n)) ?_;generalize hw:du (λn=>decide (n<=i)) (full.take k)=w;have hwg:-1<=w:=by rw[<-hw];exact jB _ _
 apply sR;simp only[go_sem,seval,aH,aJ];have TR:C' U e ⟨3,1,full.map vI⟩=U:=by
  funext j;simp only[C'];split
  .rename_i e';rw[e',he]
  .rfl
 refine And.intro (λhm=>?_) (λhm=>?_)
 .refine⟨_,U,aa.refl U,Wk.refl (aa.refl U) _,k,full,rfl,TR.symm,hk,SD _,?_⟩;exact(rR (by rw[hw];omega)).symm
 .have hw0:¬du (λn=>decide (n<=i)) (full.take k)<0:=by rw[hw];omega
  obtain⟨g1,g2,g3⟩:=rM hw0;rw[hw]at g1 g2 g3;rw[hlk]at g1;refine⟨ar,?_⟩;refine ay.loop (λm st=>∃(u j:Nat) (cur:List Int),u<j/\j<=k/\m=k-j/\cur.length=full.length/\cur.take u=kept i (full.take j)/\(∀q,j<=q->cur[q]?=full[q]?)/\st.U=C' U e ⟨3,1,cur.map vI⟩/\
   st.s 0=.own e 0 k/\st.s 1=.fn 140 [.ptr c 0 0]/\st.s 5=vI u/\st.s 6=vI j) (k-(w.toNat+1)) ?_ ?_
  .have hw1:w=((w.toNat:Nat):Int):=by omega
   refine⟨w.toNat,w.toNat+1,full,by omega,by omega,rfl,rfl,?_,λ_ _=>rfl,TR.symm,rfl,rfl,?_,?_⟩
   .have hx:(full.take k)[w.toNat]?=some (full[w.toNat]'(by omega)):=by rw[List.getElem?_take,aI g1,V7]
    have hp:=g3 _ hx;have e1:(full.take k).take w.toNat=full.take w.toNat:=by rw[List.take_take];congr 1;omega
    rw[e1]at g2;rw[Vn (by omega)];have g2':kept i (full.take w.toNat)=full.take w.toNat:=g2;simp only[kept,List.filter_append]at g2'|-;rw[g2'];simp[hp]
   .show vI w=_;rw[<-hw1]
   .show vI (w+1)=_;rw[Int.natCast_add,<-hw1];rfl
  .rintro m ⟨s,Z'⟩ ⟨u,j,cur,huj,hjk,rfl,Tr,hct,hcr,Su,h0,h1,h5,h6⟩;simp only at Su h0 h1 h5 h6;subst Su;refine mS 8 ?_;simp only[go_sem,seval,aH,aJ,h0,h1,h5,h6];refine And.intro (λu'=>?_) (λVe=>?_)
   .have SX:j<k:=by omega
    have hjc:j<cur.length:=by omega
    have Ua:cur[j]?=some cur[j]:=by simp[hjc]
    have Ve:(cur.map vI)[j]?=some (vI cur[j]):=by simp[hjc]
    have b1:(0:Int)<=j:=by omega
    have b2:(j:Int)<k:=by omega
    have b3:(0:Int)<=u:=by omega
    have b4:(u:Int)<k:=by omega
    simp only[go_sem,seval,aH,aJ,h0,h1,h5,h6,b1,b2,Ve,gM];refine pR rfl (Bx (i:=i) (by rw[ad Sh];exact hc) cur[j]) ?_;have hgu:(cur.map vI)[u]?=some (vI (cur[u]'(by omega))):=by simp[show u<cur.length by omega]
    apply sR;simp only[go_sem,seval,aH,aJ,h0,h1,h5,h6,b1,b2,b3,b4,Ve,hgu,gM];have hfj:full[j]?=some cur[j]:=by rw[<-hcr j (SD _)];exact Ua
    have htj:full.take (j+1)=full.take j++[cur[j]]:=by
     have hjf:j<full.length:=by omega
     rw[Vn hjf];congr 2;rw[V7 hjf]at hfj;simpa using hfj
    refine And.intro (λhd=>?_) (λhd=>?_)
    .refine⟨ar,ar,_,?_,u+1,j+1,cur.set u cur[j],by omega,by omega,rfl,by simpa using Tr,?_,?_,?_,?_,?_⟩
     .omega
     .rw[htj];have hul:u<cur.length:=by omega
      have:(cur.set u cur[j]).take (u+1)=cur.take u++[cur[j]]:=by
       rw[Vn (by simpa using hul),List.take_set,List.set_eq_of_length_le (by simp;omega)];simp
      rw[this,hct];simp only[kept,List.filter_append];congr 1;have hd':¬cur[j]<=i:=by simpa using hd
      simp[hd']
     .intro q hq;rw[List.getElem?_set_ne (by omega)];exact hcr q (by omega)
     .simp
     .simp
     .simp
    .refine⟨ar,_,?_,u,j+1,cur,by omega,by omega,rfl,Tr,?_,λq hq=>hcr q (by omega),rfl,?_⟩
     .omega
     .rw[htj,hct];simp only[kept,List.filter_append];have hd':cur[j]<=i:=by simpa using hd
      simp[hd']
     .simp
   .have hjk':j=k:=by omega
    subst hjk';have b3:(0:Int)<=u:=by omega
    have b4:(u:Int)<=j:=by omega
    simp only[go_sem,seval,aH,aJ,h0,h1,h5,h6,b3,b4,Int.le_refl,gM,kQ];refine ay.clear (id:=e) (off:=u) (len:=j-u) (ob:=⟨3,1,cur.map vI⟩) rfl rfl rfl aA rfl (by simp;omega) ?_;apply sR;simp only[go_sem,seval,aH,aJ,h0,h1,h5,h6,b3,b4,Int.le_refl,gM,kQ,Nat.sub_zero];refine Tf ⟨u,cur.take u++List.replicate (j-u) 0++cur.drop (u+(j-u)),by simp,?_,?_,?_,?_⟩
    .simp[List.map_take,List.map_drop]
    .simp;omega
    .simp;omega
    .rw[mY,M3 (by simp;omega),List.take_take,Nat.min_self,hct]
open Go.Proofs
def Reads.bl(U:al):Reads U 1 false .bl []:=⟨rfl,λi v h=>by simp at h⟩
def B6{U:al}{c:Nat}{i:Int}(hc:U c=some ⟨3,1,[vI i]⟩):aG prog 139 [.bl,.fn 140 [.ptr c 0 0]] U λr Z'=>r=.bl/\Z'=U:=by
 refine On.q ?_;refine mS 8 ?_;simp only[go_sem,seval,aH,aJ,KG];refine pS rfl (nr (l:=[]) (p:=λn=>decide (n<=i)) (Reads.bl U) (by simp) (λn _=>Bx hc n)) ?_;simp only[go_sem,seval,aH,aJ,du];exact aD.same rfl
def FT{times n:Int}(h0:0<=n)(t0:0<=times):0<=lW times n/\lW times n<=1099511627777:=by
 unfold lW;split
 .rename_i h;refine⟨Int.mul_nonneg h0 t0,?_⟩;rcases h with h|h
  .subst h;simp
  .by_cases hn:n=0
   .subst hn;simp
   .have:=Int.mul_le_of_le_ediv (by omega:0<n) h;rw[Int.mul_comm];omega
 .omega
def dD(s:Sm)(ends:V):Ob:=⟨165,5,[.agg [vI s.depth,vI s.pieces,vI s.nodes,vI s.M',ends]]⟩
def qN{U:al}{c:Nat}{s:Sm}{ends sv:V}{times:Int}{l:List Int}(hc:U c=some (dD s ends))(hr:∀ob,Reads (C' U c ob) 1 false sv (l.map vI))(hl:l.length<=200000000000000)
 (hn:∀n∈l,0<=n/\n<=mx)(ht:0<=times/\times<=200000000000000)(hh:0<=s.M'/\s.M'<=1099511627777)(Zk:ends.cells=[ends]):
 aG prog 141 [.ptr c 0 0,vI times,sv] U λr Z'=>r=.Sa []/\Z'=C' U c (dD { s with M':=nQ times s.M' l } ends):=by
 have hlen:eM false sv=some (vI (l.length:Int)):=by simpa using(hr ⟨0,0,[]⟩).1
 have TR:C' U c (dD s ends)=U:=by
  funext j;simp only[C'];split
  .rename_i e';rw[e',hc]
  .rfl
 refine Ra.q ?_;refine mS 9 ?_;simp only[go_sem,seval,aH,aJ,LX,hlen];refine ay.loop (λm st=>∃(i:Nat) (h:Int),i<=l.length/\m=l.length-i/\nQ times s.M' l=nQ times h (l.drop i)/\(0<=h/\h<=1099511627777)/\st.U=C' U c (dD { s with M':=h } ends)/\
  st.s 0=.ptr c 0 0/\st.s 1=vI times/\st.s 9=sv/\st.s 10=vI l.length/\st.s 11=vI i) l.length ?_ ?_
 .exact⟨0,s.M',by omega,by omega,rfl,hh,TR.symm,rfl,rfl,rfl,rfl,rfl⟩
 .rintro m ⟨s',Z'⟩ ⟨i,h,hi,rfl,hp,hhh,Su,h0,h1,h9,ZH,Xs⟩;simp only at h0 h1 h9 ZH Xs Su;subst Su;refine mS 9 ?_;simp only[go_sem,seval,aH,aJ,h0,h1,h9,ZH,Xs];refine And.intro (λu'=>?_) (λVe=>?_)
  .have SX:i<l.length:=by omega
   have hd:l.drop i=l[i]::l.drop (i+1):=jt SX;obtain⟨pp,e1,e2⟩:=(hr (dD { s with M':=h } ends)).2 i (vI l[i]) (by simp[SX]);have hni:=hn _ (SU SX);rw[hd,nQ]at hp;generalize Sh:l[i]=n at*;have fI:=FT (n:=n) hni.1 ht.1;simp only[dD]at e1 e2;simp only[mx]at hni;have hq:(1099511627776:Int).tdiv n=1099511627776/n:=Int.tdiv_eq_ediv_of_nonneg (by omega);by_cases hz:n=0
   .have TY:lW times n=n*times:=by unfold lW;rw[aI (.inl hz)]
    rw[TY]at hp fI;simp only[go_sem,seval,aH,aJ,e1,e2,dD,hz,h0,h1,h9,ZH,Xs];rw[hz]at hp fI;simp only[Int.zero_mul,Int.add_zero]at hp|-;refine⟨ar,ar,ar,_,?_,i+1,h,by omega,rfl,?_,hhh,?_,by simp⟩
    .omega
    .rw[hp,Int.min_eq_left hhh.2]
    .rw[aK (by omega)]
   .simp only[go_sem,seval,aH,aJ,e1,e2,dD,hz,h0,h1,h9,ZH,Xs,hq];have hdiv:0<=1099511627776/n/\1099511627776/n<=1099511627776:=⟨Int.ediv_nonneg (by omega) hni.1,Int.ediv_le_self _ (by omega)⟩
    refine⟨ar,λhle=>?_,λhgt=>?_⟩
    .have TY:lW times n=n*times:=by unfold lW;rw[aI (.inr hle)]
     rw[TY]at hp fI;refine⟨ar,ar,ar,_,?_,i+1,min (h+n*times) 1099511627777,by omega,rfl,hp,by omega,?_,by simp⟩
     .omega
     .rw[show(if 1099511627777<h+n*times then 1099511627777 else h+n*times)=min (h+n*times) 1099511627777 by split<;>omega]
    .have TY:lW times n=1099511627777:=by unfold lW;rw[aK (by omega)]
     rw[TY]at hp fI;refine⟨ar,ar,_,?_,i+1,min (h+1099511627777) 1099511627777,by omega,rfl,hp,by omega,?_,by simp⟩
     .omega
     .rw[show(if 1099511627777<h+1099511627777 then 1099511627777 else h+1099511627777)=min (h+1099511627777) 1099511627777 by split<;>omega]
  .have:i=l.length:=by omega
   refine Tf ⟨rfl,?_⟩;rw[hp,this,uY];rfl
open Go.Proofs
def FC{P:Program}{n:Nat}{Q:St->Prop}{k:List It}{O:Tx P}{f:Nat}{d:Option Nat}{l:List aU}{v:Nat->V}{ob:Ob}{s:Nat->V}{U:al}{e:Nat}
 (h:∀id Z',aa (del U e) Z'->Z' id=some ob->U id=none->step P O n f (.d l k) ⟨bb s d (v id),Z'⟩ Q):
 DJ P O n f l k d ⟨s,U⟩ Q (some λid=>(v id,Vc.C' (del U e) id ob)):=by
 rw[aJ];refine λid L'=>h id _ ((aa.refl _).C' ?_) aA L';by_cases e':id=e
 .simp[del,e']
 .rw[eV e'];exact L'
def zu{P:Program}{n:Nat}{Q:St->Prop}{k:List It}{O:Tx P}{f:Nat}{d:Option Nat}{l:List aU}{v:Nat->V}{ob:Ob}{s:Nat->V}{U:al}{e:Nat}
 (h:∀id Z',aa (del U e) Z'->Z' id=some ob->U id=none->step P O n f (.r (.ops l::k)) ⟨bb s d (v id),Z'⟩ Q):
 EJ P O n f l k d ⟨s,U⟩ Q (some λid=>(v id,Vc.C' (del U e) id ob)):=by
 rw[aH];refine λid L'=>h id _ ((aa.refl _).C' ?_) aA L';by_cases e':id=e
 .simp[del,e']
 .rw[eV e'];exact L'
def mP(K U:al)(v:V)(ends:List Int)(B:Nat):Prop:=
 (v=.bl/\ends=[])\/∃(e k:Nat) (full:List Int),v=.own e 0 k/\U e=some ⟨3,1,full.map vI⟩/\K e=none/\k<=full.length/\full.length<=B/\full.take k=ends
def N4{K U:al}{v:V}{ends:List Int}{B c:Nat}{i:Int}(hB:B<=1000000000000)(h:mP K U v ends B)(hK:aa K U)(hc:K c=some ⟨3,1,[vI i]⟩):
 aG prog 139 [v,.fn 140 [.ptr c 0 0]] U λr Z'=>aa K Z'/\mP K Z' r (kept i ends) B:=by
 rcases h with⟨rfl,rfl⟩|⟨e,k,full,rfl,h1,h2,h3,h4,rfl⟩
 .refine(B6 (hK _ _ hc)).mono ?_;rintro r Z' ⟨rfl,rfl⟩;exact⟨hK,.inl ⟨rfl,rfl⟩⟩
 .have Sh:c≠e:=by rintro rfl;rw[h2]at hc;cases hc
  refine(FK h1 (hK _ _ hc) Sh h3 (by omega)).mono ?_;rintro r Z' ⟨k',XU,rfl,rfl,g1,g2,g3⟩;exact⟨hK.aL h2,.inr ⟨e,k',XU,rfl,aA,h2,g1,by omega,g3⟩⟩
def aa.I7{K U:al}{i:Nat}{o:Ob}(h:aa K U)(hi:U i=some o):aa (Vc.C' K i o) U:=λj x hx=>by
 by_cases e:j=i
 .subst e;rw[aA]at hx;rw[hi];exact hx
 .rw[ad e]at hx;exact h j x hx
def mP.new{K U Z':al}{v:V}{ends:List Int}{B id:Nat}{o:Ob}(h:mP K U v ends B)(hs:aa U Z')(L':U id=none):mP (C' K id o) Z' v ends B:=by
 rcases h with h|⟨e,k,full,h0,h1,h2,h3⟩
 .exact .inl h
 .exact .inr ⟨e,k,full,h0,hs _ _ h1,by rw[ad (bf h1 L')];exact h2,h3⟩
def mP.less{K K' U:al}{v:V}{ends:List Int}{B:Nat}(h:mP K' U v ends B)(hs:aa K K'):mP K U v ends B:=by
 rcases h with h|⟨e,k,full,h0,h1,h2,h3⟩
 .exact .inl h
 .exact .inr ⟨e,k,full,h0,h1,hs.none h2,h3⟩
def Kg{K U:al}{v:V}{ends:List Int}{B c i:Nat}{x:Nd}{s:Sm}(hK:aa K U)(hKc:K c=none)(hc:U c=some (dD s v))(hE:∀o,mP (C' K c o) U v ends B)(hB:B<=1000000000)
 (hi:i<=10000)(hs:s.qQ i)(hsn:s.nodes=i)(hx:x.ok=true)(hw:x.words.length<=200000000000000)(TU:1<=x.size/\x.size<=1000000000):
 aG prog 110 [.ptr c 0 0,vI i,ie x] U λr Z'=>r=.Sa []/\aa K Z'/\∃v',Z' c=some (dD (fV i x s ends).1 v')/\∀o,mP (C' K c o) Z' v' (fV i x s ends).2 (B+1):=by
 refine QQ.q ?_;refine mS 7 ?_;simp only[go_sem,seval,MB,ie,Nd.cells];refine aF λU6 Z1 s1 a4 f4=>?_;have YV:=s1 _ _ hc;have n4c:=bf hc f4;simp only[go_sem,seval,a4];refine aF λWg Z2 s2 a5 f5=>?_;have ZC:=s2 _ _ YV;have n5c:=bf YV f5;have n54:=bf a4 f5;have a4:=s2 _ _ a4;have hK2:=(hK.trans s1).trans s2;have k4:K U6=none:=hK.none f4;have k5:K Wg=none:=(hK.trans s1).none f5;simp only[go_sem,seval,ZC,dD,a4,a5];have hK':aa (C' (C' (C' K c (dD s v)) U6 ⟨3,1,[vI i]⟩) Wg ⟨59,20,[ie x]⟩) Z2:=((hK2.I7 ZC).I7 a4).I7 a5;have hE':mP (C' (C' (C' K c (dD s v)) U6 ⟨3,1,[vI i]⟩) Wg ⟨59,20,[ie x]⟩) Z2 v ends B:=((hE _).new s1 f4).new s2 f5;refine TX rfl (N4 (by omega) hE' hK' (by rw[ad n54,aA])) ?_;rintro r Z3 ⟨hK3,hE3⟩;have UJ:=hK3 c _ (by rw[ad n5c,ad n4c,aA]);have a4:=hK3 U6 _ (by rw[ad n54,aA]);have a5:=hK3 Wg _ aA;simp only[ie,Nd.cells]at a5;simp only[dD]at UJ;have hKK:=(((aa.refl K).aL hKc (o:=dD s v)).aL k4 (o:=⟨3,1,[vI i]⟩)).aL k5 (o:=⟨59,20,[ie x]⟩);have h3:=hKK.trans hK3;have hsr:Sn .i64 (s.nodes+1):=ar;obtain⟨p1,p2,p3,p4,p5,p6⟩:=jO hx;obtain⟨f1,f2,f3⟩:=hs;rcases hE3 with⟨rfl,Wh⟩|⟨e,k,full,rfl,he,hKe,hk,hfl,Wh⟩
 .by_cases Tt:x.kind=1
  .apply sR;simp only[go_sem,seval,a4,a5,UJ,ad n4c.symm,ad n5c.symm,Tt];refine⟨hsr,ar,?_⟩;refine bM λid8 Z4 s4 a8 f8=>?_;have hc4:=s4 c _ aA;have a4:=s4 U6 _ (by rw[ad n4c.symm];exact a4);have a5:=s4 Wg _ (by rw[ad n5c.symm];exact a5);have hs8:∀U,U id8=some ⟨3,1,[.int .i64 (i+x.size)]⟩->cy U 1 (.own id8 0 1)=some [.int .i64 (i+x.size)]:=by
    intro U Su;simp only[cy,Su];rw[aI (by simp)];simp
   have hd:∀U,bX U 3 1 .bl=some ([],none):=λ_=>rfl;simp only[go_sem,seval,hs8,a8,hd,bW,Nat.reduceLeDiff];refine bM λXr Z5 s5 a9 f9=>?_;have hc5:=s5 c _ hc4;have a4:=s5 U6 _ a4;have a5:=s5 Wg _ a5;have n9c:Xr≠c:=by rintro rfl;rw[hc4]at f9;cases f9
   have n95:Xr≠Wg:=by rintro rfl;rw[s4 Xr _ (by rw[ad n5c.symm];exact hK3 Xr _ aA)]at f9;cases f9
   simp only[go_sem,seval,hc5,a4,a5,a9,ad n5c.symm,ad n9c];refine aF λXq Z6 s6 a6 f6=>?_;have hc6:=s6 c _ aA;have a9:=s6 Xr _ (by rw[ad n9c];exact a9);have n6c:Xq≠c:=by rintro rfl;rw[hc6]at a6;simp at a6
   have Yp:Xq≠Xr:=by rintro rfl;rw[a9]at a6;simp at a6
   simp only[go_sem,seval,a6];refine aF λid84 Z7 s7 a84 f84=>?_;have Zl:=s7 c _ (by rw[ad n6c.symm];exact hc6);have a9:=s7 Xr _ (by rw[ad Yp.symm];exact a9);have n84c:id84≠c:=by rintro rfl;rw[Zl]at a84;simp at a84
   simp only[go_sem,seval];have h4:=(h3.aL hKc).trans s4;have h5:=h4.trans s5;have k9:K Xr=none:=h4.none f9;have h6':=λo=>h5.aL hKc (o:=o);have k6:K Xq=none:=(h6' _).none f6;have h7:=(((h6' _).trans s6).aL k6).trans s7;obtain⟨q1,q2,q3,q4,q5⟩:=p6 Tt;have hl5:∀n∈[x.st.top,x.st.Sk,x.st.R5,x.st.O',x.st.head],0<=n/\n<=mx:=by
    intro n hn;simp only[ew,List.not_mem_nil,or_false]at hn;rcases hn with rfl|rfl|rfl|rfl|rfl<;>assumption
   refine TX rfl (qN (s:=⟨if(1:Int)>s.depth then 1 else s.depth,s.pieces,s.nodes+1,s.M'⟩) (l:=[x.st.top,x.st.Sk,x.st.R5,x.st.O',x.st.head]) (times:=1) Zl
    (λob=>Reads.own (off:=0) (len:=5) ((ad n84c).trans a84) rfl (by simp) (λr hr=>by simp at hr;rcases hr with rfl|rfl|rfl|rfl|rfl<;>rfl)) (by simp) hl5 (by omega) f3 rfl) ?_
   rintro r Z8 ⟨rfl,rfl⟩;apply sR;simp only[go_sem,seval,aH,aJ];refine Tf ⟨rfl,h7.aL hKc,.own Xr 0 1,?_,λo=>.inr ⟨Xr,1,[i+x.size],rfl,(ad n9c).trans a9,gP.2 ⟨n9c,k9⟩,by simp,by simp,?_⟩⟩
   .have e:(if(1:Int)>s.depth then 1 else s.depth)=max s.depth 1:=by split<;>omega
    rw[aA,e];simp[fV,Tt,Wh,dD]
   .simp[fV,Tt,Wh]
  .by_cases TK:x.kind=2
   .apply sR;simp only[go_sem,seval,a4,a5,UJ,ad n4c.symm,ad n5c.symm,TK,cK];refine⟨hsr,ar,?_⟩;refine aF λid7 Z7 s7 a7 f7=>?_;have Zl:=s7 c _ aA;have n7c:id7≠c:=by rintro rfl;rw[Zl]at a7;simp at a7
    simp only[go_sem,seval];have h7:=(h3.aL hKc).trans s7;refine TX rfl (qN (s:=⟨s.depth,s.pieces+x.words.length,s.nodes+1,s.M'⟩) (l:=[x.line]) (times:=x.words.length) Zl
     (λob=>Reads.own (off:=0) (len:=1) ((ad n7c).trans a7) rfl (by simp) (λr hr=>by simp at hr;rcases hr with rfl;rfl)) (by simp) (by intro n hn;simp at hn;subst hn;exact⟨p2,p3⟩) (by omega) f3 rfl) ?_
    rintro r Z8 ⟨rfl,rfl⟩;apply sR;simp only[go_sem,seval,aH,aJ];refine Tf ⟨rfl,h7.aL hKc,_,aA.trans (by simp[fV,TK,dD];rfl),λo=>?_⟩;have:(fV i x s ends).2=kept i ends:=by simp[fV,TK]
    rw[this];exact .inl ⟨rfl,Wh⟩
   .have h4or:=p1;apply sR;simp only[go_sem,seval,a4,a5,UJ,ad n4c.symm,ad n5c.symm,Tt,TK,cK];refine⟨hsr,ar,?_⟩;refine aF λid7 Z7 s7 a7 f7=>?_;have Zl:=s7 c _ aA;have n7c:id7≠c:=by rintro rfl;rw[Zl]at a7;simp at a7
    simp only[go_sem,seval];have h7:=(h3.aL hKc).trans s7;refine TX rfl (qN (s:=⟨s.depth,s.pieces+1,s.nodes+1,s.M'⟩) (l:=[x.h]) (times:=1) Zl
     (λob=>Reads.own (off:=0) (len:=1) ((ad n7c).trans a7) rfl (by simp) (λr hr=>by simp at hr;rcases hr with rfl;rfl)) (by simp) (by intro n hn;simp at hn;subst hn;exact⟨p4,p5⟩) (by omega) f3 rfl) ?_
    rintro r Z8 ⟨rfl,rfl⟩;apply sR;simp only[go_sem,seval,aH,aJ];refine Tf ⟨rfl,h7.aL hKc,_,aA.trans (by simp[fV,Tt,TK,dD];rfl),λo=>?_⟩;have:(fV i x s ends).2=kept i ends:=by simp[fV,Tt,TK]
    rw[this];exact .inl ⟨rfl,Wh⟩
 .have Yj:e≠c:=λe'=>by rw[e',ad n5c,ad n4c,aA]at hKe;cases hKe
  have he4:e≠U6:=λe'=>by rw[e',ad n54,aA]at hKe;cases hKe
  have he5:e≠Wg:=λe'=>by rw[e',aA]at hKe;cases hKe
  have hKe0:K e=none:=hKK.none hKe;have hlk:(full.take k).length=k:=by simp;omega
  by_cases Tt:x.kind=1
  .apply sR;simp only[go_sem,seval,a4,a5,UJ,ad n4c.symm,ad n5c.symm,Tt];refine⟨hsr,ar,?_⟩;refine bM λid8 Z4 s4 a8 f8=>?_;have hc4:=s4 c _ aA;have a4:=s4 U6 _ (by rw[ad n4c.symm];exact a4);have a5:=s4 Wg _ (by rw[ad n5c.symm];exact a5);have hs8:∀U,U id8=some ⟨3,1,[.int .i64 (i+x.size)]⟩->cy U 1 (.own id8 0 1)=some [.int .i64 (i+x.size)]:=by
    intro U Su;simp only[cy,Su];rw[aI (by simp)];simp
   have he4':=s4 e _ (by rw[ad Yj];exact he);have hd:∀U,U e=some ⟨3,1,full.map vI⟩->bX U 3 1 (.own e 0 k)=some ((full.take k).map vI,some e):=by
    intro U Su;simp only[bX,Su];rw[aI ⟨trivial,trivial,trivial,by simpa using hk⟩,List.map_take]
   have UF:((full.take k).map vI).length=k:=by simpa using hlk
   have Uo:(k+1)*9<=140737488355328:=by omega
   simp only[go_sem,seval,hs8,a8,hd,he4',bW,UF,Uo];refine FC λXr Z5 s5 a9 f9=>?_;have hc5:=s5 c _ (by rw[eV Yj.symm];exact hc4);have a4:=s5 U6 _ (by rw[eV he4.symm];exact a4);have a5:=s5 Wg _ (by rw[eV he5.symm];exact a5);have n9c:Xr≠c:=by rintro rfl;rw[hc4]at f9;cases f9
   have n95:Xr≠Wg:=by rintro rfl;rw[s4 Xr _ (by rw[ad n5c.symm];exact hK3 Xr _ aA)]at f9;cases f9
   simp only[go_sem,seval,hc5,a4,a5,a9,ad n5c.symm,ad n9c];refine aF λXq Z6 s6 a6 f6=>?_;have hc6:=s6 c _ aA;have a9:=s6 Xr _ (by rw[ad n9c];exact a9);have n6c:Xq≠c:=by rintro rfl;rw[hc6]at a6;simp at a6
   have Yp:Xq≠Xr:=by rintro rfl;rw[a9]at a6;simp at a6
   simp only[go_sem,seval,a6];refine aF λid84 Z7 s7 a84 f84=>?_;have Zl:=s7 c _ (by rw[ad n6c.symm];exact hc6);have a9:=s7 Xr _ (by rw[ad Yp.symm];exact a9);have n84c:id84≠c:=by rintro rfl;rw[Zl]at a84;simp at a84
   simp only[go_sem,seval];have h4:=(h3.aL hKc).trans s4;have h4':=h4.uL hKe0;have h5:=h4'.trans s5;have k9:K Xr=none:=h4.none f9;have h6':=λo=>h5.aL hKc (o:=o);have k6:K Xq=none:=(h6' _).none f6;have h7:=(((h6' _).trans s6).aL k6).trans s7;obtain⟨q1,q2,q3,q4,q5⟩:=p6 Tt;have hl5:∀n∈[x.st.top,x.st.Sk,x.st.R5,x.st.O',x.st.head],0<=n/\n<=mx:=by
    intro n hn;simp only[ew,List.not_mem_nil,or_false]at hn;rcases hn with rfl|rfl|rfl|rfl|rfl<;>assumption
   refine TX rfl (qN (s:=⟨if((k+1:Nat):Int)>s.depth then((k+1:Nat):Int)else s.depth,s.pieces,s.nodes+1,s.M'⟩) (l:=[x.st.top,x.st.Sk,x.st.R5,x.st.O',x.st.head]) (times:=1) Zl
    (λob=>Reads.own (off:=0) (len:=5) ((ad n84c).trans a84) rfl (by simp) (λr hr=>by simp at hr;rcases hr with rfl|rfl|rfl|rfl|rfl<;>rfl)) (by simp) hl5 (by omega) f3 rfl) ?_
   rintro r Z8 ⟨rfl,rfl⟩;apply sR;simp only[go_sem,seval,aH,aJ];refine Tf ⟨rfl,h7.aL hKc,.own Xr 0 (k+1),?_,λo=>.inr ⟨Xr,k+1,full.take k++[i+x.size],rfl,((ad n9c).trans a9).trans (by simp),gP.2 ⟨n9c,k9⟩,by simp;omega,by simp;omega,?_⟩⟩
   .have e:(if((k+1:Nat):Int)>s.depth then((k+1:Nat):Int)else s.depth)=max s.depth ((k+1:Nat):Int):=by split<;>omega
    rw[aA,e];have hk0':kept i ends=full.take k:=Wh.symm;simp[fV,Tt,hk0',hlk,dD,Nat.min_eq_left hk]
   .have hk0':kept i ends=full.take k:=Wh.symm;rw[qq (by simp;omega)];simp[fV,Tt,hk0']
  .by_cases TK:x.kind=2
   .apply sR;simp only[go_sem,seval,a4,a5,UJ,ad n4c.symm,ad n5c.symm,TK,cK];refine⟨hsr,ar,?_⟩;refine aF λid7 Z7 s7 a7 f7=>?_;have Zl:=s7 c _ aA;have n7c:id7≠c:=by rintro rfl;rw[Zl]at a7;simp at a7
    simp only[go_sem,seval];have h7:=(h3.aL hKc).trans s7;refine TX rfl (qN (s:=⟨s.depth,s.pieces+x.words.length,s.nodes+1,s.M'⟩) (l:=[x.line]) (times:=x.words.length) Zl
     (λob=>Reads.own (off:=0) (len:=1) ((ad n7c).trans a7) rfl (by simp) (λr hr=>by simp at hr;rcases hr with rfl;rfl)) (by simp) (by intro n hn;simp at hn;subst hn;exact⟨p2,p3⟩) (by omega) f3 rfl) ?_
    rintro r Z8 ⟨rfl,rfl⟩;apply sR;simp only[go_sem,seval,aH,aJ];refine Tf ⟨rfl,h7.aL hKc,_,aA.trans (by simp[fV,TK,dD];rfl),λo=>?_⟩;have:(fV i x s ends).2=kept i ends:=by simp[fV,TK]
    rw[this];exact .inr ⟨e,k,full,rfl,(ad Yj).trans (s7 e _ (by rw[ad Yj];exact he)),gP.2 ⟨Yj,hKe0⟩,hk,by omega,Wh⟩
   .have h4or:=p1;apply sR;simp only[go_sem,seval,a4,a5,UJ,ad n4c.symm,ad n5c.symm,Tt,TK,cK];refine⟨hsr,ar,?_⟩;refine aF λid7 Z7 s7 a7 f7=>?_;have Zl:=s7 c _ aA;have n7c:id7≠c:=by rintro rfl;rw[Zl]at a7;simp at a7
    simp only[go_sem,seval];have h7:=(h3.aL hKc).trans s7;refine TX rfl (qN (s:=⟨s.depth,s.pieces+1,s.nodes+1,s.M'⟩) (l:=[x.h]) (times:=1) Zl
     (λob=>Reads.own (off:=0) (len:=1) ((ad n7c).trans a7) rfl (by simp) (λr hr=>by simp at hr;rcases hr with rfl;rfl)) (by simp) (by intro n hn;simp at hn;subst hn;exact⟨p4,p5⟩) (by omega) f3 rfl) ?_
    rintro r Z8 ⟨rfl,rfl⟩;apply sR;simp only[go_sem,seval,aH,aJ];refine Tf ⟨rfl,h7.aL hKc,_,aA.trans (by simp[fV,Tt,TK,dD];rfl),λo=>?_⟩;have:(fV i x s ends).2=kept i ends:=by simp[fV,Tt,TK]
    rw[this];exact .inr ⟨e,k,full,rfl,(ad Yj).trans (s7 e _ (by rw[ad Yj];exact he)),gP.2 ⟨Yj,hKe0⟩,hk,by omega,Wh⟩
open Go.Proofs
def zN(l:List Nd)(hl:dN l):aX prog 76 [aQ l] (.Sa [.agg (gy l).1.cells,vI (gy l).2]):=λU=>by
 have hl0:=hl;obtain⟨hl1,ZG⟩:=hl;rw[<-D7 l hl0];refine e76.q ?_;refine mS 7 ?_;simp only[go_sem,seval,c76];refine aF λYI Z1 s1 aR fR=>?_;simp only[go_sem,seval,aR];refine pS rfl (C9 l hl0 _) ?_;simp only[go_sem,seval,iU,aR];refine And.intro (λhf=>?_) (λhf=>?_)
 .simp only[Bool.not_eq_eq_eq_not,Bool.not_true]at hf;refine aD.pure (s1.aL fR) ?_;simp[xT,hf,Sm.cells]
 .simp only[Bool.not_eq_eq_eq_not,Bool.not_false]at hf;refine aF λU6 Z2 s2 a4 f4=>?_;have nR4:=bf aR f4;have aR:=s2 _ _ aR;have g4:U U6=none:=s1.none f4;have hKR:aa (C' U YI ⟨120,4,[.agg Sm.zero.cells]⟩) Z2:=(s1.trans s2).I7 aR;have k4:C' U YI ⟨120,4,[.agg Sm.zero.cells]⟩ U6=none:=gP.2 ⟨nR4.symm,g4⟩;simp only[go_sem,seval,bT];refine ay.loop (λm st=>∃(i:Nat) (v:V),i<=l.length/\m=l.length-i/\aa (C' U YI ⟨120,4,[.agg Sm.zero.cells]⟩) st.U/\st.U U6=some (dD (ju l i).1 v)/\
   (∀o,mP (C' (C' U YI ⟨120,4,[.agg Sm.zero.cells]⟩) U6 o) st.U v (ju l i).2 i)/\st.s 2=.ptr YI 0 0/\st.s 4=.ptr U6 0 0/\st.s 11=aQ l/\st.s 12=vI l.length/\st.s 13=vI i) l.length ?_ ?_
  .exact⟨0,.bl,by omega,by omega,hKR,a4,λo=>.inl ⟨rfl,rfl⟩,rfl,rfl,rfl,rfl,rfl⟩
  .rintro m ⟨s,Z'⟩ ⟨i,v,hi,rfl,G',h4s,hE,h2,h4,Xs,h12,h13⟩;simp only at G' h4s hE h2 h4 Xs h12 h13;obtain⟨e1,e2,e3,e4⟩:=nx l hl0 hf i hi;have Se:l.all Nd.ok=true/\bE l 0 l.length=true:=by simpa[SA]using hf
   have hRs:Z' YI=some ⟨120,4,[.agg Sm.zero.cells]⟩:=G' YI _ aA;refine mS 7 ?_;simp only[go_sem,seval,h2,h4,Xs,h12,h13,h4s,dD,hRs,Sm.zero,Sm.cells];refine And.intro (λu'=>?_) (λVe=>?_)
   .have SX:i<l.length:=by omega
    have hx:=(gj.1 Se.1) _ (SU SX);have hxw:=ZG _ (SU SX);obtain⟨z1,z2,z3⟩:=iQ l (l.length+1) 0 l.length (by omega) (by omega) Se.2 i (by omega) SX SX;have VW:ju l (i+1)=fV i l[i] (ju l i).1 (ju l i).2:=by simp[ju,SX]
    generalize Wf:l[i]=x at*;simp only[go_sem,seval,gZ SX,Wf,h2,h4,Xs,h12,h13,Nd.cells];refine aF λXq Z6 s6 a6 f6=>?_;have n64:Xq≠U6:=by rintro rfl;rw[h4s]at f6;cases f6
    have n6R:Xq≠YI:=by rintro rfl;rw[hRs]at f6;cases f6
    have g6:C' U YI ⟨120,4,[.agg Sm.zero.cells]⟩ Xq=none:=G'.none f6;simp only[go_sem,seval,a6,h2,h4,Xs,h12,h13];have hsub6:=G'.trans s6;have UK:=(Kg (K:=C' U YI ⟨120,4,[.agg Sm.zero.cells]⟩) (U:=C' Z6 Xq ⟨59,20,[ie x]⟩) (i:=i) (x:=x) (s:=(ju l i).1) (B:=i) (hsub6.aL g6) k4 ((ad n64.symm).trans (s6 _ _ h4s))
     (λo=>((hE o).new (s6.aL f6) f6 (o:=⟨0,0,[]⟩)).less ((aa.refl _).aL (gP.2 ⟨n64,g6⟩))) (by omega) (by omega) (by rw[e1];exact e3) (by rw[e1]) hx hxw (by omega))
    simp only[ie,Nd.cells]at UK;refine TX rfl (by simp only[go_sem,seval,aH,aJ,h4];exact UK) ?_
    .rintro r Z7 ⟨rfl,hK7,v',h4',hE'⟩;apply sR;simp only[go_sem,seval,aH,aJ,h2,h4,Xs,h12,h13];refine⟨ar,_,?_,i+1,v',by omega,rfl,hK7,?_,?_,?_⟩
     .omega
     .rw[VW,h4'];rfl
     .intro o;rw[VW];exact hE' o
     .simp
   .have Uv:i=l.length:=by omega
    subst Uv;refine aD.pure ((((aa.refl U).aL fR).trans G').aL fR) ?_;simp[xT,hf,Sm.cells]
open Go.Proofs
def Al:((2:Nat):Int)=2:=rfl
def Ae:((3:Nat):Int)=3:=rfl
def zp:((4:Nat):Int)=4:=rfl
def zA(l:List Nd)(hl:dN l):aX prog 75 [aQ l] (vI (eC l)):=λU=>by
 refine e75.q ?_;refine mS 8 ?_;simp only[go_sem,seval,c75];refine pS rfl (zN l hl _) ?_;simp only[go_sem,seval,Sm.cells];refine aF λid3 Z1 s1 a3 f3=>?_;have G':=λo=>s1.aL f3 (o:=o);simp only[go_sem,seval,a3];have hc:(gy l).2=if SA l then 0 else 4:=by unfold gy;split<;>rfl
 refine And.intro (λh=>?_) (λh=>?_)
 .refine aD.pure (G' _) ?_;have:SA l=false:=by
   rw[hc]at h;cases hb:SA l<;>simp_all
  simp[eC,this,hc]
 .have hb:SA l=true:=by
   rw[hc]at h;cases hb:SA l<;>simp_all
  have hR:eC l=if(gy l).1.depth>16\/(gy l).1.pieces>2000\/(gy l).1.nodes>2000\/(gy l).1.M'>1099511627776 then 2 else 0:=by
   simp only[eC,hb,if_true]
  generalize (gy l).1=sm at*;refine aF λWg Z2 s2 a5 f5=>?_;have U2:=(G' _).trans s2;have g5:U Wg=none:=(G' _).none f5;simp only[go_sem,seval,a5];refine ay.loop (λm st=>∃(i:Nat),i<=4/\m=4-i/\st.U=C' Z2 Wg ⟨163,4,[.agg sm.cells]⟩/\(0<i->sm.depth<=16)/\(1<i->sm.pieces<=2000)/\(2<i->sm.nodes<=2000)/\(3<i->sm.M'<=1099511627776)/\
   st.s 5=.ptr Wg 0 0/\st.s 25=.agg [vI 16,vI 2000,vI 2000,vI 1099511627776]/\st.s 26=vI i) 4 ?_ ?_
  .exact⟨0,by omega,by omega,rfl,by omega,by omega,by omega,by omega,rfl,rfl,rfl⟩
  .rintro m ⟨s,Z'⟩ ⟨i,hi,rfl,Su,p1,p2,p3,p4,h5,h25,h26⟩;simp only at Su h5 h25 h26;subst Su;have ZE:i=0\/i=1\/i=2\/i=3\/i=4:=by omega
   have Zh:∀(p:Prop),p->p:=λ_ h=>h;rcases ZE with rfl|rfl|rfl|rfl|rfl
   .refine mS 8 ?_;simp only[go_sem,seval,aH,aJ,h5,h25,h26,Sm.cells,Int.ofNat_zero,Int.natCast_zero,Al,Ae,zp,Int.toNat_zero,Int.reduceToNat,Nat.zero_mul];refine And.intro (λg=>?_) (λg=>?_)
    .refine aD.pure (U2.aL g5) ?_;rw[hR,aI];omega
    .refine⟨ar,_,?_,1,by omega,rfl,?_,?_,?_,?_,rfl⟩<;>omega
   .refine mS 8 ?_;simp only[go_sem,seval,aH,aJ,h5,h25,h26,Sm.cells,Int.ofNat_zero,Int.natCast_zero,Int.natCast_one,Int.toNat_one,Al,Ae,zp,Int.toNat_zero,Int.reduceToNat,Nat.zero_mul,Nat.reduceMul];refine And.intro (λg=>?_) (λg=>?_)
    .refine aD.pure (U2.aL g5) ?_;rw[hR,aI];omega
    .refine⟨ar,_,?_,2,by omega,rfl,?_,?_,?_,?_,rfl⟩<;>omega
   .refine mS 8 ?_;simp only[go_sem,seval,aH,aJ,h5,h25,h26,Sm.cells,Int.ofNat_zero,Int.natCast_zero,Int.natCast_one,Int.toNat_one,Al,Ae,zp,Int.toNat_zero,Int.reduceToNat,Nat.zero_mul,Nat.reduceMul];refine And.intro (λg=>?_) (λg=>?_)
    .refine aD.pure (U2.aL g5) ?_;rw[hR,aI];omega
    .refine⟨ar,_,?_,3,by omega,rfl,?_,?_,?_,?_,rfl⟩<;>omega
   .refine mS 8 ?_;simp only[go_sem,seval,aH,aJ,h5,h25,h26,Sm.cells,Int.ofNat_zero,Int.natCast_zero,Int.natCast_one,Int.toNat_one,Al,Ae,zp,Int.toNat_zero,Int.reduceToNat,Nat.zero_mul,Nat.reduceMul];refine And.intro (λg=>?_) (λg=>?_)
    .refine aD.pure (U2.aL g5) ?_;rw[hR,aI];omega
    .refine⟨ar,_,?_,4,by omega,rfl,?_,?_,?_,?_,rfl⟩<;>omega
   .refine mS 8 ?_;simp only[go_sem,seval,aH,aJ,h5,h25,h26,Sm.cells,Int.ofNat_zero,Int.natCast_zero,Int.natCast_one,Al,Ae,zp,Int.toNat_zero,Int.reduceToNat,Nat.zero_mul];refine aD.pure (U2.aL g5) ?_;rw[hR,aK];omega
open Go.Proofs
def wu(U:al)(l:List Int):dr U false 1 (.rp (aZ l))=some (aZ l):=rfl
end Go.Vc
