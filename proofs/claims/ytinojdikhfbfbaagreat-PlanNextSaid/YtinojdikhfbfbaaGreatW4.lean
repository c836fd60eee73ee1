import Derived.Test.YtinojdikhfbfbaaGreatW3
set_option linter.all false
set_option maxHeartbeats 8000000
set_option maxRecDepth 100000
open Go.Proofs.Tryz
namespace Go.Vc
open Go.Proofs
def FF(n a b:Int):aV prog 158 [vI n,vI a,vI b] (.bool (decide (n>=a/\n<=b))):=λU=>by
 refine Qt.q ?_;apply sR;simp only[go_sem,seval,aH,aJ,M0];constructor<;>intro h<;>exact az.same (by simp[h])
def Lj(a b:Int)(h1:0<=a/\a<=1099511627777)(h2:-1000000000000000000<=b/\b<=9000000000000000000):aV prog 105 [vI a,vI b] (vI (min (a+b) 1099511627777)):=λU=>by
 refine PJ.q ?_;apply sR;simp only[go_sem,seval,aH,aJ,LL];refine⟨ao,?_⟩;exact az.same (by simp only[vI,V.int.injEq,true_and];omega)
open Go.Proofs
def cX(p:Int->Bool):List Int->Int
 |[]=>-1
 |x::l=>if p x then 0 else if cX p l<0 then -1 else cX p l+1
def qy(p:Int->Bool)(i:Nat)(l:List Int):Int:=if cX p l<0 then -1 else cX p l+i
def jv(p:Int->Bool):∀l,-1<=cX p l
 |[]=>by simp[cX]
 |x::l=>by
  have:=jv p l;simp only[cX];split
  .omega
  .split<;>omega
def DW(p:Int->Bool)(l:List Int):cX p l=qy p 0 l:=by
 have:=jv p l;unfold qy;split<;>omega
def nB{U:ak}{sv:V}{l:List Int}{f:FuncId}{caps:List V}{p:Int->Bool}(hr:Reads U 1 false sv (l.map vI))(hl:l.length<=200000000000000)
 (hf:∀n∈l,aB prog f (vI n::caps) U λr Z'=>r=.bool (p n)/\Z'=U):
 aB prog 170 [sv,.fn f caps] U λr Z'=>r=vI (cX p l)/\Z'=U:=by
 have hlen:ej false sv=some (vI (l.length:Int)):=by simpa using hr.1
 refine Qn.q ?_;apply sR;simp only[go_sem,seval,aH,aJ,Mg,hlen];refine aq.loop (λm st=>∃i:Nat,i<=l.length/\m=l.length-i/\cX p l=qy p i (l.drop i)/\st.U=U/\st.s 0=sv/\st.s 1=.fn f caps/\st.s 7=vI l.length/\st.s 8=vI i) l.length ?_ ?_
 .exact⟨0,by omega,by omega,DW p l,rfl,rfl,rfl,rfl,rfl⟩
 .rintro m ⟨s,Z'⟩ ⟨i,hi,rfl,hp,R8,h0,h1,h7,h8⟩;simp only at h0 h1 h7 h8 R8;subst R8;apply sR;simp only[go_sem,seval,aH,aJ,h0,h1,h7,h8];constructor
  .intro u';have Sz:i<l.length:=by omega
   have hd:l.drop i=l[i]::l.drop (i+1):=jM Sz;obtain⟨pp,e1,e2⟩:=hr.2 i (vI l[i]) (by simp[Sz]);simp only[go_sem,seval,aH,aJ,e1,e2,uw];refine pS rfl (hf l[i] (Sx Sz)) ?_;simp only[go_sem,seval,aH,aJ,h0,h1,h7,h8];cases hpx:p l[i]
   .simp only[go_sem,seval,aH,aJ,h8];refine⟨ao,_,?_,i+1,by omega,rfl,?_,h0,h1,h7,?_⟩
    .omega
    .rw[hp,hd];simp only[qy,cX,hpx,iP,if_false];have:=jv p (l.drop (i+1))
     repeat' split
     all_goals omega
    .simp
   .simp only[go_sem,seval,aH,aJ];refine az.same ?_;rw[hp,hd];simp[qy,cX,hpx]
  .intro U1;have:i=l.length:=by omega
   refine az.same ?_;rw[hp,this,vU];rfl
open Go.Proofs
def o1(f:FuncId)(args:List V):Option V:=if f=158 then(match args with
 |[.int .i64 n,.int .i64 a,.int .i64 b]=>some (.bool (decide (n>=a/\n<=b)))
 |_=>none)else none
def O1:Th prog where
 get f args _:=o1 f args
 ok f args U v h:=by
  unfold o1 at h;split at h
  .rename_i hf;subst hf;split at h
   .simp only[bf]at h;subst h;exact FF _ _ _ U
   .cases h
  .cases h
def Lw(n a b:Int)(U:ak):O1.get 158 [.int .i64 n,.int .i64 a,.int .i64 b] U=some (.bool (decide (n>=a/\n<=b))):=rfl
def EV(s:S1):aV prog 157 [.agg s.cells] (.bool s.ok):=λU=>by
 refine O0.q ?_;refine aq.mix 4 ?_
 (refine aq.bx O1 300 ?_;simp only[go_sem,seval,aH,aJ,Od,S1.cells,Lw])
 intro id L'
 repeat' (first
  |with_reducible refine And.intro (λh=>?_) (λh=>?_)
  |with_reducible refine az.pure ((aa.refl U).C' L') ?_)
 all_goals simp only[go_sem,seval,aH,aJ,S1.ok,bc,mx,V.bool.injEq]
 all_goals (rw[Bool.eq_iff_iff];simp[*])
open Go.Proofs
def Nd.ok(x:Nd):Bool:=
 if x.kind=1 then x.st.ok&&decide (x.line=0)&&decide (x.space=0)&&decide (x.words.length=0)&&decide (x.side=0)&&decide (x.w=0)&&decide (x.h=0)
 else if x.st≠S1.zero then false
 else if x.kind=2 then x.words.all (bc · 1 mx)&&decide (0<x.words.length)&&bc x.line 1 mx&&bc x.space 0 mx&&decide (x.side=0)&&decide (x.w=0)&&decide (x.h=0)
 else decide (x.line=0)&&decide (x.space=0)&&decide (x.words.length=0)&&bc x.w 1 mx&&bc x.h 1 mx&&
  (decide (x.kind=3)&&decide (x.side=0)||decide (x.kind=4)&&bc x.side 1 2)
def o4(f:FuncId)(args:List V):Option V:=if f=158 then(match args with
 |[.int .i64 n,.int .i64 a,.int .i64 b]=>some (.bool (decide (n>=a/\n<=b)))
 |_=>none)else if f=157 then(match args with
 |[.agg [.int .i64 a,.int .i64 b,.int .i64 c,.int .i64 d,.int .i64 e,.int .i64 f,.int .i64 g,.int .i64 h,.int .i64 i,.int .i64 j,.int .i64 k,.int .i64 l]]=>some (.bool (S1.ok ⟨a,b,c,d,e,f,g,h,i,j,k,l⟩))
 |_=>none)else none
def O4:Th prog where
 get f args _:=o4 f args
 ok f args U v h:=by
  unfold o4 at h;split at h
  .rename_i hf;subst hf;split at h
   .simp only[bf]at h;subst h;exact FF _ _ _ U
   .cases h
  .split at h
   .rename_i hf;subst hf;split at h
    .simp only[bf]at h;subst h;exact EV ⟨_,_,_,_,_,_,_,_,_,_,_,_⟩ U
    .cases h
   .cases h
def Ha(n a b:Int)(U:ak):O4.get 158 [.int .i64 n,.int .i64 a,.int .i64 b] U=some (.bool (decide (n>=a/\n<=b))):=rfl
def L8(a b c d e f g h i j k l:Int)(U:ak):O4.get 157 [.agg [.int .i64 a,.int .i64 b,.int .i64 c,.int .i64 d,.int .i64 e,.int .i64 f,.int .i64 g,.int .i64 h,.int .i64 i,.int .i64 j,.int .i64 k,.int .i64 l]] U=
 some (.bool (S1.ok ⟨a,b,c,d,e,f,g,h,i,j,k,l⟩)):=rfl
def cC(l:List Int):ej false (aX l)=some (.int .i64 l.length):=by simp[aX,ej]
def pG(b:Bool):V.bool b=V.bool (decide (b=true)):=by cases b<;>rfl
def FB(p:Int->Bool)(l:List Int)(i:Nat)(h:i<l.length):(l.take (i+1)).all p=((l.take i).all p&&p l[i]):=by
 rw[U0 h,List.all_append];simp
def uY{U:ak}{l:List Int}{i:Nat}(h:i<l.length):bG U 1 (aX l) (.int .i64 i)=some (.rp (.int .i64 l[i])):=by
 simp[aX,bG,h]
def Oq(x:Nd)(hl:x.words.length<=200000000000000):aV prog 126 [gz x] (.bool x.ok):=λU=>by
 refine Re.q ?_;refine aq.mix 5 ?_
 (refine aq.bx O4 300 ?_;simp only[go_sem,seval,aH,aJ,Oh,gz,Nd.cells,Ha,L8,iz,pG (S1.ok _),cC])
 intro id L';have G':=(aa.refl U).C' L' (o:=⟨59,20,[gz x]⟩);have hz:x.st=S1.zero↔(x.st.top=0/\x.st.RX=0/\x.st.RH=0/\x.st.O'=0/\x.st.Si=0/\x.st.RL=0/\x.st.RY=0/\x.st.head=0/\x.st.before=0/\x.st.after=0/\x.st.inside=0/\x.st.clear=0):=by
  cases h:x.st;simp[S1.zero]
 refine And.intro (λhk=>?_) (λhk=>And.intro (λhs=>?_) (λhs=>And.intro (λTi=>?_) (λTi=>?_)))
 .have RP:x.ok=(x.st.ok&&decide (x.line=0)&&decide (x.space=0)&&decide (x.words.length=0)&&decide (x.side=0)&&decide (x.w=0)&&decide (x.h=0)):=by simp[Nd.ok,hk]
  rw[RP]
  repeat' (first
   |with_reducible refine And.intro (λh=>?_) (λh=>?_)
   |with_reducible refine az.pure ((aa.refl U).C' L') ?_)
  all_goals simp only[go_sem,seval,aH,aJ,V.bool.injEq]
  all_goals (rw[Bool.eq_iff_iff];simp_all)
 .refine az.pure G' ?_;have:x.st≠S1.zero:=by rw[Ne,hz];simp at hs;intro h;simp_all
  have h1:x.kind≠1:=by simpa using hk
  simp[Nd.ok,h1,this]
 .have RR:x.st=S1.zero:=by rw[hz];simp at hs;simp_all
  have RP:x.ok=(x.words.all (bc · 1 mx)&&decide (0<x.words.length)&&bc x.line 1 mx&&bc x.space 0 mx&&decide (x.side=0)&&decide (x.w=0)&&decide (x.h=0)):=by simp[Nd.ok,Ti,RR]
  refine aq.loop (λm st=>∃i:Nat,i<=x.words.length/\m=x.words.length-i/\(x.words.take i).all (bc · 1 mx)=true/\st.U=C' U id ⟨59,20,[gz x]⟩/\st.s 1=.ptr id 0 0/\st.s 3=vI mx/\st.s 4=vI i) x.words.length ?_ ?_
  .exact⟨0,by omega,by omega,by simp,rfl,rfl,rfl,rfl⟩
  .rintro m ⟨s,Z'⟩ ⟨i,hi,rfl,hp,R8,h1,h3,h4⟩;simp only at h1 h3 h4 R8;subst R8;refine aq.mix 5 ?_
   (refine aq.bx O4 300 ?_;simp only[go_sem,seval,aH,aJ,h1,h3,h4,gz,Nd.cells,Ha,iz,cC,mx])
   refine And.intro (λu'=>?_) (λU1=>?_)
   .have Sz:i<x.words.length:=by omega
    have ht:=FB (bc · 1 mx) x.words i Sz;rw[hp,Bool.true_and]at ht;simp only[go_sem,seval,aH,aJ,uY Sz,Ha,h1,h3,h4,mx,iz];refine And.intro (λhw=>?_) (λhw=>?_)
    .refine az.pure ((aa.refl U).C' L') ?_;have hw':bc x.words[i] 1 mx=false:=by simp at hw;simp[bc,mx];omega
     rw[RP];have:(x.words.all (bc · 1 mx))=false:=by
      rw[List.all_eq_false];exact⟨_,Sx Sz,by simp[hw']⟩
     simp[this]
    .have hw':bc x.words[i] 1 mx=true:=by simp at hw;simp[bc,mx];omega
     refine⟨ao,_,?_,i+1,by omega,rfl,?_,?_⟩
     .omega
     .rw[<-mx,ht];exact hw'
     .simp
   .have YT:i=x.words.length:=by simp at U1;omega
    subst YT;rw[ik]at hp;rw[RP,hp]
    repeat' (first
     |with_reducible refine And.intro (λh=>?_) (λh=>?_)
     |with_reducible refine az.pure ((aa.refl U).C' L') ?_)
    all_goals try simp only[go_sem,seval,aH,aJ,V.bool.injEq]
    all_goals (rw[Bool.eq_iff_iff];simp_all [bc,mx]<;>omega)
 .have RR:x.st=S1.zero:=by rw[hz];simp at hs;simp_all
  have h1:x.kind≠1:=by simpa using hk
  have RP:x.ok=(decide (x.line=0)&&decide (x.space=0)&&decide (x.words.length=0)&&bc x.w 1 mx&&bc x.h 1 mx&&
   (decide (x.kind=3)&&decide (x.side=0)||decide (x.kind=4)&&bc x.side 1 2)):=by have h2:x.kind≠2:=(by simpa using Ti);simp[Nd.ok,h1,h2,RR]
  rw[RP]
  repeat' (first
   |with_reducible refine And.intro (λh=>?_) (λh=>?_)
   |with_reducible refine az.pure ((aa.refl U).C' L') ?_)
  all_goals try simp only[go_sem,seval,aH,aJ,V.bool.injEq]
  all_goals (rw[Bool.eq_iff_iff];simp_all [bc,mx]<;>omega)
open Go.Proofs
def gk{U:ak}{l:List Nd}{i:Nat}(h:i<l.length):bG U 20 (aQ l) (.int .i64 i)=some (.rp (.agg (Nd.cells l[i]))):=by
 simp[aQ,bG,h,gz]
def bC(l:List Nd)(a e:Nat):Bool:=
 if _h:a<e then
  match l[a]? with
  |none=>false
  |some x=>if _hx:1<=x.size/\x.size<=(e:Int)-a then
     (decide (x.kind=1)||decide (x.size<=1))&&bC l (a+1) (a+x.size.toNat)&&bC l (a+x.size.toNat) e else false
 else true
termination_by e-a
decreasing_by all_goals omega
def G3(l:List Nd)(hl:l.length<=1000000000000):∀(m a e:Nat),e-a<m->a<=e->e<=l.length->aV prog 127 [aQ l,vI a,vI e] (.bool (bC l a e))
 |0,_,_,h,_,_=>by omega
 |m+1,a,e,hm,WD,he=>λU=>by
  refine Qa.q ?_;refine mS 8 ?_;simp only[go_sem,seval,aH,aJ,Mf];refine aq.loop (λmm st=>∃b:Nat,a<=b/\b<=e/\mm=e-b/\bC l a e=bC l b e/\aa U st.U/\st.s 0=aQ l/\st.s 1=vI b/\st.s 2=vI e) (e-a) ?_ ?_
  .exact⟨a,by omega,by omega,rfl,rfl,aa.refl U,rfl,rfl,rfl⟩
  .rintro mm ⟨s,Z'⟩ ⟨b,Vw,Wr,rfl,hr,G',h0,h1,h2⟩;simp only at h0 h1 h2 G';refine mS 8 ?_;simp only[go_sem,seval,aH,aJ,h0,h1,h2,iz,Nd.cells];refine And.intro (λu'=>?_) (λU1=>?_)
   .have Sz:b<l.length:=by simp at u';omega
    simp only[go_sem,seval,aH,aJ,gk Sz,h0,h1,h2,iz,Nd.cells];intro id L';have WE:=G'.C' L' (o:=⟨59,20,[.agg (Nd.cells l[b])]⟩);have hb:l[b]?=some l[b]:=by simp[Sz]
    have Wh:b<e:=by simp at u';omega
    have hR:bC l b e=if _hx:1<=l[b].size/\l[b].size<=(e:Int)-b then
     (decide (l[b].kind=1)||decide (l[b].size<=1))&&bC l (b+1) (b+l[b].size.toNat)&&bC l (b+l[b].size.toNat) e else false:=by
     rw[bC,dif_pos Wh,hb]
    refine And.intro (λhs=>?_) (λhs=>?_)
    .refine⟨ao,And.intro (λUF=>?_) (λUF=>?_)⟩
     .have hx:1<=l[b].size/\l[b].size<=(e:Int)-b:=by simp at hs UF;omega
      rw[dif_pos hx]at hR;have ih:=G3 l hl m (b+1) (b+l[b].size.toNat) (by omega) (by omega) (by omega);have e2:((b+l[b].size.toNat:Nat):Int)=b+l[b].size:=by omega
      rw[e2,Int.natCast_add,Int.natCast_one]at ih;refine And.intro (λhk=>And.intro (λhs3=>?_) (λhs3=>?_)) (λhk=>?_)
      .refine⟨ao,ao,?_⟩;refine pS rfl (ih _) ?_;simp only[go_sem,seval,aH,aJ,h0,h1,h2,iz,Nd.cells];refine And.intro (λhf=>?_) (λhf=>?_)
       .refine az.pure WE ?_;simp only[Bool.not_eq_eq_eq_not,Bool.not_true]at hf;rw[hr,hR,hf];simp
       .simp only[Bool.not_eq_eq_eq_not,Bool.not_false]at hf;refine⟨ao,_,?_,b+l[b].size.toNat,by omega,by omega,rfl,?_,WE,?_⟩
        .omega
        .rw[hr,hR,hf];simp;omega
        .rw[e2]
      .refine az.pure WE ?_;rw[hr,hR];have:¬l[b].size<=1:=by omega
       simp[hk,this]
      .refine⟨ao,ao,?_⟩;refine pS rfl (ih _) ?_;simp only[go_sem,seval,aH,aJ,h0,h1,h2,iz,Nd.cells];refine And.intro (λhf=>?_) (λhf=>?_)
       .refine az.pure WE ?_;simp only[Bool.not_eq_eq_eq_not,Bool.not_true]at hf;rw[hr,hR,hf];simp
       .simp only[Bool.not_eq_eq_eq_not,Bool.not_false]at hf;refine⟨ao,_,?_,b+l[b].size.toNat,by omega,by omega,rfl,?_,WE,?_⟩
        .omega
        .rw[hr,hR,hf];simp;omega
        .rw[e2]
     .refine az.pure WE ?_;rw[hr,hR,dif_neg (by omega)]
    .refine az.pure WE ?_;rw[hr,hR,dif_neg (by omega)]
   .have:b=e:=by simp at U1;omega
    subst this;refine az.pure G' ?_;rw[hr,bC];simp
open Go.Proofs
def dq(l:List Nd):Prop:=l.length<=10000/\∀x∈l,x.words.length<=200000000000000
def DO{α:Type}(p:α->Bool)(l:List α)(i:Nat)(h:i<l.length):(l.take (i+1)).all p=((l.take i).all p&&p l[i]):=by
 rw[U0 h,List.all_append];simp
def Sc(l:List Nd):Bool:=l.all Nd.ok&&bC l 0 l.length
def jH(U:ak)(x:Nd):cQ U true 20 (.rp (.agg x.cells))=some (gz x):=rfl
def KL(l:List Nd)(hl:dq l):aV prog 104 [aQ l] (.bool (Sc l)):=λU=>by
 obtain⟨hl1,hl2⟩:=hl;refine Rf.q ?_;refine mS 4 ?_;simp only[go_sem,seval,aH,aJ,Nt];refine aq.loop (λm st=>∃i:Nat,i<=l.length/\m=l.length-i/\(l.take i).all Nd.ok=true/\st.U=U/\st.s 0=aQ l/\st.s 3=vI i) l.length ?_ ?_
 .exact⟨0,by omega,by omega,by simp,rfl,rfl,rfl⟩
 .rintro m ⟨s,Z'⟩ ⟨i,hi,rfl,hp,R8,h0,h3⟩;simp only at h0 h3 R8;subst R8;refine mS 4 ?_;simp only[go_sem,seval,aH,aJ,h0,h3,iz,bO];refine And.intro (λu'=>?_) (λU1=>?_)
  .have Sz:i<l.length:=by simp at u';omega
   have ht:=DO Nd.ok l i Sz;rw[hp,Bool.true_and]at ht;simp only[go_sem,seval,aH,aJ,gk Sz,jH,h0,h3,iz];refine pS rfl (Oq l[i] (by have:=hl2 _ (Sx Sz);omega) _) ?_;simp only[go_sem,seval,aH,aJ,h0,h3,iz];refine And.intro (λhf=>?_) (λhf=>?_)
   .simp only[Bool.not_eq_eq_eq_not,Bool.not_true]at hf;refine az.same ?_;have:l.all Nd.ok=false:=by
     rw[List.all_eq_false];exact⟨_,Sx Sz,by simp[hf]⟩
    simp[Sc,this]
   .simp only[Bool.not_eq_eq_eq_not,Bool.not_false]at hf;refine⟨ao,_,?_,i+1,by omega,rfl,?_,?_⟩
    .omega
    .rw[ht];exact hf
    .simp
  .have YT:i=l.length:=by simp at U1;omega
   subst YT;rw[ik]at hp;have hr:=G3 l (by omega) (l.length+1) 0 l.length (by omega) (by omega) (by omega);refine pS rfl (hr _) ?_;simp only[go_sem,seval,aH,aJ,h0,h3,iz];refine az.same ?_;simp[Sc,hp]
open Go.Proofs
def iJ(l:List Nd):∀(m a e:Nat),e-a<m->e<=l.length->bC l a e=true->∀k,a<=k->(h:k<e)->(h2:k<l.length)->1<=l[k].size/\l[k].size<=(e:Int)-k/\(l[k].kind=1\/l[k].size<=1)
 |0,_,_,h,_,_=>by omega
 |m+1,a,e,hm,he,hr=>by
  intro k hk hke h2;have WD:a<e:=by omega
  have ha:a<l.length:=by omega
  rw[bC,dif_pos WD]at hr;have hga:l[a]?=some l[a]:=by simp[ha]
  rw[hga]at hr;simp only at hr;split at hr
  .rename_i hx;simp only[Ba,kO,Uy]at hr;obtain⟨⟨h3,h4⟩,h5⟩:=hr;by_cases hka:k=a
   .subst hka;exact⟨hx.1,hx.2,h3⟩
   .by_cases Xp:k<a+l[a].size.toNat
    .obtain⟨g1,g2,g3⟩:=iJ l m (a+1) (a+l[a].size.toNat) (by omega) (by omega) h4 k (by omega) Xp h2;exact⟨g1,by omega,g3⟩
    .exact iJ l m (a+l[a].size.toNat) e (by omega) he h5 k (by omega) hke h2
  .cases hr
structure Sm where
 (depth pieces nodes M':Int)
deriving DecidableEq
def Sm.cells(s:Sm):List V:=[vI s.depth,vI s.pieces,vI s.nodes,vI s.M']
def jq(a b:Int):Int:=min (a+b) 1099511627777
def eY(l:List Nd)(i:Nat):Nat->Int
 |0=>0
 |k+1=>eY l i k+(match l[k]? with
  |some y=>if y.kind=1/\(i:Int)<k+y.size then 1 else 0
  |none=>0)
def As(a b:Int):Nat->Int
 |0=>a
 |n+1=>jq (As a b n) b
def l7(l:List Nd)(i:Nat)(x:Nd)(s:Sm):Sm:=
 if x.kind=1 then{ s with depth:=max s.depth (eY l i (i+1)),M':=jq (jq (jq (jq (jq s.M' x.st.top) x.st.RX) x.st.RH) x.st.O') x.st.head }
 else if x.kind=2 then{ s with pieces:=s.pieces+x.words.length,M':=As s.M' x.line x.words.length }
 else{ s with pieces:=s.pieces+1,M':=jq s.M' x.h }
def fA(l:List Nd)(s:Sm):Nat->Sm
 |0=>s
 |i+1=>match l[i]? with
  |some x=>l7 l i x (fA l s i)
  |none=>fA l s i
def fS(l:List Nd):Sm×Int:=if Sc l then(fA l ⟨0,0,l.length,0⟩ l.length,0)else(⟨0,0,0,0⟩,4)
def o7(f:FuncId)(args:List V):Option V:=if f=105 then(match args with
 |[.int .i64 a,.int .i64 b]=>if(0<=a/\a<=1099511627777)/\(0<=b/\b<=1099511627777)then some (.int .i64 (jq a b))else none
 |_=>none)else none
def O7:Th prog where
 get f args _:=o7 f args
 ok f args U v h:=by
  unfold o7 at h;split at h
  .rename_i hf;subst hf;split at h
   .split at h
    .rename_i hc;simp only[bf]at h;subst h;exact Lj _ _ hc.1 ⟨by omega,by omega⟩ U
    .cases h
   .cases h
  .cases h
def sI(a b:Int)(U:ak)(h1:0<=a/\a<=1099511627777)(h2:0<=b/\b<=1099511627777):O7.get 105 [.int .i64 a,.int .i64 b] U=some (.int .i64 (jq a b)):=by
 have:O7.get 105 [.int .i64 a,.int .i64 b] U=if(0<=a/\a<=1099511627777)/\(0<=b/\b<=1099511627777)then some (V.int .i64 (jq a b))else none:=rfl
 rw[this,aK ⟨h1,h2⟩]
def dV{a b:Int}(h1:0<=a/\a<=1099511627777)(h2:0<=b):0<=jq a b/\jq a b<=1099511627777:=by
 unfold jq;omega
def xY{a b:Int}(h1:0<=a/\a<=1099511627777)(h2:0<=b):∀n,0<=As a b n/\As a b n<=1099511627777
 |0=>h1
 |n+1=>dV (xY h1 h2 n) h2
def pg(l:List Nd)(i:Nat):∀k,0<=eY l i k/\eY l i k<=k
 |0=>by simp[eY]
 |k+1=>by
  have:=pg l i k;simp only[eY];split
  .split<;>omega
  .omega
def jy{x:Nd}(h:x.ok=true):(x.kind=1\/x.kind=2\/x.kind=3\/x.kind=4)/\0<=x.line/\x.line<=mx/\0<=x.h/\x.h<=mx/\
 (x.kind=1->(0<=x.st.top/\x.st.top<=mx)/\(0<=x.st.RX/\x.st.RX<=mx)/\(0<=x.st.RH/\x.st.RH<=mx)/\(0<=x.st.O'/\x.st.O'<=mx)/\(0<=x.st.head/\x.st.head<=mx)):=by
 unfold Nd.ok at h;split at h
 .rename_i hk;simp only[S1.ok,bc,Ba,Uy]at h|-;simp only[mx]at h|-;refine⟨.inl hk,by omega,by omega,by omega,by omega,λ_=>?_⟩;omega
 .split at h
  .cases h
  .split at h
   .rename_i h1 _ hk;simp only[bc,Ba,Uy]at h|-;simp only[mx]at h|-;exact⟨.inr (.inl hk),by omega,by omega,by omega,by omega,λe=>absurd e h1⟩
   .rename_i h1 _ _;simp only[bc,Ba,kO,Uy]at h|-;simp only[mx]at h|-;exact⟨by omega,by omega,by omega,by omega,by omega,λe=>absurd e h1⟩
def Sm.ry(s:Sm)(k:Int):Prop:=(0<=s.depth/\s.depth<=k)/\(0<=s.pieces/\s.pieces<=k*200000000000000)/\(0<=s.M'/\s.M'<=1099511627777)
def rf{l:List Nd}{i:Nat}{x:Nd}{s:Sm}(hx:x.ok=true)(hw:x.words.length<=200000000000000)(h:s.ry i):(l7 l i x s).ry (i+1):=by
 obtain⟨h1,h2,h3⟩:=h;obtain⟨g1,g2,g3,g4,g5,g6⟩:=jy hx;unfold l7;split
 .rename_i hk;obtain⟨a1,a2,a3,a4,a5⟩:=g6 hk;have hd:=pg l i (i+1);refine⟨?_,?_,dV (dV (dV (dV (dV h3 a1.1) a2.1) a3.1) a4.1) a5.1⟩
  .simp only;omega
  .simp only;omega
 .split
  .refine⟨?_,?_,xY h3 g2 _⟩
   .simp only;omega
   .simp only;omega
  .refine⟨?_,?_,dV h3 g4⟩
   .simp only;omega
   .simp only;omega
open Go.Proofs
def Sm.zero:Sm:=⟨0,0,0,0⟩
def zw(l:List Nd)(hl:dq l):aV prog 69 [aQ l] (.RM [.agg (fS l).1.cells,vI (fS l).2]):=λU=>by
 have hl0:=hl;obtain⟨hl1,hl2⟩:=hl;refine e69.q ?_;refine mS 10 ?_;simp only[go_sem,seval,aH,aJ,c69];intro Yd hidR;have hsub1:=(aa.refl U).C' hidR (o:=⟨120,4,[.agg Sm.zero.cells]⟩);refine pS rfl (KL l hl0 _) ?_;simp only[go_sem,seval,aH,aJ,iz,bO];refine And.intro (λhf=>?_) (λhf=>?_)
 .simp only[Bool.not_eq_eq_eq_not,Bool.not_true]at hf;refine az.pure hsub1 ?_;simp[fS,hf,Sm.cells]
 .simp only[Bool.not_eq_eq_eq_not,Bool.not_false]at hf;intro UJ hid4;have RU:UJ≠Yd:=by rintro rfl;simp[av]at hid4
  have ZY:U UJ=none:=by rw[ab RU]at hid4;exact hid4
  refine aq.loop (λm st=>∃i:Nat,i<=l.length/\m=l.length-i/\aa U st.U/\st.U Yd=some ⟨120,4,[.agg Sm.zero.cells]⟩/\
   st.U UJ=some ⟨120,4,[.agg (fA l ⟨0,0,l.length,0⟩ i).cells]⟩/\st.s 0=aQ l/\st.s 2=.ptr Yd 0 0/\st.s 4=.ptr UJ 0 0/\st.s 5=vI i/\(fA l ⟨0,0,l.length,0⟩ i).ry i) l.length ?_ ?_
  .refine⟨0,by omega,by omega,?_,?_,?_,rfl,rfl,rfl,rfl,by simp[fA,Sm.ry]⟩
   .exact((aa.refl U).C' hidR).C' hid4
   .simp only[ab RU.symm,av];rfl
   .simp only[av];rfl
  .rintro m ⟨s,Z'⟩ ⟨i,hi,rfl,G',hR,h4s,h0,h2,h4,h5,Xq⟩;simp only at G' hR h4s h0 h2 h4 h5;have RP:l.all Nd.ok=true/\bC l 0 l.length=true:=by simpa[Sc]using hf
   generalize W7:fA l ⟨0,0,l.length,0⟩ i=sm at*;refine aq.mix 10 ?_
   (refine aq.bx O7 300 ?_;simp only[go_sem,seval,aH,aJ,h0,h2,h4,h5,h4s,hR,iz,bO,Sm.cells])
   refine And.intro (λu'=>?_) (λU1=>?_)
   .have Sz:i<l.length:=by simp at u';omega
    have hx:=(fL.1 RP.1) _ (Sx Sz);generalize WG:l[i]=x at*;simp only[go_sem,seval,aH,aJ,gk Sz,WG,jH,h0,h2,h4,h5,iz,Nd.cells,cC,h4s];have Vy:fA l ⟨0,0,l.length,0⟩ (i+1)=l7 l i x sm:=by simp[fA,Sz,WG,W7]
    intro WU Yx;have n64:WU≠UJ:=by rintro rfl;rw[h4s]at Yx;cases Yx
    have n6R:WU≠Yd:=by rintro rfl;rw[hR]at Yx;cases Yx
    have hsub6:=G'.C' Yx (o:=⟨59,20,[.agg x.cells]⟩);obtain⟨p1,p2,p3,p4,p5,p6⟩:=jy hx;have hfine0:=Xq;obtain⟨f1,f2,f3⟩:=Xq;have hxw:x.words.length<=200000000000000:=hl2 x (WG▸Sx Sz);refine And.intro (λhk=>?_) (λhk=>?_)
    .have SV:x.kind=1:=by simpa using hk
     obtain⟨q1,q2,q3,q4,q5⟩:=p6 SV;refine aq.loop (λmm st=>∃k:Nat,k<=i+1/\mm=i+1-k/\st.U=C' Z' WU ⟨59,20,[.agg x.cells]⟩/\
      st.s 0=aQ l/\st.s 2=.ptr Yd 0 0/\st.s 4=.ptr UJ 0 0/\st.s 5=vI i/\st.s 6=.ptr WU 0 0/\st.s 7=vI (eY l i k)/\st.s 8=vI k) (i+1) ?_ ?_
     .exact⟨0,by omega,by omega,by rfl,h0,h2,h4,h5,rfl,rfl,rfl⟩
     .rintro mm ⟨s,Z''⟩ ⟨k,hki,rfl,R8,h0,h2,h4,h5,h6,h7,h8⟩;simp only at R8 h0 h2 h4 h5 h6 h7 h8;subst R8;have hdt:=pg l i k;refine aq.mix 10 ?_
      (refine aq.bx O7 300 ?_;simp only[go_sem,seval,aH,aJ,h0,h2,h4,h5,h6,h7,h8,iz,bO])
      refine And.intro (λWh=>?_) (λhge2=>?_)
      .have ZZ:k<l.length:=by simp at Wh;omega
       have hki2:k<=i:=by simp at Wh;omega
       obtain⟨z1,z2,z3⟩:=iJ l (l.length+1) 0 l.length (by omega) (by omega) RP.2 k (by omega) ZZ ZZ;have hdk:eY l i (k+1)=eY l i k+(if l[k].kind=1/\(i:Int)<k+l[k].size then 1 else 0):=by simp[eY,ZZ]
       simp only[go_sem,seval,aH,aJ,gk ZZ,jH,h0,h2,h4,h5,h6,h7,h8,iz,Nd.cells];refine And.intro (λTi=>⟨ao,And.intro (λhc=>?_) (λhc=>?_)⟩) (λTi=>?_)
       .refine⟨ao,ao,_,?_,k+1,by omega,rfl,?_,?_⟩
        .omega
        .rw[hdk,aK ⟨Ti,hc⟩]
        .simp
       .refine⟨ao,_,?_,k+1,by omega,rfl,?_,?_⟩
        .omega
        .rw[hdk,aM (by simp at hc;omega),Int.add_zero]
        .simp
       .refine⟨ao,_,?_,k+1,by omega,rfl,?_,?_⟩
        .omega
        .rw[hdk,aM (by omega),Int.add_zero]
        .simp
      .have hke:k=i+1:=by simp at hge2;omega
       subst hke;have r1:=dV f3 q1.1;have r2:=dV r1 q2.1;have r3:=dV r2 q3.1;have r4:=dV r3 q4.1;have r5:=dV r4 q5.1;have c1:=λU=>sI _ _ U f3 ⟨q1.1,by have:=q1.2;simp only[mx]at this;omega⟩;have c2:=λU=>sI _ _ U r1 ⟨q2.1,by have:=q2.2;simp only[mx]at this;omega⟩;have c3:=λU=>sI _ _ U r2 ⟨q3.1,by have:=q3.2;simp only[mx]at this;omega⟩;have c4:=λU=>sI _ _ U r3 ⟨q4.1,by have:=q4.2;simp only[mx]at this;omega⟩;have c5:=λU=>sI _ _ U r4 ⟨q5.1,by have:=q5.2;simp only[mx]at this;omega⟩;simp only[go_sem,seval,aH,aJ,c1,c2,c3,c4,c5,ab n64,ab n64.symm,h4s,SV,h0,h2,h4,h5,h6,h7,h8,iz,Nd.cells,Sm.cells,mx];have hfx:=rf (l:=l) hx hxw hfine0;refine⟨ao,_,?_,i+1,by omega,rfl,(G'.C' Yx).aL ZY,?_,?_,?_,?_⟩
       .omega
       .rw[ab RU.symm,ab n6R.symm,hR];rfl
       .rw[Vy];have:(if eY l i (i+1)>sm.depth then eY l i (i+1)else sm.depth)=max sm.depth (eY l i (i+1)):=by split<;>omega
        simp[l7,SV,this]
       .simp
       .rw[Vy];simpa using hfx
    .have SV:x.kind≠1:=by simpa using hk
     have hfx:=rf (l:=l) hx hxw hfine0;refine And.intro (λTi=>?_) (λTi=>?_)
     .simp only[go_sem,seval,aH,aJ,sI,ab n64,ab n64.symm,h4s,Ti,h0,h2,h4,h5,iz,Nd.cells,Sm.cells,cC];refine⟨ao,?_⟩;refine aq.loop (λmm st=>∃k:Nat,k<=x.words.length/\mm=x.words.length-k/\aa U st.U/\st.U Yd=some ⟨120,4,[.agg Sm.zero.cells]⟩/\
       st.U UJ=some ⟨120,4,[.agg (Sm.cells ⟨sm.depth,sm.pieces+x.words.length,sm.nodes,As sm.M' x.line k⟩)]⟩/\st.U WU=some ⟨59,20,[.agg x.cells]⟩/\
       st.s 0=aQ l/\st.s 2=.ptr Yd 0 0/\st.s 4=.ptr UJ 0 0/\st.s 5=vI i/\st.s 6=.ptr WU 0 0/\st.s 9=vI k) x.words.length ?_ ?_
      .refine⟨0,by omega,by omega,(G'.C' Yx).aL ZY,?_,?_,?_,h0,h2,h4,h5,rfl,rfl⟩
       .simp only[ab RU.symm,ab n6R.symm,hR]
       .simp only[av];rfl
       .simp only[ab n64,av,Nd.cells,Ti]
      .rintro mm ⟨s,Z''⟩ ⟨k,hki,rfl,hs'',hR'',h4'',h6'',h0,h2,h4,h5,h6,h9⟩;simp only at hs'' hR'' h4'' h6'' h0 h2 h4 h5 h6 h9;have ha:=xY f3 p2 k;have c1:=λU=>sI _ _ U ha ⟨p2,by have:=p3;simp only[mx]at this;omega⟩;refine aq.mix 10 ?_
       (refine aq.bx O7 300 ?_;simp only[go_sem,seval,aH,aJ,c1,Ti,h4'',h6'',h0,h2,h4,h5,h6,h9,iz,bO,cC,Nd.cells,Sm.cells])
       refine And.intro (λWh=>?_) (λhge2=>?_)
       .refine⟨ao,_,?_,k+1,by omega,rfl,hs''.aL ZY,?_,rfl,?_,?_⟩
        .omega
        .rw[ab RU.symm,hR''];rfl
        .rw[ab n64,h6''];simp[Nd.cells,Ti]
        .simp
       .have hke:k=x.words.length:=by simp at hge2;omega
        subst hke;refine⟨ao,_,?_,i+1,by omega,rfl,hs'',?_,?_,?_,?_⟩
        .omega
        .rw[hR''];rfl
        .rw[Vy];simp[l7,SV,Ti]
        .simp
        .rw[Vy];simpa using hfx
     .have hk2':x.kind≠2:=by simpa using Ti
      have W6:x.kind>2:=by omega
      have c1:=λU=>sI _ _ U f3 ⟨p4,by have:=p5;simp only[mx]at this;omega⟩;simp only[go_sem,seval,aH,aJ,c1,ab n64,ab n64.symm,h4s,h0,h2,h4,h5,iz,Nd.cells,Sm.cells,cC];refine And.intro (λ_=>?_) (λhn=>?_)
      .refine⟨ao,ao,_,?_,i+1,by omega,rfl,(G'.C' Yx).aL ZY,?_,?_,?_,?_⟩
       .omega
       .rw[ab RU.symm,ab n6R.symm,hR];rfl
       .rw[Vy];simp[l7,SV,hk2']
       .simp
       .rw[Vy];simpa using hfx
      .simp at hn;omega
   .have Uf:i=l.length:=by simp at U1;omega
    refine az.pure (G'.aL hidR) ?_;subst Uf;simp[fS,hf,W7,Sm.cells]
open Go.Proofs
def uG(p:Int->Bool):∀l,decide (cX p l>=0)=l.any p
 |[]=>by simp[cX]
 |x::l=>by
  have ih:=uG p l;simp only[cX,List.any_cons];have hg:=jv p l;rw[<-ih,Bool.eq_iff_iff];simp only[Uy,kO];split
  .rename_i h;simp[h]
  .rename_i h;simp only[h,iP,false_or];by_cases hx:cX p l<0
   .rw[aK hx];constructor<;>intro hh<;>simp at hh|-<;>omega
   .rw[aM hx];constructor<;>intro hh<;>simp at hh|-<;>omega
def nJ{U:ak}{sv:V}{l:List Int}{f:FuncId}{caps:List V}{p:Int->Bool}(hr:Reads U 1 false sv (l.map vI))(hl:l.length<=200000000000000)
 (hf:∀n∈l,aB prog f (vI n::caps) U λr Z'=>r=.bool (p n)/\Z'=U):
 aB prog 199 [sv,.fn f caps] U λr Z'=>r=.bool (l.any p)/\Z'=U:=by
 refine Pz.q ?_;apply sR;simp only[go_sem,seval,aH,aJ,M7];refine pS rfl (nB hr hl hf) ?_;simp only[go_sem,seval,aH,aJ];refine az.same ?_;rw[<-uG]
def KN{U:ak}{id:Nat}{a b:Int}(h:U id=some ⟨244,2,[.agg [vI a,vI b]]⟩)(n:Int):
 aB prog 200 [vI n,.ptr id 0 0] U λr Z'=>r=.bool (!bc n a b)/\Z'=U:=by
 refine Q2.q ?_;apply sR;simp only[go_sem,seval,aH,aJ,LN,h];refine And.intro (λh=>?_) (λh=>?_)
 .refine az.same ?_;congr 1;simp only[bc];rw[<-decide_not,decide_eq_decide];omega
 .refine az.same ?_;have:¬(n>=a/\n<=b):=by omega
  simp only[bc,this,decide_false,Bool.not_false]
def Reads.mono{U Z':ak}{sz:Nat}{agg:Bool}{sv:V}{rows:List V}(h:aa U Z')(hr:Reads U sz agg sv rows):Reads Z' sz agg sv rows:=by
 refine⟨hr.1,λi v hv=>?_⟩;obtain⟨p,h1,h2⟩:=hr.2 i v hv;refine⟨p,?_,?_⟩
 .cases sv<;>simp only[bG,reduceCtorEq]at h1|-
  .exact h1
  .rename_i id off len;cases ho:U id with
   |none=>rw[ho]at h1;cases h1
   |some ob=>rw[ho]at h1;rw[h id ob ho];exact h1
 .cases p<;>simp only[cQ,reduceCtorEq]at h2|-
  .rename_i id i k;cases ho:U id with
   |none=>rw[ho]at h2;cases h2
   |some ob=>rw[ho]at h2;rw[h id ob ho];exact h2
  .exact h2
def Jy{U:ak}{sv:V}{l:List Int}{a b:Int}(hr:Reads U 1 false sv (l.map vI))(hl:l.length<=200000000000000):
 aB prog 169 [.agg [vI a,vI b],sv] U λr Z'=>r=.bool (l.all λn=>bc n a b)/\Z'=U:=by
 refine PC.q ?_;apply sR;simp only[go_sem,seval,aH,aJ,Lm];intro id L';refine pS rfl (nJ (p:=λn=>!bc n a b) (hr.mono ((aa.refl U).C' L')) hl (λn _=>KN av n)) ?_;simp only[go_sem,seval,aH,aJ];refine az.pure ((aa.refl U).C' L') ?_;rw[List.all_eq_not_any_not]
open Go.Proofs
def gd:List V->Option (List Int)
 |[]=>some []
 |.int .i64 n::l=>(gd l).map (n::·)
 |_=>none
def lJ:∀{l:List V} {m:List Int},gd l=some m->l=m.map vI
 |[],m,h=>by simp[gd]at h;subst h;rfl
 |v::l,m,h=>by
  cases v<;>try (simp[gd]at h)
  rename_i k n;cases k<;>try (simp[gd]at h)
  obtain⟨m',h1,rfl⟩:=h;rw[lJ h1];rfl
def ug(m:List Int):gd (m.map vI)=some m:=by
 induction m with
 |nil=>rfl
 |cons n m ih=>simp[gd,ih]
def fP(U:ak):V->Option (List Int)
 |.own id off len=>match U id with
   |some ob=>if ob.sz=1/\off+len<=ob.rows.length/\len<=200000000000000 then(if(gd ob.rows).isSome then gd ((ob.rows.drop off).take len)else none)else none
   |none=>none
 |.sl 1 rows=>if rows.length<=200000000000000 then gd rows else none
 |_=>none
def nK{U:ak}{sv:V}{l:List Int}(h:fP U sv=some l):Reads U 1 false sv (l.map vI)/\l.length<=200000000000000:=by
 unfold fP at h;split at h
 .rename_i id off len;split at h
  .rename_i ob Ts;split at h
   .rename_i hc;split at h
    .rename_i hi;have he:=lJ h;obtain⟨m,hm⟩:=Option.isSome_iff_exists.1 hi;have hm:=lJ hm;have hr:=Reads.own (U:=U) Ts hc.1 hc.2.1 (λr hr=>by rw[hm]at hr;simp only[iD]at hr;obtain⟨n,_,rfl⟩:=hr;rfl);rw[he]at hr;have hl:l.length=len:=by
      have:=congrArg List.length he;simp at this;omega
     exact⟨hr,by omega⟩
    .cases h
   .cases h
  .cases h
 .rename_i rows;split at h
  .rename_i hc;have he:=lJ h;subst he;exact⟨Reads.ints,by simpa using hc⟩
  .cases h
 .cases h
def oO{U Z':ak}(hs:aa U Z'){sv:V}{l:List Int}(h:fP U sv=some l):fP Z' sv=some l:=by
 unfold fP at h|-;split at h
 .split at h
  .rename_i ob Ts;simp only[hs _ _ Ts];exact h
  .cases h
 .exact h
 .cases h
def oT(U:ak){l:List Int}(h:l.length<=200000000000000):fP U (aX l)=some l:=by
 simp only[aX,fP,dC,aK h];exact ug l
def o10(f:FuncId)(args:List V)(U:ak):Option V:=if f=169 then(match args with
 |[.agg [.int .i64 a,.int .i64 b],sv]=>(fP U sv).map λl=>.bool (l.all λn=>bc n a b)
 |_=>none)else none
def O10:Th prog where
 get:=o10
 up f args U Z' v hs h:=by
  unfold o10 at h|-;split at h
  .rename_i hf;rw[aK hf];split at h
   .simp only[Zq8]at h|-;obtain⟨l,h1,h2⟩:=h;exact⟨l,oO hs h1,h2⟩
   .cases h
  .cases h
 ok f args U v h:=by
  unfold o10 at h;split at h
  .rename_i hf;subst hf;split at h
   .simp only[Zq8]at h;obtain⟨l,h1,rfl⟩:=h;obtain⟨g1,g2⟩:=nK h1;exact Jy g1 g2
   .cases h
  .cases h
def ud(a b:Int)(sv:V)(U:ak):O10.get 169 [.agg [.int .i64 a,.int .i64 b],sv] U=(fP U sv).map λl=>.bool (l.all λn=>bc n a b):=rfl
def dj(U:ak)(id off len:Nat):fP U (.own id off len)=match U id with
 |some ob=>if ob.sz=1/\off+len<=ob.rows.length/\len<=200000000000000 then(if(gd ob.rows).isSome then gd ((ob.rows.drop off).take len)else none)else none
 |none=>none:=rfl
def ew(n:Int)(l:List V):gd (.int .i64 n::l)=(gd l).map (n::·):=rfl
def er:gd []=some []:=rfl
def Gk(s:S1):aV prog 168 [.agg s.cells] (.bool s.ok):=λU=>by
 refine Rs.q ?_;refine aq.mix 6 ?_
 (refine aq.bx O10 300 ?_;simp only[go_sem,seval,OC,S1.cells])
 refine aD λVz Z1 s1 a1 f1=>?_;simp only[go_sem,seval];refine aD λid3 Z2 s2 a3 f3=>?_;have XM:=bb a1 f3;have a1:=s2 _ _ a1;simp only[go_sem,seval,a1];refine aD λUJ Z3 s3 a4 f4=>?_;have n14:=bb a1 f4;have Ye:=bb a3 f4;have a1:=s3 _ _ a1;have a3:=s3 _ _ a3;have hs:aa U Z3:=(s1.trans s2).trans s3;have g3:U id3=none:=s1.none f3;have g4:U UJ=none:=(s1.trans s2).none f4;simp only[go_sem,seval,a1,a3,a4,ab Ye,ab Ye.symm,ab XM,ab n14];have RV:=λo o'=>(hs.aL (o:=o) g3).aL (o:=o') g4;refine aD λVP Z4 s4 a5 f5=>?_;have a1:=s4 Vz _ (by rw[ab n14,ab XM];exact a1);have a4:=s4 UJ _ av;have hs:=(RV _ _).trans s4;simp only[go_sem,seval,a1,a4,a5,ud,dj,ew,er,bc,<-Bool.decide_and];refine And.intro (λp0=>?_) (λp0=>az.pure hs (by rw[V.bool.injEq];symm;rw[Bool.eq_false_iff];intro h;simp[S1.ok,bc,mx]at h;omega));refine aD λWU Z5 s5 a6 f6=>?_;have a1:=s5 _ _ a1;have hs:=hs.trans s5;simp only[go_sem,seval,a1,a6,ud,dj,ew,er,bc,<-Bool.decide_and];refine And.intro (λp1=>?_) (λp1=>az.pure hs (by rw[V.bool.injEq];symm;rw[Bool.eq_false_iff];intro h;simp[S1.ok,bc,mx]at h;omega));refine aD λid7 Z6 s6 a7 f7=>?_;have a1:=s6 _ _ a1;have hs:=hs.trans s6;simp only[go_sem,seval,a1,a7,ud,dj,ew,er,bc,<-Bool.decide_and];refine And.intro (λp2=>?_) (λp2=>az.pure hs (by rw[V.bool.injEq];symm;rw[Bool.eq_false_iff];intro h;simp[S1.ok,bc,mx]at h;omega));refine aD λid8 Z7 s7 a8 f8=>?_;have a1:=s7 _ _ a1;have hs:=hs.trans s7;simp only[go_sem,seval,a1,a8,ud,dj,ew,er,bc,<-Bool.decide_and];refine And.intro (λp3=>?_) (λp3=>az.pure hs (by rw[V.bool.injEq];symm;rw[Bool.eq_false_iff];intro h;simp[S1.ok,bc,mx]at h;omega));refine aD λWV Z8 s8 a9 f9=>?_;have a1:=s8 _ _ a1;have hs:=hs.trans s8;simp only[go_sem,seval,a1,a9,ud,dj,ew,er,bc,<-Bool.decide_and];refine az.pure hs ?_;rw[V.bool.injEq,Bool.eq_iff_iff];simp[S1.ok,bc,mx];omega
open Go.Proofs
def dU(l:List Nd):Int:=if Sc l then(if(fS l).1.depth>16\/(fS l).1.pieces>2000\/(fS l).1.nodes>2000\/(fS l).1.M'>1099511627776 then 2 else 0)else 4
def Dh(l:List Nd)(hl:dq l):aV prog 68 [aQ l] (vI (dU l)):=λU=>by
 refine e68.q ?_;refine mS 6 ?_;simp only[go_sem,seval,aH,aJ,c68];refine pS rfl (zw l hl _) ?_;simp only[go_sem,seval,aH,aJ,Sm.cells,iz];intro id L';have G':=λo=>(aa.refl U).C' L' (o:=o);have hc:(fS l).2=if Sc l then 0 else 4:=by unfold fS;split<;>rfl
 refine And.intro (λh=>?_) (λh=>?_)
 .refine az.pure (G' _) ?_;have:Sc l=false:=by
   rw[hc]at h;cases hb:Sc l<;>simp_all
  simp[dU,this,hc]
 .have hb:Sc l=true:=by
   rw[hc]at h;cases hb:Sc l<;>simp_all
  repeat' (first
   |with_reducible refine And.intro (λh=>?_) (λh=>?_)
   |with_reducible refine az.pure (G' _) ?_)
  all_goals (simp only[dU,hb,if_true,V.int.injEq,true_and];split<;>simp_all<;>omega)
open Go.Proofs
def o12(f:FuncId)(args:List V)(U:ak):Option V:=if f=169 then(match args with
 |[.agg [.int .i64 a,.int .i64 b],sv]=>(fP U sv).map λl=>.bool (l.all λn=>bc n a b)
 |_=>none)else if f=168 then(match args with
 |[.agg [.int .i64 a,.int .i64 b,.int .i64 c,.int .i64 d,.int .i64 e,.int .i64 f,.int .i64 g,.int .i64 h,.int .i64 i,.int .i64 j,.int .i64 k,.int .i64 l]]=>some (.bool (S1.ok ⟨a,b,c,d,e,f,g,h,i,j,k,l⟩))
 |_=>none)else none
def O12:Th prog where
 get:=o12
 up f args U Z' v hs h:=by
  unfold o12 at h|-;split at h
  .rename_i hf;rw[aK hf];split at h
   .simp only[Zq8]at h|-;obtain⟨l,h1,h2⟩:=h;exact⟨l,oO hs h1,h2⟩
   .cases h
  .rename_i hf;rw[aM hf];exact h
 ok f args U v h:=by
  unfold o12 at h;split at h
  .rename_i hf;subst hf;split at h
   .simp only[Zq8]at h;obtain⟨l,h1,rfl⟩:=h;obtain⟨g1,g2⟩:=nK h1;exact Jy g1 g2
   .cases h
  .split at h
   .rename_i hf;subst hf;split at h
    .simp only[bf]at h;subst h;exact Gk ⟨_,_,_,_,_,_,_,_,_,_,_,_⟩ U
    .cases h
   .cases h
def rq(a b:Int)(sv:V)(U:ak):O12.get 169 [.agg [.int .i64 a,.int .i64 b],sv] U=(fP U sv).map λl=>.bool (l.all λn=>bc n a b):=rfl
def qK(a b c d e f g h i j k l:Int)(U:ak):O12.get 168 [.agg [.int .i64 a,.int .i64 b,.int .i64 c,.int .i64 d,.int .i64 e,.int .i64 f,.int .i64 g,.int .i64 h,.int .i64 i,.int .i64 j,.int .i64 k,.int .i64 l]] U=
 some (.bool (S1.ok ⟨a,b,c,d,e,f,g,h,i,j,k,l⟩)):=rfl
def kg(s:S1):(decide (s.top=0)&&(decide (s.RX=0)&&(decide (s.RH=0)&&(decide (s.O'=0)&&(decide (s.Si=0)&&(decide (s.RL=0)&&(decide (s.RY=0)&&(decide (s.head=0)&&
 (decide (s.before=0)&&(decide (s.after=0)&&(decide (s.inside=0)&&decide (s.clear=0))))))))))))=decide (s=S1.zero):=by
 rw[Bool.eq_iff_iff];cases s;simp[S1.zero]
def Hm(x:Nd)(hl:x.words.length<=200000000000000)(k4:x.kind=4):aV prog 138 [gz x] (.bool x.ok):=λU=>by
 refine Ov.q ?_;refine aq.mix 6 ?_
 (refine aq.bx O12 300 ?_;simp only[go_sem,seval,Ll,gz,Nd.cells])
 refine aD λVz Z1 s1 a1 f1=>?_;simp only[go_sem,seval,a1];refine aD λid3 Z2 s2 a3 f3=>?_;have XM:=bb a1 f3;have a1:=s2 _ _ a1;have hs:=(s1.trans s2).aL (s1.none f3) (o:=⟨244,2,[.agg [vI 1,vI 1099511627776]]⟩);have hok3:x.ok=(decide (x.st=S1.zero)&&(decide (x.line=0)&&decide (x.space=0)&&decide (x.words.length=0)&&bc x.w 1 mx&&bc x.h 1 mx&&bc x.side 1 2)):=by
  by_cases RR:x.st=S1.zero<;>simp[Nd.ok,k4,RR]
 simp only[go_sem,seval,a1,a3,ab XM,kg,cC,k4,qK,iz,av];refine And.intro (λe1=>And.intro (λe2=>And.intro (λz=>And.intro (λw=>?_) (λw=>?_)) (λz=>?_)) (λe2=>?_)) (λe1=>?_)
 .refine aD λUJ Z3 s3 a4 f4=>?_;have a1:=s3 Vz _ (by rw[ab XM];exact a1);have a3:=s3 id3 _ av;have hs:=hs.trans s3;simp only[go_sem,seval,a1,a3,a4,rq,dj,ew,er,bc,xL,List.all_nil,<-Bool.decide_and];refine And.intro (λq1=>?_) (λq1=>az.pure hs ?_)
  .refine aD λVP Z4 s4 a5 f5=>?_;have a1:=s4 _ _ a1;have hs:=hs.trans s4;simp only[go_sem,seval,a1,a5,rq,dj,ew,er,bc,xL,List.all_nil,<-Bool.decide_and];refine az.pure hs ?_;rw[V.bool.injEq,hok3,Bool.eq_iff_iff];simp only[bc,mx];simp at w;simp[e1,e2,z,w];omega
  .rw[V.bool.injEq,hok3,Bool.eq_iff_iff];simp only[bc,mx];simp[e1,e2,z];omega
 all_goals (repeat' (first
  |with_reducible refine And.intro (λh=>?_) (λh=>?_)
  |with_reducible refine az.pure hs ?_))
 all_goals (rw[V.bool.injEq,hok3,Bool.eq_iff_iff];simp_all)
def Kl(x:Nd)(hl:x.words.length<=200000000000000):aV prog 138 [gz x] (.bool x.ok):=λU=>by
 by_cases k4:x.kind=4
 .exact Hm x hl k4 U
 refine Ov.q ?_;refine aq.mix 6 ?_
 (refine aq.bx O12 300 ?_;simp only[go_sem,seval,Ll,gz,Nd.cells])
 refine aD λVz Z1 s1 a1 f1=>?_;simp only[go_sem,seval,a1];refine aD λid3 Z2 s2 a3 f3=>?_;have XM:=bb a1 f3;have a1:=s2 _ _ a1;have hs:=(s1.trans s2).aL (s1.none f3) (o:=⟨244,2,[.agg [vI 1,vI 1099511627776]]⟩);have hz:(x.kind=1->x.ok=(x.st.ok&&decide (x.line=0)&&decide (x.space=0)&&decide (x.words.length=0)&&decide (x.side=0)&&decide (x.w=0)&&decide (x.h=0))):=λh=>by simp[Nd.ok,h]
 have hwl:x.words.length<=200000000000000:=by omega
 by_cases k1:x.kind=1
 .simp only[go_sem,seval,a1,a3,ab XM,kg,cC,k1,qK,iz];rw[hz k1]
  repeat' (first
   |with_reducible refine And.intro (λh=>?_) (λh=>?_)
   |with_reducible refine az.pure hs ?_)
  all_goals (rw[V.bool.injEq,Bool.eq_iff_iff];simp_all)
 .by_cases k2:x.kind=2
  .by_cases e1:x.line=0
   .have hok0:x.ok=false:=by
     by_cases RR:x.st=S1.zero<;>simp[Nd.ok,k2,RR,e1,bc]
    rw[hok0];simp only[go_sem,seval,a1,a3,ab XM,kg,cC,k1,k2,e1,qK,iz,av]
    repeat' (first
     |with_reducible refine And.intro (λh=>?_) (λh=>?_)
     |with_reducible refine az.pure hs rfl
     |(refine aD λUJ Z3 s3 a4 f4=>?_
       have a1:=s3 Vz _ (by rw[ab XM];exact a1);have a3:=s3 id3 _ av;simp only[go_sem,seval,a1,a3,a4,rq,dj,ew,er,bc,xL,List.all_nil,false_and];exact az.pure (hs.trans s3) rfl))
   .simp only[go_sem,seval,a1,a3,ab XM,kg,cC,k1,k2,e1,qK,iz,av];have Yy:x.ok=(decide (x.st=S1.zero)&&(x.words.all (bc · 1 mx)&&decide (0<x.words.length)&&bc x.line 1 mx&&bc x.space 0 mx&&decide (x.side=0)&&decide (x.w=0)&&decide (x.h=0))):=by
     by_cases RR:x.st=S1.zero<;>simp[Nd.ok,k2,RR]
    refine And.intro (λz=>?_) (λz=>az.pure hs (by rw[Yy];simp_all));refine And.intro (λw1=>?_) (λw1=>az.pure hs (by rw[Yy];simp[w1]));refine And.intro (λw2=>?_) (λw2=>az.pure hs (by rw[Yy];simp[w2]));refine And.intro (λw3=>?_) (λw3=>az.pure hs (by rw[Yy];simp[w3]));refine aD λUJ Z3 s3 a4 f4=>?_;have a1:=s3 Vz _ (by rw[ab XM];exact a1);have a3:=s3 id3 _ av;have hs:=hs.trans s3;simp only[go_sem,seval,a1,a3,a4,rq,dj,ew,er,oT _ hwl,iz,pG (List.all _ _)];refine And.intro (λq1=>?_) (λq1=>az.pure hs (by rw[Yy];simp[mx]at q1|-;simp[q1]));refine And.intro (λq2=>?_) (λq2=>az.pure hs (by rw[Yy];simp only[mx,q2];simp));refine aD λVP Z4 s4 a5 f5=>?_;have a1:=s4 _ _ a1;have hs:=hs.trans s4;simp only[go_sem,seval,a1,a5,rq,dj,ew,er,oT _ hwl,iz,cC,pG (List.all _ _)];refine And.intro (λq3=>?_) (λq3=>az.pure hs (by rw[Yy];simp[mx]at q3|-;simp[q3]));refine az.pure hs ?_;rw[Yy];simp only[mx,q1,q2,q3,z,w1,w2,w3];simp
  .have hok3:x.ok=(decide (x.st=S1.zero)&&(decide (x.line=0)&&decide (x.space=0)&&decide (x.words.length=0)&&bc x.w 1 mx&&bc x.h 1 mx&&
    (decide (x.kind=3)&&decide (x.side=0)||decide (x.kind=4)&&bc x.side 1 2))):=by
    by_cases RR:x.st=S1.zero<;>simp[Nd.ok,k1,k2,RR]
   by_cases k3:x.kind=3
   .simp only[go_sem,seval,a1,a3,ab XM,kg,cC,k1,k2,k3,qK,iz,av]
    repeat' (first
     |with_reducible refine And.intro (λh=>?_) (λh=>?_)
     |with_reducible refine az.pure hs ?_
     |(refine aD λUJ Z3 s3 a4 f4=>?_
       have a1:=s3 Vz _ (by rw[ab XM];exact a1);have a3:=s3 id3 _ av;simp only[go_sem,seval,a1,a3,a4,rq,dj,ew,er,bc,xL,List.all_nil,<-Bool.decide_and];refine az.pure (hs.trans s3) ?_))
    all_goals (rw[V.bool.injEq,hok3,Bool.eq_iff_iff];simp_all [bc,mx]<;>omega)
   .simp only[go_sem,seval,a1,a3,ab XM,kg,cC,k1,k2,k3,k4,qK,iz,av]
    repeat' (first
     |with_reducible refine And.intro (λh=>?_) (λh=>?_)
     |with_reducible refine az.pure hs ?_)
    all_goals (rw[V.bool.injEq,hok3];simp[k3,k4])
open Go.Proofs
def sZ(i:Nat):List Int->List Int
 |a::b::s=>if a=i then sZ i (b::s)else a::b::s
 |s=>s
def isS:List Nd->Nat->List Int->Bool
 |[],_,_=>true
 |x::r,i,Up=>match sZ i Up with
  |[]=>false
  |a::s=>if x.ok=true/\1<=x.size/\x.size<=a-i/\(x.kind=1\/x.size<=1)then isS r (i+1) ((i+x.size)::a::s)else false
def XN(n:Nat):Nat->List Int->Prop
 |lo,[]=>lo=n
 |lo,a::s=>(lo:Int)<=a/\XN n a.toNat s
def lz(l:List Nd):Nat->List Int->Bool
 |_,[]=>true
 |lo,a::s=>bC l lo a.toNat&&lz l a.toNat s
def DG(l:List Nd)(a:Nat):bC l a a=true:=by rw[bC,dif_neg (Nat.lt_irrefl a)]
def ub(l:List Nd)(n i:Nat)(hi:i<n):∀Up,XN n i Up->∃a s,sZ i Up=a::s/\(i:Int)<a/\XN n i (a::s)/\lz l i (a::s)=lz l i Up
 |[],h=>by simp only[XN]at h;omega
 |[a],h=>by
  have h':=h;simp only[XN]at h';exact⟨a,[],rfl,by omega,h,rfl⟩
 |a::b::s,h=>by
  by_cases ha:a=i
  .have h':=h.2;rw[ha,gu]at h';obtain⟨c,t,g1,g2,g3,g4⟩:=ub l n i hi (b::s) h';refine⟨c,t,by simp[sZ,ha,g1],g2,g3,?_⟩;rw[g4];show _=(bC l i a.toNat&&lz l a.toNat (b::s));rw[ha,gu,DG,Bool.true_and]
  .have h':=h.1;exact⟨a,b::s,by simp[sZ,ha],by omega,h,rfl⟩
def CY(l:List Nd):∀(r:List Nd) (i:Nat) (Up:List Int),l.drop i=r->XN l.length i Up->isS r i Up=(r.all Nd.ok&&lz l i Up)
 |[],i,Up,hr,hs=>by
  have hi:l.length<=i:=by simpa using hr
  have key:∀(Up:List Int) (lo:Nat),l.length<=lo->XN l.length lo Up->lz l lo Up=true:=by
   intro Up
   induction Up with
   |nil=>intro _ _ _;rfl
   |cons a s ih=>
    intro lo SD h;have h1:=h.1;simp only[lz];rw[ih a.toNat (by omega) h.2,bC,Bool.and_true];split
    .have:l[lo]?=none:=by simp[SD]
     rw[this];have hend:∀(Up:List Int) (lo:Nat),XN l.length lo Up->lo<=l.length:=by
      intro Up
      induction Up with
      |nil=>intro lo h;simp only[XN]at h;omega
      |cons b t ih=>intro lo h;have:=h.1;have:=ih _ h.2;omega
     have:=hend _ _ h.2;omega
    .rfl
  simp[isS,key Up i hi hs]
 |x::r,i,Up,hr,hs=>by
  have hi:i<l.length:=by
   rcases Nat.lt_or_ge i l.length with h|h
   .exact h
   .rw[ER h]at hr;cases hr
  have hx:l[i]?=some x:=by
   have:(l.drop i)[0]?=some x:=by rw[hr];rfl
   simpa using this
  have hr':l.drop (i+1)=r:=by
   have:(l.drop i).drop 1=r:=by rw[hr];rfl
   simpa using this
  obtain⟨a,s,h1,h2,h3,h4⟩:=ub l l.length i hi Up hs;rw[isS,h1];simp only;rw[<-h4];simp only[lz,xL];have Te:bC l i a.toNat=if _hx:1<=x.size/\x.size<=(a.toNat:Int)-i then
   (decide (x.kind=1)||decide (x.size<=1))&&bC l (i+1) (i+x.size.toNat)&&bC l (i+x.size.toNat) a.toNat else false:=by
   rw[bC,dif_pos (by omega),hx]
  rw[Te];have UK:(a.toNat:Int)=a:=by omega
  rw[UK];by_cases hc:1<=x.size/\x.size<=a-i
  .rw[dif_pos hc];have e:(i+x.size).toNat=i+x.size.toNat:=by omega
   have ih:=CY l r (i+1) ((i+x.size)::a::s) hr' ⟨by omega,by rw[e];omega,h3.2⟩;by_cases hk:x.ok=true/\(x.kind=1\/x.size<=1)
   .rw[aK ⟨hk.1,hc.1,hc.2,hk.2⟩,ih];simp only[lz,e,hk.1,Bool.true_and];have:(decide (x.kind=1)||decide (x.size<=1))=true:=by simpa using hk.2
    rw[this,Bool.true_and,Bool.and_assoc]
   .rw[aM (λh=>hk ⟨h.1,h.2.2.2⟩)];symm;rw[Bool.eq_false_iff];intro h;simp only[Ba,kO,Uy]at h;exact hk ⟨h.1.1,h.2.1.1.1⟩
  .rw[dif_neg hc,aM (λh=>hc ⟨h.2.1,h.2.2.1⟩)];simp
def IZ(l:List Nd):isS l 0 [(l.length:Int)]=Sc l:=by
 rw[CY l l 0 [(l.length:Int)] rfl ⟨by omega,by simp[XN]⟩];simp[lz,Sc]
open Go.Proofs
def o14(f:FuncId)(args:List V):Option V:=if f=138 then(match args with
 |[.agg [.int .i64 a0,.int .i64 a1,.int .i64 a2,.int .i64 a3,.int .i64 a4,.int .i64 a5,.int .i64 a6,.int .i64 a7,.int .i64 a8,.int .i64 a9,.int .i64 RZ,.int .i64 Ug,.int .i64 a12,.int .i64 Uw,.int .i64 U7,.int .i64 US,.sl 1 rows,.int .i64 a17,.int .i64 Ws,.int .i64 a19]]=>
  (gd rows).bind λws=>if ws.length<=200000000000000 then some (.bool (Nd.ok ⟨a0,a1,⟨a2,a3,a4,a5,a6,a7,a8,a9,RZ,Ug,a12,Uw⟩,U7,US,ws,a17,Ws,a19⟩))else none
 |_=>none)else none
def O14:Th prog where
 get f args _:=o14 f args
 ok f args U v h:=by
  unfold o14 at h;split at h
  .rename_i hf;subst hf;split at h
   .rw[Option.bind_eq_some_iff]at h;obtain⟨ws,h1,h2⟩:=h;split at h2
    .rename_i hw;simp only[bf]at h2;subst h2;rw[lJ h1];exact Kl ⟨_,_,⟨_,_,_,_,_,_,_,_,_,_,_,_⟩,_,_,ws,_,_,_⟩ hw U
    .cases h2
   .cases h
  .cases h
def KH{x:Nd}(hw:x.words.length<=200000000000000)(U:ak):O14.get 138 [.agg [.int .i64 x.kind,.int .i64 x.size,.int .i64 x.st.top,.int .i64 x.st.RX,.int .i64 x.st.RH,.int .i64 x.st.O',.int .i64 x.st.Si,.int .i64 x.st.RL,.int .i64 x.st.RY,.int .i64 x.st.head,.int .i64 x.st.before,.int .i64 x.st.after,.int .i64 x.st.inside,.int .i64 x.st.clear,.int .i64 x.line,.int .i64 x.space,aX x.words,.int .i64 x.side,.int .i64 x.w,.int .i64 x.h]] U=
 some (.bool x.ok):=by
 show((gd (x.words.map vI)).bind λws=>if ws.length<=200000000000000 then some (V.bool (Nd.ok ⟨x.kind,x.size,⟨x.st.top,x.st.RX,x.st.RH,x.st.O',x.st.Si,x.st.RL,x.st.RY,x.st.head,x.st.before,x.st.after,x.st.inside,x.st.clear⟩,x.line,x.space,ws,x.side,x.w,x.h⟩))else none)=_;rw[ug,Option.bind_some,aK hw]
def EX{rows:List V}{k:Nat}{a:Int}{s:List Int}(hk:k=(a::s).length)(ht:rows.take k=(a::s).reverse.map vI):rows[k-1]?=some (.int .i64 a)/\rows.take (k-1)=s.reverse.map vI:=by
 simp only[TI]at hk;have h1:(rows.take k)[k-1]?=rows[k-1]?:=by rw[List.getElem?_take,aK (by omega)]
 constructor
 .rw[<-h1,ht,hk];simp
 .have h2:rows.take (k-1)=(rows.take k).take (k-1):=by rw[List.take_take];congr 1;omega
  rw[h2,ht,hk];simp
def XN.le{n:Nat}:∀{Up:List Int} {lo:Nat},XN n lo Up->lo<=n
 |[],lo,h=>by simp only[XN]at h;omega
 |a::s,lo,h=>by have h1:=h.1;have h2:=XN.le h.2;omega
def Cn(l:List Nd)(hl:dq l):aV prog 109 [aQ l] (.bool (Sc l)):=λU=>by
 have hl0:=hl;obtain⟨hl1,hl2⟩:=hl;refine PK.q ?_;refine mS 6 ?_;simp only[go_sem,seval,aH,aJ,MP,bO];intro e0 he0;refine aq.loop (λm st=>∃i Up e k rows,i<=l.length/\m=l.length-i/\Sc l=isS (l.drop i) i Up/\XN l.length i Up/\Up≠[]/\Up.length<=i+1/\aa U st.U/\st.U e=some ⟨3,1,rows⟩/\U e=none/\k=Up.length/\k<=rows.length/\rows.take k=Up.reverse.map vI/\
  st.s 3=.own e 0 k/\st.s 9=aQ l/\st.s 10=vI l.length/\st.s 11=vI i) l.length ?_ ?_
 .refine⟨0,[(l.length:Int)],e0,1,[vI l.length],by omega,by omega,by rw[<-IZ];rfl,⟨by omega,by simp[XN]⟩,by simp,by simp,(aa.refl U).C' he0,av,he0,rfl,by simp,rfl,rfl,rfl,rfl,rfl⟩
 .rintro m ⟨s,Z'⟩ ⟨i,Up,e,k,rows,hi,rfl,hB,hasc,RU,Wx,G',Te,UQ,hk,hkr,Sd,h3,h9,YV,WW⟩;simp only at G' Te h3 h9 YV WW;refine mS 6 ?_;simp only[go_sem,seval,aH,aJ,h3,h9,YV,WW];refine And.intro (λu'=>?_) (λU1=>?_)
  .have Sz:i<l.length:=by simp at u';omega
   have hd:l.drop i=l[i]::l.drop (i+1):=jM Sz;have hxw:l[i].words.length<=200000000000000:=hl2 _ (Sx Sz);rw[hd]at hB;generalize WG:l[i]=x at*;simp only[go_sem,seval,aH,aJ,gk Sz,WG,jH,h3,h9,YV,WW,Nd.cells];intro VP Wg;replace Wg:Z' VP=none:=Wg;have n5e:e≠VP:=by rintro rfl;rw[Te]at Wg;cases Wg
   have n5n:U VP=none:=G'.none Wg;refine aq.loop (λm st=>∃Yz k',m=Yz.length/\sZ i Up=sZ i Yz/\XN l.length i Yz/\Yz≠[]/\Yz.length<=Up.length/\st.U=C' Z' VP ⟨59,20,[.agg x.cells]⟩/\k'=Yz.length/\k'<=rows.length/\rows.take k'=Yz.reverse.map vI/\
    st.s 3=.own e 0 k'/\st.s 4=vI i/\st.s 5=.ptr VP 0 0/\st.s 9=aQ l/\st.s 10=vI l.length/\st.s 11=vI i) Up.length ?_ ?_
   .exact⟨Up,k,rfl,rfl,hasc,RU,Sf _,rfl,hk,hkr,Sd,h3,rfl,rfl,h9,YV,WW⟩
   .rintro m ⟨s,Z''⟩ ⟨Yz,k',rfl,hpop,hasc',hne',hsl',R8,Tp,hkr',htk',h3,h4,h5,h9,YV,WW⟩;simp only at R8 h3 h4 h5 h9 YV WW;subst R8;obtain⟨a,tl,rfl⟩:=List.exists_cons_of_ne_nil hne';obtain⟨htop,htk2⟩:=EX Tp htk';have hkpos:1<=k':=by rw[Tp];simp
    have g0:(k':Int)-1<k':=by omega
    have g1:(0:Int)<=(k':Int)-1:=by omega
    have g2:(k':Int)-1<=k':=by omega
    have g3:((k':Int)-1).toNat=k'-1:=by omega
    have hrng:R0 .i64 ((k':Int)-1):=ao;refine aq.mix 6 ?_
    (refine aq.bx O14 300 ?_;simp only[go_sem,seval,aH,aJ,h3,h4,h5,h9,YV,WW,ab n5e,Te,g0,g1,g2,g3,Int.le_refl,Int.toNat_zero,Nat.sub_zero,htop,iz,Nd.cells,KH hxw,pG (Nd.ok x)])
    refine And.intro (λh1=>⟨hrng,And.intro (λh2=>?_) (λh2=>?_)⟩) (λh1=>?_)
    .obtain⟨b,tl',rfl⟩:∃b tl',tl=b::tl':=by
      cases tl with
      |nil=>simp at Tp;omega
      |cons b tl'=>exact⟨b,tl',rfl⟩
     have hp2:sZ i (a::b::tl')=sZ i (b::tl'):=by simp[sZ,h2]
     have ha2:=hasc'.2;rw[h2,gu]at ha2;refine⟨hrng,_,?_,b::tl',k'-1,rfl,by rw[hpop,hp2],ha2,by simp,?_,?_,by omega,htk2,rfl⟩
     .simp
     .simp only[TI]at hsl'|-;omega
     .simp only[TI]at Tp|-;omega
    all_goals
     have hps:sZ i (a::tl)=a::tl:=by
      cases tl with
      |nil=>rfl
      |cons b tl'=>
       have:a≠i:=by first
        |simpa using h2
        |(exfalso;simp at Tp h1;omega)
       simp[sZ,this]
     obtain⟨c,t,p1,p2,p3,p4⟩:=ub l l.length i Sz (a::tl) hasc';rw[hps,List.cons.injEq]at p1;obtain⟨rfl,rfl⟩:=p1;have hIs:Sc l=if x.ok=true/\1<=x.size/\x.size<=a-i/\(x.kind=1\/x.size<=1)then isS (l.drop (i+1)) (i+1) ((i+x.size)::a::tl)else false:=by
      rw[hB,isS,hpop,hps]
     have hale:=XN.le p3.2;have hlenk:(rows.take k').length=k':=by simp;omega
     have hstk:k'<=i+1:=by rw[Tp];omega
     have happ:x.ok=true/\1<=x.size/\x.size<=a-i/\(x.kind=1\/x.size<=1)->∀(X Y:Ob) (id Vz:Nat),C' Z' VP X id=none->C' (C' Z' VP X) id Y Vz=none->
      Sc l=isS (l.drop (i+1)) (i+1) ((i+x.size)::a::tl)/\XN l.length (i+1) ((i+x.size)::a::tl)/\aa U (C' (del (C' (C' Z' VP X) id Y) e) Vz ⟨3,1,rows.take k'++[.int .i64 (i+x.size)]⟩)/\U Vz=none/\
      (rows.take k'++[V.int .i64 (i+x.size)]).take (k'+1)=((i+x.size)::a::tl).reverse.map vI:=by
      intro hc X Y id Vz L' WC;rw[gl]at L';rw[gl,gl]at WC;rw[aK hc]at hIs;refine⟨hIs,⟨by omega,?_,p3.2⟩,?_,G'.none WC.2.2,?_⟩
      .have:(i+x.size).toNat=i+x.size.toNat:=by omega
       omega
      .exact aa.aL (aa.x7 ((G'.aL n5n).aL (G'.none L'.2)) UQ) (G'.none WC.2.2)
      .rw[pL (by simp;omega),htk'];simp
     refine And.intro (λq1=>And.intro (λq2=>⟨hrng,ao,And.intro (λq3=>And.intro (λq4=>And.intro (λq5=>?_) (λq5=>?_)) (λq4=>?_)) (λq3=>?_)⟩) (λq2=>?_)) (λq1=>?_)
     .refine az.pure (G'.C' Wg) ?_;rw[hIs,aM];rintro⟨c1,c2,c3,c4⟩;omega
     .refine⟨ao,?_⟩;intro id L';have Zr:=(gl.1 L').2;have nie:e≠id:=by rintro rfl;rw[Te]at Zr;cases Zr
      have TW:∀U,U e=some ⟨3,1,rows⟩->cm U 3 1 (.own e 0 k')=some (rows.take k',some e):=by
       intro U R8;simp only[cm,R8];rw[aK ⟨trivial,trivial,trivial,hkr'⟩]
      have Tg:∀U,U id=some ⟨3,1,[.int .i64 (i+x.size)]⟩->cB U 1 (.own id 0 1)=some [.int .i64 (i+x.size)]:=by
       intro U R8;simp only[cB,R8];rw[aK (by simp)];simp
      have hb:(k'+1)*9<=140737488355328:=by omega
      simp only[go_sem,seval,aH,aJ,TW,Tg,ab n5e,ab nie,Te,hlenk,hb,bR,h3,h4,h5,h9,YV,WW];intro Vz WC;obtain⟨z1,z2,z3,z4,z5⟩:=happ ⟨by simpa using q1,by omega,by omega,by first|(left;simpa using q4)|(right;simp at q5;omega)⟩ _ _ id Vz L' WC
      refine⟨ao,_,?_,i+1,_,Vz,k'+1,_,by omega,rfl,z1,z2,by simp,?_,z3,av,z4,?_,?_,z5,rfl,?_⟩
      .omega
      .simp only[TI]at Tp hsl'|-;omega
      .simp only[TI]at Tp|-;omega
      .simp;omega
      .simp
     .refine⟨ao,?_⟩;intro id L';have Zr:=(gl.1 L').2;have nie:e≠id:=by rintro rfl;rw[Te]at Zr;cases Zr
      have TW:∀U,U e=some ⟨3,1,rows⟩->cm U 3 1 (.own e 0 k')=some (rows.take k',some e):=by
       intro U R8;simp only[cm,R8];rw[aK ⟨trivial,trivial,trivial,hkr'⟩]
      have Tg:∀U,U id=some ⟨3,1,[.int .i64 (i+x.size)]⟩->cB U 1 (.own id 0 1)=some [.int .i64 (i+x.size)]:=by
       intro U R8;simp only[cB,R8];rw[aK (by simp)];simp
      have hb:(k'+1)*9<=140737488355328:=by omega
      simp only[go_sem,seval,aH,aJ,TW,Tg,ab n5e,ab nie,Te,hlenk,hb,bR,h3,h4,h5,h9,YV,WW];intro Vz WC;obtain⟨z1,z2,z3,z4,z5⟩:=happ ⟨by simpa using q1,by omega,by omega,by first|(left;simpa using q4)|(right;simp at q5;omega)⟩ _ _ id Vz L' WC
      refine⟨ao,_,?_,i+1,_,Vz,k'+1,_,by omega,rfl,z1,z2,by simp,?_,z3,av,z4,?_,?_,z5,rfl,?_⟩
      .omega
      .simp only[TI]at Tp hsl'|-;omega
      .simp only[TI]at Tp|-;omega
      .simp;omega
      .simp
     .refine az.pure (G'.C' Wg) ?_;rw[hIs,aM];rintro⟨c1,c2,c3,c4⟩;omega
     .refine az.pure (G'.C' Wg) ?_;rw[hIs,aM];rintro⟨c1,c2,c3,c4⟩;omega
     .refine az.pure (G'.C' Wg) ?_;rw[hIs,aM];rintro⟨c1,c2,c3,c4⟩;exact q1 (by simp[c1])
  .have YT:i=l.length:=by simp at U1;omega
   refine az.pure G' ?_;rw[hB,YT,vU];rfl
open Go.Proofs
def lU(times n:Int):Int:=if n=0\/times<=1099511627776/n then n*times else 1099511627777
def nr(times h:Int):List Int->Int
 |[]=>h
 |n::l=>nr times (min (h+lU times n) 1099511627777) l
def fq(i:Nat)(x:Nd)(s:Sm)(ends:List Int):Sm×List Int:=
 let ends:=ends.filter λn=>!decide (n<=(i:Int))
 if x.kind=1 then
  let ends:=ends++[i+x.size]
  (⟨max s.depth ends.length,s.pieces,s.nodes+1,nr 1 s.M' [x.st.top,x.st.RX,x.st.RH,x.st.O',x.st.head]⟩,ends)
 else if x.kind=2 then(⟨s.depth,s.pieces+x.words.length,s.nodes+1,nr x.words.length s.M' [x.line]⟩,ends)
 else(⟨s.depth,s.pieces+1,s.nodes+1,nr 1 s.M' [x.h]⟩,ends)
def jj(l:List Nd):Nat->Sm×List Int
 |0=>(⟨0,0,0,0⟩,[])
 |i+1=>match l[i]? with
  |some x=>fq i x (jj l i).1 (jj l i).2
  |none=>jj l i
def zb{times n:Int}(h0:0<=n)(h1:n<=mx)(t0:0<=times)(a:Int)(ha:0<=a):min (a+lU times n) 1099511627777=min (a+n*times) 1099511627777:=by
 unfold lU;split
 .rfl
 .rename_i h;have hn:0<n:=by omega
  have hq:1099511627776/n<times:=by omega
  have h2:1099511627776<n*times:=by
   have:=Int.ediv_lt_iff_lt_mul (a:=1099511627776) (b:=times) hn;have h3:=this.1 hq;rw[Int.mul_comm];exact h3
  omega
def tt{a b:Int}(h1:0<=a/\a<=1099511627777)(h2:0<=b):∀n:Nat,As a b n=min (a+b*n) 1099511627777
 |0=>by simp[As];omega
 |n+1=>by
  rw[As,tt h1 h2 n,jq];have e:b*((n+1:Nat):Int)=b*n+b:=by rw[Int.natCast_add,Int.mul_add];simp
  rw[e];have:0<=b*(n:Int):=Int.mul_nonneg h2 (by omega);generalize b*(n:Int)=q at*;omega
def lV{h n:Int}(h1:0<=h)(n0:0<=n)(n1:n<=mx):min (h+lU 1 n) 1099511627777=jq h n:=by
 rw[zb n0 n1 (by omega) h h1,Int.mul_one];rfl
def ku(l:List Nd)(i:Nat):Nat->List Int
 |0=>[]
 |k+1=>ku l i k++(match l[k]? with
  |some y=>if y.kind=1/\(i:Int)<k+y.size then[(k:Int)+y.size]else[]
  |none=>[])
def oJ(l:List Nd)(i:Nat):∀k,((ku l i k).length:Int)=eY l i k
 |0=>rfl
 |k+1=>by
  simp only[ku,eY,kI,Int.natCast_add,oJ l i k];cases l[k]? with
  |none=>simp
  |some y=>simp only[];split<;>simp
def oK(l:List Nd)(i:Nat):∀k,(ku l i k).filter (λn=>!decide (n<=((i+1:Nat):Int)))=ku l (i+1) k
 |0=>rfl
 |k+1=>by
  simp only[ku,List.filter_append,oK l i k];congr 1;split
  .rename_i y _;by_cases hk:y.kind=1
   .by_cases h1:((i+1:Nat):Int)<k+y.size
    .rw[aK ⟨hk,by omega⟩,aK ⟨hk,h1⟩];have:¬((k:Int)+y.size<=((i+1:Nat):Int)):=by omega
     simp only[List.filter_cons,this,decide_false,Bool.not_false,if_true,List.filter_nil]
    .rw[aM (show¬(y.kind=1/\((i+1:Nat):Int)<k+y.size)from λh=>h1 h.2)];split
     .have:(k:Int)+y.size<=((i+1:Nat):Int):=by omega
      simp only[List.filter_cons,this,decide_true,Bool.not_true,iP,if_false,List.filter_nil]
     .rfl
   .rw[aM (λh=>hk h.1),aM (λh=>hk h.1)];rfl
  .rfl
def nt(l:List Nd)(hl:dq l)(hb:Sc l=true):∀i,i<=l.length->(jj l i).1={ fA l ⟨0,0,l.length,0⟩ i with nodes:=i }/\(jj l i).2=(match i with
 |0=>[]
 |j+1=>ku l j (j+1))/\(fA l ⟨0,0,l.length,0⟩ i).ry i/\(fA l ⟨0,0,l.length,0⟩ i).nodes=l.length
 |0,_=>⟨rfl,rfl,by simp[fA,Sm.ry],rfl⟩
 |i+1,hi=>by
  obtain⟨h1,h2,h3,h4⟩:=nt l hl hb i (by omega);have RP:l.all Nd.ok=true/\bC l 0 l.length=true:=by simpa[Sc]using hb
  have hx:=(fL.1 RP.1) _ (Sx (show i<l.length by omega));have hg:l[i]?=some l[i]:=by simp[show i<l.length by omega]
  obtain⟨z1,z2,z3⟩:=iJ l (l.length+1) 0 l.length (by omega) (by omega) RP.2 i (by omega) (by omega) (by omega);have hw:=hl.2 _ (Sx (show i<l.length by omega));have Xq:=rf (l:=l) hx hw h3;generalize WG:l[i]=x at*;obtain⟨p1,p2,p3,p4,p5,p6⟩:=jy hx;have hS:jj l (i+1)=fq i x (jj l i).1 (jj l i).2:=by simp only[jj,hg]
  have hR:fA l ⟨0,0,l.length,0⟩ (i+1)=l7 l i x (fA l ⟨0,0,l.length,0⟩ i):=by simp only[fA,hg]
  have hf:(jj l i).2.filter (λn=>!decide (n<=(i:Int)))=ku l i i:=by
   rw[h2];cases i with
   |zero=>rfl
   |succ j=>exact oK l j (j+1)
  rw[hS,hR,h1];generalize W7:fA l ⟨0,0,l.length,0⟩ i=sm at*;obtain⟨f1,f2,f3⟩:=h3;have YA:ku l i (i+1)=ku l i i++(if x.kind=1 then[(i:Int)+x.size]else[]):=by
   simp only[ku,hg];by_cases hk:x.kind=1
   .rw[aK ⟨hk,by omega⟩,aK hk]
   .rw[aM (λh=>hk h.1),aM hk]
  refine⟨?_,?_,by rw[Int.natCast_add];exact Xq,?_⟩
  .by_cases hk:x.kind=1
   .obtain⟨q1,q2,q3,q4,q5⟩:=p6 hk;have r1:=dV f3 q1.1;have r2:=dV r1 q2.1;have r3:=dV r2 q3.1;have r4:=dV r3 q4.1;have hlen:=oJ l i (i+1);rw[YA,aK hk]at hlen;simp only[fq,l7,aK hk,hf,nr,Sm.mk.injEq];refine⟨?_,trivial,by simp,?_⟩
    .rw[hlen]
    .rw[lV f3.1 q1.1 q1.2,lV r1.1 q2.1 q2.2,lV r2.1 q3.1 q3.2,lV r3.1 q4.1 q4.2,lV r4.1 q5.1 q5.2]
   .by_cases Ti:x.kind=2
    .simp only[fq,l7,aM hk,aK Ti,nr,Sm.mk.injEq];refine⟨trivial,trivial,by simp,?_⟩;rw[zb p2 p3 (by omega) _ f3.1,tt f3 p2]
    .simp only[fq,l7,aM hk,aM Ti,nr,Sm.mk.injEq];exact⟨trivial,trivial,by simp,lV f3.1 p4 p5⟩
  .by_cases hk:x.kind=1
   .simp only[fq,aK hk,hf,YA]
   .by_cases Ti:x.kind=2
    .simp only[fq,aM hk,aK Ti,hf,YA,j6]
    .simp only[fq,aM hk,aM Ti,hf,YA,j6]
  .rw[<-h4];unfold l7;split
   .rfl
   .split<;>rfl
def x5(l:List Nd):Sm×Int:=if Sc l then((jj l l.length).1,0)else(⟨0,0,0,0⟩,4)
def D4(l:List Nd)(hl:dq l):x5 l=fS l:=by
 unfold x5 fS;by_cases hb:Sc l=true
 .obtain⟨h1,_,_,h4⟩:=nt l hl hb l.length (Sf _);rw[aK hb,aK hb,h1];generalize fA l ⟨0,0,l.length,0⟩ l.length=sm at*;cases sm;simp_all
 .rw[aM hb,aM hb]
open Go.Proofs
def Bm{U:ak}{c:Nat}{i:Int}(h:U c=some ⟨3,1,[vI i]⟩)(n:Int):aB prog 140 [vI n,.ptr c 0 0] U λr Z'=>r=.bool (decide (n<=i))/\Z'=U:=by
 refine Pd.q ?_;apply sR;simp only[go_sem,seval,aH,aJ,Mc,h];exact az.same rfl
abbrev kept(i:Int)(l:List Int):List Int:=l.filter λn=>!decide (n<=i)
def sN{p:Int->Bool}:∀{l:List Int},cX p l<0->l.filter (λn=>!p n)=l
 |[],_=>rfl
 |x::l,h=>by
  simp only[cX]at h;split at h
  .omega
  .rename_i hp;have hp':p x=false:=by simpa using hp
   split at h
   .rename_i h2;simp only[List.filter_cons,hp',Bool.not_false,if_true,sN h2]
   .have:=jv p l;omega
def sF{p:Int->Bool}:∀{l:List Int},¬cX p l<0->(cX p l).toNat<l.length/\(l.take (cX p l).toNat).filter (λn=>!p n)=l.take (cX p l).toNat/\
 ∀x,l[(cX p l).toNat]?=some x->p x=true
 |[],h=>by simp[cX]at h
 |x::l,h=>by
  simp only[cX]at h|-;split
  .rename_i hp;refine⟨by simp,by simp,?_⟩;intro y hy;simp at hy;subst hy;exact hp
  .rename_i hp;rw[aM hp]at h;have hp':p x=false:=by simpa using hp
   split
   .rename_i h2;rw[aK h2]at h;omega
   .rename_i h2;obtain⟨g1,g2,g3⟩:=sF h2;have:=jv p l;have e:(cX p l+1).toNat=(cX p l).toNat+1:=by omega
    rw[e];refine⟨by simp;omega,?_,?_⟩
    .simp only[Er,List.filter_cons,hp',Bool.not_false,if_true,g2]
    .simpa using g3
def Fa{U:ak}{e c k:Nat}{i:Int}{full:List Int}(he:U e=some ⟨3,1,full.map vI⟩)(hc:U c=some ⟨3,1,[vI i]⟩)(RU:c≠e)(hk:k<=full.length)(hfl:full.length<=1000000000000):
 aB prog 139 [.own e 0 k,.fn 140 [.ptr c 0 0]] U λr Z'=>∃(k':Nat) (Xr:List Int),r=.own e 0 k'/\Z'=C' U e ⟨3,1,Xr.map vI⟩/\k'<=Xr.length/\Xr.length<=full.length/\Xr.take k'=kept i (full.take k):=by
 have hlk:(full.take k).length=k:=by simp;omega
 have hr:Reads U 1 false (.own e 0 k) ((full.take k).map vI):=by
  have:=Reads.own (U:=U) (off:=0) (len:=k) he rfl (by simpa using hk) (λr hr=>by simp only[iD]at hr;obtain⟨n,_,rfl⟩:=hr;rfl);simpa using this
 refine Nk.q ?_;refine mS 8 ?_;simp only[go_sem,seval,aH,aJ,JL];refine pR rfl (nB (p:=λn=>decide (n<=i)) hr (by omega) (λn _=>Bm hc n)) ?_;generalize hw:cX (λn=>decide (n<=i)) (full.take k)=w;have hwg:-1<=w:=by rw[<-hw];exact jv _ _
 apply sR;simp only[go_sem,seval,aH,aJ];have Tr:C' U e ⟨3,1,full.map vI⟩=U:=by
  funext j;simp only[C'];split
  .rename_i e';rw[e',he]
  .rfl
 refine And.intro (λhm=>?_) (λhm=>?_)
 .refine⟨_,U,aa.refl U,Wk.refl (aa.refl U) _,k,full,rfl,Tr.symm,hk,Sf _,?_⟩;exact(sN (by rw[hw];omega)).symm
 .have hw0:¬cX (λn=>decide (n<=i)) (full.take k)<0:=by rw[hw];omega
  obtain⟨g1,g2,g3⟩:=sF hw0;rw[hw]at g1 g2 g3;rw[hlk]at g1;refine⟨ao,?_⟩;refine aq.loop (λm st=>∃(u j:Nat) (cur:List Int),u<j/\j<=k/\m=k-j/\cur.length=full.length/\cur.take u=kept i (full.take j)/\(∀q,j<=q->cur[q]?=full[q]?)/\st.U=C' U e ⟨3,1,cur.map vI⟩/\
   st.s 0=.own e 0 k/\st.s 1=.fn 140 [.ptr c 0 0]/\st.s 5=vI u/\st.s 6=vI j) (k-(w.toNat+1)) ?_ ?_
  .have hw1:w=((w.toNat:Nat):Int):=by omega
   refine⟨w.toNat,w.toNat+1,full,by omega,by omega,rfl,rfl,?_,λ_ _=>rfl,Tr.symm,rfl,rfl,?_,?_⟩
   .have hx:(full.take k)[w.toNat]?=some (full[w.toNat]'(by omega)):=by rw[List.getElem?_take,aK g1,VH]
    have hp:=g3 _ hx;have e1:(full.take k).take w.toNat=full.take w.toNat:=by rw[List.take_take];congr 1;omega
    rw[e1]at g2;rw[U0 (by omega)];have g2':kept i (full.take w.toNat)=full.take w.toNat:=g2;simp only[kept,List.filter_append]at g2'|-;rw[g2'];simp[hp]
   .show vI w=_;rw[<-hw1]
   .show vI (w+1)=_;rw[Int.natCast_add,<-hw1];rfl
  .rintro m ⟨s,Z'⟩ ⟨u,j,cur,huj,hjk,rfl,SU,hct,hcr,R8,h0,h1,h5,h6⟩;simp only at R8 h0 h1 h5 h6;subst R8;refine mS 8 ?_;simp only[go_sem,seval,aH,aJ,h0,h1,h5,h6];refine And.intro (λu'=>?_) (λU1=>?_)
   .have Sz:j<k:=by omega
    have hjc:j<cur.length:=by omega
    have TD:cur[j]?=some cur[j]:=by simp[hjc]
    have U1:(cur.map vI)[j]?=some (vI cur[j]):=by simp[hjc]
    have b1:(0:Int)<=j:=by omega
    have b2:(j:Int)<k:=by omega
    have b3:(0:Int)<=u:=by omega
    have b4:(u:Int)<k:=by omega
    simp only[go_sem,seval,aH,aJ,h0,h1,h5,h6,b1,b2,U1,gu];refine pR rfl (Bm (i:=i) (by rw[ab RU];exact hc) cur[j]) ?_;have hgu:(cur.map vI)[u]?=some (vI (cur[u]'(by omega))):=by simp[show u<cur.length by omega]
    apply sR;simp only[go_sem,seval,aH,aJ,h0,h1,h5,h6,b1,b2,b3,b4,U1,hgu,gu];have hfj:full[j]?=some cur[j]:=by rw[<-hcr j (Sf _)];exact TD
    have htj:full.take (j+1)=full.take j++[cur[j]]:=by
     have hjf:j<full.length:=by omega
     rw[U0 hjf];congr 2;rw[VH hjf]at hfj;simpa using hfj
    refine And.intro (λhd=>?_) (λhd=>?_)
    .refine⟨ao,ao,_,?_,u+1,j+1,cur.set u cur[j],by omega,by omega,rfl,by simpa using SU,?_,?_,?_,?_,?_⟩
     .omega
     .rw[htj];have hul:u<cur.length:=by omega
      have:(cur.set u cur[j]).take (u+1)=cur.take u++[cur[j]]:=by
       rw[U0 (by simpa using hul),List.take_set,List.set_eq_of_length_le (by simp;omega)];simp
      rw[this,hct];simp only[kept,List.filter_append];congr 1;have hd':¬cur[j]<=i:=by simpa using hd
      simp[hd']
     .intro q hq;rw[List.getElem?_set_ne (by omega)];exact hcr q (by omega)
     .simp
     .simp
     .simp
    .refine⟨ao,_,?_,u,j+1,cur,by omega,by omega,rfl,SU,?_,λq hq=>hcr q (by omega),rfl,?_⟩
     .omega
     .rw[htj,hct];simp only[kept,List.filter_append];have hd':cur[j]<=i:=by simpa using hd
      simp[hd']
     .simp
   .have hjk':j=k:=by omega
    subst hjk';have b3:(0:Int)<=u:=by omega
    have b4:(u:Int)<=j:=by omega
    simp only[go_sem,seval,aH,aJ,h0,h1,h5,h6,b3,b4,Int.le_refl,gu,lF];refine aq.clear (id:=e) (off:=u) (len:=j-u) (ob:=⟨3,1,cur.map vI⟩) rfl rfl rfl av rfl (by simp;omega) ?_;apply sR;simp only[go_sem,seval,aH,aJ,h0,h1,h5,h6,b3,b4,Int.le_refl,gu,lF,Nat.sub_zero];refine SG ⟨u,cur.take u++List.replicate (j-u) 0++cur.drop (u+(j-u)),by simp,?_,?_,?_,?_⟩
    .simp[List.map_take,List.map_drop]
    .simp;omega
    .simp;omega
    .rw[mR,M9 (by simp;omega),List.take_take,Nat.min_self,hct]
open Go.Proofs
def Reads.bj(U:ak):Reads U 1 false .bj []:=⟨rfl,λi v h=>by simp at h⟩
def Cb{U:ak}{c:Nat}{i:Int}(hc:U c=some ⟨3,1,[vI i]⟩):aB prog 139 [.bj,.fn 140 [.ptr c 0 0]] U λr Z'=>r=.bj/\Z'=U:=by
 refine Nk.q ?_;refine mS 8 ?_;simp only[go_sem,seval,aH,aJ,JL];refine pS rfl (nB (l:=[]) (p:=λn=>decide (n<=i)) (Reads.bj U) (by simp) (λn _=>Bm hc n)) ?_;simp only[go_sem,seval,aH,aJ,cX];exact az.same rfl
def GR{times n:Int}(h0:0<=n)(t0:0<=times):0<=lU times n/\lU times n<=1099511627777:=by
 unfold lU;split
 .rename_i h;refine⟨Int.mul_nonneg h0 t0,?_⟩;rcases h with h|h
  .subst h;simp
  .by_cases hn:n=0
   .subst hn;simp
   .have:=Int.mul_le_of_le_ediv (by omega:0<n) h;rw[Int.mul_comm];omega
 .omega
def df(s:Sm)(ends:V):Ob:=⟨165,5,[.agg [vI s.depth,vI s.pieces,vI s.nodes,vI s.M',ends]]⟩
def qG{U:ak}{c:Nat}{s:Sm}{ends sv:V}{times:Int}{l:List Int}(hc:U c=some (df s ends))(hr:∀ob,Reads (C' U c ob) 1 false sv (l.map vI))(hl:l.length<=200000000000000)
 (hn:∀n∈l,0<=n/\n<=mx)(ht:0<=times/\times<=200000000000000)(hh:0<=s.M'/\s.M'<=1099511627777)(YA:ends.cells=[ends]):
 aB prog 141 [.ptr c 0 0,vI times,sv] U λr Z'=>r=.RM []/\Z'=C' U c (df { s with M':=nr times s.M' l } ends):=by
 have hlen:ej false sv=some (vI (l.length:Int)):=by simpa using(hr ⟨0,0,[]⟩).1
 have Tr:C' U c (df s ends)=U:=by
  funext j;simp only[C'];split
  .rename_i e';rw[e',hc]
  .rfl
 refine P5.q ?_;refine mS 9 ?_;simp only[go_sem,seval,aH,aJ,OD,hlen];refine aq.loop (λm st=>∃(i:Nat) (h:Int),i<=l.length/\m=l.length-i/\nr times s.M' l=nr times h (l.drop i)/\(0<=h/\h<=1099511627777)/\st.U=C' U c (df { s with M':=h } ends)/\
  st.s 0=.ptr c 0 0/\st.s 1=vI times/\st.s 9=sv/\st.s 10=vI l.length/\st.s 11=vI i) l.length ?_ ?_
 .exact⟨0,s.M',by omega,by omega,rfl,hh,Tr.symm,rfl,rfl,rfl,rfl,rfl⟩
 .rintro m ⟨s',Z'⟩ ⟨i,h,hi,rfl,hp,hhh,R8,h0,h1,h9,YV,WW⟩;simp only at h0 h1 h9 YV WW R8;subst R8;refine mS 9 ?_;simp only[go_sem,seval,aH,aJ,h0,h1,h9,YV,WW];refine And.intro (λu'=>?_) (λU1=>?_)
  .have Sz:i<l.length:=by omega
   have hd:l.drop i=l[i]::l.drop (i+1):=jM Sz;obtain⟨pp,e1,e2⟩:=(hr (df { s with M':=h } ends)).2 i (vI l[i]) (by simp[Sz]);have hni:=hn _ (Sx Sz);rw[hd,nr]at hp;generalize RU:l[i]=n at*;have fb:=GR (n:=n) hni.1 ht.1;simp only[df]at e1 e2;simp only[mx]at hni;have hq:(1099511627776:Int).tdiv n=1099511627776/n:=Int.tdiv_eq_ediv_of_nonneg (by omega);by_cases hz:n=0
   .have Ty:lU times n=n*times:=by unfold lU;rw[aK (.inl hz)]
    rw[Ty]at hp fb;simp only[go_sem,seval,aH,aJ,e1,e2,df,hz,h0,h1,h9,YV,WW];rw[hz]at hp fb;simp only[Int.zero_mul,Int.add_zero]at hp|-;refine⟨ao,ao,ao,_,?_,i+1,h,by omega,rfl,?_,hhh,?_,by simp⟩
    .omega
    .rw[hp,Int.min_eq_left hhh.2]
    .rw[aM (by omega)]
   .simp only[go_sem,seval,aH,aJ,e1,e2,df,hz,h0,h1,h9,YV,WW,hq];have hdiv:0<=1099511627776/n/\1099511627776/n<=1099511627776:=⟨Int.ediv_nonneg (by omega) hni.1,Int.ediv_le_self _ (by omega)⟩
    refine⟨ao,λhle=>?_,λhgt=>?_⟩
    .have Ty:lU times n=n*times:=by unfold lU;rw[aK (.inr hle)]
     rw[Ty]at hp fb;refine⟨ao,ao,ao,_,?_,i+1,min (h+n*times) 1099511627777,by omega,rfl,hp,by omega,?_,by simp⟩
     .omega
     .rw[show(if 1099511627777<h+n*times then 1099511627777 else h+n*times)=min (h+n*times) 1099511627777 by split<;>omega]
    .have Ty:lU times n=1099511627777:=by unfold lU;rw[aM (by omega)]
     rw[Ty]at hp fb;refine⟨ao,ao,_,?_,i+1,min (h+1099511627777) 1099511627777,by omega,rfl,hp,by omega,?_,by simp⟩
     .omega
     .rw[show(if 1099511627777<h+1099511627777 then 1099511627777 else h+1099511627777)=min (h+1099511627777) 1099511627777 by split<;>omega]
  .have:i=l.length:=by omega
   refine SG ⟨rfl,?_⟩;rw[hp,this,vU];rfl
open Go.Proofs
def Fk{P:Program}{n:Nat}{Q:St->Prop}{k:List It}{O:Th P}{f:Nat}{d:Option Nat}{l:List aS}{v:Nat->V}{ob:Ob}{s:Nat->V}{U:ak}{e:Nat}
 (h:∀id Z',aa (del U e) Z'->Z' id=some ob->U id=none->step P O n f (.d l k) ⟨aY s d (v id),Z'⟩ Q):
 D8 P O n f l k d ⟨s,U⟩ Q (some λid=>(v id,Vc.C' (del U e) id ob)):=by
 rw[aJ];refine λid L'=>h id _ ((aa.refl _).C' ?_) av L';by_cases e':id=e
 .simp[del,e']
 .rw[eT e'];exact L'
def mI(K U:ak)(v:V)(ends:List Int)(B:Nat):Prop:=
 (v=.bj/\ends=[])\/∃(e k:Nat) (full:List Int),v=.own e 0 k/\U e=some ⟨3,1,full.map vI⟩/\K e=none/\k<=full.length/\full.length<=B/\full.take k=ends
def Ml{K U:ak}{v:V}{ends:List Int}{B c:Nat}{i:Int}(hB:B<=1000000000000)(h:mI K U v ends B)(hK:aa K U)(hc:K c=some ⟨3,1,[vI i]⟩):
 aB prog 139 [v,.fn 140 [.ptr c 0 0]] U λr Z'=>aa K Z'/\mI K Z' r (kept i ends) B:=by
 rcases h with⟨rfl,rfl⟩|⟨e,k,full,rfl,h1,h2,h3,h4,rfl⟩
 .refine(Cb (hK _ _ hc)).mono ?_;rintro r Z' ⟨rfl,rfl⟩;exact⟨hK,.inl ⟨rfl,rfl⟩⟩
 .have RU:c≠e:=by rintro rfl;rw[h2]at hc;cases hc
  refine(Fa h1 (hK _ _ hc) RU h3 (by omega)).mono ?_;rintro r Z' ⟨k',Xr,rfl,rfl,g1,g2,g3⟩;exact⟨hK.aL h2,.inr ⟨e,k',Xr,rfl,av,h2,g1,by omega,g3⟩⟩
def aa.Hp{K U:ak}{i:Nat}{o:Ob}(h:aa K U)(hi:U i=some o):aa (Vc.C' K i o) U:=λj x hx=>by
 by_cases e:j=i
 .subst e;rw[av]at hx;rw[hi];exact hx
 .rw[ab e]at hx;exact h j x hx
def mI.new{K U Z':ak}{v:V}{ends:List Int}{B id:Nat}{o:Ob}(h:mI K U v ends B)(hs:aa U Z')(L':U id=none):mI (C' K id o) Z' v ends B:=by
 rcases h with h|⟨e,k,full,h0,h1,h2,h3⟩
 .exact .inl h
 .exact .inr ⟨e,k,full,h0,hs _ _ h1,by rw[ab (bb h1 L')];exact h2,h3⟩
def mI.less{K K' U:ak}{v:V}{ends:List Int}{B:Nat}(h:mI K' U v ends B)(hs:aa K K'):mI K U v ends B:=by
 rcases h with h|⟨e,k,full,h0,h1,h2,h3⟩
 .exact .inl h
 .exact .inr ⟨e,k,full,h0,h1,hs.none h2,h3⟩
def KC{K U:ak}{v:V}{ends:List Int}{B c i:Nat}{x:Nd}{s:Sm}(hK:aa K U)(Zy:K c=none)(hc:U c=some (df s v))(hE:∀o,mI (C' K c o) U v ends B)(hB:B<=1000000000)
 (hi:i<=10000)(hs:s.ry i)(hsn:s.nodes=i)(hx:x.ok=true)(hw:x.words.length<=200000000000000)(Tt:1<=x.size/\x.size<=1000000000):
 aB prog 110 [.ptr c 0 0,vI i,gz x] U λr Z'=>r=.RM []/\aa K Z'/\∃v',Z' c=some (df (fq i x s ends).1 v')/\∀o,mI (C' K c o) Z' v' (fq i x s ends).2 (B+1):=by
 refine Pj.q ?_;refine mS 7 ?_;simp only[go_sem,seval,Mo,gz,Nd.cells];refine aD λUJ Z1 s1 a4 f4=>?_;have Yn:=s1 _ _ hc;have n4c:=bb hc f4;simp only[go_sem,seval,a4];refine aD λVP Z2 s2 a5 f5=>?_;have YQ:=s2 _ _ Yn;have n5c:=bb Yn f5;have n54:=bb a4 f5;have a4:=s2 _ _ a4;have hK2:=(hK.trans s1).trans s2;have k4:K UJ=none:=hK.none f4;have k5:K VP=none:=(hK.trans s1).none f5;simp only[go_sem,seval,YQ,df,a4,a5];have hK':aa (C' (C' (C' K c (df s v)) UJ ⟨3,1,[vI i]⟩) VP ⟨59,20,[gz x]⟩) Z2:=((hK2.Hp YQ).Hp a4).Hp a5;have hE':mI (C' (C' (C' K c (df s v)) UJ ⟨3,1,[vI i]⟩) VP ⟨59,20,[gz x]⟩) Z2 v ends B:=((hE _).new s1 f4).new s2 f5;refine Tx rfl (Ml (by omega) hE' hK' (by rw[ab n54,av])) ?_;rintro r Z3 ⟨hK3,hE3⟩;have Un:=hK3 c _ (by rw[ab n5c,ab n4c,av]);have a4:=hK3 UJ _ (by rw[ab n54,av]);have a5:=hK3 VP _ av;simp only[gz,Nd.cells]at a5;simp only[df]at Un;have hKK:=(((aa.refl K).aL Zy (o:=df s v)).aL k4 (o:=⟨3,1,[vI i]⟩)).aL k5 (o:=⟨59,20,[gz x]⟩);have h3:=hKK.trans hK3;have hsr:R0 .i64 (s.nodes+1):=ao;obtain⟨p1,p2,p3,p4,p5,p6⟩:=jy hx;obtain⟨f1,f2,f3⟩:=hs;rcases hE3 with⟨rfl,VQ⟩|⟨e,k,full,rfl,he,hKe,hk,hfl,VQ⟩
 .by_cases SV:x.kind=1
  .apply sR;simp only[go_sem,seval,a4,a5,Un,ab n4c.symm,ab n5c.symm,SV];refine⟨hsr,ao,?_⟩;refine bJ λid8 Z4 s4 a8 f8=>?_;have hc4:=s4 c _ av;have a4:=s4 UJ _ (by rw[ab n4c.symm];exact a4);have a5:=s4 VP _ (by rw[ab n5c.symm];exact a5);have hs8:∀U,U id8=some ⟨3,1,[.int .i64 (i+x.size)]⟩->cB U 1 (.own id8 0 1)=some [.int .i64 (i+x.size)]:=by
    intro U R8;simp only[cB,R8];rw[aK (by simp)];simp
   have hd:∀U,cm U 3 1 .bj=some ([],none):=λ_=>rfl;simp only[go_sem,seval,hs8,a8,hd,bR,Nat.reduceLeDiff];refine bJ λWV Z5 s5 a9 f9=>?_;have hc5:=s5 c _ hc4;have a4:=s5 UJ _ a4;have a5:=s5 VP _ a5;have n9c:WV≠c:=by rintro rfl;rw[hc4]at f9;cases f9
   have n95:WV≠VP:=by rintro rfl;rw[s4 WV _ (by rw[ab n5c.symm];exact hK3 WV _ av)]at f9;cases f9
   simp only[go_sem,seval,hc5,a4,a5,a9,ab n5c.symm,ab n9c];refine aD λWU Z6 s6 a6 f6=>?_;have hc6:=s6 c _ av;have a9:=s6 WV _ (by rw[ab n9c];exact a9);have n6c:WU≠c:=by rintro rfl;rw[hc6]at a6;simp at a6
   have XO:WU≠WV:=by rintro rfl;rw[a9]at a6;simp at a6
   simp only[go_sem,seval,a6];refine aD λid84 Z7 s7 a84 f84=>?_;have YB:=s7 c _ (by rw[ab n6c.symm];exact hc6);have a9:=s7 WV _ (by rw[ab XO.symm];exact a9);have n84c:id84≠c:=by rintro rfl;rw[YB]at a84;simp at a84
   simp only[go_sem,seval];have h4:=(h3.aL Zy).trans s4;have h5:=h4.trans s5;have k9:K WV=none:=h4.none f9;have h6':=λo=>h5.aL Zy (o:=o);have k6:K WU=none:=(h6' _).none f6;have h7:=(((h6' _).trans s6).aL k6).trans s7;obtain⟨q1,q2,q3,q4,q5⟩:=p6 SV;have hl5:∀n∈[x.st.top,x.st.RX,x.st.RH,x.st.O',x.st.head],0<=n/\n<=mx:=by
    intro n hn;simp only[dZ,List.not_mem_nil,or_false]at hn;rcases hn with rfl|rfl|rfl|rfl|rfl<;>assumption
   refine Tx rfl (qG (s:=⟨if(1:Int)>s.depth then 1 else s.depth,s.pieces,s.nodes+1,s.M'⟩) (l:=[x.st.top,x.st.RX,x.st.RH,x.st.O',x.st.head]) (times:=1) YB
    (λob=>Reads.own (off:=0) (len:=5) ((ab n84c).trans a84) rfl (by simp) (λr hr=>by simp at hr;rcases hr with rfl|rfl|rfl|rfl|rfl<;>rfl)) (by simp) hl5 (by omega) f3 rfl) ?_
   rintro r Z8 ⟨rfl,rfl⟩;apply sR;simp only[go_sem,seval,aH,aJ];refine SG ⟨rfl,h7.aL Zy,.own WV 0 1,?_,λo=>.inr ⟨WV,1,[i+x.size],rfl,(ab n9c).trans a9,gl.2 ⟨n9c,k9⟩,by simp,by simp,?_⟩⟩
   .have e:(if(1:Int)>s.depth then 1 else s.depth)=max s.depth 1:=by split<;>omega
    rw[av,e];simp[fq,SV,VQ,df]
   .simp[fq,SV,VQ]
  .by_cases Ti:x.kind=2
   .apply sR;simp only[go_sem,seval,a4,a5,Un,ab n4c.symm,ab n5c.symm,Ti,cC];refine⟨hsr,ao,?_⟩;refine aD λid7 Z7 s7 a7 f7=>?_;have YB:=s7 c _ av;have n7c:id7≠c:=by rintro rfl;rw[YB]at a7;simp at a7
    simp only[go_sem,seval];have h7:=(h3.aL Zy).trans s7;refine Tx rfl (qG (s:=⟨s.depth,s.pieces+x.words.length,s.nodes+1,s.M'⟩) (l:=[x.line]) (times:=x.words.length) YB
     (λob=>Reads.own (off:=0) (len:=1) ((ab n7c).trans a7) rfl (by simp) (λr hr=>by simp at hr;rcases hr with rfl;rfl)) (by simp) (by intro n hn;simp at hn;subst hn;exact⟨p2,p3⟩) (by omega) f3 rfl) ?_
    rintro r Z8 ⟨rfl,rfl⟩;apply sR;simp only[go_sem,seval,aH,aJ];refine SG ⟨rfl,h7.aL Zy,_,av.trans (by simp[fq,Ti,df];rfl),λo=>?_⟩;have:(fq i x s ends).2=kept i ends:=by simp[fq,Ti]
    rw[this];exact .inl ⟨rfl,VQ⟩
   .have h4or:=p1;apply sR;simp only[go_sem,seval,a4,a5,Un,ab n4c.symm,ab n5c.symm,SV,Ti,cC];refine⟨hsr,ao,?_⟩;refine aD λid7 Z7 s7 a7 f7=>?_;have YB:=s7 c _ av;have n7c:id7≠c:=by rintro rfl;rw[YB]at a7;simp at a7
    simp only[go_sem,seval];have h7:=(h3.aL Zy).trans s7;refine Tx rfl (qG (s:=⟨s.depth,s.pieces+1,s.nodes+1,s.M'⟩) (l:=[x.h]) (times:=1) YB
     (λob=>Reads.own (off:=0) (len:=1) ((ab n7c).trans a7) rfl (by simp) (λr hr=>by simp at hr;rcases hr with rfl;rfl)) (by simp) (by intro n hn;simp at hn;subst hn;exact⟨p4,p5⟩) (by omega) f3 rfl) ?_
    rintro r Z8 ⟨rfl,rfl⟩;apply sR;simp only[go_sem,seval,aH,aJ];refine SG ⟨rfl,h7.aL Zy,_,av.trans (by simp[fq,SV,Ti,df];rfl),λo=>?_⟩;have:(fq i x s ends).2=kept i ends:=by simp[fq,SV,Ti]
    rw[this];exact .inl ⟨rfl,VQ⟩
 .have YS:e≠c:=λe'=>by rw[e',ab n5c,ab n4c,av]at hKe;cases hKe
  have he4:e≠UJ:=λe'=>by rw[e',ab n54,av]at hKe;cases hKe
  have he5:e≠VP:=λe'=>by rw[e',av]at hKe;cases hKe
  have hKe0:K e=none:=hKK.none hKe;have hlk:(full.take k).length=k:=by simp;omega
  by_cases SV:x.kind=1
  .apply sR;simp only[go_sem,seval,a4,a5,Un,ab n4c.symm,ab n5c.symm,SV];refine⟨hsr,ao,?_⟩;refine bJ λid8 Z4 s4 a8 f8=>?_;have hc4:=s4 c _ av;have a4:=s4 UJ _ (by rw[ab n4c.symm];exact a4);have a5:=s4 VP _ (by rw[ab n5c.symm];exact a5);have hs8:∀U,U id8=some ⟨3,1,[.int .i64 (i+x.size)]⟩->cB U 1 (.own id8 0 1)=some [.int .i64 (i+x.size)]:=by
    intro U R8;simp only[cB,R8];rw[aK (by simp)];simp
   have he4':=s4 e _ (by rw[ab YS];exact he);have hd:∀U,U e=some ⟨3,1,full.map vI⟩->cm U 3 1 (.own e 0 k)=some ((full.take k).map vI,some e):=by
    intro U R8;simp only[cm,R8];rw[aK ⟨trivial,trivial,trivial,by simpa using hk⟩,List.map_take]
   have Uh:((full.take k).map vI).length=k:=by simpa using hlk
   have Ui:(k+1)*9<=140737488355328:=by omega
   simp only[go_sem,seval,hs8,a8,hd,he4',bR,Uh,Ui];refine Fk λWV Z5 s5 a9 f9=>?_;have hc5:=s5 c _ (by rw[eT YS.symm];exact hc4);have a4:=s5 UJ _ (by rw[eT he4.symm];exact a4);have a5:=s5 VP _ (by rw[eT he5.symm];exact a5);have n9c:WV≠c:=by rintro rfl;rw[hc4]at f9;cases f9
   have n95:WV≠VP:=by rintro rfl;rw[s4 WV _ (by rw[ab n5c.symm];exact hK3 WV _ av)]at f9;cases f9
   simp only[go_sem,seval,hc5,a4,a5,a9,ab n5c.symm,ab n9c];refine aD λWU Z6 s6 a6 f6=>?_;have hc6:=s6 c _ av;have a9:=s6 WV _ (by rw[ab n9c];exact a9);have n6c:WU≠c:=by rintro rfl;rw[hc6]at a6;simp at a6
   have XO:WU≠WV:=by rintro rfl;rw[a9]at a6;simp at a6
   simp only[go_sem,seval,a6];refine aD λid84 Z7 s7 a84 f84=>?_;have YB:=s7 c _ (by rw[ab n6c.symm];exact hc6);have a9:=s7 WV _ (by rw[ab XO.symm];exact a9);have n84c:id84≠c:=by rintro rfl;rw[YB]at a84;simp at a84
   simp only[go_sem,seval];have h4:=(h3.aL Zy).trans s4;have h4':=h4.x7 hKe0;have h5:=h4'.trans s5;have k9:K WV=none:=h4.none f9;have h6':=λo=>h5.aL Zy (o:=o);have k6:K WU=none:=(h6' _).none f6;have h7:=(((h6' _).trans s6).aL k6).trans s7;obtain⟨q1,q2,q3,q4,q5⟩:=p6 SV;have hl5:∀n∈[x.st.top,x.st.RX,x.st.RH,x.st.O',x.st.head],0<=n/\n<=mx:=by
    intro n hn;simp only[dZ,List.not_mem_nil,or_false]at hn;rcases hn with rfl|rfl|rfl|rfl|rfl<;>assumption
   refine Tx rfl (qG (s:=⟨if((k+1:Nat):Int)>s.depth then((k+1:Nat):Int)else s.depth,s.pieces,s.nodes+1,s.M'⟩) (l:=[x.st.top,x.st.RX,x.st.RH,x.st.O',x.st.head]) (times:=1) YB
    (λob=>Reads.own (off:=0) (len:=5) ((ab n84c).trans a84) rfl (by simp) (λr hr=>by simp at hr;rcases hr with rfl|rfl|rfl|rfl|rfl<;>rfl)) (by simp) hl5 (by omega) f3 rfl) ?_
   rintro r Z8 ⟨rfl,rfl⟩;apply sR;simp only[go_sem,seval,aH,aJ];refine SG ⟨rfl,h7.aL Zy,.own WV 0 (k+1),?_,λo=>.inr ⟨WV,k+1,full.take k++[i+x.size],rfl,((ab n9c).trans a9).trans (by simp),gl.2 ⟨n9c,k9⟩,by simp;omega,by simp;omega,?_⟩⟩
   .have e:(if((k+1:Nat):Int)>s.depth then((k+1:Nat):Int)else s.depth)=max s.depth ((k+1:Nat):Int):=by split<;>omega
    rw[av,e];have hk0':kept i ends=full.take k:=VQ.symm;simp[fq,SV,hk0',hlk,df,Nat.min_eq_left hk]
   .have hk0':kept i ends=full.take k:=VQ.symm;rw[pL (by simp;omega)];simp[fq,SV,hk0']
  .by_cases Ti:x.kind=2
   .apply sR;simp only[go_sem,seval,a4,a5,Un,ab n4c.symm,ab n5c.symm,Ti,cC];refine⟨hsr,ao,?_⟩;refine aD λid7 Z7 s7 a7 f7=>?_;have YB:=s7 c _ av;have n7c:id7≠c:=by rintro rfl;rw[YB]at a7;simp at a7
    simp only[go_sem,seval];have h7:=(h3.aL Zy).trans s7;refine Tx rfl (qG (s:=⟨s.depth,s.pieces+x.words.length,s.nodes+1,s.M'⟩) (l:=[x.line]) (times:=x.words.length) YB
     (λob=>Reads.own (off:=0) (len:=1) ((ab n7c).trans a7) rfl (by simp) (λr hr=>by simp at hr;rcases hr with rfl;rfl)) (by simp) (by intro n hn;simp at hn;subst hn;exact⟨p2,p3⟩) (by omega) f3 rfl) ?_
    rintro r Z8 ⟨rfl,rfl⟩;apply sR;simp only[go_sem,seval,aH,aJ];refine SG ⟨rfl,h7.aL Zy,_,av.trans (by simp[fq,Ti,df];rfl),λo=>?_⟩;have:(fq i x s ends).2=kept i ends:=by simp[fq,Ti]
    rw[this];exact .inr ⟨e,k,full,rfl,(ab YS).trans (s7 e _ (by rw[ab YS];exact he)),gl.2 ⟨YS,hKe0⟩,hk,by omega,VQ⟩
   .have h4or:=p1;apply sR;simp only[go_sem,seval,a4,a5,Un,ab n4c.symm,ab n5c.symm,SV,Ti,cC];refine⟨hsr,ao,?_⟩;refine aD λid7 Z7 s7 a7 f7=>?_;have YB:=s7 c _ av;have n7c:id7≠c:=by rintro rfl;rw[YB]at a7;simp at a7
    simp only[go_sem,seval];have h7:=(h3.aL Zy).trans s7;refine Tx rfl (qG (s:=⟨s.depth,s.pieces+1,s.nodes+1,s.M'⟩) (l:=[x.h]) (times:=1) YB
     (λob=>Reads.own (off:=0) (len:=1) ((ab n7c).trans a7) rfl (by simp) (λr hr=>by simp at hr;rcases hr with rfl;rfl)) (by simp) (by intro n hn;simp at hn;subst hn;exact⟨p4,p5⟩) (by omega) f3 rfl) ?_
    rintro r Z8 ⟨rfl,rfl⟩;apply sR;simp only[go_sem,seval,aH,aJ];refine SG ⟨rfl,h7.aL Zy,_,av.trans (by simp[fq,SV,Ti,df];rfl),λo=>?_⟩;have:(fq i x s ends).2=kept i ends:=by simp[fq,SV,Ti]
    rw[this];exact .inr ⟨e,k,full,rfl,(ab YS).trans (s7 e _ (by rw[ab YS];exact he)),gl.2 ⟨YS,hKe0⟩,hk,by omega,VQ⟩
open Go.Proofs
def Av(l:List Nd)(hl:dq l):aV prog 76 [aQ l] (.RM [.agg (fS l).1.cells,vI (fS l).2]):=λU=>by
 have hl0:=hl;obtain⟨hl1,hl2⟩:=hl;rw[<-D4 l hl0];refine e76.q ?_;refine mS 7 ?_;simp only[go_sem,seval,c76];refine aD λYd Z1 s1 aR fR=>?_;simp only[go_sem,seval,aR];refine pS rfl (Cn l hl0 _) ?_;simp only[go_sem,seval,iz,aR];refine And.intro (λhf=>?_) (λhf=>?_)
 .simp only[Bool.not_eq_eq_eq_not,Bool.not_true]at hf;refine az.pure (s1.aL fR) ?_;simp[x5,hf,Sm.cells]
 .simp only[Bool.not_eq_eq_eq_not,Bool.not_false]at hf;refine aD λUJ Z2 s2 a4 f4=>?_;have nR4:=bb aR f4;have aR:=s2 _ _ aR;have g4:U UJ=none:=s1.none f4;have hKR:aa (C' U Yd ⟨120,4,[.agg Sm.zero.cells]⟩) Z2:=(s1.trans s2).Hp aR;have k4:C' U Yd ⟨120,4,[.agg Sm.zero.cells]⟩ UJ=none:=gl.2 ⟨nR4.symm,g4⟩;simp only[go_sem,seval,bO];refine aq.loop (λm st=>∃(i:Nat) (v:V),i<=l.length/\m=l.length-i/\aa (C' U Yd ⟨120,4,[.agg Sm.zero.cells]⟩) st.U/\st.U UJ=some (df (jj l i).1 v)/\
   (∀o,mI (C' (C' U Yd ⟨120,4,[.agg Sm.zero.cells]⟩) UJ o) st.U v (jj l i).2 i)/\st.s 2=.ptr Yd 0 0/\st.s 4=.ptr UJ 0 0/\st.s 11=aQ l/\st.s 12=vI l.length/\st.s 13=vI i) l.length ?_ ?_
  .exact⟨0,.bj,by omega,by omega,hKR,a4,λo=>.inl ⟨rfl,rfl⟩,rfl,rfl,rfl,rfl,rfl⟩
  .rintro m ⟨s,Z'⟩ ⟨i,v,hi,rfl,G',h4s,hE,h2,h4,WW,h12,h13⟩;simp only at G' h4s hE h2 h4 WW h12 h13;obtain⟨e1,e2,e3,e4⟩:=nt l hl0 hf i hi;have RP:l.all Nd.ok=true/\bC l 0 l.length=true:=by simpa[Sc]using hf
   have hRs:Z' Yd=some ⟨120,4,[.agg Sm.zero.cells]⟩:=G' Yd _ av;refine mS 7 ?_;simp only[go_sem,seval,h2,h4,WW,h12,h13,h4s,df,hRs,Sm.zero,Sm.cells];refine And.intro (λu'=>?_) (λU1=>?_)
   .have Sz:i<l.length:=by omega
    have hx:=(fL.1 RP.1) _ (Sx Sz);have hxw:=hl2 _ (Sx Sz);obtain⟨z1,z2,z3⟩:=iJ l (l.length+1) 0 l.length (by omega) (by omega) RP.2 i (by omega) Sz Sz;have Vy:jj l (i+1)=fq i l[i] (jj l i).1 (jj l i).2:=by simp[jj,Sz]
    generalize WG:l[i]=x at*;simp only[go_sem,seval,gk Sz,WG,h2,h4,WW,h12,h13,Nd.cells];refine aD λWU Z6 s6 a6 f6=>?_;have n64:WU≠UJ:=by rintro rfl;rw[h4s]at f6;cases f6
    have n6R:WU≠Yd:=by rintro rfl;rw[hRs]at f6;cases f6
    have g6:C' U Yd ⟨120,4,[.agg Sm.zero.cells]⟩ WU=none:=G'.none f6;simp only[go_sem,seval,a6,h2,h4,WW,h12,h13];have hsub6:=G'.trans s6;have Uo:=(KC (K:=C' U Yd ⟨120,4,[.agg Sm.zero.cells]⟩) (U:=C' Z6 WU ⟨59,20,[gz x]⟩) (i:=i) (x:=x) (s:=(jj l i).1) (B:=i) (hsub6.aL g6) k4 ((ab n64.symm).trans (s6 _ _ h4s))
     (λo=>((hE o).new (s6.aL f6) f6 (o:=⟨0,0,[]⟩)).less ((aa.refl _).aL (gl.2 ⟨n64,g6⟩))) (by omega) (by omega) (by rw[e1];exact e3) (by rw[e1]) hx hxw (by omega))
    simp only[gz,Nd.cells]at Uo;refine Tx rfl (by simp only[go_sem,seval,aH,aJ,h4];exact Uo) ?_
    .rintro r Z7 ⟨rfl,hK7,v',h4',hE'⟩;apply sR;simp only[go_sem,seval,aH,aJ,h2,h4,WW,h12,h13];refine⟨ao,_,?_,i+1,v',by omega,rfl,hK7,?_,?_,?_⟩
     .omega
     .rw[Vy,h4'];rfl
     .intro o;rw[Vy];exact hE' o
     .simp
   .have Uf:i=l.length:=by omega
    subst Uf;refine az.pure ((((aa.refl U).aL fR).trans G').aL fR) ?_;simp[x5,hf,Sm.cells]
open Go.Proofs
def zP:((2:Nat):Int)=2:=rfl
def Az:((3:Nat):Int)=3:=rfl
def yP:((4:Nat):Int)=4:=rfl
def zS(l:List Nd)(hl:dq l):aV prog 75 [aQ l] (vI (dU l)):=λU=>by
 refine e75.q ?_;refine mS 8 ?_;simp only[go_sem,seval,c75];refine pS rfl (Av l hl _) ?_;simp only[go_sem,seval,Sm.cells];refine aD λid3 Z1 s1 a3 f3=>?_;have G':=λo=>s1.aL f3 (o:=o);simp only[go_sem,seval,a3];have hc:(fS l).2=if Sc l then 0 else 4:=by unfold fS;split<;>rfl
 refine And.intro (λh=>?_) (λh=>?_)
 .refine az.pure (G' _) ?_;have:Sc l=false:=by
   rw[hc]at h;cases hb:Sc l<;>simp_all
  simp[dU,this,hc]
 .have hb:Sc l=true:=by
   rw[hc]at h;cases hb:Sc l<;>simp_all
  have hR:dU l=if(fS l).1.depth>16\/(fS l).1.pieces>2000\/(fS l).1.nodes>2000\/(fS l).1.M'>1099511627776 then 2 else 0:=by
   simp only[dU,hb,if_true]
  generalize (fS l).1=sm at*;refine aD λVP Z2 s2 a5 f5=>?_;have UF:=(G' _).trans s2;have g5:U VP=none:=(G' _).none f5;simp only[go_sem,seval,a5];refine aq.loop (λm st=>∃(i:Nat),i<=4/\m=4-i/\st.U=C' Z2 VP ⟨163,4,[.agg sm.cells]⟩/\(0<i->sm.depth<=16)/\(1<i->sm.pieces<=2000)/\(2<i->sm.nodes<=2000)/\(3<i->sm.M'<=1099511627776)/\
   st.s 5=.ptr VP 0 0/\st.s 25=.agg [vI 16,vI 2000,vI 2000,vI 1099511627776]/\st.s 26=vI i) 4 ?_ ?_
  .exact⟨0,by omega,by omega,rfl,by omega,by omega,by omega,by omega,rfl,rfl,rfl⟩
  .rintro m ⟨s,Z'⟩ ⟨i,hi,rfl,R8,p1,p2,p3,p4,h5,h25,h26⟩;simp only at R8 h5 h25 h26;subst R8;have YT:i=0\/i=1\/i=2\/i=3\/i=4:=by omega
   have hend:∀(p:Prop),p->p:=λ_ h=>h;rcases YT with rfl|rfl|rfl|rfl|rfl
   .refine mS 8 ?_;simp only[go_sem,seval,aH,aJ,h5,h25,h26,Sm.cells,Int.ofNat_zero,Int.natCast_zero,zP,Az,yP,Int.toNat_zero,Int.reduceToNat,Nat.zero_mul];refine And.intro (λg=>?_) (λg=>?_)
    .refine az.pure (UF.aL g5) ?_;rw[hR,aK];omega
    .refine⟨ao,_,?_,1,by omega,rfl,?_,?_,?_,?_,rfl⟩<;>omega
   .refine mS 8 ?_;simp only[go_sem,seval,aH,aJ,h5,h25,h26,Sm.cells,Int.ofNat_zero,Int.natCast_zero,Int.natCast_one,Int.toNat_one,zP,Az,yP,Int.toNat_zero,Int.reduceToNat,Nat.zero_mul,Nat.reduceMul];refine And.intro (λg=>?_) (λg=>?_)
    .refine az.pure (UF.aL g5) ?_;rw[hR,aK];omega
    .refine⟨ao,_,?_,2,by omega,rfl,?_,?_,?_,?_,rfl⟩<;>omega
   .refine mS 8 ?_;simp only[go_sem,seval,aH,aJ,h5,h25,h26,Sm.cells,Int.ofNat_zero,Int.natCast_zero,Int.natCast_one,Int.toNat_one,zP,Az,yP,Int.toNat_zero,Int.reduceToNat,Nat.zero_mul,Nat.reduceMul];refine And.intro (λg=>?_) (λg=>?_)
    .refine az.pure (UF.aL g5) ?_;rw[hR,aK];omega
    .refine⟨ao,_,?_,3,by omega,rfl,?_,?_,?_,?_,rfl⟩<;>omega
   .refine mS 8 ?_;simp only[go_sem,seval,aH,aJ,h5,h25,h26,Sm.cells,Int.ofNat_zero,Int.natCast_zero,Int.natCast_one,Int.toNat_one,zP,Az,yP,Int.toNat_zero,Int.reduceToNat,Nat.zero_mul,Nat.reduceMul];refine And.intro (λg=>?_) (λg=>?_)
    .refine az.pure (UF.aL g5) ?_;rw[hR,aK];omega
    .refine⟨ao,_,?_,4,by omega,rfl,?_,?_,?_,?_,rfl⟩<;>omega
   .refine mS 8 ?_;simp only[go_sem,seval,aH,aJ,h5,h25,h26,Sm.cells,Int.ofNat_zero,Int.natCast_zero,Int.natCast_one,zP,Az,yP,Int.toNat_zero,Int.reduceToNat,Nat.zero_mul];refine az.pure (UF.aL g5) ?_;rw[hR,aM];omega
open Go.Proofs
def wh(U:ak)(l:List Int):cQ U false 1 (.rp (aX l))=some (aX l):=rfl
end Go.Vc
