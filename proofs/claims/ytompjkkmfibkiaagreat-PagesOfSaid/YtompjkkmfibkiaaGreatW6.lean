import Derived.Test.YtompjkkmfibkiaaGreatW5
set_option linter.all false
set_option maxHeartbeats 8000000
set_option maxRecDepth 100000
open Go.Proofs.Tryz
namespace Go.Vc
open Go.Proofs
def lC(U:ad)(l:List Int):bO U false 1 (.rp (aN l))=some (aN l):=rfl
def O0(l:List Nd)(hl:l.length<=10000/\∀x∈l,x.words.length<=1000000000)(U:ad):av prog 7 [ay l] U λr Z'=>aa U Z'/\aq U Z' 48 20 r (l.map dW):=by
 obtain⟨hl1,hl2⟩:=hl;refine e7.q ?_;refine mS 6 ?_;simp only[go_sem,seval,c7];refine ag.loop (λm st=>∃i:Nat,i<=l.length/\m=l.length-i/\aa U st.U/\aq U st.U 48 20 (st.s 3) ((l.take i).map dW)/\st.s 0=ay l/\st.s 4=vI i) l.length ?_ ?_
 .exact⟨0,by omega,by omega,aa.refl U,.inl ⟨rfl,rfl⟩,rfl,rfl⟩
 .rintro m ⟨s,Z'⟩ ⟨i,hi,rfl,E',WR,h0,h4⟩;simp only at E' WR h0 h4;rcases WR with⟨h3,hr0⟩|⟨id,h3,X8,hnew⟩
  .refine ag.mix 6 ?_
   (refine ag.bn Yi.nothing 30 ?_;simp only[go_sem,seval,h0,h3,h4,bK])
   refine And.intro (λB'=>?_) (λZO=>?_)
   .have Xf:i<l.length:=by omega
    have hxw:l[i].words.length<=1000000000:=hl2 _ (Xo Xf);have W4:(l.take (i+1)).map dW=(l.take i).map dW++[dW l[i]]:=by rw[Yz Xf,cX];rfl
    generalize hxe:l[i]=x at*;simp only[go_sem,seval,da Xf,hxe,Nd.cells];refine aj λZA Z1 s1 a5 f5=>?_;simp only[go_sem,seval,a5];refine aj λid16 Z2 s2 a16 f16=>?_;have a5:=s2 ZA _ af;have n5:ZA≠id16:=by rintro rfl;rw[af]at f16;cases f16
    have hs:bc Z2 1 (aN x.words)=some (x.words.map vI):=by simp[aN,bc]
    have hd:bC Z2 3 1 (.own id16 0 0)=some ([],some id16):=by
     simp only[bC,a16];rw[ak (by simp)];simp
    have hb:x.words.length*9<=140737488355328:=by omega
    simp only[go_sem,seval,da Xf,hxe,lC,Nd.cells,hs,hd,hb,bz,cJ,kf,h0,h4];refine uV λid22 Z3 s3 a22 f22=>?_;have a5:=s3 ZA _ (by rw[cA n5];exact a5);have n522:ZA≠id22:=by rintro rfl;rw[s2 ZA _ af]at f22;cases f22
    simp only[go_sem,seval,me];refine ag.freeze [0,3,4,5] 22 id22 0 x.words.length (aa.rJ Z3 id22) a22 (by simp[del]) rfl (by simp) ?_;have a5':del Z3 id22 ZA=_:=(cA n522).trans a5;have hfold:List.take x.words.length (List.map vI x.words)=List.map vI x.words:=lf (by simp);have hs3:aa U (del Z3 id22):=(((((E'.trans s1).ao (E'.none f5)).trans s2).pI ((E'.trans s1).ao (E'.none f5) |>.none f16)).trans s3).pI (((E'.trans s1).ao (E'.none f5)).trans s2 |>.none f22)
    apply sR;simp only[go_sem,seval,a5',hfold,h3];refine aj λid26 Z4 s4 a26 f26=>?_;have Zm:bc Z4 20 (.own id26 0 1)=some [dW x]:=by
     simp only[bc,a26];rw[ak (by simp)];simp[dW,Nd.cells,aN]
    have hs4:=(hs3.ao (E'.none f5)).trans s4;have hd2:bC Z4 48 20 .aB=some ([],none):=rfl;simp only[go_sem,seval,Zm,hd2,bz,Nat.reduceLeDiff];refine aj λid27 Z5 s5 a27 f27=>?_;simp only[go_sem,seval,h0,h4];refine⟨ae,_,?_,i+1,by omega,rfl,hs4.trans s5,.inr ⟨id27,?_,?_,hs4.none f27⟩,by simp⟩
    .omega
    .rw[W4,hr0];rfl
    .rw[W4,hr0,a27];rfl
   .have YP:i=l.length:=by omega
    subst YP;rw[dR]at hr0;exact XX ⟨E',.inl ⟨rfl,hr0⟩⟩
  .have Yp:(l.take i).length=i:=by simp;omega
   have hln2:((l.take i).map dW).length=i:=by simpa using Yp
   rw[hln2]at h3;refine ag.mix 6 ?_
   (refine ag.bn Yi.nothing 30 ?_;simp only[go_sem,seval,h0,h3,h4,bK])
   refine And.intro (λB'=>?_) (λZO=>?_)
   .have Xf:i<l.length:=by omega
    have hxw:l[i].words.length<=1000000000:=hl2 _ (Xo Xf);have W4:(l.take (i+1)).map dW=(l.take i).map dW++[dW l[i]]:=by rw[Yz Xf,cX];rfl
    have hidlen:i<=1000000000:=by omega
    generalize hxe:l[i]=x at*;simp only[go_sem,seval,da Xf,hxe,Nd.cells];refine aj λZA Z1 s1 a5 f5=>?_;simp only[go_sem,seval,a5];refine aj λid16 Z2 s2 a16 f16=>?_;have a5:=s2 ZA _ af;have n5:ZA≠id16:=by rintro rfl;rw[af]at f16;cases f16
    have hs:bc Z2 1 (aN x.words)=some (x.words.map vI):=by simp[aN,bc]
    have hd:bC Z2 3 1 (.own id16 0 0)=some ([],some id16):=by
     simp only[bC,a16];rw[ak (by simp)];simp
    have hb:x.words.length*9<=140737488355328:=by omega
    simp only[go_sem,seval,da Xf,hxe,lC,Nd.cells,hs,hd,hb,bz,cJ,kf,h0,h4];refine uV λid22 Z3 s3 a22 f22=>?_;have a5:=s3 ZA _ (by rw[cA n5];exact a5);have n522:ZA≠id22:=by rintro rfl;rw[s2 ZA _ af]at f22;cases f22
    simp only[go_sem,seval,me];refine ag.freeze [0,3,4,5] 22 id22 0 x.words.length (aa.rJ Z3 id22) a22 (by simp[del]) rfl (by simp) ?_;have a5':del Z3 id22 ZA=_:=(cA n522).trans a5;have hfold:List.take x.words.length (List.map vI x.words)=List.map vI x.words:=lf (by simp);have hs3:aa U (del Z3 id22):=(((((E'.trans s1).ao (E'.none f5)).trans s2).pI ((E'.trans s1).ao (E'.none f5) |>.none f16)).trans s3).pI (((E'.trans s1).ao (E'.none f5)).trans s2 |>.none f22)
    apply sR;simp only[go_sem,seval,a5',hfold,h3];refine aj λid26 Z4 s4 a26 f26=>?_;have Zm:bc Z4 20 (.own id26 0 1)=some [dW x]:=by
     simp only[bc,a26];rw[ak (by simp)];simp[dW,Nd.cells,aN]
    have hs4:=(hs3.ao (E'.none f5)).trans s4;have e1:=s1 id _ X8;have n5i:id≠ZA:=aQ X8 f5;have e2:=s2 id _ ((ab n5i).trans e1);have n16i:id≠id16:=aQ ((ab n5i).trans e1) f16;have n22i:id≠id22:=aQ e2 f22;have e3:=s3 id _ ((cA n16i).trans e2);have e4:=s4 id _ ((ab n5i).trans ((cA n22i).trans e3));have hd2:bC Z4 48 20 (.own id 0 i)=some ((l.take i).map dW,some id):=by
     simp only[bC,e4];rw[ak ⟨trivial,trivial,trivial,by rw[hln2];exact Xc _⟩,lf (by rw[hln2];exact Xc _)]
    have W1:(i+1)*177<=140737488355328:=by omega
    simp only[go_sem,seval,Zm,hd2,bz,hln2,W1];refine uV λid27 Z5 s5 a27 f27=>?_;simp only[go_sem,seval,h0,h4];refine⟨ae,_,?_,i+1,by omega,rfl,(hs4.pI hnew).trans s5,.inr ⟨id27,?_,?_,hs4.none f27⟩,by simp⟩
    .omega
    .rw[W4];simp;omega
    .rw[W4];exact a27
   .have YP:i=l.length:=by omega
    subst YP;rw[dR]at X8;exact XX ⟨E',.inr ⟨id,by rw[cJ],X8,hnew⟩⟩
def P0(l:List Nd)(hl:l.length<=10000/\∀x∈l,x.words.length<=1000000000):aE prog 7 [ay l] (ay l):=λU=>
 (O0 l hl U).GW λ_ _ h=>h.2.ni h.1 rfl
open Go.Proofs
def Q4(s t:Ye):(decide (s.top=t.top)&&(decide (s.WV=t.WV)&&(decide (s.WD=t.WD)&&(decide (s.O'=t.O')&&(decide (s.Xl=t.Xl)&&(decide (s.WE=t.WE)&&(decide (s.WW=t.WW)&&(decide (s.head=t.head)&&
 (decide (s.before=t.before)&&(decide (s.after=t.after)&&(decide (s.inside=t.inside)&&decide (s.clear=t.clear))))))))))))=decide (s=t):=by
 rw[Bool.eq_iff_iff];cases s;cases t;simp
def Od(a b:Nd)(ha:a.words.length<=200000000000000)(hb:b.words.length<=200000000000000):aE prog 44 [dW a,dW b] (.bool (decide (a=b))):=λU=>by
 refine e44.q ?_;refine mS 6 ?_;simp only[go_sem,seval,c44,dW,Nd.cells];refine aj λid2 Z1 s1 a2 f2=>?_;simp only[go_sem,seval];refine aj λid3 Z2 s2 a3 f3=>?_;have a2:=s2 _ _ a2;have hs:=s1.trans s2;simp only[go_sem,seval,a2,a3,Q4,dn];refine And.intro (λc1=>And.intro (λc2=>And.intro (λc3=>And.intro (λc4=>And.intro (λc5=>And.intro (λc6=>And.intro (λc7=>And.intro (λc8=>And.intro (λc9=>?_) (λc9=>?_)) (λc8=>?_)) (λc7=>?_)) (λc6=>?_)) (λc5=>?_)) (λc4=>?_)) (λc3=>?_)) (λc2=>?_)) (λc1=>?_)
 case refine_2=>
  have hl:a.words.length=b.words.length:=by
   have:(a.words.length:Int)=b.words.length:=by simpa using c9
   omega
  have hab:a=b↔a.words=b.words:=by
   constructor
   .rintro rfl;rfl
   .intro hw;cases a;cases b;simp_all
  refine ag.loop (λm st=>∃i:Nat,i<=a.words.length/\m=a.words.length-i/\a.words.take i=b.words.take i/\st.U=Z2/\st.s 2=.ptr id2 0 0/\st.s 3=.ptr id3 0 0/\st.s 5=vI i) a.words.length ?_ ?_
  .exact⟨0,by omega,by omega,rfl,rfl,rfl,rfl,rfl⟩
  .rintro m ⟨s,Z'⟩ ⟨i,hi,rfl,ht,WY,h2,h3,h5⟩;simp only at WY h2 h3 h5;subst WY;refine mS 6 ?_;simp only[go_sem,seval,h2,h5,a2,dn];refine And.intro (λB'=>?_) (λZO=>?_)
   .have Xf:i<a.words.length:=by omega
    have YR:i<b.words.length:=by omega
    simp only[go_sem,seval,mi Xf,mi YR,a3,h2,h3,h5];refine And.intro (λhd=>?_) (λhd=>?_)
    .refine ai.pure hs ?_;rw[V.bool.injEq];symm;rw[decide_eq_false_iff_not,hab];intro hw;apply hd;simp[hw]
    .refine⟨ae,_,?_,i+1,by omega,rfl,?_,?_⟩
     .omega
     .rw[Yz Xf,Yz YR,ht];have:a.words[i]=b.words[i]:=by simpa using hd
      rw[this]
     .simp
   .have YP:i=a.words.length:=by omega
    refine ai.pure hs ?_;rw[V.bool.injEq];symm;rw[YX,hab];rw[YP,dR]at ht;rw[ht,hl,dR]
 all_goals (refine ai.pure hs ?_;rw[V.bool.injEq];symm;rw[decide_eq_false_iff_not];rintro rfl;simp at*)
def DI:V->Option Nd
 |.agg [.int .i64 a0,.int .i64 a1,.int .i64 a2,.int .i64 a3,.int .i64 a4,.int .i64 a5,.int .i64 a6,.int .i64 a7,.int .i64 a8,.int .i64 a9,.int .i64 Xm,.int .i64 XF,.int .i64 a12,.int .i64 XM,.int .i64 a14,.int .i64 a15,.sl 1 rows,.int .i64 a17,.int .i64 a18,.int .i64 a19]=>
  (fT rows).bind λws=>if ws.length<=200000000000000 then some ⟨a0,a1,⟨a2,a3,a4,a5,a6,a7,a8,a9,Xm,XF,a12,XM⟩,a14,a15,ws,a17,a18,a19⟩else none
 |_=>none
def D9{v:V}{x:Nd}(h:DI v=some x):v=dW x/\x.words.length<=200000000000000:=by
 unfold DI at h;split at h
 .rw[JA]at h;obtain⟨ws,h1,h2⟩:=h;split at h2
  .rename_i hw;simp only[aI]at h2;subst h2;rw[kj h1];exact⟨rfl,hw⟩
  .cases h2
 .cases h
def Az{x:Nd}(hw:x.words.length<=200000000000000):DI (.agg [.int .i64 x.kind,.int .i64 x.size,.int .i64 x.st.top,.int .i64 x.st.WV,.int .i64 x.st.WD,.int .i64 x.st.O',.int .i64 x.st.Xl,.int .i64 x.st.WE,.int .i64 x.st.WW,.int .i64 x.st.head,.int .i64 x.st.before,.int .i64 x.st.after,.int .i64 x.st.inside,.int .i64 x.st.clear,.int .i64 x.line,.int .i64 x.space,aN x.words,.int .i64 x.side,.int .i64 x.w,.int .i64 x.h])=some x:=by
 show((fT (x.words.map vI)).bind λws=>if ws.length<=200000000000000 then some (Nd.mk x.kind x.size ⟨x.st.top,x.st.WV,x.st.WD,x.st.O',x.st.Xl,x.st.WE,x.st.WW,x.st.head,x.st.before,x.st.after,x.st.inside,x.st.clear⟩ x.line x.space ws x.side x.w x.h)else none)=_;rw[pC,Option.bind_some,ak hw]
def o22(f:FuncId)(args:List V):Option V:=if f=44 then(match args with
 |[v,u]=>(DI v).bind λx=>(DI u).bind λy=>some (.bool (decide (x=y)))
 |_=>none)else none
def O22:Yi prog where
 get f args _:=o22 f args
 ok f args U v h:=by
  unfold o22 at h;split at h
  .rename_i hf;subst hf;split at h
   .rw[JA]at h;obtain⟨x,h1,h2⟩:=h;rw[JA]at h2;obtain⟨y,h3,h4⟩:=h2;simp only[aI]at h4;subst h4;obtain⟨rfl,hx⟩:=D9 h1;obtain⟨rfl,hy⟩:=D9 h3;exact Od x y hx hy U
   .cases h
  .cases h
def Nf(v u:V)(U:ad):O22.get 44 [v,u] U=(DI v).bind λx=>(DI u).bind λy=>some (.bool (decide (x=y))):=rfl
def L7(a b:List Nd)(ha:dz a)(hb:dz b):aE prog 10 [ay a,ay b] (.bool (decide (a=b))):=λU=>by
 refine e10.q ?_;refine mS 6 ?_;simp only[go_sem,seval,c10,bK];refine And.intro (λhl=>?_) (λhl=>?_)
 .refine ai.same ?_;rw[V.bool.injEq];symm;rw[decide_eq_false_iff_not];rintro rfl;simp at hl
 .have hl:a.length=b.length:=by
   have:(a.length:Int)=b.length:=by simpa using hl
   omega
  refine ag.loop (λm st=>∃i:Nat,i<=a.length/\m=a.length-i/\a.take i=b.take i/\st.U=U/\st.s 0=ay a/\st.s 1=ay b/\st.s 5=vI i) a.length ?_ ?_
  .exact⟨0,by omega,by omega,rfl,rfl,rfl,rfl,rfl⟩
  .rintro m ⟨s,Z'⟩ ⟨i,hi,rfl,ht,WY,h0,h1,h5⟩;simp only at WY h0 h1 h5;subst WY;have ZN:=ha.1;refine ag.mix 6 ?_
   (refine ag.bn O22 300 ?_;simp only[go_sem,seval,h0,h5,bK])
   refine And.intro (λB'=>?_) (λZO=>?_)
   .have Xf:i<a.length:=by omega
    have YR:i<b.length:=by omega
    have hx:=ha.2 _ (Xo Xf);have hy:=hb.2 _ (Xo YR);have hta:=Yz Xf;have htb:=Yz YR;have hxe:a[i]?=some a[i]:=by simp[Xf]
    have hye:b[i]?=some b[i]:=by simp[YR]
    generalize hxg:a[i]=x at*;generalize hyg:b[i]=y at*;simp only[go_sem,seval,da Xf,da YR,hxg,hyg,Nd.cells,Nf,Az hx,Az hy,Option.bind_some,h0,h1,h5];refine And.intro (λhd=>?_) (λhd=>?_)
    .refine ai.same ?_;rw[V.bool.injEq];symm;rw[decide_eq_false_iff_not];rintro rfl;rw[hxe]at hye;simp at hye;exact hd hye
    .refine⟨ae,_,?_,i+1,by omega,rfl,?_,?_⟩
     .omega
     .rw[hta,htb,ht];have:x=y:=by simpa using hd
      rw[this]
     .simp
   .have YP:i=a.length:=by omega
    refine ai.same ?_;rw[V.bool.injEq];symm;rw[YX];rw[YP,dR]at ht;rw[ht,hl,dR]
open Go.Proofs
def WJ(l:List Nd)(i:Nat):Int:=((l[i]?).map Nd.size).getD 0
def kdI(l:List Nd)(i:Nat):Int:=((l[i]?).map Nd.kind).getD 0
def mL(l:List Nd)(a:Int):Bool:=decide (0<=a)&&decide (a<l.length)
def cd(l:List Nd)(a b:Int):Bool:=mL l a&&(mL l b&&(decide (b>=a)&&decide (b-a<WJ l a.toNat)))
def dt(l:List Nd)(a:Nat):Nat->List Int
 |0=>[]
 |k+1=>if cd l k a then(k:Int)::dt l a k else dt l a k
def lS(l:List Nd)(a:Nat):Nat->Int
 |0=>-1
 |k+1=>if cd l k a then(k:Int)else lS l a k
def db(l:List Nd)(a:Nat):Int:=lS l a a
def jS{l:List Nd}{a:Int}:mL l a=true↔0<=a/\a<l.length:=by simp[mL]
def gY{l:List Nd}{i:Nat}(h:i<l.length):WJ l i=l[i].size:=by simp[WJ,h]
def Oh{l:List Nd}{i:Nat}(h:i<l.length):kdI l i=l[i].kind:=by simp[kdI,h]
def uN{l:List Nd}(h:Xh l=true){i:Nat}(hi:i<l.length):1<=l[i].size/\l[i].size<=(l.length:Int)-i/\(l[i].kind=1\/l[i].size<=1):=by
 simp only[Xh,Ba]at h;exact ir l (l.length+1) 0 l.length (by omega) (Xc _) h.2 i (by omega) hi hi
def zn{U:ad}{l:List Nd}{a:Int}(h0:0<=a)(h:a.toNat<l.length):bp U 20 (ay l) (.int .i64 a)=some (.rp (.agg (Nd.cells l[a.toNat]))):=by
 simp[ay,bp,h0,h,dW]
def Dx(l:List Nd)(a:Int):aE prog 278 [ay l,vI a] (.bool (mL l a)):=λU=>by
 refine Vk.q ?_;refine mS 6 ?_;simp only[go_sem,seval,SS,bK];refine And.intro (λh=>?_) (λh=>?_)
 .refine ai.same ?_;simp[mL];omega
 .refine ai.same ?_;simp[mL];omega
def E1(l:List Nd)(hl:l.length<=1000000000)(a b:Int):aE prog 279 [ay l,vI a,vI b] (.bool (cd l a b)):=λU=>by
 refine UE.q ?_;refine mS 8 ?_;simp only[go_sem,seval,Pj];refine pR rfl (Dx l a _) ?_;cases ha:mL l a
 .apply sR;simp only[go_sem,seval];refine ai.same ?_;simp[cd,ha]
 .apply sR;simp only[go_sem,seval];refine pR rfl (Dx l b _) ?_;cases hb:mL l b
  .apply sR;simp only[go_sem,seval];refine ai.same ?_;simp[cd,ha,hb]
  .rw[jS]at ha hb;have B':a.toNat<l.length:=by omega
   apply sR;simp only[go_sem,seval,zn ha.1 B',Nd.cells];refine And.intro (λh=>⟨ae,?_⟩) (λh=>?_)
   .refine ai.same ?_;have ha':=jS.2 ha;have ZV:=jS.2 hb;simp[cd,ha',ZV,gY B'];omega
   .refine ai.same ?_;have ha':=jS.2 ha;have ZV:=jS.2 hb;simp[cd,ha',ZV,gY B'];omega
def Kv(l:List Nd)(hl:l.length<=1000000000)(a:Nat)(ha:a<l.length):aE prog 246 [ay l,vI a] (aN (dt l a a)):=λU=>by
 refine UK.q ?_;refine mS 7 ?_;simp only[go_sem,seval,SB];refine⟨ae,?_⟩;refine ag.loop (λm st=>∃(k:Nat) (out:List Int),k<=a/\m=k/\dt l a a=out++dt l a k/\out.length<=a-k/\aa U st.U/\aq U st.U 3 1 (st.s 5) (out.map vI)/\st.s 0=ay l/\st.s 1=vI a/\st.s 6=vI ((k:Int)-1)) a ?_ ?_
 .exact⟨a,[],by omega,rfl,rfl,by simp,aa.refl U,aq.start,rfl,rfl,rfl⟩
 .rintro m ⟨s,Z'⟩ ⟨k,out,hk,rfl,heq,hlen,E',WR,h0,h1,h6⟩;simp only at E' WR h0 h1 h6;refine mS 7 ?_;simp only[go_sem,seval,h0,h1,h6];refine And.intro (λh=>?_) (λh=>?_)
  .obtain⟨k,rfl⟩:∃j,m=j+1:=⟨m-1,by omega⟩
   refine pR rfl (Dx l a _) ?_;have hha:mL l a=true:=jS.2 ⟨by omega,by omega⟩;have e1:((k+1:Nat):Int)-1=k:=by omega
   apply sR;simp only[go_sem,seval,hha,h0,h1,h6,e1];refine pR rfl (E1 l hl k a _) ?_;cases hh:cd l k a
   .apply sR;simp only[go_sem,seval,h0,h1,h6,e1];refine⟨ae,_,?_,k,out,by omega,rfl,?_,by omega,E',WR,rfl⟩
    .omega
    .rw[heq,dt,hh];rfl
   .apply sR;simp only[go_sem,seval,h6,e1];refine aj λid1 Z1 s1 a1 f1=>?_;obtain⟨idA,hd,WK⟩:=WR.dst s1;have hb:out.length+1<=a:=by omega
    have W1:(out.length+1)*9<=140737488355328:=by omega
    simp only[go_sem,seval,hd,bl a1,cJ,W1];refine aX λid2 Z2 s2 a2 f2=>?_;simp only[go_sem,seval,h0,h1,h6,e1];have Zm:=(WK U (aa.refl U) Z1 (E'.trans s1)).trans s2;refine⟨ae,_,?_,k,out++[(k:Int)],by omega,rfl,?_,by simp;omega,Zm,?_,rfl⟩
    .omega
    .rw[heq,dt,hh];simp
    .exact aq.new (by simp) (by rw[a2];simp) ((E'.trans s1).none f2)
  .have hk0:m=0:=by omega
   subst hk0;refine WR.ni E' ?_;rw[heq,dt];simp[aN]
def tk(l:List Nd)(a:Nat):∀k,(dt l a k).length=0/\lS l a k=-1\/∃x r,dt l a k=x::r/\lS l a k=x
 |0=>.inl ⟨rfl,rfl⟩
 |k+1=>by
  rw[dt,lS];split
  .exact .inr ⟨_,_,rfl,rfl⟩
  .exact tk l a k
def wX(l:List Nd)(a:Nat):∀k,-1<=lS l a k/\lS l a k<k
 |0=>by simp[lS]
 |k+1=>by
  rw[lS];split
  .omega
  .have:=wX l a k;omega
def B6(l:List Nd)(hl:l.length<=1000000000)(a:Nat)(ha:a<l.length):aE prog 194 [ay l,vI a] (vI (db l a)):=λU=>by
 refine V4.q ?_;refine mS 6 ?_;simp only[go_sem,seval,Sz];refine pR rfl (Kv l hl a ha _) ?_;have hh:=tk l a a;apply sR;simp only[go_sem,seval,dn];refine And.intro (λh=>?_) (λh=>?_)
 .refine ai.same ?_;rcases hh with⟨_,h2⟩|⟨x,r,h1,h2⟩
  .rw[db,h2]
  .rw[h1]at h;simp at h;omega
 .rcases hh with⟨h1,h2⟩|⟨x,r,h1,h2⟩
  .exact absurd (by omega) h
  .have B':0<(dt l a a).length:=by rw[h1];simp
   have h3:=mi (U:=U) B';have h4:(dt l a a)[0]=x:=by simp[h1]
   rw[h4,Int.natCast_zero]at h3;simp only[go_sem,seval,h3];refine ai.same ?_;rw[db,h2]
open Go.Proofs
def y7(U:ad)(l:List Int):bc U 1 (aN l)=some (l.map vI):=by simp[aN,bc]
def rX{l:List Nd}(hb:Xh l=true){i:Nat}(h:i<l.length):1<=WJ l i/\WJ l i<=l.length:=by
 rw[gY h];have:=uN hb h;omega
end Go.Vc
