import Derived.Test.YtompjkkmfibkiaaGreatW5
set_option linter.all false
set_option maxHeartbeats 8000000
set_option maxRecDepth 100000
open Go.Proofs.Tryz
namespace Go.Vc
open Go.Proofs
def R0(s t:Xh):(decide (s.top=t.top)&&(decide (s.V0=t.V0)&&(decide (s.VJ=t.VJ)&&(decide (s.T'=t.T')&&(decide (s.Wf=t.Wf)&&(decide (s.VK=t.VK)&&(decide (s.VY=t.VY)&&(decide (s.head=t.head)&&
 (decide (s.before=t.before)&&(decide (s.after=t.after)&&(decide (s.inside=t.inside)&&decide (s.clear=t.clear))))))))))))=decide (s=t):=by
 rw[Bool.eq_iff_iff];cases s;cases t;simp
def M9(a b:Nd)(ha:a.words.length<=200000000000000)(hb:b.words.length<=200000000000000):aL prog 44 [gm a,gm b] (.bool (decide (a=b))):=λU=>by
 refine e44.q ?_;refine mS 6 ?_;simp only[go_sem,seval,c44,gm,Nd.cells];refine aA λid2 Z1 s1 a2 f2=>?_;simp only[go_sem,seval,a2];refine aA λid3 Z2 s2 a3 f3=>?_;have n23:=aU a2 f3;have a2:=s2 _ _ a2;have hs:=s1.trans s2;simp only[go_sem,seval,a2,a3,R0,cy];refine And.intro (λc1=>And.intro (λc2=>And.intro (λc3=>And.intro (λc4=>And.intro (λc5=>And.intro (λc6=>And.intro (λc7=>And.intro (λc8=>And.intro (λc9=>?_) (λc9=>?_)) (λc8=>?_)) (λc7=>?_)) (λc6=>?_)) (λc5=>?_)) (λc4=>?_)) (λc3=>?_)) (λc2=>?_)) (λc1=>?_)
 case refine_2=>
  have hl:a.words.length=b.words.length:=by
   have:(a.words.length:Int)=b.words.length:=by simpa using c9
   omega
  have Zs:a=b↔a.words=b.words:=by
   constructor
   .rintro rfl;rfl
   .intro hw;cases a;cases b;simp_all
  refine ai.loop (λm st=>∃i:Nat,i<=a.words.length/\m=a.words.length-i/\a.words.take i=b.words.take i/\st.U=Z2/\st.s 2=.ptr id2 0 0/\st.s 3=.ptr id3 0 0/\st.s 5=vI i) a.words.length ?_ ?_
  .exact⟨0,by omega,by omega,rfl,rfl,rfl,rfl,rfl⟩
  .rintro m ⟨s,Z'⟩ ⟨i,hi,rfl,ht,V7,h2,h3,h5⟩;simp only at V7 h2 h3 h5;subst V7;refine mS 6 ?_;simp only[go_sem,seval,ax,aB,h2,h3,h5,a2,a3,cy];refine And.intro (λB'=>?_) (λYU=>?_)
   .have Wo:i<a.words.length:=by omega
    have Yi:i<b.words.length:=by omega
    simp only[go_sem,seval,ax,aB,mH Wo,mH Yi,a2,a3,h2,h3,h5];refine And.intro (λhd=>?_) (λhd=>?_)
    .refine ak.pure hs ?_;rw[V.bool.injEq];symm;rw[decide_eq_false_iff_not,Zs];intro hw;apply hd;simp[hw]
    .refine⟨ae,_,?_,i+1,by omega,rfl,?_,?_⟩
     .omega
     .rw[XH Wo,XH Yi,ht];have:a.words[i]=b.words[i]:=by simpa using hd
      rw[this]
     .simp
   .have Yh:i=a.words.length:=by omega
    refine ak.pure hs ?_;rw[V.bool.injEq];symm;rw[X7,Zs];rw[Yh,eF]at ht;rw[ht,hl,eF]
 all_goals (refine ak.pure hs ?_;rw[V.bool.injEq];symm;rw[decide_eq_false_iff_not];rintro rfl;simp at*)
def CL:V->Option Nd
 |.agg [.int .i64 a0,.int .i64 a1,.int .i64 a2,.int .i64 a3,.int .i64 a4,.int .i64 a5,.int .i64 a6,.int .i64 a7,.int .i64 a8,.int .i64 a9,.int .i64 Wn,.int .i64 X2,.int .i64 a12,.int .i64 Xy,.int .i64 Yf,.int .i64 WN,.sl 1 rows,.int .i64 ZA,.int .i64 a18,.int .i64 ZC]=>
  (fY rows).bind λws=>if ws.length<=200000000000000 then some ⟨a0,a1,⟨a2,a3,a4,a5,a6,a7,a8,a9,Wn,X2,a12,Xy⟩,Yf,WN,ws,ZA,a18,ZC⟩else none
 |_=>none
def Ev{v:V}{x:Nd}(h:CL v=some x):v=gm x/\x.words.length<=200000000000000:=by
 unfold CL at h;split at h
 .rw[Gp]at h;obtain⟨ws,h1,h2⟩:=h;split at h2
  .rename_i hw;simp only[aS]at h2;subst h2;rw[kC h1];exact⟨rfl,hw⟩
  .cases h2
 .cases h
def zU{x:Nd}(hw:x.words.length<=200000000000000):CL (.agg [.int .i64 x.kind,.int .i64 x.size,.int .i64 x.st.top,.int .i64 x.st.V0,.int .i64 x.st.VJ,.int .i64 x.st.T',.int .i64 x.st.Wf,.int .i64 x.st.VK,.int .i64 x.st.VY,.int .i64 x.st.head,.int .i64 x.st.before,.int .i64 x.st.after,.int .i64 x.st.inside,.int .i64 x.st.clear,.int .i64 x.line,.int .i64 x.space,bb x.words,.int .i64 x.side,.int .i64 x.w,.int .i64 x.h])=some x:=by
 show((fY (x.words.map vI)).bind λws=>if ws.length<=200000000000000 then some (Nd.mk x.kind x.size ⟨x.st.top,x.st.V0,x.st.VJ,x.st.T',x.st.Wf,x.st.VK,x.st.VY,x.st.head,x.st.before,x.st.after,x.st.inside,x.st.clear⟩ x.line x.space ws x.side x.w x.h)else none)=_;rw[pD,Option.bind_some,av hw]
def o22(f:FuncId)(args:List V):Option V:=if f=44 then(match args with
 |[v,u]=>(CL v).bind λx=>(CL u).bind λy=>some (.bool (decide (x=y)))
 |_=>none)else none
def O22:Xu prog where
 get f args _:=o22 f args
 ok f args U v h:=by
  unfold o22 at h;split at h
  .rename_i hf;subst hf;split at h
   .rw[Gp]at h;obtain⟨x,h1,h2⟩:=h;rw[Gp]at h2;obtain⟨y,h3,h4⟩:=h2;simp only[aS]at h4;subst h4;obtain⟨rfl,hx⟩:=Ev h1;obtain⟨rfl,hy⟩:=Ev h3;exact M9 x y hx hy U
   .cases h
  .cases h
def Mo(v u:V)(U:ad):O22.get 44 [v,u] U=(CL v).bind λx=>(CL u).bind λy=>some (.bool (decide (x=y))):=rfl
def JU(a b:List Nd)(ha:ep a)(hb:ep b):aL prog 10 [aF a,aF b] (.bool (decide (a=b))):=λU=>by
 refine e10.q ?_;refine mS 6 ?_;simp only[go_sem,seval,ax,aB,c10,bU];refine And.intro (λhl=>?_) (λhl=>?_)
 .refine ak.same ?_;rw[V.bool.injEq];symm;rw[decide_eq_false_iff_not];rintro rfl;simp at hl
 .have hl:a.length=b.length:=by
   have:(a.length:Int)=b.length:=by simpa using hl
   omega
  refine ai.loop (λm st=>∃i:Nat,i<=a.length/\m=a.length-i/\a.take i=b.take i/\st.U=U/\st.s 0=aF a/\st.s 1=aF b/\st.s 5=vI i) a.length ?_ ?_
  .exact⟨0,by omega,by omega,rfl,rfl,rfl,rfl,rfl⟩
  .rintro m ⟨s,Z'⟩ ⟨i,hi,rfl,ht,V7,h0,h1,h5⟩;simp only at V7 h0 h1 h5;subst V7;have YX:=ha.1;refine ai.mix 6 ?_
   (refine ai.bH O22 300 ?_;simp only[go_sem,seval,ax,aB,h0,h1,h5,bU])
   refine And.intro (λB'=>?_) (λYU=>?_)
   .have Wo:i<a.length:=by omega
    have Yi:i<b.length:=by omega
    have hx:=ha.2 _ (Ws Wo);have hy:=hb.2 _ (Ws Yi);have hta:=XH Wo;have htb:=XH Yi;have hxe:a[i]?=some a[i]:=by simp[Wo]
    have hye:b[i]?=some b[i]:=by simp[Yi]
    generalize hxg:a[i]=x at*;generalize hyg:b[i]=y at*;simp only[go_sem,seval,ax,aB,fi Wo,fi Yi,hxg,hyg,Nd.cells,Mo,zU hx,zU hy,Option.bind_some,h0,h1,h5];refine And.intro (λhd=>?_) (λhd=>?_)
    .refine ak.same ?_;rw[V.bool.injEq];symm;rw[decide_eq_false_iff_not];rintro rfl;rw[hxe]at hye;simp at hye;exact hd hye
    .refine⟨ae,_,?_,i+1,by omega,rfl,?_,?_⟩
     .omega
     .rw[hta,htb,ht];have:x=y:=by simpa using hd
      rw[this]
     .simp
   .have Yh:i=a.length:=by omega
    refine ak.same ?_;rw[V.bool.injEq];symm;rw[X7];rw[Yh,eF]at ht;rw[ht,hl,eF]
open Go.Proofs
def VM(l:List Nd)(i:Nat):Int:=((l[i]?).map Nd.size).getD 0
def kdI(l:List Nd)(i:Nat):Int:=((l[i]?).map Nd.kind).getD 0
def mO(l:List Nd)(a:Int):Bool:=decide (0<=a)&&decide (a<l.length)
def cB(l:List Nd)(a b:Int):Bool:=mO l a&&(mO l b&&(decide (b>=a)&&decide (b-a<VM l a.toNat)))
def dH(l:List Nd)(a:Nat):Nat->List Int
 |0=>[]
 |k+1=>if cB l k a then(k:Int)::dH l a k else dH l a k
def l1(l:List Nd)(a:Nat):Nat->Int
 |0=>-1
 |k+1=>if cB l k a then(k:Int)else l1 l a k
def dh(l:List Nd)(a:Nat):Int:=l1 l a a
def j5{l:List Nd}{a:Int}:mO l a=true↔0<=a/\a<l.length:=by simp[mO]
def iB{l:List Nd}{i:Nat}(h:i<l.length):VM l i=l[i].size:=by simp[VM,h]
def My{l:List Nd}{i:Nat}(h:i<l.length):kdI l i=l[i].kind:=by simp[kdI,h]
def uU{l:List Nd}(h:Wg l=true){i:Nat}(hi:i<l.length):1<=l[i].size/\l[i].size<=(l.length:Int)-i/\(l[i].kind=1\/l[i].size<=1):=by
 simp only[Wg,Ba]at h;exact iY l (l.length+1) 0 l.length (by omega) (Wa _) h.2 i (by omega) hi hi
def yU{U:ad}{l:List Nd}{a:Int}(h0:0<=a)(h:a.toNat<l.length):bO U 20 (aF l) (.int .i64 a)=some (.rp (.agg (Nd.cells l[a.toNat]))):=by
 simp[aF,bO,h0,h,gm]
def Du(l:List Nd)(a:Int):aL prog 278 [aF l,vI a] (.bool (mO l a)):=λU=>by
 refine Ua.q ?_;refine mS 6 ?_;simp only[go_sem,seval,ax,aB,Pw,bU];refine And.intro (λh=>?_) (λh=>?_)
 .refine ak.same ?_;simp[mO];omega
 .refine ak.same ?_;simp[mO];omega
def DT(l:List Nd)(hl:l.length<=1000000000)(a b:Int):aL prog 279 [aF l,vI a,vI b] (.bool (cB l a b)):=λU=>by
 refine U1.q ?_;refine mS 8 ?_;simp only[go_sem,seval,ax,aB,Rb];refine pR rfl (Du l a _) ?_;cases ha:mO l a
 .apply sR;simp only[go_sem,seval,ax,aB,ha];refine ak.same ?_;simp[cB,ha]
 .apply sR;simp only[go_sem,seval,ax,aB,ha];refine pR rfl (Du l b _) ?_;cases hb:mO l b
  .apply sR;simp only[go_sem,seval,ax,aB,hb];refine ak.same ?_;simp[cB,ha,hb]
  .rw[j5]at ha hb;have B':a.toNat<l.length:=by omega
   apply sR;simp only[go_sem,seval,ax,aB,hb,yU ha.1 B',Nd.cells];refine And.intro (λh=>⟨ae,?_⟩) (λh=>?_)
   .refine ak.same ?_;have ha':=j5.2 ha;have YT:=j5.2 hb;simp[cB,ha',YT,iB B'];omega
   .refine ak.same ?_;have ha':=j5.2 ha;have YT:=j5.2 hb;simp[cB,ha',YT,iB B'];omega
def KF(l:List Nd)(hl:l.length<=1000000000)(a:Nat)(ha:a<l.length):aL prog 246 [aF l,vI a] (bb (dH l a a)):=λU=>by
 refine UM.q ?_;refine mS 7 ?_;simp only[go_sem,seval,ax,aB,RX];refine⟨ae,?_⟩;refine ai.loop (λm st=>∃(k:Nat) (out:List Int),k<=a/\m=k/\dH l a a=out++dH l a k/\out.length<=a-k/\aa U st.U/\ay U st.U 3 1 (st.s 5) (out.map vI)/\st.s 0=aF l/\st.s 1=vI a/\st.s 6=vI ((k:Int)-1)) a ?_ ?_
 .exact⟨a,[],by omega,rfl,rfl,by simp,aa.refl U,ay.start,rfl,rfl,rfl⟩
 .rintro m ⟨s,Z'⟩ ⟨k,out,hk,rfl,heq,hlen,G',VQ,h0,h1,h6⟩;simp only at G' VQ h0 h1 h6;refine mS 7 ?_;simp only[go_sem,seval,ax,aB,h0,h1,h6];refine And.intro (λh=>?_) (λh=>?_)
  .obtain⟨k,rfl⟩:∃j,m=j+1:=⟨m-1,by omega⟩
   refine pR rfl (Du l a _) ?_;have hha:mO l a=true:=j5.2 ⟨by omega,by omega⟩;have e1:((k+1:Nat):Int)-1=k:=by omega
   apply sR;simp only[go_sem,seval,ax,aB,hha,h0,h1,h6,e1];refine pR rfl (DT l hl k a _) ?_;cases hh:cB l k a
   .apply sR;simp only[go_sem,seval,ax,aB,hh,h0,h1,h6,e1];refine⟨ae,_,?_,k,out,by omega,rfl,?_,by omega,G',VQ,rfl⟩
    .omega
    .rw[heq,dH,hh];rfl
   .apply sR;simp only[go_sem,seval,hh,h0,h1,h6,e1];refine aA λid1 Z1 s1 a1 f1=>?_;obtain⟨idA,hd,VL⟩:=VQ.dst s1;have hb:out.length+1<=a:=by omega
    have V1:(out.length+1)*9<=140737488355328:=by omega
    simp only[go_sem,seval,hd,bJ a1,cO,V1,h0,h1,h6,e1];refine bt λid2 Z2 s2 a2 f2=>?_;simp only[go_sem,seval,h0,h1,h6,e1];have Yr:=(VL U (aa.refl U) Z1 (G'.trans s1)).trans s2;refine⟨ae,_,?_,k,out++[(k:Int)],by omega,rfl,?_,by simp;omega,Yr,?_,rfl⟩
    .omega
    .rw[heq,dH,hh];simp
    .exact ay.new (by simp) (by rw[a2];simp) ((G'.trans s1).none f2)
  .have hk0:m=0:=by omega
   subst hk0;refine VQ.pX G' ?_;rw[heq,dH];simp[bb]
def tm(l:List Nd)(a:Nat):∀k,(dH l a k).length=0/\l1 l a k=-1\/∃x r,dH l a k=x::r/\l1 l a k=x
 |0=>.inl ⟨rfl,rfl⟩
 |k+1=>by
  rw[dH,l1];split
  .exact .inr ⟨_,_,rfl,rfl⟩
  .exact tm l a k
def uS(l:List Nd)(a:Nat):∀k,-1<=l1 l a k/\l1 l a k<k
 |0=>by simp[l1]
 |k+1=>by
  rw[l1];split
  .omega
  .have:=uS l a k;omega
def BA(l:List Nd)(hl:l.length<=1000000000)(a:Nat)(ha:a<l.length):aL prog 194 [aF l,vI a] (vI (dh l a)):=λU=>by
 refine UR.q ?_;refine mS 6 ?_;simp only[go_sem,seval,ax,aB,Re];refine pR rfl (KF l hl a ha _) ?_;have hh:=tm l a a;apply sR;simp only[go_sem,seval,ax,aB,cy];refine And.intro (λh=>?_) (λh=>?_)
 .refine ak.same ?_;rcases hh with⟨_,h2⟩|⟨x,r,h1,h2⟩
  .rw[dh,h2]
  .rw[h1]at h;simp at h;omega
 .rcases hh with⟨h1,h2⟩|⟨x,r,h1,h2⟩
  .exact absurd (by omega) h
  .have B':0<(dH l a a).length:=by rw[h1];simp
   have h3:=mH (U:=U) B';have h4:(dH l a a)[0]=x:=by simp[h1]
   rw[h4,Int.natCast_zero]at h3;simp only[go_sem,seval,ax,aB,h3];refine ak.same ?_;rw[dh,h2]
open Go.Proofs
def qp(U:ad)(l:List Int):bM U 1 (bb l)=some (l.map vI):=by simp[bb,bM]
def rA{l:List Nd}(hb:Wg l=true){i:Nat}(h:i<l.length):1<=VM l i/\VM l i<=l.length:=by
 rw[iB h];have:=uU hb h;omega
end Go.Vc
