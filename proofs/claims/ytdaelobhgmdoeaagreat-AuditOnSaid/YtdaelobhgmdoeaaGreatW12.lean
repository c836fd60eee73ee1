/- Part 12 of the library of this proof. -/
import Derived.Test.YtdaelobhgmdoeaaGreatW11
import Derived.Test.YtdaelobhgmdoeaaGreatProg
import Derived.KernelRfl
set_option linter.all false
set_option maxHeartbeats 8000000
set_option maxRecDepth 100000
namespace Go.Vc
open Go.Proofs Go.Proofs.Tryz
set_option maxRecDepth 1000000
def Ur:V:=.str [91,111,49,119,49,32,40,49,48,32,48,32,53,32,53,32,53,41,93]
def Bi:V:=(.sl 20 [(.agg [(.int .i64 1),(.int .i64 2),(.int .i64 0),(.int .i64 0),(.int .i64 0),(.int .i64 0),(.int .i64 0),(.int .i64 1),(.int .i64 1),(.int .i64 0),(.int .i64 0),(.int .i64 0),(.int .i64 0),(.int .i64 0),(.int .i64 0),(.int .i64 0),(.sl 1 []),(.int .i64 0),(.int .i64 0),(.int .i64 0)]),(.agg [(.int .i64 2),(.int .i64 1),(.int .i64 0),(.int .i64 0),(.int .i64 0),(.int .i64 0),(.int .i64 0),(.int .i64 0),(.int .i64 0),(.int .i64 0),(.int .i64 0),(.int .i64 0),(.int .i64 0),(.int .i64 0),(.int .i64 10),(.int .i64 0),(.sl 1 [(.int .i64 5),(.int .i64 5),(.int .i64 5)]),(.int .i64 0),(.int .i64 0),(.int .i64 0)])])
def Dc:V:=(.sl 5 [(.agg [(.int .i64 1),(.int .i64 1),(.sl 7 []),(.sl 7 [(.agg [(.int .i64 1),(.int .i64 0),(.int .i64 0),(.int .i64 0),(.int .i64 0),(.int .i64 5),(.int .i64 10)]),(.agg [(.int .i64 1),(.int .i64 1),(.int .i64 0),(.int .i64 0),(.int .i64 10),(.int .i64 5),(.int .i64 10)])]),(.sl 7 [])]),(.agg [(.int .i64 2),(.int .i64 1),(.sl 7 []),(.sl 7 [(.agg [(.int .i64 1),(.int .i64 2),(.int .i64 0),(.int .i64 0),(.int .i64 0),(.int .i64 5),(.int .i64 10)])]),(.sl 7 [])])])
def NM:V:=(.sl 5 [(.agg [(.int .i64 2),(.int .i64 1),(.sl 7 []),(.sl 7 [(.agg [(.int .i64 1),(.int .i64 2),(.int .i64 0),(.int .i64 0),(.int .i64 0),(.int .i64 5),(.int .i64 10)])]),(.sl 7 [])])])
def Un:aJ prog 20 [Ur] (.P' [Bi,.int .i64 0,.int .i64 0]):=CE
def Ul:aJ prog 21 [Bi,.int .i64 8,.int .i64 20] (.P' [Dc,.int .i64 0]):=TF
def Tx:aJ prog 15 [Bi,.int .i64 8,.int .i64 20,Dc,.int .i64 1] (.P' [.agg [.int .i64 2,.int .i64 0,.bool false,.sl 7 []],.int .i64 0]):=NS
def TT:aJ prog 13 [Bi,.int .i64 8,.int .i64 20,Dc,.int .i64 1] (.P' [NM,.int .i64 0]):=IP
def SR:aJ prog 22 [Dc,.int .i64 0,.int .i64 0] (.bool true):=UC
def Rl:aJ prog 22 [(.sl 5 [(.agg [(.int .i64 1),(.int .i64 1),(.sl 7 []),(.sl 7 [(.agg [(.int .i64 1),(.int .i64 0),(.int .i64 0),(.int .i64 0),(.int .i64 0),(.int .i64 5),(.int .i64 10)]),(.agg [(.int .i64 1),(.int .i64 1),(.int .i64 0),(.int .i64 0),(.int .i64 10),(.int .i64 5),(.int .i64 10)])]),(.sl 7 [])])]),.int .i64 2,.int .i64 9] (.bool true):=TN
def So:aJ prog 22 [.aC,.int .i64 1,.int .i64 9] (.bool true):=TG
def R8:aJ prog 22 [(.sl 5 [(.agg [(.int .i64 2),(.int .i64 1),(.sl 7 []),(.sl 7 [(.agg [(.int .i64 1),(.int .i64 0),(.int .i64 0),(.int .i64 0),(.int .i64 0),(.int .i64 5),(.int .i64 10)]),(.agg [(.int .i64 1),(.int .i64 1),(.int .i64 0),(.int .i64 0),(.int .i64 10),(.int .i64 5),(.int .i64 10)])]),(.sl 7 [])])]),.int .i64 1,.int .i64 1] (.bool true):=UD
def Rd:aJ prog 22 [NM,.int .i64 1,.int .i64 1] (.bool true):=UI
def Q0:aJ prog 22 [(.sl 5 [(.agg [(.int .i64 1),(.int .i64 1),(.sl 7 []),(.sl 7 [(.agg [(.int .i64 1),(.int .i64 0),(.int .i64 0),(.int .i64 0),(.int .i64 0),(.int .i64 5),(.int .i64 10)])]),(.sl 7 [])])]),.int .i64 1,.int .i64 5] (.bool true):=TE
def PY:aJ prog 22 [(.sl 5 [(.agg [(.int .i64 1),(.int .i64 1),(.sl 7 []),(.sl 7 [(.agg [(.int .i64 1),(.int .i64 0),(.int .i64 0),(.int .i64 0),(.int .i64 0),(.int .i64 5),(.int .i64 10)]),(.agg [(.int .i64 1),(.int .i64 1),(.int .i64 0),(.int .i64 0),(.int .i64 11),(.int .i64 5),(.int .i64 10)])]),(.sl 7 [])])]),.int .i64 1,.int .i64 6] (.bool true):=Ui
def PL:V:=(.bool .true)
def MQ:aJ prog 8 [] PL:=FO ME [20,21,15,13,22] (E:=[(20,[Ur],(.P' [Bi,.int .i64 0,.int .i64 0])),(21,[Bi,.int .i64 8,.int .i64 20],(.P' [Dc,.int .i64 0])),(15,[Bi,.int .i64 8,.int .i64 20,Dc,.int .i64 1],(.P' [.agg [.int .i64 2,.int .i64 0,.bool false,.sl 7 []],.int .i64 0])),(13,[Bi,.int .i64 8,.int .i64 20,Dc,.int .i64 1],(.P' [NM,.int .i64 0])),(22,[Dc,.int .i64 0,.int .i64 0],(.bool true)),(22,[(.sl 5 [(.agg [(.int .i64 1),(.int .i64 1),(.sl 7 []),(.sl 7 [(.agg [(.int .i64 1),(.int .i64 0),(.int .i64 0),(.int .i64 0),(.int .i64 0),(.int .i64 5),(.int .i64 10)]),(.agg [(.int .i64 1),(.int .i64 1),(.int .i64 0),(.int .i64 0),(.int .i64 10),(.int .i64 5),(.int .i64 10)])]),(.sl 7 [])])]),.int .i64 2,.int .i64 9],(.bool true)),(22,[.aC,.int .i64 1,.int .i64 9],(.bool true)),(22,[(.sl 5 [(.agg [(.int .i64 2),(.int .i64 1),(.sl 7 []),(.sl 7 [(.agg [(.int .i64 1),(.int .i64 0),(.int .i64 0),(.int .i64 0),(.int .i64 0),(.int .i64 5),(.int .i64 10)]),(.agg [(.int .i64 1),(.int .i64 1),(.int .i64 0),(.int .i64 0),(.int .i64 10),(.int .i64 5),(.int .i64 10)])]),(.sl 7 [])])]),.int .i64 1,.int .i64 1],(.bool true)),(22,[NM,.int .i64 1,.int .i64 1],(.bool true)),(22,[(.sl 5 [(.agg [(.int .i64 1),(.int .i64 1),(.sl 7 []),(.sl 7 [(.agg [(.int .i64 1),(.int .i64 0),(.int .i64 0),(.int .i64 0),(.int .i64 0),(.int .i64 5),(.int .i64 10)])]),(.sl 7 [])])]),.int .i64 1,.int .i64 5],(.bool true)),(22,[(.sl 5 [(.agg [(.int .i64 1),(.int .i64 1),(.sl 7 []),(.sl 7 [(.agg [(.int .i64 1),(.int .i64 0),(.int .i64 0),(.int .i64 0),(.int .i64 0),(.int .i64 5),(.int .i64 10)]),(.agg [(.int .i64 1),(.int .i64 1),(.int .i64 0),(.int .i64 0),(.int .i64 11),(.int .i64 5),(.int .i64 10)])]),(.sl 7 [])])]),.int .i64 1,.int .i64 6],(.bool true))]) (.cons Un (.cons Ul (.cons Tx (.cons TT (.cons SR (.cons Rl (.cons So (.cons R8 (.cons Rd (.cons Q0 (.cons PY uG.nil))))))))))) rfl (by kernel_rfl)
open Go.Proofs Go.Proofs.Tryz
def Lg(l:List Nd)(hlen:l.length<=1000000000000)(hw:∀x∈l,x.words.length<=200000000000000)(h:Int)(hh:yk h)(vp:V)(P:List YG)(hlP:cW false vp=some (.int .i64 P.length))(hiP:∀(U:af) (i:Nat) (h:i<P.length),bo U 5 vp (.int .i64 i)=some (.rp (aM P[i])))
 (hPl:P.length<=10000000000000)(hPp:∀p∈P,p.hs.length<=1000000000000000/\p.fs.length<=1000000000000000/\p.ls.length<=1000000000000000)(U:af):
 au prog 7 [aH l,vI h,vp] U λr Z'=>(∃x,r=.bool x/\(x=false->l.length<=30/\P.length<=60/\∀p∈P,(p.hs.length:Int)+p.fs.length+p.ls.length<=600))/\Z'=U:=by
 refine e7.r (by simp[c7]) ?_;have hln:=eO l;have Zw:∀p:YG,(aM p).cells=[vI p.no,vI p.kind,aI p.hs,aI p.fs,aI p.ls]:=λ_=>rfl;have finT:ak (.bool true) U λr Z'=>(∃x,r=.bool x/\(x=false->l.length<=30/\P.length<=60/\∀p∈P,(p.hs.length:Int)+p.fs.length+p.ls.length<=600))/\Z'=U:=⟨_,_,aa.refl _,Wk.refl (aa.refl _) _,⟨_,rfl,λh=>by cases h⟩,rfl⟩
 refine ab.mix 13 ?_;by_cases h30:l.length<=30
 .have q0:((l.length:Int)>30)=False:=T';by_cases h60:P.length<=60
  .have q00:((P.length:Int)>60)=False:=T';apply sR;simp only[go_sem,seval,c7,hln,hlP,q0,q00];refine ab.fj (λst=>st.U=U/\st.s 0=aH l/\st.s 1=vI h/\st.s 2=vp/\st.s 9=vI 0/\∃c g:Int,st.s 7=vI c/\st.s 8=vI g/\0<=g/\g<=1152921504606846976)
    (λm st=>∃(i:Nat) (c g:Int),i<=l.length/\m=l.length-i/\st.U=U/\st.s 0=aH l/\st.s 1=vI h/\st.s 2=vp/\st.s 9=vI 0/\st.s 7=vI c/\0<=c/\c<=i*200000000000000/\st.s 8=vI g/\0<=g/\g<=i*3300000000000/\st.s 10=vI i) l.length ?_ ?_ ?_
   .exact⟨0,0,0,by omega,by omega,rfl,rfl,rfl,rfl,rfl,rfl,by omega,by omega,rfl,by omega,by omega,rfl⟩
   .rintro m ⟨S,J⟩ ⟨i,c,g,hi,rfl,YF,t0,t1,t2,t9,t7,hc0,hc1,t8,hg0,hg1,t10⟩;simp only at YF t0 t1 t2 t9 t7 t8 t10;subst YF;refine ab.mix 13 ?_;by_cases H':i<l.length
    .have q1:((i:Int)<l.length)=True:=Yd;have hnd:=λU=>db (U:=U) (l:=l) (a:=i) H';have hwi:=hw _ (Zr H');have hlw:=fU l[i].words;have r1:Yl .i64 ((i:Int)+1):=ai;have r2:Yl .i64 (c+l[i].words.length):=ai;apply sR;simp only[go_sem,seval,t0,t1,t2,t9,t7,t8,t10,hln,q1,hnd,Nd.cells,hlw,r1,r2,xW];obtain⟨b0,b1⟩:=J5 l[i].line 8589934592 (by omega);obtain⟨d0,d1⟩:=J5 l[i].h 2199023255552 (by omega);have e0:0<=(if 120<(l[i].words.length:Int)then 120 else(l[i].words.length:Int))/\(if 120<(l[i].words.length:Int)then 120 else(l[i].words.length:Int))<=120:=by split<;>omega
     obtain⟨e0,e1⟩:=e0;generalize (if 8589934592<if 0>l[i].line then 0 else l[i].line then 8589934592 else if 0>l[i].line then 0 else l[i].line)=A at*;generalize (if 2199023255552<if 0>l[i].h then 0 else l[i].h then 2199023255552 else if 0>l[i].h then 0 else l[i].h)=B at*;generalize (if 120<(l[i].words.length:Int)then 120 else(l[i].words.length:Int))=C at*;have m0:=Int.mul_nonneg b0 e0;have m1:=Int.mul_le_mul b1 e1 e0 (by omega:(0:Int)<=8589934592);generalize A*C=M at*;exact⟨ai,ai,ai,_,by omega,i+1,_,_,by omega,rfl,rfl,by omega,by omega,rfl,by omega,by omega,rfl⟩
    .have q1:((i:Int)<l.length)=False:=T';apply sR;simp only[go_sem,seval,t0,t10,hln,q1];exact⟨t1,t2,t9,c,g,t7,t8,hg0,by omega⟩
   .rintro⟨S,J⟩ ⟨YF,t0,t1,t2,t9,c,g,t7,t8,hg0,hg1⟩;simp only at YF t0 t1 t2 t9 t7 t8;subst YF;refine ab.mix 13 ?_;apply sR;simp only[go_sem,seval];refine ab.fj (λst=>st.U=J/\st.s 2=vp/\st.s 9=vI 0/\∃h':Int,st.s 1=vI h'/\yk h'/\st.s 7=vI c/\st.s 8=vI g)
     (λm st=>∃(i:Nat) (h':Int),i<=l.length/\m=l.length-i/\st.U=J/\st.s 2=vp/\st.s 9=vI 0/\st.s 0=aH l/\st.s 1=vI h'/\yk h'/\st.s 7=vI c/\st.s 8=vI g/\st.s 11=vI i) l.length ?_ ?_ ?_
    .exact⟨0,h,by omega,by omega,rfl,t2,t9,t0,t1,hh,t7,t8,rfl⟩
    .rintro m ⟨S,X'⟩ ⟨i,h',hi,rfl,YF,t2,t9,t0,t1,hh',t7,t8,t11⟩;simp only at YF t2 t9 t0 t1 t7 t8 t11;subst YF;refine ab.mix 13 ?_;by_cases H':i<l.length
     .have q1:((i:Int)<l.length)=True:=Yd;have hnd:=λU=>db (U:=U) (l:=l) (a:=i) H';have r1:Yl .i64 ((i:Int)+1):=ai;by_cases hb:h'=-9223372036854775808
      ·(refine ab.bg ZQ.nothing 22 ?_;simp only[go_sem,seval,fw,t0,t1,t11,hln,q1,hnd,Nd.cells])
       refine ab.TA rfl rfl rfl rfl ?_;generalize IntKind.i64.wrap (h'-1)=X
       (refine ab.bg ZQ.nothing 2 ?_;simp only[go_sem,seval,fw])
       refine ab.TA rfl rfl rfl rfl ?_;generalize hX:IntKind.i64.wrap _=Y;have hY:yk Y:=by rw[<-hX];exact Nn _
       apply sR;simp only[go_sem,seval,t11,r1,t7,t8,t0,t2,t9];exact⟨_,by omega,i+1,_,by omega,rfl,rfl,hY,rfl⟩
      .apply sR;simp only[go_sem,seval,t0,t1,t2,t9,t7,t8,t11,hln,q1,hnd,Nd.cells,r1];have hz:0<=(if(if 0>h'-1 then 0 else h'-1)<(if 0>l[i].st.head then 0 else l[i].st.head)then(if 0>h'-1 then 0 else h'-1)else if 0>l[i].st.head then 0 else l[i].st.head)/\
        (if(if 0>h'-1 then 0 else h'-1)<(if 0>l[i].st.head then 0 else l[i].st.head)then(if 0>h'-1 then 0 else h'-1)else if 0>l[i].st.head then 0 else l[i].st.head)<=(if 0>h'-1 then 0 else h'-1):=by
        have h1:0<=(if 0>h'-1 then 0 else h'-1):=by split<;>omega
        have h2:0<=(if 0>l[i].st.head then 0 else l[i].st.head):=by split<;>omega
        generalize (if 0>h'-1 then 0 else h'-1)=A at*;generalize (if 0>l[i].st.head then 0 else l[i].st.head)=B at*;split<;>omega
       have hx:(if 0>h'-1 then 0 else h'-1)=0\/(if 0>h'-1 then 0 else h'-1)=h'-1/\h'>=1:=by split<;>omega
       generalize (if(if 0>h'-1 then 0 else h'-1)<(if 0>l[i].st.head then 0 else l[i].st.head)then(if 0>h'-1 then 0 else h'-1)else if 0>l[i].st.head then 0 else l[i].st.head)=Z at*;unfold yk at hh';exact⟨ai,ai,_,by omega,i+1,_,by omega,rfl,rfl,⟨by omega,by omega⟩,rfl⟩
     .have q1:((i:Int)<l.length)=False:=T';apply sR;simp only[go_sem,seval,t0,t11,hln,q1];exact⟨t2,t9,h',t1,hh',t7,t8⟩
    .rintro⟨S,X'⟩ ⟨YF,t2,t9,h',t1,hh',t7,t8⟩;simp only at YF t1 t7 t8 t2 t9;subst YF;refine ab.mix 13 ?_;apply sR;simp only[go_sem,seval];refine ab.fj (λst=>st.U=X'/\st.s 1=vI h'/\st.s 7=vI c/\st.s 8=vI g/\∃q:Int,st.s 9=vI q/\∀p∈P,(p.hs.length:Int)+p.fs.length+p.ls.length<=q)
      (λm st=>∃(i:Nat) (q:Int),i<=P.length/\m=P.length-i/\st.U=X'/\st.s 1=vI h'/\st.s 2=vp/\st.s 7=vI c/\st.s 8=vI g/\st.s 9=vI q/\0<=q/\q<=i*3000000000000000/\st.s 12=vI i/\∀p∈P.take i,(p.hs.length:Int)+p.fs.length+p.ls.length<=q) P.length ?_ ?_ ?_
     .exact⟨0,0,by omega,by omega,rfl,t1,t2,t7,t8,t9,by omega,by omega,rfl,by simp⟩
     .rintro m ⟨S,J⟩ ⟨i,q,hi,rfl,YF,t1,t2,t7,t8,t9,hq0,hq1,t12,YU⟩;simp only at YF t1 t2 t7 t8 t9 t12;subst YF;refine ab.mix 13 ?_;by_cases H':i<P.length
      .have q1:((i:Int)<P.length)=True:=Yd;have hnd:=λU=>hiP U i H';have hpl:=hPp _ (Zr H');have Zb:=Zq0 H';generalize P[i]=p at*;have l1:=jo p.hs;have l2:=jo p.fs;have l3:=jo p.ls;have r1:Yl .i64 ((i:Int)+1):=ai;have r2:Yl .i64 ((p.hs.length:Int)+p.fs.length):=ai;have r3:Yl .i64 ((p.hs.length:Int)+p.fs.length+p.ls.length):=ai;have r4:Yl .i64 (q+((p.hs.length:Int)+p.fs.length+p.ls.length)):=ai;apply sR;simp only[go_sem,seval,t1,t2,t7,t8,t9,t12,hlP,q1,hnd,Zw,Ux,l1,l2,l3,r1,r2,r3,r4];exact⟨_,by omega,i+1,_,by omega,rfl,rfl,by omega,by omega,rfl,λu hu=>by
        rw[Zb]at hu;rcases dc.1 hu with hu|hu
        .have:=YU u hu;omega
        .rw[er.1 hu];omega⟩
      .have q1:((i:Int)<P.length)=False:=T';apply sR;simp only[go_sem,seval,t2,t12,hlP,q1];rw[jj (by omega)]at YU;exact⟨t1,t7,t8,q,t9,YU⟩
     .rintro⟨S,J⟩ ⟨YF,t1,t7,t8,q,t9,YU⟩;simp only at YF t1 t7 t8 t9;subst YF;refine ab.mix 13 ?_;have fin:∀x:Bool,(x=false->q<=600)->ak (.bool x) J λr Z'=>(∃x,r=.bool x/\(x=false->l.length<=30/\P.length<=60/\∀p∈P,(p.hs.length:Int)+p.fs.length+p.ls.length<=600))/\Z'=J:=λx hx=>⟨_,_,aa.refl _,Wk.refl (aa.refl _) _,⟨_,rfl,λh=>⟨h30,h60,λp hp=>by have:=YU p hp;have:=hx h;omega⟩⟩,rfl⟩
      by_cases p1:c>120
      .have q1:(c>120)=True:=Yd p1;apply sR;simp only[go_sem,seval,t7,q1];exact fin _ (λh=>by cases h)
      .have q1:(c>120)=False:=T' p1;by_cases p0:q>600
       .have q5:(q>600)=True:=Yd p0;apply sR;simp only[go_sem,seval,t7,t9,q1,q5];exact fin _ (λh=>by cases h)
       .have q5:(q>600)=False:=T' p0;by_cases p2:h'>=1
        .have q2:(h'>=1)=True:=Yd p2;have q3:(h'=0)=False:=T';have hq0:=Int.tdiv_nonneg hg0 (by omega:0<=h');have hq1:=Int.tdiv_le_self h' hg0;have r1:Yl .i64 (g.tdiv h'):=ai;by_cases p4:g.tdiv h'>300
         .have q4:(g.tdiv h'>300)=True:=Yd p4;apply sR;simp only[go_sem,seval,t1,t7,t8,t9,q1,q5,q2,q3,q4,r1];exact fin _ (λ_=>by omega)
         .have q4:(g.tdiv h'>300)=False:=T' p4;apply sR;simp only[go_sem,seval,t1,t7,t8,t9,q1,q5,q2,q3,q4,r1];exact fin _ (λ_=>by omega)
        .have q2:(h'>=1)=False:=T' p2;apply sR;simp only[go_sem,seval,t1,t7,t9,q1,q5,q2];exact fin _ (λ_=>by omega)
  .have q00:((P.length:Int)>60)=True:=Yd;apply sR;simp only[go_sem,seval,c7,hln,hlP,q0,q00];exact finT
 .have q0:((l.length:Int)>30)=True:=Yd;apply sR;simp only[go_sem,seval,c7,hln,q0];exact finT
open Go.Proofs Go.Proofs.Tryz
def UF(l:List Nd):Prop:=l.length<=1000000000000/\∀x∈l,x.words.length<=200000000000000
open Go.Proofs Go.Proofs.Tryz
def OA(x:Int×Int):(Ic x).cells=[vI x.1,vI x.2]:=rfl
def TI(x:Int×Int):(Ic x).stays=true:=rfl
open Go.Proofs Go.Proofs.Tryz
def yI:∀(R:List YG) (k i:Nat),k<=R.length->jy R (R.take k) i=if k=R.length then(0,0)else((i:Int)+k+1,9)
 |[],0,i,_=>rfl
 |[],k+1,i,h=>by simp at h
 |a::R,0,i,_=>by simp[jy]
 |a::R,k+1,i,h=>by
  rw[pA,jy,ar rfl,yI R k (i+1) (by simpa using h)];simp only[ZK,Nat.add_right_cancel_iff];split
  .rfl
  .congr 1;omega
def Fe:∀(U:af) (i:Nat) (h:i<([]:List YG).length),bo U 5 .aC (.int .i64 i)=some (.rp (aM ([]:List YG)[i])):=λ_ i h=>absurd h (by simp)
def G3(aw:aJ prog 8 [] (.bool true))(l:List Nd)(ha:UF l)(w h k:Int)(hh:yk h)(hk:yk k):
 aJ prog 4 [aH l,vI w,vI h,vI k] (.bool true):=λU=>by
 refine e4.r (by simp[c4]) ?_;have va:=λU=>Lg l ha.1 ha.2 h hh .aC [] rfl Fe (by simp) (λp hp=>by cases hp) U;refine ab.mix 19 ?_;apply sR;simp only[go_sem,seval,c4];refine ab.call rfl rfl rfl (va _) ?_;rintro r Z' ⟨⟨x,rfl,hx⟩,rfl⟩;cases x with
 |true=>
  apply sR;simp only[go_sem,seval];refine ab.ay rfl rfl rfl (aw _) ?_;apply sR;simp only[go_sem,seval];exact ak.same rfl
 |false=>
  obtain⟨h30,-,-⟩:=hx rfl;have fl:dU l:=⟨by omega,ha.2⟩
  have pg:=Hb l fl w h;apply sR;simp only[go_sem,seval];refine ab.ay rfl rfl rfl (pg _) ?_;by_cases he:eu l w h=0
  .have hrb:=tA fl he;have hrl:=oR fl he;have hPR:=mU (aY l w h);have hre:=λkn hkn=>vv l fl w h he kn hkn _ hkn rfl;have Ys:=λkn hkn=>Ct l fl w h he kn hkn;have hck:=λkn=>BC l fl w h (bp ((bx (aY l w h)).take kn)) _ (ju _) (sV _) (λp hp=>by have:=hrl p (pz hp);unfold ly;omega) (by rw[fY];omega);simp only[he,if_true]at hck;rw[ar he];have hsl:=@wK (bx (aY l w h));generalize hst':(λkn=>ic (aY l w h) (bO .nil (bx (aY l w h)) kn))=SV at*;have hlR:=ju (bx (aY l w h));have q0:((0:Int)≠0)=False:=T' (λh=>h rfl);have q00:((0:Int)=0)=True:=Yd rfl;by_cases g1:((bx (aY l w h)).length:Int)>60
   .have p1:(((bx (aY l w h)).length:Int)>60)=True:=Yd g1;apply sR;simp only[go_sem,seval,q0,hlR,p1];refine ab.ay rfl rfl rfl (aw _) ?_;apply sR;simp only[go_sem,seval];exact ak.same rfl
   .have p1:(((bx (aY l w h)).length:Int)>60)=False:=T' g1;by_cases g2:k<0
    .have p2:(k<0)=True:=Yd g2;apply sR;simp only[go_sem,seval,q0,hlR,p1,p2];refine ab.ay rfl rfl rfl (aw _) ?_;apply sR;simp only[go_sem,seval];exact ak.same rfl
    .have p2:(k<0)=False:=T' g2;by_cases g3:k>((bx (aY l w h)).length:Int)
     .have p3:(k>((bx (aY l w h)).length:Int))=True:=Yd g3;apply sR;simp only[go_sem,seval,q0,hlR,p1,p2,p3];refine ab.ay rfl rfl rfl (aw _) ?_;apply sR;simp only[go_sem,seval];exact ak.same rfl
     .have p3:(k>((bx (aY l w h)).length:Int))=False:=T' g3;obtain⟨kn,rfl⟩:∃kn:Nat,k=kn:=⟨k.toNat,by omega⟩
      have hkn:kn<=(bx (aY l w h)).length:=by omega
      replace hre:=hre kn hkn;replace Ys:=Ys kn hkn;replace hck:=hck kn;replace hsl:=hsl hkn;rw[yI _ _ _ hkn]at hck;rw[show((0:Nat):Int)+(kn:Int)+1=(kn:Int)+1 by omega]at hck;have how:=λU=>MH ((bx (aY l w h)).take kn) (by rw[fY];omega) (λp hp=>by have:=hrl p (pz hp);omega) U;have hsm:=Lp (bx (aY l w h)) (bx (aY l w h));clear pg va hst' he hx;generalize aY l w h=b at*;generalize bx b=R at*;generalize ic b (bO .nil R kn)=sv at*;apply sR;simp only[go_sem,seval,q0,hlR,p1,p2,p3];refine ab.ay rfl rfl rfl (hre _) ?_;apply sR;simp only[BB,seval,aX,ez,aE,ef,D8,ZQ.nothing,hsl];refine ab.call rfl rfl rfl (how _) ?_;rintro r Z2 ⟨hs2,ho⟩;obtain⟨Yn,hd,Zk⟩:=ho.dst (aa.refl _);have hsr:bz Z2 5 (bp (R.drop kn))=some ((R.drop kn).map aM):=by simp[bp,bz]
      have hb:(((R.take kn).map aM).length+((R.drop kn).map aM).length)*89<=140737488355328:=by simp only[cL,fY,qF];omega
      apply sR;simp only[go_sem,seval,hd,hsr,hb];refine cO λi62 Z62 s62 a62 f62=>?_;have YU:(R.take kn).map aM++(R.drop kn).map aM=R.map aM:=by rw[<-gl,sZ]
      have hlen:((R.take kn).map aM).length+((R.drop kn).map aM).length=R.length:=by rw[<-gZ,YU,cL]
      rw[YU]at a62;rw[hlen];simp only[go_sem,seval,q0];refine ab.freeze [0,1,2,3,9,65,67] 66 i62 0 R.length ((Zk Z' (aa.refl _) Z2 hs2).trans s62) a62 (hs2.none f62) rfl (by simp) ?_;have hown:V.sl 5 (((R.map aM).drop 0).take R.length)=bp R:=by rw[yq,jj (by simp)];rfl
      clear a62 s62 f62 hd hb hsr Zk hs2 ho;rw[hown];refine ab.ay rfl rfl rfl (hsm (by omega) (λp hp=>by have:=hrl p hp;omega) _) ?_;rw[ZG rfl];apply sR;simp only[BB,seval,aX,ez,aE,ef,ZQ.nothing,hsl];refine ab.ay rfl rfl rfl (hck _) ?_;have r1:Yl .i64 ((kn:Int)+1):=ai;have hs:=aa.refl Z';generalize hvd:(if kn=R.length then((0,0):Int×Int)else((kn:Int)+1,9))=vd at*;apply sR;simp only[go_sem,seval];refine ad λi14 Z14 s14 a14 f14=>?_;have z14:=hs.none f14;replace hs:=hs.trans s14;simp only[go_sem,seval,a14,OA,TI];generalize hq14:C' _ i14 _=Y14;replace a14:=(congrFun hq14 i14).symm.trans ag;replace hs:=Eq.subst (motive:=aa _) hq14 (hs.ax z14);clear hq14;refine⟨r1,?_⟩;refine ad λi16 Z16 s16 a16 f16=>?_;have n1416:=ao a14 f16;replace a14:=s16 _ _ a14;have z16:=hs.none f16;replace hs:=hs.trans s16;have q8:((kn:Int)+1=(kn:Int)+1)=True:=Yd rfl;have q9:((9:Int)=9)=True:=Yd rfl;have hor:((kn:Int)=R.length)=True/\vd=(0,0)\/((kn:Int)=R.length)=False/\vd=((kn:Int)+1,9):=by
       by_cases hke:kn=R.length
       .exact .inl ⟨Yd,by rw[<-hvd,ar hke]⟩
       .exact .inr ⟨T',by rw[<-hvd,av hke]⟩
      clear hvd;rcases hor with⟨e1,rfl⟩|⟨e1,rfl⟩
      all_goals
       simp only[go_sem,seval,a16,e1,hlR];generalize hq16:C' _ i16 _=Y16;replace a16:=(congrFun hq16 i16).symm.trans ag;replace a14:=((congrFun hq16 i14).symm.trans (ae n1416)).trans a14;replace hs:=Eq.subst (motive:=aa _) hq16 (hs.ax z16);clear hq16;refine ab.ay rfl rfl rfl (Ys _) ?_;have hec:(bF sv).cells=[vI sv.s.atom,vI sv.s.done,.bool sv.s.free,aG sv.bJ]:=rfl;have hes:(bF sv).stays=true:=rfl;apply sR;simp only[go_sem,seval];refine ad λi17 Y17 s17 a17 f17=>?_;have n1617:=ao a16 f17;replace a16:=s17 _ _ a16;have n1417:=ao a14 f17;replace a14:=s17 _ _ a14;have z17:=hs.none f17;replace hs:=hs.trans s17;simp only[go_sem,seval,a17,hec,hes];generalize hq17:C' _ i17 _=Z17;replace a17:=(congrFun hq17 i17).symm.trans ag;replace a16:=((congrFun hq17 i16).symm.trans (ae n1617)).trans a16;replace a14:=((congrFun hq17 i14).symm.trans (ae n1417)).trans a14;replace hs:=Eq.subst (motive:=aa _) hq17 (hs.ax z17);clear hq17;simp only[go_sem,seval,a16,a14,OA];refine ab.ay rfl rfl rfl (aw _) ?_;apply sR;simp only[go_sem,seval];exact ak.pure hs rfl
  .rw[av he];have q1:(eu l w h≠0)=True:=Yd he;generalize eu l w h=E at*;apply sR;simp only[go_sem,seval,q1];refine ab.ay rfl rfl rfl (aw _) ?_;apply sR;simp only[go_sem,seval];exact ak.same rfl
end Go.Vc
