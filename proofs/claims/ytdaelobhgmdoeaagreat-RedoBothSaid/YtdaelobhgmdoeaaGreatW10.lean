/- Part 10 of the library of this proof. -/
import Derived.Test.YtdaelobhgmdoeaaGreatW9
import Derived.Test.YtdaelobhgmdoeaaGreatProg
import Derived.KernelRfl
set_option linter.all false
set_option maxHeartbeats 8000000
set_option maxRecDepth 100000
namespace Go.Vc
def dQ(a b:Bk):Nat->Sc->Nat->Nat
 |0,_,n=>n
 |f+1,s,n=>if db a s then n else if¬cz a b s (aW a s).1.kind then n
  else dQ a b f (aW a s).2 (if ig a (aW a s).1 s.s ((n:Int)+1)then n+2 else n+1)
def fD(a b:Bk):Nat:=if(a.atoms.length:Int)+a.Re.length=0 then(if cz a b ⟨⟨0,0,false⟩,[]⟩ 3 then 1 else 0)else dQ a b 1000000001 ⟨⟨0,0,true⟩,[]⟩ 0
def BO(a b:Bk):∀(f:Nat) (s:Sc) (n:Nat),n<=dQ a b f s n
 |0,_,_=>Nat.le_refl _
 |f+1,s,n=>by
  rw[dQ];split
  .exact Nat.le_refl _
  .split
   .exact Nat.le_refl _
   .refine Nat.le_trans ?_ (BO a b f _ _);split<;>omega
def vX{a b:Bk}(ha:bO a){s:Sc}(he:¬db a s)(hp:aW a s=aW b s)(h:TL a.L' s.s.atom.toNat=TL b.L' s.s.atom.toNat\/a.atoms=[])(no:Int):ig a (aW a s).1 s.s no↔ig b (aW b s).1 s.s no:=by
 rcases h with h|h
 .unfold ig;rw[hp,h]
 .have hk:(aW a s).1.kind≠1:=λk=>by
   have:=((iu ha he).cut k).1.1;rw[h]at this;simp at this;omega
  unfold ig;rw[<-hp];constructor
  .intro g;exact absurd g.1 hk
  .intro g;exact absurd g.1 hk
def pe{a b:Bk}(ha:bO a)(hb:bO b)(hw:a.w=b.w)(hh:a.h=b.h){s:Sc}(he:¬db a s)(hs:cz a b s (aW a s).1.kind):
 aW a s=aW b s/\cz b a s (aW b s).1.kind/\∀no,ig a (aW a s).1 s.s no↔ig b (aW b s).1 s.s no:=by
 rcases Dh ha hb hw hh he hs with⟨g1,g2,g3⟩|⟨g0,-,g1,g2⟩
 .exact⟨g1,g2,vX ha he g1 (.inl g3)⟩
 .exact⟨g1,g2,vX ha he g1 (.inr g0)⟩
def yM{a b:Bk}(hb:bO b){s:Sc}(hm:gy a s)(he:db a s)(he':¬db b s):¬cz b a s (aW b s).1.kind:=λhs=>by
 obtain⟨e1,e2,e3⟩:=he.resolve_left (λh=>h hm);obtain⟨r1,r2,r3⟩:=ou hb he';have hmb:gy b s:=Decidable.byContradiction λh=>he' (.inl h);unfold cz at hs;split at hs
 .exact he' (.inr ⟨by omega,e2,e3⟩)
 .have hl:=rW b.atoms a.atoms;rcases hs.1 with h|⟨h1,h2,h3⟩
  .omega
  .exact he' (.inr ⟨by omega,e2,e3⟩)
def Ab{a b:Bk}(ha:bO a)(hb:bO b)(hw:a.w=b.w)(hh:a.h=b.h):∀(f:Nat) (s:Sc) (n:Nat),gy a s->gy b s->dQ a b f s n=dQ b a f s n
 |0,_,_,_,_=>rfl
 |f+1,s,n,hma,hmb=>by
  rw[dQ,dQ];by_cases ea:db a s
  .rw[if_pos ea];by_cases eb:db b s
   .rw[if_pos eb]
   .rw[if_neg eb,if_pos (yM hb hma ea eb)]
  .rw[if_neg ea];by_cases eb:db b s
   .rw[if_pos eb,if_pos (yM ha hmb eb ea)]
   .rw[if_neg eb];by_cases hs:cz a b s (aW a s).1.kind
    .obtain⟨g1,g2,g3⟩:=pe ha hb hw hh ea hs;rw[if_neg (show¬¬cz a b s (aW a s).1.kind from λh=>h hs),if_neg (show¬¬cz b a s (aW b s).1.kind from λh=>h g2)];have ma:=um ha ea;have mb:=um hb eb;rw[Ab ha hb hw hh f _ _ ma (by rw[g1];exact mb),<-g1];have YB:=g3 ((n:Int)+1);rw[<-g1]at YB;by_cases UE:ig a (aW a s).1 s.s ((n:Int)+1)
     .rw[if_pos UE,if_pos (YB.1 UE)]
     .rw[if_neg UE,if_neg λg=>UE (YB.2 g)]
    .have Ru:¬cz b a s (aW b s).1.kind:=λh=>by
      obtain⟨g1,g2,g3⟩:=pe hb ha hw.symm hh.symm eb h;exact hs g2
     rw[if_pos hs,if_pos Ru]
def Dx{a:Bk}(ha:bO a){s:Sc}(he:¬db a s):cz a a s (aW a s).1.kind:=by
 by_cases na:a.atoms=[]
 .unfold cz;rw[if_pos (.inl (by rw[na];rfl))];exact⟨rfl,rfl⟩
 .have hr:=ou ha he;exact(lJ ha he na na rfl rfl).2 ⟨⟨by omega,λ_ _=>rfl,λ_ _=>rfl,rfl,rfl,λ_ _=>rfl,rfl,rfl⟩,λ_ _=>rfl⟩
def uV{a:Bk}(ha:bO a):∀(f:Nat) (s:Sc) (n:Nat),dQ a a f s n=n+(V5 a f s n).length
 |0,_,_=>rfl
 |f+1,s,n=>by
  rw[dQ,V5];by_cases he:db a s
  .rw[if_pos he,if_pos he];rfl
  .rw[if_neg he,if_neg he,if_neg (show¬¬cz a a s (aW a s).1.kind from λh=>h (Dx ha he)),uV ha f];have hw:=Db (b:=a) (s:=s) ((n:Int)+1);by_cases UE:ig a (aW a s).1 s.s ((n:Int)+1)
   .rw[if_pos UE,if_pos (hw.1 UE)];simp only[List.length_cons];rw[show((n+2:Nat):Int)=(n:Int)+2 by omega];omega
   .rw[if_neg UE,if_neg λg=>UE (hw.2 g)];simp only[List.length_cons];rw[show((n+1:Nat):Int)=(n:Int)+1 by omega];omega
def Aq{a b c:Bk}(ha:bO a)(hb:bO b)(hw:a.w=b.w)(hh:a.h=b.h)(XZ:b.w=c.w)(ZW:b.h=c.h){s:Sc}(ea:¬db a s)(eb:¬db b s)(h1:cz a b s (aW a s).1.kind)(h2:cz b c s (aW b s).1.kind):cz a c s (aW a s).1.kind:=by
 by_cases na:a.atoms=[]
 .unfold cz at h1 h2|-;rw[if_pos (.inl (by rw[na];rfl))]at h1|-;have nb:(b.atoms.length:Int)=0:=by rw[<-h1.1,na];rfl
  rw[if_pos (.inl nb)]at h2;exact⟨h1.1.trans h2.1,h1.2.trans h2.2⟩
 .have l1:=List.length_pos_iff.2 na;have nb:b.atoms≠[]:=λe=>by
   unfold cz at h1;rw[if_pos (.inr (by rw[e];rfl)),e]at h1;have:=h1.1;simp at this;exact na this
  have l2:=List.length_pos_iff.2 nb;have nc:c.atoms≠[]:=λe=>by
   unfold cz at h2;rw[if_pos (.inr (by rw[e];rfl)),e]at h2;have:=h2.1;simp at this;exact nb this
  obtain⟨p1,p2⟩:=(lJ ha ea na nb hw hh).1 h1;obtain⟨q1,q2⟩:=(lJ hb eb nb nc XZ ZW).1 h2;obtain⟨g1,g2⟩:=p1.MN ha hb ea na nb;rw[g2]at q1 q2;refine(lJ ha ea na nc (hw.trans XZ) (hh.trans ZW)).2 ⟨⟨p1.r0,λk hk=>(p1.RD k hk).trans (q1.RD k hk),λk hk=>(p1.bk k hk).trans (q1.bk k hk),p1.fl.trans q1.fl,p1.hd.trans q1.hd,λn hn=>(p1.st n hn).trans (q1.st n (p1.hd▸hn)),p1.w.trans q1.w,p1.h.trans q1.h⟩,λk hk=>(p2 k hk).trans (q2 k hk)⟩
def nN{a b c:Bk}(ha:bO a)(hb:bO b)(hw:a.w=b.w)(hh:a.h=b.h)(XZ:b.w=c.w)(ZW:b.h=c.h):∀(f:Nat) (s:Sc) (n:Nat),min (dQ a b f s n) (dQ b c f s n)<=dQ a c f s n
 |0,_,_=>Nat.min_le_left _ _
 |f+1,s,n=>by
  have VT:=BO a c (f+1) s n;by_cases ea:db a s
  .have:dQ a b (f+1) s n=n:=by rw[dQ,if_pos ea]
   omega
  .by_cases hs:cz a b s (aW a s).1.kind
   .by_cases eb:db b s
    .have:dQ b c (f+1) s n=n:=by rw[dQ,if_pos eb]
     omega
    .by_cases TQ:cz b c s (aW b s).1.kind
     .have hs3:=Aq ha hb hw hh XZ ZW ea eb hs TQ;obtain⟨g1,g2,g3⟩:=pe ha hb hw hh ea hs;have YB:=g3 ((n:Int)+1);rw[dQ,dQ,dQ,if_neg ea,if_neg eb,if_neg ea,if_neg (show¬¬cz a b s (aW a s).1.kind from λh=>h hs),if_neg (show¬¬cz b c s (aW b s).1.kind from λh=>h TQ),if_neg (show¬¬cz a c s (aW a s).1.kind from λh=>h hs3),<-g1];rw[<-g1]at YB;by_cases UE:ig a (aW a s).1 s.s ((n:Int)+1)
      .rw[if_pos UE,if_pos (YB.1 UE)];exact nN ha hb hw hh XZ ZW f _ _
      .rw[if_neg UE,if_neg λg=>UE (YB.2 g)];exact nN ha hb hw hh XZ ZW f _ _
     .have:dQ b c (f+1) s n=n:=by rw[dQ,if_neg eb,if_pos TQ]
      omega
   .have:dQ a b (f+1) s n=n:=by rw[dQ,if_neg ea,if_pos hs]
    omega
def Da{l m:List Nd}(hl:dH l)(hm:dH m){w h:Int}(e1:ed l w h=0)(e2:ed m w h=0):fD (bc l w h) (bc m w h)=fD (bc m w h) (bc l w h):=by
 have ha:=gi hl e1;have hb:=gi hm e2;have ma:=qc _ ha.pos;have mb:=qc _ hb.pos;have hw:(bc l w h).w=(bc m w h).w:=rfl;have hh:(bc l w h).h=(bc m w h).h:=rfl;generalize bc l w h=a at*;generalize bc m w h=b at*;have hz:∀{a b:Bk},((a.atoms.length:Int)+a.Re.length=0)->(cz a b ⟨⟨0,0,false⟩,[]⟩ 3↔(b.atoms.length:Int)+b.Re.length=0):=λ{a b} h=>by
  unfold cz;rw[if_pos (.inl (by omega))];constructor
  .rintro⟨h1,h2⟩;rw[<-h1,<-h2];exact h
  .intro h';exact⟨by omega,by rw[List.eq_nil_of_length_eq_zero (show a.Re.length=0 by omega),List.eq_nil_of_length_eq_zero (show b.Re.length=0 by omega)]⟩
 have hx:∀{a b:Bk},bO a->bO b->a.w=b.w->a.h=b.h->gy a ⟨⟨0,0,true⟩,[]⟩->((a.atoms.length:Int)+a.Re.length=0)->¬((b.atoms.length:Int)+b.Re.length=0)->dQ b a 1000000001 ⟨⟨0,0,true⟩,[]⟩ 0=0:=λ{a b} ha hb hw hh hma h h'=>by
  rw[dQ];split
  .rfl
  .rename_i eb;rw[if_pos];intro hs;unfold cz at hs;rw[if_pos (.inr (by omega))]at hs;have:=hs.1;have:=congrArg List.length hs.2;omega
 unfold fD;by_cases h1:(a.atoms.length:Int)+a.Re.length=0
 .rw[if_pos h1];by_cases h2:(b.atoms.length:Int)+b.Re.length=0
  .rw[if_pos h2,if_pos ((hz h1).2 h2),if_pos ((hz h2).2 h1)]
  .rw[if_neg h2,if_neg λg=>h2 ((hz h1).1 g),hx ha hb hw hh ma h1 h2]
 .rw[if_neg h1];by_cases h2:(b.atoms.length:Int)+b.Re.length=0
  .rw[if_pos h2,if_neg λg=>h1 ((hz h2).1 g),hx hb ha hw.symm hh.symm mb h2 h1]
  .rw[if_neg h2];exact Ab ha hb hw hh _ _ _ ma mb
def EZ{l:List Nd}(hl:dH l){w h:Int}(e1:ed l w h=0):fD (bc l w h) (bc l w h)=(lU (bc l w h)).length:=by
 have ha:=gi hl e1;generalize bc l w h=a at*;unfold fD lU;by_cases h1:(a.atoms.length:Int)+a.Re.length=0
 .rw[if_pos h1,if_pos h1,if_pos]
  .rfl
  .unfold cz;rw[if_pos (.inl (by omega))];exact⟨rfl,rfl⟩
 .rw[if_neg h1,if_neg h1,uV ha,DX,Nat.zero_add];rfl
def Bh{l m k:List Nd}(hl:dH l)(hm:dH m){w h:Int}(e1:ed l w h=0)(e2:ed m w h=0):min (fD (bc l w h) (bc m w h)) (fD (bc m w h) (bc k w h))<=fD (bc l w h) (bc k w h):=by
 have ha:=gi hl e1;have hb:=gi hm e2;have hw:(bc l w h).w=(bc m w h).w:=rfl;have hh:(bc l w h).h=(bc m w h).h:=rfl;have XZ:(bc m w h).w=(bc k w h).w:=rfl;have ZW:(bc m w h).h=(bc k w h).h:=rfl;generalize bc l w h=a at*;generalize bc m w h=b at*;generalize bc k w h=c at*;have hz:∀{a b:Bk},((a.atoms.length:Int)+a.Re.length=0)->(cz a b ⟨⟨0,0,false⟩,[]⟩ 3↔(b.atoms.length:Int)+b.Re.length=0):=λ{a b} h=>by
  unfold cz;rw[if_pos (.inl (by omega))];constructor
  .rintro⟨h1,h2⟩;rw[<-h1,<-h2];exact h
  .intro h';exact⟨by omega,by rw[List.eq_nil_of_length_eq_zero (show a.Re.length=0 by omega),List.eq_nil_of_length_eq_zero (show b.Re.length=0 by omega)]⟩
 unfold fD;by_cases h1:(a.atoms.length:Int)+a.Re.length=0
 .rw[if_pos h1,if_pos h1];by_cases h2:(b.atoms.length:Int)+b.Re.length=0
  .rw[if_pos h2,if_pos ((hz h1).2 h2)];by_cases h3:(c.atoms.length:Int)+c.Re.length=0
   .rw[if_pos ((hz h2).2 h3),if_pos ((hz h1).2 h3)];omega
   .rw[if_neg λg=>h3 ((hz h2).1 g)];omega
  .rw[if_neg λg=>h2 ((hz h1).1 g)];omega
 .rw[if_neg h1,if_neg h1];by_cases h2:(b.atoms.length:Int)+b.Re.length=0
  .have:dQ a b 1000000001 ⟨⟨0,0,true⟩,[]⟩ 0=0:=by
    rw[dQ];split
    .rfl
    .rw[if_pos];intro hs;unfold cz at hs;rw[if_pos (.inr (by omega))]at hs;have:=hs.1;have:=congrArg List.length hs.2;omega
   omega
  .rw[if_neg h2];exact nN ha hb hw hh XZ ZW _ _ _
open Go.Proofs Go.Proofs.Tryz
def Hq(sz:Nat)(ks:List Nat):Rc:=⟨26,(.seq (.RR false [⟨(some 4),(.Rn (.c (.bool false))),none⟩]) (.seq (.seq (.RR false [⟨(some 6),(.Rn (.t 0)),none⟩,⟨(some 7),(.len false (.t 6)),none⟩,⟨(some 8),(.Rn (.t 1)),none⟩,⟨(some 9),(.len false (.t 8)),none⟩,⟨(some 10),(.bin .neq (.t 7) (.t 9)),none⟩]) (.cond (.t 10) (.seq (.RR false [⟨(some 4),(.Rn (.c (.bool false))),none⟩]) .ret) .skip)) (.seq (.seq (.RR false [⟨(some 11),(.Rn (.t 0)),none⟩,⟨(some 12),(.len false (.t 11)),none⟩,⟨(some 13),(.Rn (.c (.int .i64 0))),none⟩]) (.block 0 (.loop (.seq (.RR false [⟨(some 14),(.bin .lss (.t 13) (.t 12)),none⟩]) (.seq (.cond (.t 14) .skip (.exit 0)) (.seq (.block 1 (.seq (.RR false [⟨(some 15),(.Rn (.t 13)),none⟩,⟨(some 5),(.Rn (.t 15)),none⟩]) (.seq (.RR true [⟨(some 16),(.Rn (.t 0)),none⟩,⟨(some 17),(.Rn (.t 5)),none⟩,⟨(some 18),(.T9 sz (.t 16) (.t 17)),none⟩,⟨(some 19),(.load true sz (.t 18)),none⟩,⟨(some 20),(.Rn (.t 1)),none⟩,⟨(some 21),(.Rn (.t 5)),none⟩,⟨(some 22),(.T9 sz (.t 20) (.t 21)),none⟩,⟨(some 23),(.load true sz (.t 22)),none⟩,⟨(some 24),(.XU true ks (.t 19) (.t 23)),none⟩]) (.cond (.t 24) (.seq (.RR false [⟨(some 4),(.Rn (.c (.bool false))),none⟩]) .ret) .skip)))) (.RR false [⟨(some 25),(.bin .add (.t 13) (.c (.int .i64 1))),none⟩,⟨(some 13),(.Rn (.t 25)),none⟩]))))))) (.seq (.RR false [⟨(some 4),(.Rn (.c (.bool true))),none⟩]) .ret)))),[(.tmp (.t 4))]⟩
def Ja{P:Program}{f:FuncId}{fn:Func}(hf:P.funcs[f]?=some fn){sz:Nat}{ks:List Nat}(hc:cfn P fn=some (Hq sz ks))(hk:eF P f=true){α:Type}[DecidableEq α](enc:α->V)
 (he:∀a b,iM true ks (enc a) (enc b)=some (.bool (decide (a≠b))))(hl:∀U a,bS U true sz (.rp (enc a))=some (enc a))(xs ys:List α)(hx:xs.length<=1000000000000000):
 aV P f [.sl sz (xs.map enc),.sl sz (ys.map enc)] (.bool (decide (xs=ys))):=λU=>by
 refine aD.jY hf hc hk (by simp[Hq]) ?_;refine ad.mix 6 ?_;have n1:dz false (.sl sz (xs.map enc))=some (.int .i64 xs.length):=by simp[dz]
 have n2:dz false (.sl sz (ys.map enc))=some (.int .i64 ys.length):=by simp[dz]
 by_cases hlen:xs.length=ys.length
 .have q:((xs.length:Int)≠ys.length)=False:=eq_false (by omega);apply sR;simp only[go_sem,seval,Hq,n1,n2,q];refine ad.loop (λm st=>∃j,j<=xs.length/\m=xs.length-j/\xs.take j=ys.take j/\st.s 0=.sl sz (xs.map enc)/\st.s 1=.sl sz (ys.map enc)/\st.s 12=.int .i64 xs.length/\st.s 13=.int .i64 j/\st.U=U) xs.length ⟨0,by omega,rfl,rfl,rfl,rfl,rfl,rfl,rfl⟩ ?_;rintro m ⟨S,Z'⟩ ⟨j,hj,rfl,ht,t0,t1,t12,t13,RH⟩;simp only at t0 t1 t12 t13 RH;subst RH;refine ad.mix 6 ?_;by_cases H':j<xs.length
  .have q1:((j:Int)<xs.length)=True:=eq_true (by omega);have Yr:j<ys.length:=by omega
   have i1:∀U,bQ U sz (.sl sz (xs.map enc)) (.int .i64 j)=some (.rp (enc xs[j])):=λU=>by simp[bQ,H']
   have i2:∀U,bQ U sz (.sl sz (ys.map enc)) (.int .i64 j)=some (.rp (enc ys[j])):=λU=>by simp[bQ,Yr]
   have XQ:=he xs[j] ys[j];have tx:=List.take_succ_eq_append_getElem H';have ty:=List.take_succ_eq_append_getElem Yr;by_cases hq:xs[j]=ys[j]
   .rw[show decide (xs[j]≠ys[j])=false by simpa using hq]at XQ;apply sR;simp only[BB,seval,<-decide_not,bw,fi,aL,cQ,eN,ej,eK,dY,ct,jS,gx,bI,fC,dN,fq,cM,cP,bF,iN,dg,cT,ck,Sk,jV,dc,cc,dI,cd,df,cY,kT,binBV,bW,dq,V.cells,V.stays,Tm.nothing,t0,t1,t12,t13,n1,q1,i1,i2,hl,XQ];exact⟨ao (by omega) (by omega),_,by omega,j+1,by omega,rfl,by rw[tx,ty,ht,hq],by simp⟩
   .rw[show decide (xs[j]≠ys[j])=true by simpa using hq]at XQ;apply sR;simp only[BB,seval,<-decide_not,bw,fi,aL,cQ,eN,ej,eK,dY,ct,jS,gx,bI,fC,dN,fq,cM,cP,bF,iN,dg,cT,ck,Sk,jV,dc,cc,dI,cd,df,cY,kT,binBV,bW,dq,V.cells,V.stays,Tm.nothing,t0,t1,t12,t13,n1,q1,i1,i2,hl,XQ];refine ay.same ?_;have:¬xs=ys:=λh=>hq (by simp only[h]);rw[decide_eq_false this]
  .have q1:((j:Int)<xs.length)=False:=eq_false (by omega);apply sR;simp only[go_sem,seval,t0,t1,t12,t13,n1,q1];refine ay.same ?_;rw[List.take_of_length_le (by omega),List.take_of_length_le (by omega)]at ht;rw[decide_eq_true ht]
 .have q:((xs.length:Int)≠ys.length)=True:=eq_true (by omega);apply sR;simp only[go_sem,seval,Hq,n1,n2,q];refine ay.same ?_;rw[decide_eq_false λh=>hlen (by rw[h])]
def E8(sz:Nat):Rc:=⟨30,(.seq (.RR false [⟨(some 6),(.Rn (.c (.int .i64 0))),none⟩]) (.seq (.RR false [⟨(some 7),(.Rn (.c (.int .i64 0))),none⟩]) (.seq (.block 0 (.loop (.seq (.seq (.RR true [⟨(some 8),(.Rn (.t 7)),none⟩,⟨(some 9),(.Rn (.t 0)),none⟩,⟨(some 10),(.len false (.t 9)),none⟩,⟨(some 11),(.Rn (.t 1)),none⟩,⟨(some 12),(.len false (.t 11)),none⟩,⟨(some 13),(.Rh false (.t 10) (.t 12)),none⟩,⟨(some 14),(.bin .lss (.t 8) (.t 13)),none⟩,⟨(some 15),(.Rn (.t 14)),none⟩,⟨(some 16),(.Rn (.t 2)),(some ((.t 15),true))⟩,⟨(some 17),(.Rn (.t 0)),(some ((.t 15),true))⟩,⟨(some 18),(.Rn (.t 7)),(some ((.t 15),true))⟩,⟨(some 19),(.T9 sz (.t 17) (.t 18)),(some ((.t 15),true))⟩,⟨(some 20),(.load true sz (.t 19)),(some ((.t 15),true))⟩,⟨(some 21),(.Rn (.t 1)),(some ((.t 15),true))⟩,⟨(some 22),(.Rn (.t 7)),(some ((.t 15),true))⟩,⟨(some 23),(.T9 sz (.t 21) (.t 22)),(some ((.t 15),true))⟩,⟨(some 24),(.load true sz (.t 23)),(some ((.t 15),true))⟩,⟨(some 25),(.call (.t 16) [(.t 20),(.t 24)]),(some ((.t 15),true))⟩,⟨(some 26),(.pick (.t 15) (.t 25) (.c (.bool false))),none⟩]) (.cond (.t 26) .skip (.exit 0))) (.block 1 (.RR false [⟨(some 27),(.Rn (.t 7)),none⟩,⟨(some 28),(.bin .add (.t 27) (.c (.int .i64 1))),none⟩,⟨(some 7),(.Rn (.t 28)),none⟩]))))) (.seq (.RR false [⟨(some 29),(.Rn (.t 7)),none⟩,⟨(some 6),(.Rn (.t 29)),none⟩]) .ret)))),[(.tmp (.t 6))]⟩
def vx{α:Type}[DecidableEq α]:∀{l m:List α} {n:Nat},n<=l.length->n<=m.length->l.take n=m.take n->bL l m=n+bL (l.drop n) (m.drop n)
 |_,_,0,_,_,_=>by simp
 |[],_,n+1,h,_,_=>by simp at h
 |_::_,[],n+1,_,h,_=>by simp at h
 |x::l,y::m,n+1,h1,h2,h=>by
  simp only[List.take_succ_cons,List.cons.injEq]at h;obtain⟨rfl,h⟩:=h;rw[bL,if_pos rfl,List.drop_succ_cons,List.drop_succ_cons,vx (by simpa using h1) (by simpa using h2) h];omega
def Bu{P:Program}{f:FuncId}{fn:Func}(hf:P.funcs[f]?=some fn){sz:Nat}(hc:cfn P fn=some (E8 sz))(hk:eF P f=true){α:Type}[DecidableEq α](enc:α->V){g:FuncId}
 (hg:∀a b,aV P g [enc a,enc b] (.bool (decide (a=b))))(hl:∀U a,bS U true sz (.rp (enc a))=some (enc a))(xs ys:List α)(hx:xs.length<=1000000):
 aV P f [.sl sz (xs.map enc),.sl sz (ys.map enc),.fn g []] (vI (bL xs ys)):=λU=>by
 refine aD.jY hf hc hk (by simp[E8]) ?_;refine ad.mix 8 ?_;have n1:dz false (.sl sz (xs.map enc))=some (.int .i64 xs.length):=by simp[dz]
 have n2:dz false (.sl sz (ys.map enc))=some (.int .i64 ys.length):=by simp[dz]
 apply sR;simp only[go_sem,seval,E8];refine ad.fe (λst=>st.U=U/\st.s 7=vI (bL xs ys)) (λm st=>∃j:Nat,j<=xs.length/\j<=ys.length/\m=xs.length-j/\xs.take j=ys.take j/\st.s 0=.sl sz (xs.map enc)/\st.s 1=.sl sz (ys.map enc)/\st.s 2=.fn g []/\st.s 7=vI j/\st.U=U) xs.length ⟨0,by omega,by omega,rfl,rfl,rfl,rfl,rfl,rfl,rfl⟩ ?_ ?_
 .rintro m ⟨S,Z'⟩ ⟨j,hj,hj2,rfl,ht,t0,t1,t2,t7,RH⟩;simp only at t0 t1 t2 t7 RH;subst RH;refine ad.mix 8 ?_;have hM:(if(ys.length:Int)<xs.length then(ys.length:Int)else xs.length)=((min xs.length ys.length:Nat):Int):=by split<;>omega
  have H':=vx hj hj2 ht;by_cases h1:j<min xs.length ys.length
  .have q1:((j:Int)<((min xs.length ys.length:Nat):Int))=True:=eq_true (by omega);have hlx:j<xs.length:=by omega
   have hly:j<ys.length:=by omega
   have i1:∀U,bQ U sz (.sl sz (xs.map enc)) (.int .i64 j)=some (.rp (enc xs[j])):=λU=>by simp[bQ,hlx]
   have i2:∀U,bQ U sz (.sl sz (ys.map enc)) (.int .i64 j)=some (.rp (enc ys[j])):=λU=>by simp[bQ,hly]
   have XQ:=hg xs[j] ys[j];have tx:=List.take_succ_eq_append_getElem hlx;have ty:=List.take_succ_eq_append_getElem hly;rw[List.drop_eq_getElem_cons hlx,List.drop_eq_getElem_cons hly,bL]at H';have r1:Rq .i64 ((j:Int)+1):=ao (by omega) (by omega);by_cases hq:xs[j]=ys[j]
   .rw[if_pos hq]at H';rw[decide_eq_true hq]at XQ;apply sR;simp only[go_sem,seval,t0,t1,t2,t7,n1,n2,hM,q1,i1,i2,hl];refine Go.bP rfl rfl rfl XQ ?_;apply sG;simp only[go_sem,seval,t7,r1];exact⟨_,by omega,j+1,by omega,by omega,rfl,by rw[tx,ty,ht,hq],by simp[t0,t1,t2]⟩
   .rw[if_neg hq]at H';rw[decide_eq_false hq]at XQ;apply sR;simp only[go_sem,seval,t0,t1,t2,t7,n1,n2,hM,q1,i1,i2,hl];refine Go.bP rfl rfl rfl XQ ?_;apply sG;simp only[go_sem,seval,t7];rw[H'];rfl
  .have q1:((j:Int)<((min xs.length ys.length:Nat):Int))=False:=eq_false (by omega);have hz:bL (xs.drop j) (ys.drop j)=0:=by
    have:=rW (xs.drop j) (ys.drop j);rw[List.length_drop,List.length_drop]at this;omega
   apply sR;simp only[go_sem,seval,t0,t1,t2,t7,n1,n2,hM,q1];rw[H',hz];rfl
 .rintro⟨S,Z'⟩ ⟨RH,t7⟩;simp only at t7 RH;subst RH;refine ad.mix 8 ?_;apply sR;simp only[go_sem,seval,t7];exact ay.same rfl
open Go.Proofs Go.Proofs.Tryz
section
variable {P:Program} {n:Nat} {st:St} {Q:St->Prop} {k:List It}
def Gh{o:Op}{x y:VX}(h:RG P n o=.bin .sub x y):∃t x0 y0 yt,o=.binOp .sub t x0 y0 yt/\cx n x0=x/\cx n y0=y:=by
 cases o
 case binOp op' t x0 y0 yt=>
  simp only[RG,cN]at h
  repeat' split at h
  all_goals first
   |(simp only[Rt.bin.injEq]at h;obtain⟨rfl,h2,h3⟩:=h;exact⟨t,x0,y0,yt,rfl,h2,h3⟩)
   |cases h
   |(cases op'<;>cases h)
 case call c=>
  obtain⟨callee,args,argTypes⟩:=c;cases callee
  case builtin b=>cases b<;>simp only[RG]at h<;>(repeat' split at h)<;>cases h
  all_goals (simp only[RG]at h;cases h)
 case unOp op t x=>cases op<;>simp only[RG]at h<;>cases h
 case makeFunc f a b=>cases f<;>simp only[RG]at h<;>(repeat' split at h)<;>cases h
 all_goals (simp only[RG]at h;(repeat' split at h)<;>cases h)
def ad.NL{i:aN}{l:List aN}{x y:VX}{kk:IntKind}{a b:Int}(hw:bx st.s i.g=some true)(ho:i.op=.bin .sub x y)(hx:x.ev st.s=.int kk a)(hy:y.ev st.s=.int kk b)
 (h:ad P n (.ops l::k) ⟨aX st.s i.dst (.int kk (kk.wrap (a-b))),st.U⟩ Q):ad P n (.ops (i::l)::k) st Q:=by
 refine ad.ins (by rw[ho];simp) hw λF hn I act w o all hi hs next Q' Rp=>?_
 subst hn;obtain⟨Rk,hd⟩:=eE hi;rw[ho]at Rk;obtain⟨t,x0,y0,yt,g1,rfl,rfl⟩:=Gh Rk;have ex:act.eval x0=.int kk a:=by
  have:=cL hs x0;rw[hx]at this;simpa[E']using this
 have ey:act.eval y0=.int kk b:=by
  have:=cL hs y0;rw[hy]at this;simpa[E']using this
 have RT:(execOp act.eval o).run P w=.ok (.value (.int kk (kk.wrap (a-b)))) w:=by
  unfold execOp;rw[g1];simp[ex,ey,eqGuard,binOp,Op.intArith]
 unfold Oper.wp;rw[RT];refine Rp _ _ _ ⟨I,?_⟩ h;have:=hs.pure (d:=o.dst) (v:=.int kk (kk.wrap (a-b))) (x:=.int kk (kk.wrap (a-b))) (by simp[E']);rw[<-hd];exact this
end
def wK(h:Int):Prop:=-9223372036854775808<=h/\h<=9223372036854775807
def Ho(x:Int):wK (IntKind.i64.wrap x):=by unfold wK;rw[IntKind.wrap_i64];omega
def Et(x B:Int)(hB:0<=B):0<=(if B<if 0>x then 0 else x then B else if 0>x then 0 else x)/\(if B<if 0>x then 0 else x then B else if 0>x then 0 else x)<=B:=by
 by_cases h:0>x
 .simp only[if_pos h];split<;>omega
 .simp only[if_neg h];split<;>omega
open Go.Proofs Go.Proofs.Tryz
def xu(l:List SU):dz false (bb l)=some (.int .i64 l.length):=by simp[bb,dz]
open Go.Proofs Go.Proofs.Tryz
def Fw(l:List Uh):dz false (mR l)=some (.int .i64 l.length):=by simp[mR,dz]
def NK(U:ai)(l:List SU):bS U false 1 (.rp (bb l))=some (bb l):=rfl
open Go.Proofs Go.Proofs.Tryz
def ja(b:Bk):V:=.agg [.rp (bt b),aK b.nodes,vI b.h,bl b.atoms,aH b.Re,vI b.Ra,bC b.L']
def Bb:V:=.agg [.RQ,.aC,vI 0,.aC,.aC,vI 0,.aC]
def bG(b:Bk):(ja b).cells=[.rp (bt b),aK b.nodes,vI b.h,bl b.atoms,aH b.Re,vI b.Ra,bC b.L']:=rfl
def bH(b:Bk):(ja b).stays=true:=rfl
def B9(l:List Nd)(w h:Int):V:=if ed l w h=0 then ja (bc l w h)else Bb
def BZ(l:List Nd)(hl:dH l)(w h:Int):aV prog 68 [aK l,vI w,vI h] (.Rf [B9 l w h,vI (ed l w h)]):=λU=>by
 refine e68.r (by simp[c68]) ?_;have hs:=aa.refl U;have hn:=Iw l hl w h;unfold A1 at hn;refine ad.mix 9 ?_;apply sR;simp only[go_sem,seval,c68];refine af λi6 Z6 s6 a6 f6=>?_;have z6:=hs.none f6;replace hs:=hs.trans s6;simp only[go_sem,seval];refine ad.aB rfl rfl rfl (hn _) ?_;by_cases he:ed l w h=0
 .have hb:=gi hl he;have UW:(bc l w h).nodes=l:=rfl;have hbh:(bc l w h).h=h:=rfl;unfold B9;rw[if_pos he,if_pos he,he];generalize bc l w h=b at*;subst UW;subst hbh;have q:((0:Int)≠0)=False:=eq_false (λh=>h rfl);have hgc:(w9 b).cells=[bl b.atoms,aH b.Re,vI b.Ra]:=rfl;have hgs:(w9 b).stays=true:=rfl;apply sR;simp only[go_sem,seval,q];refine ad.aB rfl rfl rfl (vq b hb.toBkFull _) ?_;apply sR;simp only[go_sem,seval];refine ad.aB rfl rfl rfl (uS b hb.toBkFull _) ?_;apply sR;simp only[go_sem,seval,a6,hgc,hgs,ak,ar,aI,al,au,aJ,ae,ax];exact ay.pure (hs.aE z6) rfl
 .have q:(ed l w h≠0)=True:=eq_true he;unfold B9;rw[if_neg he,if_neg he];generalize ed l w h=E at*;apply sR;simp only[go_sem,seval,q,a6];exact ay.pure (hs.aE z6) rfl
def NZ(a b:RY):iM false [0,0,0,0,0,0,0,0] (cF a) (cF b)=some (.bool (decide (a=b))):=by
 obtain⟨a1,a2,a3,a4,a5,a6,a7,a8⟩:=a;obtain⟨b1,b2,b3,b4,b5,b6,b7,b8⟩:=b;simp only[iM,cF,dI,cd,df,vI,List.length_cons,List.length_nil,true_and,↓reduceIte,RY.mk.injEq];by_cases h1:a1=b1<;>simp[h1,Bool.and_assoc]
def M3(a b:S1):iM false [0,0,0] (dX a) (dX b)=some (.bool (decide (a=b))):=by
 obtain⟨a1,a2,a3⟩:=a;obtain⟨b1,b2,b3⟩:=b;simp only[iM,dX,dI,cd,df,vI,List.length_cons,List.length_nil,true_and,↓reduceIte,S1.mk.injEq];by_cases h1:a1=b1<;>simp[h1,Bool.and_assoc]
def Jt(a b:P'):iM true [0,0,0,0,0,0,0] (aQ a) (aQ b)=some (.bool (decide (a≠b))):=by
 obtain⟨a1,a2,a3,a4,a5,a6,a7⟩:=a;obtain⟨b1,b2,b3,b4,b5,b6,b7⟩:=b;simp only[iM,aQ,dI,cd,df,vI,List.length_cons,List.length_nil,true_and,↓reduceIte,ne_eq,P'.mk.injEq];by_cases h1:a1=b1<;>simp[h1,Bool.and_assoc]
def HS(a b:RY):aV prog 70 [cF a,cF b] (.bool (decide (a=b))):=λU=>by
 refine e70.r (by simp[c70]) ?_;have hs:=aa.refl U;have he:=NZ a b;have hc:∀a:RY,(cF a).cells=[vI a.kind,vI a.node,vI a.fr,vI a.to,vI a.x,vI a.y,vI a.w,vI a.h]:=λ_=>rfl;have RA:∀a:RY,(cF a).stays=true:=λ_=>rfl;have Wl:∀a:RY,V.agg [vI a.kind,vI a.node,vI a.fr,vI a.to,vI a.x,vI a.y,vI a.w,vI a.h]=cF a:=λ_=>rfl;refine ad.mix 4 ?_;apply sR;simp only[go_sem,seval,c70,hc,RA];refine af λi2 Z2 s2 a2 f2=>?_;have z2:=hs.none f2;replace hs:=hs.trans s2;simp only[go_sem,seval,hc,RA];refine af λi3 Z3 s3 a3 f3=>?_;have Xj:=aq a2 f3;replace a2:=s3 _ _ a2;have z3:=hs.none f3;replace hs:=hs.trans s3;simp only[BB,seval,<-decide_not,bw,fi,aL,cQ,eN,ej,eK,dY,ct,jS,gx,bI,fC,dN,fq,cM,cP,bF,iN,dg,cT,ck,Sk,jV,dc,cc,dI,cd,df,cY,kT,binBV,bW,dq,a2,a3,hc,RA,Wl,he,V.Zv,V.Zw,V.Yu,V.Zy,V.cells_sl,V.Zz,V.Yv,V.cells_fn,V.ZA,V.cells_rp,V.ZC,V.ZD,V.Yw,V.ZE,V.stays_sl,V.ZF,V.Yx,V.stays_fn,V.ZG,V.stays_rp];exact ay.pure hs rfl
def HN(a b:S1):aV prog 72 [dX a,dX b] (.bool (decide (a=b))):=λU=>by
 refine e72.r (by simp[c72]) ?_;have hs:=aa.refl U;have he:=M3 a b;have hc:∀a:S1,(dX a).cells=[vI a.cls,vI a.forced,vI a.R5]:=λ_=>rfl;have RA:∀a:S1,(dX a).stays=true:=λ_=>rfl;have Wl:∀a:S1,V.agg [vI a.cls,vI a.forced,vI a.R5]=dX a:=λ_=>rfl;refine ad.mix 4 ?_;apply sR;simp only[go_sem,seval,c72,hc,RA];refine af λi2 Z2 s2 a2 f2=>?_;have z2:=hs.none f2;replace hs:=hs.trans s2;simp only[go_sem,seval,hc,RA];refine af λi3 Z3 s3 a3 f3=>?_;have Xj:=aq a2 f3;replace a2:=s3 _ _ a2;have z3:=hs.none f3;replace hs:=hs.trans s3;simp only[BB,seval,<-decide_not,bw,fi,aL,cQ,eN,ej,eK,dY,ct,jS,gx,bI,fC,dN,fq,cM,cP,bF,iN,dg,cT,ck,Sk,jV,dc,cc,dI,cd,df,cY,kT,binBV,bW,dq,a2,a3,hc,RA,Wl,he,V.Zv,V.Zw,V.Yu,V.Zy,V.cells_sl,V.Zz,V.Yv,V.cells_fn,V.ZA,V.cells_rp,V.ZC,V.ZD,V.Yw,V.ZE,V.stays_sl,V.ZF,V.Yx,V.stays_fn,V.ZG,V.stays_rp];exact ay.pure hs rfl
def Ii(a b:List RY)(h:a.length<=1000000):aV prog 69 [bl a,bl b,.fn 70 []] (vI (bL a b)):=
 Bu func69 (e69.b.trans rfl) e69.c cF HS (λ_ _=>rfl) a b h
def GC(a b:List S1)(h:a.length<=1000000):aV prog 71 [bC a,bC b,.fn 72 []] (vI (bL a b)):=
 Bu func71 (e71.b.trans rfl) e71.c dX HN (λ_ _=>rfl) a b h
def BE(a b:List P')(h:a.length<=1000000):aV prog 132 [aH a,aH b] (.bool (decide (a=b))):=
 Ja func132 (MQ.b.trans rfl) MQ.c aQ Jt (λ_ _=>rfl) a b (by omega)
def L3(end':Int)(f:P'){U:ai}{i3:Nat}(a3:U i3=some ⟨3,1,[vI end']⟩):
 aD prog 189 [aQ f,.ptr i3 0 0] U λr Z'=>r=.bool (decide (f.anchor>end'))/\Z'=U:=by
 refine PA.r (by simp[LY]) ?_;have hs:=aa.refl U;have hc:(aQ f).cells=[vI f.node,vI f.side,vI f.anchor,vI f.x,vI f.y,vI f.w,vI f.h]:=rfl;have RA:(aQ f).stays=true:=rfl;refine ad.mix 5 ?_;apply sR;simp only[go_sem,seval,LY,hc,RA];refine af λi2 Z2 s2 a2 f2=>?_;have n32:=aq a3 f2;replace a3:=s2 _ _ a3;have z2:=hs.none f2;replace hs:=hs.trans s2;simp only[go_sem,seval,a2,a3,hc,RA];exact⟨_,U,hs,Wk.refl hs _,rfl,rfl⟩
def CE(b:Bk)(r:Int):lA (λf=>decide (f.anchor>r)) b.Re=kY b r:=by
 unfold kY lA;congr 1;funext f;by_cases h:f.anchor<=r
 .show(!decide (f.anchor>r))=decide (f.anchor<=r);rw[decide_eq_true h,decide_eq_false (by omega)];rfl
 .show(!decide (f.anchor>r))=decide (f.anchor<=r);rw[decide_eq_false h,decide_eq_true (by omega)];rfl
def uT(b:Bk)(hl:b.Re.length<=1000000)(r:Int):aV prog 134 [ja b,vI r] (aH (kY b r)):=λU=>by
 refine OY.r (by simp[Kz]) ?_;have hs:=aa.refl U;refine ad.mix 5 ?_;apply sR;simp only[go_sem,seval,Kz,bG,bH];refine af λi2 Z2 s2 a2 f2=>?_;have z2:=hs.none f2;replace hs:=hs.trans s2;simp only[go_sem,seval,bG,bH];refine af λi3 Z3 s3 a3 f3=>?_;have Xj:=aq a2 f3;replace a2:=s3 _ _ a2;have z3:=hs.none f3;replace hs:=hs.trans s3;simp only[go_sem,seval,a2,a3,bG,bH,ar,au];refine ad.call rfl rfl rfl (oO func62 (e62.b.trans rfl) e62.c (b.Re.map aQ) (by simp;omega) _) ?_;rintro r1 Z9 ⟨h9,ho9⟩;apply sR;simp only[go_sem,seval];refine ad.call rfl rfl rfl (vR b.Re hl h9 ho9 (λf=>decide (f.anchor>r)) (λx _ J Zm=>L3 r x (Zm _ _ a3))) ?_;rintro r2 Ws ⟨hp,VY⟩;rw[CE]at hp;apply sR;simp only[go_sem,seval];exact⟨_,U,hs.trans VY,hp.wk hs (hs.trans VY),rfl,rfl⟩
def DB(b:Bk)(s:R0):V:=if b.atoms=[]then .agg [.aC,vI 0,vI b.h]else jy (bf b s)
def wa(b:Bk)(hb:BkFull b)(s:R0)(RX:0<=s.atom):aV prog 187 [ja b,bj s] (DB b s):=λU=>by
 refine PM.r (by simp[JE]) ?_;have hs:=aa.refl U;have TS:(bj s).cells=[vI s.atom,vI s.done,.bool s.free]:=rfl;have UH:(bj s).stays=true:=rfl;have US:=gG b.atoms;have hlen:=hb.len;refine ad.mix 6 ?_;apply sR;simp only[go_sem,seval,JE,bG,bH,TS,UH];refine af λi2 Z2 s2 a2 f2=>?_;have z2:=hs.none f2;replace hs:=hs.trans s2;simp only[go_sem,seval,TS,UH];refine af λi3 Z3 s3 a3 f3=>?_;have Xj:=aq a2 f3;replace a2:=s3 _ _ a2;have z3:=hs.none f3;replace hs:=hs.trans s3;simp only[go_sem,seval];refine af λi4 Z4 s4 a4 f4=>?_;have YE:=aq a3 f4;replace a3:=s4 _ _ a3;have Yb:=aq a2 f4;replace a2:=s4 _ _ a2;have z4:=hs.none f4;replace hs:=hs.trans s4;by_cases hn:b.atoms=[]
 .have q:((b.atoms.length:Int)=0)=True:=eq_true (by rw[hn];rfl);simp only[go_sem,seval,a2,a3,a4,bG,bH,ak,al,US,q];unfold DB;rw[if_pos hn];exact ay.pure (hs.aE z4) rfl
 .have hl0:=List.length_pos_iff.2 hn;have q:((b.atoms.length:Int)=0)=False:=eq_false (by omega);unfold DB;rw[if_neg hn,bf,if_neg hn];obtain⟨k,hk⟩:∃k:Nat,min s.atom ((b.atoms.length:Int)-1)=k:=⟨(min s.atom ((b.atoms.length:Int)-1)).toNat,by omega⟩
  have Tv:k<b.atoms.length:=by omega
  have hmin:(if(b.atoms.length:Int)-1<s.atom then(b.atoms.length:Int)-1 else s.atom)=k:=by split<;>omega
  have r1:Rq .i64 ((b.atoms.length:Int)-1):=ao (by omega) (by omega);have Q9:=λU=>iz (U:=U) Tv;rw[hk,bz Tv];have hc:=IC b.nodes hb.ru b.atoms[k].node b.h;have hac:∀a:RY,(cF a).cells=[vI a.kind,vI a.node,vI a.fr,vI a.to,vI a.x,vI a.y,vI a.w,vI a.h]:=λ_=>rfl;have ZX:∀x:Kp,(jy x).cells=[bn x.Rj,vI x.high,vI x.body]:=λ_=>rfl;have XK:∀x:Kp,(jy x).stays=true:=λ_=>rfl;generalize b.atoms[k]=A at*;simp only[go_sem,seval,a2,a3,a4,TS,UH,bG,bH,ak,al,ae,ax,US,q,hmin,r1,Q9,hac];refine Go.bP rfl rfl rfl hc ?_;apply sG;simp only[go_sem,seval,a4,ZX,XK];exact ay.pure (hs.aE z4) rfl
open Go.Proofs Go.Proofs.Tryz
def bE(s:Sc):(bY s).cells=[vI s.s.atom,vI s.s.done,.bool s.s.free,aH s.bM]:=rfl
def cO(s:Sc):(bY s).stays=true:=rfl
def mE(s:R0):V.agg [vI s.atom,vI s.done,.bool s.free]=bj s:=rfl
def eR(s:R0):(bj s).cells=[vI s.atom,vI s.done,.bool s.free]:=rfl
def eY(s:R0):(bj s).stays=true:=rfl
def KD(b:Bk)(hb:bO b)(s:Sc)(kind:Int)(h0:0<=s.s.atom)(hm:kind=1->bZ b.atoms s.s)(hp:s.bM.length<=1000000)(YQ:∀f∈s.bM,0<=f.h):
 aV prog 133 [ja b,bY s,vI kind] (vI (dv b s kind)):=λU=>by
 refine P5.r (by simp[JQ]) ?_;have hs:=aa.refl U;refine ad.mix 12 ?_;apply sR;simp only[go_sem,seval,JQ,bG,bH,bE,cO,ar,au];refine af λi3 Z3 s3 a3 f3=>?_;have z3:=hs.none f3;replace hs:=hs.trans s3;simp only[go_sem,seval,bE,cO,ar,au];refine af λi4 Z4 s4 a4 f4=>?_;have YE:=aq a3 f4;replace a3:=s4 _ _ a3;have z4:=hs.none f4;replace hs:=hs.trans s4;by_cases hk:kind=1
 .have q:(kind≠1)=False:=eq_false (λh=>h hk);have hf:=hm hk;have RK:b.atoms≠[]:=λh=>by have:=hf.1;rw[h]at this;simp at this;omega
  have hR:dv b s kind=iU b.atoms s.s (ik b.atoms s.s ((bf b s.s).body-(dG (bf b s.s).body s.bM 0).2.2)) (dG (bf b s.s).body s.bM 0).2.2 (bf b s.s).body:=by unfold dv;rw[if_neg (λh=>h hk)]
  rw[hR];have hrv:DB b s.s=jy (bf b s.s):=if_neg RK;have hrc:=wa b hb.toBkFull s.s h0;rw[hrv]at hrc;have hr1:=iH hb.toBkFull s.s h0;have VU:=(mN hb.toBkFull s.s).body;have ZX:∀x:Kp,(jy x).cells=[bn x.Rj,vI x.high,vI x.body]:=λ_=>rfl;have XK:∀x:Kp,(jy x).stays=true:=λ_=>rfl;generalize bf b s.s=X at*;have htc:=FM s.bM hp X.body hr1 (by omega) YQ;obtain⟨g1,g2,g3,g4⟩:=rZ (body:=X.body) s.bM 0 (Int.le_refl _) (by omega) YQ;generalize dG X.body s.bM 0=T at*;have hkr:=vL hb.toBkOk s.s (X.body-T.2.2);have Wi:=BJ b.atoms hb.RD s.s (X.body-T.2.2);have XI:=pP hb.toBkOk hf;have hRc:=zA b.atoms hb.RD s.s (by omega) (ik b.atoms s.s (X.body-T.2.2)) T.2.2 X.body hkr ⟨by omega,by omega⟩;generalize ik b.atoms s.s (X.body-T.2.2)=K at*;have r1:Rq .i64 (X.body-T.2.2):=ao (by omega) (by omega);have hI:(bn X.Rj).cells=[bn X.Rj]:=rfl;have Zh:(bn X.Rj).stays=true:=rfl;simp only[go_sem,seval,a3,a4,q,bG,bH,bE,cO];rw[<-ja,mE];refine ad.aB rfl rfl rfl (hrc _) ?_;apply sR;simp only[go_sem,seval,a3,a4,ZX,XK];refine af λi7 Z7 s7 a7 f7=>?_;have ZO:=aq a3 f7;replace a3:=s7 _ _ a3;have n47:=aq a4 f7;replace a4:=s7 _ _ a4;have z7:=hs.none f7;replace hs:=hs.trans s7;simp only[go_sem,seval,a3,a4,a7,ZX,XK,hI,Zh];generalize SY:C' _ i7 _=Y7;replace a7:=(congrFun SY i7).symm.trans ag;replace a3:=((congrFun SY i3).symm.trans (ab ZO)).trans a3;replace a4:=((congrFun SY i4).symm.trans (ab n47)).trans a4;replace hs:=Eq.subst (motive:=aa _) SY (hs.aE z7);clear SY;simp only[go_sem,seval,a3,a4,a7,ZX,XK,bG,bH,bE,cO,ar,au,hI,Zh];refine ad.aB rfl rfl rfl (htc _) ?_;apply sR;simp only[go_sem,seval,a3,a4,a7,r1,ZX,XK,bG,bH,bE,cO,ak,al,ar,au,hI,Zh];rw[mE];refine ad.aB rfl rfl rfl (Wi _) ?_;apply sR;simp only[go_sem,seval,a3,a4,a7,ZX,XK,bG,bH,bE,cO,ak,al,ar,au,hI,Zh];rw[mE];refine ad.aB rfl rfl rfl (hRc _) ?_;apply sR;simp only[go_sem,seval];exact ay.pure hs rfl
 .have q:(kind≠1)=True:=eq_true hk;unfold dv;rw[if_pos hk];simp only[go_sem,seval,a4,q,bE,cO];exact ay.pure hs rfl
def lz(a b:Bk)(n m:Int):V:=.agg [.rp (bt a),aK a.nodes,vI a.h,bl a.atoms,aH a.Re,vI a.Ra,bC a.L',.rp (bt b),aK b.nodes,vI b.h,bl b.atoms,aH b.Re,vI b.Ra,bC b.L',vI n,vI m]
def cJ(a b:Bk)(n m:Int):(lz a b n m).cells=[.rp (bt a),aK a.nodes,vI a.h,bl a.atoms,aH a.Re,vI a.Ra,bC a.L',.rp (bt b),aK b.nodes,vI b.h,bl b.atoms,aH b.Re,vI b.Ra,bC b.L',vI n,vI m]:=rfl
def cI(a b:Bk)(n m:Int):(lz a b n m).stays=true:=rfl
def HV(a b:Bk)(n m:Int)(i k:Int)(hi:∃j:Nat,i=j/\j<a.nodes.length)(hk:∃j:Nat,k=j/\j<b.nodes.length){U:ai}{i2:Nat}(a2:U i2=some ⟨104,16,[lz a b n m]⟩):
 aD prog 191 [vI i,vI k,.ptr i2 0 0] U λr Z'=>r=.bool (decide (i=k/\(SP a.nodes i).head=(SP b.nodes k).head))/\Z'=U:=by
 refine Qt.r (by simp[H8]) ?_;have hs:=aa.refl U;obtain⟨i,rfl,hi⟩:=hi;obtain⟨k,rfl,hk⟩:=hk;have e1:(SP a.nodes (i:Int)).head=a.nodes[i].st.head:=by simp[SP,hi]
 have e2:(SP b.nodes (k:Int)).head=b.nodes[k].st.head:=by simp[SP,hk]
 have x1:=λU=>cK (U:=U) hi;have x2:=λU=>cK (U:=U) hk;rw[e1,e2];generalize a.nodes[i]=x at*;generalize b.nodes[k]=y at*;refine ad.mix 5 ?_;by_cases hik:(i:Int)=k
 .have q:((i:Int)=k)=True:=eq_true hik;apply sR;simp only[go_sem,seval,H8,a2,cJ,cI,ae,ax,q,x1,x2,Nd.cells,SA.cells];exact ay.same (by simp[hik])
 .have q:((i:Int)=k)=False:=eq_false hik;apply sR;simp only[go_sem,seval,H8,a2,q];exact ay.same (by simp[hik])
def py{α:Type}(p:α->α->Bool):List α->List α->Bool
 |[],[]=>true
 |x::l,y::m=>p x y&&py p l m
 |_,_=>false
def xN{α:Type}{p:α->α->Bool}:∀{l m:List α},l.length≠m.length->py p l m=false
 |[],[],h=>absurd rfl h
 |x::l,y::m,h=>by rw[py,xN (by simpa using h),Bool.and_false]
 |[],_::_,_=>rfl
 |_::_,[],_=>rfl
def Jb{U:ai}{f:FuncId}{caps:List V}(p:Int->Int->Bool)(xs ys:List Int)(hx:xs.length<=1000000)
 (hf:∀x∈xs,∀y∈ys,aD prog f (vI x::vI y::caps) U λr Z'=>r=.bool (p x y)/\Z'=U):
 aD prog 190 [bn xs,bn ys,.fn f caps] U λr Z'=>r=.bool (py p xs ys)/\Z'=U:=by
 refine QF.r (by simp[GV]) ?_;refine ad.mix 10 ?_;have n1:=dJ xs;have n2:=dJ ys;by_cases hlen:xs.length=ys.length
 .have q:((xs.length:Int)≠ys.length)=False:=eq_false (by omega);apply sR;simp only[go_sem,seval,GV,n1,n2,q];refine ad.loop (λm st=>∃j,j<=xs.length/\m=xs.length-j/\py p xs ys=py p (xs.drop j) (ys.drop j)/\st.s 1=bn ys/\st.s 2=.fn f caps/\st.s 15=bn xs/\st.s 16=.int .i64 xs.length/\st.s 17=.int .i64 j/\st.U=U) xs.length ⟨0,by omega,rfl,rfl,rfl,rfl,rfl,rfl,rfl,rfl⟩ ?_;rintro m ⟨S,Z'⟩ ⟨j,hj,rfl,ht,t1,t2,t15,t16,t17,RH⟩;simp only at t1 t2 t15 t16 t17 RH;subst RH;refine ad.mix 10 ?_;by_cases H':j<xs.length
  .have q1:((j:Int)<xs.length)=True:=eq_true (by omega);have Yr:j<ys.length:=by omega
   have i1:=λU=>gO (U:=U) H';have i2:=λU=>gO (U:=U) Yr;have XQ:=hf xs[j] (List.getElem_mem H') ys[j] (List.getElem_mem Yr);rw[List.drop_eq_getElem_cons H',List.drop_eq_getElem_cons Yr,py]at ht;have r1:Rq .i64 ((j:Int)+1):=ao (by omega) (by omega);generalize xs[j]=x at*;generalize ys[j]=y at*;apply sR;simp only[go_sem,seval,t1,t2,t15,t16,t17,q1,i1,i2,kZ];refine ad.aB rfl rfl rfl XQ ?_;cases hp:p x y
   .apply sR;simp only[go_sem,seval];exact ay.same (by rw[ht,hp];rfl)
   .apply sR;simp only[go_sem,seval,t1,t2,t15,t16,t17,r1];exact⟨_,by omega,j+1,by omega,rfl,by rw[ht,hp];rfl,by simp[t1,t2,t15,t16]⟩
  .have q1:((j:Int)<xs.length)=False:=eq_false (by omega);apply sR;simp only[go_sem,seval,t1,t2,t15,t16,t17,q1];refine ay.same ?_;rw[ht,List.drop_eq_nil_of_le (by omega),List.drop_eq_nil_of_le (by omega)];rfl
 .have q:((xs.length:Int)≠ys.length)=True:=eq_true (by omega);apply sR;simp only[go_sem,seval,GV,n1,n2,q];exact ay.same (by rw[xN hlen])
def y8{q:Int->Int->Prop}[∀x y,Decidable (q x y)]:∀(l m:List Int),py (λx y=>decide (x=y/\q x y)) l m=decide (l=m/\∀n∈l,q n n)
 |[],[]=>by simp[py]
 |[],y::m=>by simp[py]
 |x::l,[]=>by simp[py]
 |x::l,y::m=>by
  rw[py,y8 l m];by_cases h:x=y
  .subst h;simp only[true_and,List.cons.injEq,List.mem_cons,forall_eq_or_imp,Bool.decide_and];cases decide (q x x)<;>cases decide (l=m)<;>simp
  .simp[h]
def DT(a b:Bk)(ha:bO a)(hb:bO b)(na:a.atoms≠[])(nb:b.atoms≠[])(n m:Int)(s:R0)(h0:0<=s.atom):
 aV prog 135 [lz a b n m,bj s] (.bool (decide (k0 a b s))):=λU=>by
 refine OC.r (by simp[K5]) ?_;have hs:=aa.refl U;have ca:=wa a ha.toBkFull s h0;have cb:=wa b hb.toBkFull s h0;rw[DB,if_neg na]at ca;rw[DB,if_neg nb]at cb;have oa:=mN ha.toBkFull s;have ob:=mN hb.toBkFull s;have hD:decide (k0 a b s)=py (λx y=>decide (x=y/\(SP a.nodes x).head=(SP b.nodes y).head)) (bf a s).Rj (bf b s).Rj:=by
  rw[y8 (q:=λx y=>(SP a.nodes x).head=(SP b.nodes y).head)];exact decide_eq_decide.2 Iff.rfl
 rw[hD];clear hD;have ZX:∀x:Kp,(jy x).cells=[bn x.Rj,vI x.high,vI x.body]:=λ_=>rfl;have XK:∀x:Kp,(jy x).stays=true:=λ_=>rfl;have hIc:∀l,(bn l).cells=[bn l]:=λ_=>rfl;have Zh:∀l,(bn l).stays=true:=λ_=>rfl;generalize bf a s=X at*;generalize bf b s=Y at*;refine ad.mix 7 ?_;apply sR;simp only[go_sem,seval,K5,cJ,cI,eR,eY];refine af λi2 Z2 s2 a2 f2=>?_;have z2:=hs.none f2;replace hs:=hs.trans s2;simp only[go_sem,seval,eR,eY];refine af λi3 Z3 s3 a3 f3=>?_;have Xj:=aq a2 f3;replace a2:=s3 _ _ a2;have z3:=hs.none f3;replace hs:=hs.trans s3;simp only[go_sem,seval,a2,a3,cJ,cI,eR,eY];refine Go.bP rfl rfl rfl ca ?_;apply sG;simp only[go_sem,seval,a2,a3,cJ,cI,eR,eY];refine Go.bP rfl rfl rfl cb ?_;apply sG;simp only[go_sem,seval,a2,a3,ZX,XK];refine bu λi5 Z5 s5 a5 f5=>?_;have Yc:=aq a3 f5;replace a3:=s5 _ _ a3;have ZL:=aq a2 f5;replace a2:=s5 _ _ a2;have z5:=hs.none f5;replace hs:=hs.trans s5;simp only[go_sem,seval,a2,a3,ZX,XK];refine bu λi6 Z6 s6 a6 f6=>?_;have n56:=aq a5 f6;replace a5:=s6 _ _ a5;have n36:=aq a3 f6;replace a3:=s6 _ _ a3;have n26:=aq a2 f6;replace a2:=s6 _ _ a2;have z6:=hs.none f6;replace hs:=hs.trans s6;simp only[go_sem,seval,a2,a3,a5,a6,ZX,XK,ab ZL,ab Yc,ab n56.symm,ab n26,ab n36,ab n56];generalize TR:C' _ i5 _=Y5;replace a5:=(congrFun TR i5).symm.trans ag;replace a2:=((congrFun TR i2).symm.trans (ab ZL)).trans a2;replace a3:=((congrFun TR i3).symm.trans (ab Yc)).trans a3;replace a6:=((congrFun TR i6).symm.trans (ab n56.symm)).trans a6;replace hs:=Eq.subst (motive:=aa _) TR (hs.aE z5);clear TR;generalize Vy:C' _ i6 _=Y6;replace a6:=(congrFun Vy i6).symm.trans ag;replace a2:=((congrFun Vy i2).symm.trans (ab n26)).trans a2;replace a3:=((congrFun Vy i3).symm.trans (ab n36)).trans a3;replace a5:=((congrFun Vy i5).symm.trans (ab n56)).trans a5;replace hs:=Eq.subst (motive:=aa _) Vy (hs.aE z6);clear Vy;apply sR;simp only[go_sem,seval,a2,a3,a5,a6,ZX,XK,hIc,Zh,cJ,cI];refine ad.aB rfl rfl rfl (Jb (λx y=>decide (x=y/\(SP a.nodes x).head=(SP b.nodes y).head)) X.Rj Y.Rj oa.len λx hx y hy=>HV a b n m x y (oa.mem x hx) (ob.mem y hy) a2) ?_;apply sR;simp only[go_sem,seval];exact ay.pure hs rfl
open Go.Proofs Go.Proofs.Tryz
def GI(b:Bk)(Sh:b.L'.length<=1000000)(p:Uh)(s:R0)(h0:0<=s.atom)(h1:s.atom<b.L'.length)(no:Int)(RL:0<=no):aV prog 74 [ja b,bj s,vI p.kind,vI no] (.bool (decide (ig b p s no))):=λU=>by
 refine e74.r (by simp[c74]) ?_;have hs:=aa.refl U;obtain⟨k,hk⟩:∃k:Nat,s.atom=k:=⟨s.atom.toNat,by omega⟩
 have Tv:k<b.L'.length:=by omega
 have Q9:=λU=>sc (U:=U) Tv;have hg:TL b.L' s.atom.toNat=b.L'[k]:=by rw[hk];simp[TL,Tv]
 have hb3:∀x:S1,(dX x).cells=[vI x.cls,vI x.forced,vI x.R5]:=λ_=>rfl;have htm:no.tmod 2=no%2:=Int.tmod_eq_emod_of_nonneg RL;refine ad.mix 9 ?_;have hD:decide (ig b p s no)=decide (p.kind=1/\¬s.done>0/\(b.L'[k].forced=3/\no%2=1\/b.L'[k].forced=4/\no%2=0)):=decide_eq_decide.2 (by unfold ig;rw[hg]);rw[hD];clear hD hg;generalize hX:decide (p.kind=1/\¬s.done>0/\(b.L'[k].forced=3/\no%2=1\/b.L'[k].forced=4/\no%2=0))=X;generalize b.L'[k]=x at*;apply sR;simp only[go_sem,seval,c74,bG,bH,eR,eY];refine af λi4 Z4 s4 a4 f4=>?_;have z4:=hs.none f4;replace hs:=hs.trans s4;simp only[go_sem,seval,eR,eY];refine af λi5 Z5 s5 a5 f5=>?_;have Tp:=aq a4 f5;replace a4:=s5 _ _ a4;have z5:=hs.none f5;replace hs:=hs.trans s5;by_cases q1:p.kind=1
 .have Yt:(p.kind≠1)=False:=eq_false (λh=>h q1);by_cases q2:s.done>0
  .have Zs:(s.done>0)=True:=eq_true q2;simp only[go_sem,seval,a4,a5,Yt,Zs,eR,eY];exact ay.pure hs (by rw[<-hX,decide_eq_false λh=>h.2.1 q2])
  .have Zs:(s.done>0)=False:=eq_false q2;by_cases q3:x.forced=3
   .have q3':(x.forced=3)=True:=eq_true q3;have q6:(x.forced=4)=False:=eq_false (by omega);by_cases q4:no%2=1
    .have q4':(no.tmod 2=1)=True:=eq_true (by omega);simp only[go_sem,seval,a4,a5,Yt,Zs,q3',q4',q6,hk,Q9,hb3,eR,eY,bG,bH,aI,aJ];exact ay.pure hs (by rw[<-hX,decide_eq_true ⟨q1,q2,.inl ⟨q3,q4⟩⟩])
    .have q4':(no.tmod 2=1)=False:=eq_false (by omega);simp only[go_sem,seval,a4,a5,Yt,Zs,q3',q4',q6,hk,Q9,hb3,eR,eY,bG,bH,aI,aJ];exact ay.pure hs (by rw[<-hX,decide_eq_false];omega)
   .have q3':(x.forced=3)=False:=eq_false q3;by_cases q6:x.forced=4
    .have q6':(x.forced=4)=True:=eq_true q6;by_cases q4:no%2=0
     .have q4':(no.tmod 2=0)=True:=eq_true (by omega);simp only[go_sem,seval,a4,a5,Yt,Zs,q3',q4',q6',hk,Q9,hb3,eR,eY,bG,bH,aI,aJ];exact ay.pure hs (by rw[<-hX,decide_eq_true ⟨q1,q2,.inr ⟨q6,q4⟩⟩])
     .have q4':(no.tmod 2=0)=False:=eq_false (by omega);simp only[go_sem,seval,a4,a5,Yt,Zs,q3',q4',q6',hk,Q9,hb3,eR,eY,bG,bH,aI,aJ];exact ay.pure hs (by rw[<-hX,decide_eq_false];omega)
    .have q6':(x.forced=4)=False:=eq_false q6;simp only[go_sem,seval,a4,a5,Yt,Zs,q3',q6',hk,Q9,hb3,eR,eY,bG,bH,aI,aJ];exact ay.pure hs (by rw[<-hX,decide_eq_false];omega)
 .have Yt:(p.kind≠1)=True:=eq_true q1;simp only[go_sem,seval,a4,a5,Yt,eR,eY];exact ay.pure hs (by rw[<-hX,decide_eq_false λh=>q1 h.1])
def uk(a b:Bk):V:=.agg [.rp (bt a),aK a.nodes,vI a.h,bl a.atoms,aH a.Re,vI a.Ra,bC a.L',.rp (bt b),aK b.nodes,vI b.h,bl b.atoms,aH b.Re,vI b.Ra,bC b.L']
def cj(a b:Bk):(uk a b).cells=[.rp (bt a),aK a.nodes,vI a.h,bl a.atoms,aH a.Re,vI a.Ra,bC a.L',.rp (bt b),aK b.nodes,vI b.h,bl b.atoms,aH b.Re,vI b.Ra,bC b.L']:=rfl
def cm(a b:Bk):(uk a b).stays=true:=rfl
def Dd(a b:Bk)(ha:a.atoms.length<=1000000)(hb:a.L'.length<=1000000):aV prog 35 [uk a b] (lz a b (bL a.atoms b.atoms) (bL a.L' b.L')):=λU=>by
 refine e35.r (by simp[c35]) ?_;have hs:=aa.refl U;have c1:=Ii a.atoms b.atoms ha;have c2:=GC a.L' b.L' hb;generalize bL a.atoms b.atoms=n1 at*;generalize bL a.L' b.L'=n2 at*;have fin:∀(S:Nat->V) (J:ai) (i2 i3 i4:Nat) (hsZ:aa U J) (z2:U i2=none) (a2:J i2=some ⟨104,16,[.agg [.RQ,.aC,vI 0,.aC,.aC,vI 0,.aC,.RQ,.aC,vI 0,.aC,.aC,vI 0,.aC,vI 0,vI 0]]⟩) (a3:J i3=some ⟨99,7,[ja a]⟩) (a4:J i4=some ⟨99,7,[ja b]⟩) (t2:S 2=.ptr i2 0 0) (t3:S 3=.ptr i3 0 0) (t4:S 4=.ptr i4 0 0),
  ad prog 24 [It.code c35.code.rt.rt] ⟨S,J⟩ λst=>Vr [.cell true 16 (.t 2)] st λr Z'=>r=lz a b n1 n2/\Z'=U:=by
  intro S J i2 i3 i4 hsZ z2 a2 a3 a4 t2 t3 t4;refine ad.mix 5 ?_;apply sR;simp only[go_sem,seval,c35,bJ.rt,t2,t3,t4,a2,a3,a4,bG,bH,ak,al,aI,aJ];refine Go.bP rfl rfl rfl c1 ?_;apply sG;simp only[go_sem,seval,t2,t3,t4,a2,a3,a4,bG,bH,ak,al,aI,aJ];refine Go.bP rfl rfl rfl c2 ?_;apply sG;simp only[go_sem,seval,t2,t3,t4,a2,a3,a4,bG,bH,ak,al,aI,aJ,ae,ax,ar,au];exact ay.pure (hsZ.aE z2) rfl
 refine ad.mix 5 ?_;apply sR;simp only[go_sem,seval,c35,cj,cm];refine af λi1 Z1 s1 a1 f1=>?_;have z1:=hs.none f1;replace hs:=hs.trans s1;simp only[go_sem,seval,cj,cm];refine af λi2 Z2 s2 a2 f2=>?_;have n12:=aq a1 f2;replace a1:=s2 _ _ a1;have z2:=hs.none f2;replace hs:=hs.trans s2;simp only[go_sem,seval,a1,a2,dj];have a3:True:=trivial;have a4:True:=trivial;have hn:True:=trivial;have U5:True:=trivial;have Vn:True:=trivial;have Vo:True:=trivial;have Vp:True:=trivial;have RX:=hs;refine ad.CX (by kernel_rfl) 8 (.fork [[],[0],[],[2],[],[],[4,1,0,5],[5,3,6,0,1,2,4]] [0,1,2,3] [4,5] [(.leaf [[],[0],[],[2],[],[4],[4,1,0,5],[4,5,3,6,0,1,2]] [4,5,6,7]),(.leaf [[],[0],[],[2],[5],[],[5,4,1,0],[5,3,6,0,1,2,4]] [5,4,6,7])]) (by kernel_rfl) ?_;refine GT.oX (its:=[0,2,4,6]) (by kernel_rfl) ?_;refine RE.Sg (n:=0) [] [0,2,4,6] [⟨(.some 5),(.Uk .true 2 7 (.t 1) (.c (.int .i64 0))),.none⟩,⟨(.some 6),(.load .true 7 (.t 5)),.none⟩,⟨(.some 7),(.Uk .true 2 7 (.t 1) (.c (.int .i64 1))),.none⟩,⟨(.some 8),(.load .true 7 (.t 7)),.none⟩] rfl rfl ?_;apply sG;simp only[go_sem,seval,a1,a2,a3,a4,hn,cj,cm,U5,Vn,Vo,Vp,ak,al,aI,aJ,ae,ax,ar,au];refine⟨?_,?_⟩
 .refine GT.iO (its:=[8,3,7,10,3,7,12,7,14]) (by kernel_rfl) ?_;refine RE.Sg (n:=0) [3,7,10,3,7,12,7,14] [8] [⟨(.some 3),(.alloc 99 7 (.agg [.RQ,.aC,(.int .i64 0),.aC,.aC,(.int .i64 0),.aC])),.none⟩] rfl rfl ?_;apply sG;simp only[go_sem,seval,a1,a2,a3,a4,hn,cj,cm,U5,Vn,Vo,Vp,ak,al,aI,aJ,ae,ax,ar,au];refine bu λi3 Z3 s3 a3 f3=>?_
  try replace hn:=cC (aq a4 f3).symm
  try replace a4:=s3 _ _ a4
  have U9:=aq a1 f3;have Xj:=aq a2 f3;replace U5:=(cC U9).2;replace Vo:=(cC Xj).2;replace a1:=s3 _ _ a1;replace a2:=s3 _ _ a2;have z3:=RX.none f3;replace RX:=RX.trans s3;simp only[go_sem,seval,a1,a2,a3,a4,hn,cj,cm,U5,Vn,Vo,Vp,ak,al,aI,aJ,ae,ax,ar,au];refine RE.SB rfl rfl rfl rfl rfl trivial (by simp only[go_sem,seval,a1,a2,a3,a4,hn,cj,cm,U5,Vn,Vo,Vp,ak,al,aI,aJ,ae,ax,ar,au]) ?_;refine RE.SB rfl rfl rfl rfl rfl trivial (by simp only[go_sem,seval,a1,a2,a3,a4,hn,cj,cm,U5,Vn,Vo,Vp,ak,al,aI,aJ,ae,ax,ar,au]) ?_;refine RE.Sg (n:=0) [3,7,12,7,14] [10] [⟨(.some 4),(.alloc 99 7 (.agg [.RQ,.aC,(.int .i64 0),.aC,.aC,(.int .i64 0),.aC])),.none⟩] rfl rfl ?_;apply sG;simp only[go_sem,seval,a1,a2,a3,a4,hn,cj,cm,U5,Vn,Vo,Vp,ak,al,aI,aJ,ae,ax,ar,au];refine bu λi4 Z4 s4 a4 f4=>?_
  try replace hn:=cC (aq a3 f4)
  try replace a3:=s4 _ _ a3
  have n14:=aq a1 f4;have Yb:=aq a2 f4;replace Vn:=(cC n14).2;replace Vp:=(cC Yb).2;replace a1:=s4 _ _ a1;replace a2:=s4 _ _ a2;have z4:=RX.none f4;replace RX:=RX.trans s4;simp only[go_sem,seval,a1,a2,a3,a4,hn,cj,cm,U5,Vn,Vo,Vp,ak,al,aI,aJ,ae,ax,ar,au];refine RE.SB rfl rfl rfl rfl rfl trivial (by simp only[go_sem,seval,a1,a2,a3,a4,hn,cj,cm,U5,Vn,Vo,Vp,ak,al,aI,aJ,ae,ax,ar,au]) ?_;refine RE.SB rfl rfl rfl rfl rfl trivial (by simp only[go_sem,seval,a1,a2,a3,a4,hn,cj,cm,U5,Vn,Vo,Vp,ak,al,aI,aJ,ae,ax,ar,au]) ?_;refine RE.Sg (n:=0) [7,14] [12] [⟨.none,(.store 7 (.t 3) (.t 6)),.none⟩] rfl rfl ?_;apply sG;simp only[go_sem,seval,a1,a2,a3,a4,hn,cj,cm,U5,Vn,Vo,Vp,ak,al,aI,aJ,ae,ax,ar,au];refine RE.SB rfl rfl rfl rfl rfl trivial (by simp only[go_sem,seval,a1,a2,a3,a4,hn,cj,cm,U5,Vn,Vo,Vp,ak,al,aI,aJ,ae,ax,ar,au]) ?_;refine RE.Sg (n:=0) [] [14] [⟨.none,(.store 7 (.t 4) (.t 8)),.none⟩] rfl rfl ?_;apply sG;simp only[go_sem,seval,a1,a2,a3,a4,hn,cj,cm,U5,Vn,Vo,Vp,ak,al,aI,aJ,ae,ax,ar,au];exact fin _ _ i2 i3 i4 ((RX.aE z3).aE z4) z2 (((ab Yb).trans (ab Xj)).trans a2) ((hn.2 _ _).trans ag) ag rfl rfl rfl
 .refine GT.iO (its:=[10,3,7,8,3,7,12,7,14]) (by kernel_rfl) ?_;refine RE.Sg (n:=0) [3,7,8,3,7,12,7,14] [10] [⟨(.some 4),(.alloc 99 7 (.agg [.RQ,.aC,(.int .i64 0),.aC,.aC,(.int .i64 0),.aC])),.none⟩] rfl rfl ?_;apply sG;simp only[go_sem,seval,a1,a2,a3,a4,hn,cj,cm,U5,Vn,Vo,Vp,ak,al,aI,aJ,ae,ax,ar,au];refine bu λi4 Z4 s4 a4 f4=>?_
  try replace hn:=cC (aq a3 f4)
  try replace a3:=s4 _ _ a3
  have n14:=aq a1 f4;have Yb:=aq a2 f4;replace Vn:=(cC n14).2;replace Vp:=(cC Yb).2;replace a1:=s4 _ _ a1;replace a2:=s4 _ _ a2;have z4:=RX.none f4;replace RX:=RX.trans s4;simp only[go_sem,seval,a1,a2,a3,a4,hn,cj,cm,U5,Vn,Vo,Vp,ak,al,aI,aJ,ae,ax,ar,au];refine RE.SB rfl rfl rfl rfl rfl trivial (by simp only[go_sem,seval,a1,a2,a3,a4,hn,cj,cm,U5,Vn,Vo,Vp,ak,al,aI,aJ,ae,ax,ar,au]) ?_;refine RE.SB rfl rfl rfl rfl rfl trivial (by simp only[go_sem,seval,a1,a2,a3,a4,hn,cj,cm,U5,Vn,Vo,Vp,ak,al,aI,aJ,ae,ax,ar,au]) ?_;refine RE.Sg (n:=0) [3,7,12,7,14] [8] [⟨(.some 3),(.alloc 99 7 (.agg [.RQ,.aC,(.int .i64 0),.aC,.aC,(.int .i64 0),.aC])),.none⟩] rfl rfl ?_;apply sG;simp only[go_sem,seval,a1,a2,a3,a4,hn,cj,cm,U5,Vn,Vo,Vp,ak,al,aI,aJ,ae,ax,ar,au];refine bu λi3 Z3 s3 a3 f3=>?_
  try replace hn:=cC (aq a4 f3).symm
  try replace a4:=s3 _ _ a4
  have U9:=aq a1 f3;have Xj:=aq a2 f3;replace U5:=(cC U9).2;replace Vo:=(cC Xj).2;replace a1:=s3 _ _ a1;replace a2:=s3 _ _ a2;have z3:=RX.none f3;replace RX:=RX.trans s3;simp only[go_sem,seval,a1,a2,a3,a4,hn,cj,cm,U5,Vn,Vo,Vp,ak,al,aI,aJ,ae,ax,ar,au];refine RE.SB rfl rfl rfl rfl rfl trivial (by simp only[go_sem,seval,a1,a2,a3,a4,hn,cj,cm,U5,Vn,Vo,Vp,ak,al,aI,aJ,ae,ax,ar,au]) ?_;refine RE.SB rfl rfl rfl rfl rfl trivial (by simp only[go_sem,seval,a1,a2,a3,a4,hn,cj,cm,U5,Vn,Vo,Vp,ak,al,aI,aJ,ae,ax,ar,au]) ?_;refine RE.Sg (n:=0) [7,14] [12] [⟨.none,(.store 7 (.t 3) (.t 6)),.none⟩] rfl rfl ?_;apply sG;simp only[go_sem,seval,a1,a2,a3,a4,hn,cj,cm,U5,Vn,Vo,Vp,ak,al,aI,aJ,ae,ax,ar,au];refine RE.SB rfl rfl rfl rfl rfl trivial (by simp only[go_sem,seval,a1,a2,a3,a4,hn,cj,cm,U5,Vn,Vo,Vp,ak,al,aI,aJ,ae,ax,ar,au]) ?_;refine RE.Sg (n:=0) [] [14] [⟨.none,(.store 7 (.t 4) (.t 8)),.none⟩] rfl rfl ?_;apply sG;simp only[go_sem,seval,a1,a2,a3,a4,hn,cj,cm,U5,Vn,Vo,Vp,ak,al,aI,aJ,ae,ax,ar,au];exact fin _ _ i2 i3 i4 ((RX.aE z3).aE z4) z2 (((ab Yb).trans (ab Xj)).trans a2) ((hn.2 _ _).trans ag) ag rfl rfl rfl
open Go.Proofs Go.Proofs.Tryz
def H5(a b:Bk)(ha:bO a)(hb:bO b)(s:Sc)(kind:Int)(RA:a.atoms≠[]->b.atoms≠[]->0<=s.s.atom/\(kind=1->bZ a.atoms s.s)/\s.bM.length<=1000000/\∀f∈s.bM,0<=f.h):
 aV prog 73 [lz a b (bL a.atoms b.atoms) (bL a.L' b.L'),bY s,vI kind] (.bool (decide (cz a b s kind))):=λU=>by
 refine e73.r (by simp[c73]) ?_;have hs:=aa.refl U;have Un:=gG a.atoms;have V2:=gG b.atoms;refine ad.mix 11 ?_;apply sR;simp only[go_sem,seval,c73,cJ,cI,bE,cO,ar,au];refine af λi3 Z3 s3 a3 f3=>?_;have z3:=hs.none f3;replace hs:=hs.trans s3;simp only[go_sem,seval,bE,cO,ar,au];refine af λi4 Z4 s4 a4 f4=>?_;have YE:=aq a3 f4;replace a3:=s4 _ _ a3;have z4:=hs.none f4;replace hs:=hs.trans s4;generalize hX:decide (cz a b s kind)=X;by_cases h0:(a.atoms.length:Int)=0\/(b.atoms.length:Int)=0
 .have hq:((a.atoms.length:Int)=0)=True\/((a.atoms.length:Int)=0)=False/\((b.atoms.length:Int)=0)=True:=by
   by_cases h:(a.atoms.length:Int)=0
   .exact .inl (eq_true h)
   .exact .inr ⟨eq_false h,eq_true (h0.resolve_left h)⟩
  have ZY:X=decide ((a.atoms.length:Int)=b.atoms.length/\a.Re=b.Re):=by
   rw[<-hX];exact decide_eq_decide.2 (by unfold cz;rw[if_pos h0])
  clear hX;have hc:=BE a.Re b.Re ha.Uf;by_cases hnm:(a.atoms.length:Int)=b.atoms.length
  .have q2:((a.atoms.length:Int)=b.atoms.length)=True:=eq_true hnm;have Se:X=decide (a.Re=b.Re):=ZY.trans (decide_eq_decide.2 (by simp[hnm]));rw[<-Se]at hc;rcases hq with q1|⟨q1,q3⟩
   .simp only[go_sem,seval,a3,a4,cJ,cI,ak,al,ar,au,Un,V2,q1,q2];refine ad.aB rfl rfl rfl (hc _) ?_;apply sR;simp only[go_sem,seval];exact ay.pure hs rfl
   .simp only[go_sem,seval,a3,a4,cJ,cI,ak,al,ar,au,Un,V2,q1,q2,q3];refine ad.aB rfl rfl rfl (hc _) ?_;apply sR;simp only[go_sem,seval];exact ay.pure hs rfl
  .have q2:((a.atoms.length:Int)=b.atoms.length)=False:=eq_false hnm;have Se:X=false:=ZY.trans (decide_eq_false λh=>hnm h.1);rw[Se];rcases hq with q1|⟨q1,q3⟩
   .simp only[go_sem,seval,a3,a4,cJ,cI,ak,al,ar,au,Un,V2,q1,q2];exact ay.pure hs rfl
   .simp only[go_sem,seval,a3,a4,cJ,cI,ak,al,ar,au,Un,V2,q1,q2,q3];exact ay.pure hs rfl
 .have na:a.atoms≠[]:=λh=>h0 (.inl (by rw[h];rfl));have nb:b.atoms≠[]:=λh=>h0 (.inr (by rw[h];rfl));obtain⟨x0,x1,x2,x3⟩:=RA na nb;have q1:((a.atoms.length:Int)=0)=False:=eq_false λh=>h0 (.inl h);have q3:((b.atoms.length:Int)=0)=False:=eq_false λh=>h0 (.inr h);have XY:=KD a ha s kind x0 x1 x2 x3;have ZY:X=decide ((dv a s kind<bL a.atoms b.atoms\/dv a s kind=a.atoms.length/\dv a s kind=b.atoms.length/\dv a s kind=bL a.atoms b.atoms)/\dv a s kind<bL a.L' b.L'/\kY a (dv a s kind)=kY b (dv a s kind)/\k0 a b s.s):=by
   rw[<-hX];exact decide_eq_decide.2 (by unfold cz;rw[if_neg h0])
  clear hX;have hhc:=DT a b ha hb na nb (bL a.atoms b.atoms) (bL a.L' b.L') s.s x0;generalize dv a s kind=r at*;have fa:=uT a ha.Uf r;have fb:=uT b hb.Uf r;have hul:(kY a r).length<=1000000:=by
   have:=List.length_filter_le (λf:P'=>decide (f.anchor<=r)) a.Re;have h2:=ha.Uf;unfold kY;omega
  have hc:=BE (kY a r) (kY b r) hul;generalize kY a r=A at*;generalize kY b r=B at*;generalize bL a.atoms b.atoms=n1 at*;generalize bL a.L' b.L'=n2 at*;generalize hH:decide (k0 a b s.s)=Hb at hhc;simp only[go_sem,seval,a3,a4,cJ,cI,ak,al,ar,au,bE,Un,V2,q1,q3];rw[<-ja,<-bY];refine ad.aB rfl rfl rfl (XY _) ?_;by_cases p1:r<n1
  .have s1:(r<(n1:Int))=True:=eq_true p1;have hsm:(r<(n1:Int)\/r=a.atoms.length/\r=b.atoms.length/\r=n1):=.inl p1;by_cases hB:r<n2
   .have s2:(r<(n2:Int))=True:=eq_true hB;apply sR;simp only[go_sem,seval,a3,a4,cJ,cI,ak,al,ar,au,ae,ax,aI,aJ,bE,s1,s2];rw[<-ja];refine Go.bP rfl rfl rfl fa ?_;apply sG;simp only[go_sem,seval,a3,a4,cJ,cI,ak,al,ar,au,ae,ax,aI,aJ,bE];rw[<-ja];refine Go.bP rfl rfl rfl fb ?_;apply sG;simp only[go_sem,seval,a3,a4,cJ,cI,ak,al,ar,au,bE];refine Go.bP rfl rfl rfl hc ?_;by_cases hAB:A=B
    .rw[decide_eq_true hAB];apply sG;simp only[go_sem,seval,a3,a4,cJ,cI,ak,al,ar,au,ae,ax,aI,aJ,bE];rw[<-lz,mE];refine Go.bP rfl rfl rfl hhc ?_;apply sG;simp only[go_sem,seval];exact ay.pure hs (by rw[ZY,<-hH];exact congrArg V.bool (decide_eq_decide.2 ⟨λh=>⟨hsm,hB,hAB,h⟩,λh=>h.2.2.2⟩))
    .rw[decide_eq_false hAB];apply sG;simp only[go_sem,seval];exact ay.pure hs (by rw[ZY,decide_eq_false λh=>hAB h.2.2.1])
   .have s2:(r<(n2:Int))=False:=eq_false hB;apply sR;simp only[go_sem,seval,a3,a4,cJ,cI,ak,al,ar,au,bE,s1,s2];exact ay.pure hs (by rw[ZY,decide_eq_false λh=>hB h.2.1])
  .have s1:(r<(n1:Int))=False:=eq_false p1;by_cases p2:r=a.atoms.length
   .have s3:(r=(a.atoms.length:Int))=True:=eq_true p2;by_cases p3:r=b.atoms.length
    .have s4:(r=(b.atoms.length:Int))=True:=eq_true p3;by_cases p4:r=n1
     .have s5:(r=(n1:Int))=True:=eq_true p4;have hsm:(r<(n1:Int)\/r=a.atoms.length/\r=b.atoms.length/\r=n1):=.inr ⟨p2,p3,p4⟩;by_cases hB:r<n2
      .have s2:(r<(n2:Int))=True:=eq_true hB;apply sR;simp only[go_sem,seval,a3,a4,cJ,cI,ak,al,ar,au,ae,ax,aI,aJ,bE,s1,s2,s3,s4,s5];rw[<-ja];refine Go.bP rfl rfl rfl fa ?_;apply sG;simp only[go_sem,seval,a3,a4,cJ,cI,ak,al,ar,au,ae,ax,aI,aJ,bE];rw[<-ja];refine Go.bP rfl rfl rfl fb ?_;apply sG;simp only[go_sem,seval,a3,a4,cJ,cI,ak,al,ar,au,bE];refine Go.bP rfl rfl rfl hc ?_;by_cases hAB:A=B
       .rw[decide_eq_true hAB];apply sG;simp only[go_sem,seval,a3,a4,cJ,cI,ak,al,ar,au,ae,ax,aI,aJ,bE];rw[<-lz,mE];refine Go.bP rfl rfl rfl hhc ?_;apply sG;simp only[go_sem,seval];exact ay.pure hs (by rw[ZY,<-hH];exact congrArg V.bool (decide_eq_decide.2 ⟨λh=>⟨hsm,hB,hAB,h⟩,λh=>h.2.2.2⟩))
       .rw[decide_eq_false hAB];apply sG;simp only[go_sem,seval];exact ay.pure hs (by rw[ZY,decide_eq_false λh=>hAB h.2.2.1])
      .have s2:(r<(n2:Int))=False:=eq_false hB;apply sR;simp only[go_sem,seval,a3,a4,cJ,cI,ak,al,ar,au,bE,s1,s2,s3,s4,s5];exact ay.pure hs (by rw[ZY,decide_eq_false λh=>hB h.2.1])
     .have s5:(r=(n1:Int))=False:=eq_false p4;apply sR;simp only[go_sem,seval,a3,a4,cJ,cI,ak,al,ar,au,bE,s1,s3,s4,s5];exact ay.pure hs (by rw[ZY,decide_eq_false λh=>h.1.elim p1 λg=>p4 g.2.2])
    .have s4:(r=(b.atoms.length:Int))=False:=eq_false p3;apply sR;simp only[go_sem,seval,a3,a4,cJ,cI,ak,al,ar,au,bE,s1,s3,s4];exact ay.pure hs (by rw[ZY,decide_eq_false λh=>h.1.elim p1 λg=>p3 g.2.1])
   .have s3:(r=(a.atoms.length:Int))=False:=eq_false p2;apply sR;simp only[go_sem,seval,a3,a4,cJ,cI,ak,al,ar,au,bE,s1,s3];exact ay.pure hs (by rw[ZY,decide_eq_false λh=>h.1.elim p1 λg=>p2 g.1])
open Go.Proofs Go.Proofs.Tryz
def CL{b:Bk}(hb:BkOk b){s:Sc}(h:gy b s):s.bM.length<=1000000:=by
 have h1:=(sX _ 0 h.1).length_le;rw[List.drop_zero]at h1;have:=hb.Uf;omega
def B0(a b:Bk):∀(f:Nat) (s:Sc) (n:Nat),dQ a b f s n<=n+2*f
 |0,_,_=>Nat.le_refl _
 |f+1,s,n=>by
  rw[dQ];split
  .omega
  .split
   .omega
   .refine Nat.le_trans (B0 a b f _ _) ?_;split<;>omega
def Hm(a b:Bk)(ha:bO a)(hb:bO b){L:Int}(hL:oT a L):
 aV prog 36 [lz a b (bL a.atoms b.atoms) (bL a.L' b.L')] (vI (fD a b)):=λU=>by
 refine e36.r (by simp[c36]) ?_;have hs:=aa.refl U;have Un:=gG a.atoms;have W2:=gj a.Re;have TZ:=ha.len;have UL:=ha.Uf;have r0:Rq .i64 ((a.atoms.length:Int)+a.Re.length):=ao (by omega) (by omega);have hsf:=H5 a b ha hb;have Sh:=ha.ZV;have hmu:=vV hL;have W4:=cJ a b (bL a.atoms b.atoms) (bL a.L' b.L');have hls:=cI a b (bL a.atoms b.atoms) (bL a.L' b.L');have Wl:V.agg [.rp (bt a),aK a.nodes,vI a.h,bl a.atoms,aH a.Re,vI a.Ra,bC a.L',.rp (bt b),aK b.nodes,vI b.h,bl b.atoms,aH b.Re,vI b.Ra,bC b.L',vI (bL a.atoms b.atoms),vI (bL a.L' b.L')]=lz a b (bL a.atoms b.atoms) (bL a.L' b.L'):=rfl;have Ua:∀p:Uh,(cD p).cells=[vI p.no,vI p.kind,bb p.hs,bb p.fs,bb p.ls]:=λ_=>rfl;have Vx:∀p:Uh,(cD p).stays=true:=λ_=>rfl;have Va:∀l:List SU,(bb l).cells=[bb l]:=λ_=>rfl;have Tk:∀l:List SU,(bb l).stays=true:=λ_=>rfl;refine ad.mix 8 ?_;unfold fD;apply sR;simp only[go_sem,seval,c36,W4,hls];refine af λi1 Z1 s1 a1 f1=>?_;have z1:=hs.none f1;replace hs:=hs.trans s1;by_cases h0:(a.atoms.length:Int)+a.Re.length=0
 .have q0:((a.atoms.length:Int)+a.Re.length=0)=True:=eq_true h0;rw[if_pos h0];have hc:=hsf ⟨⟨0,0,false⟩,[]⟩ 3 (λna _=>absurd (List.eq_nil_of_length_eq_zero (by omega)) na);have RA:bY ⟨⟨0,0,false⟩,[]⟩=.agg [vI 0,vI 0,.bool false,aH []]:=rfl;have hn1:Wk U jT .aC (aH []):=Wk.aC 7;by_cases hsf':cz a b ⟨⟨0,0,false⟩,[]⟩ 3
  .rw[if_pos hsf'];rw[decide_eq_true hsf']at hc;simp only[go_sem,seval,a1,W4,hls,ak,al,ar,au,ae,ax,aI,aJ,Un,W2,r0,q0];rw[Wl];refine ad.aB rfl rfl rfl (aV.uy (args':=[_,bY ⟨⟨0,0,false⟩,[]⟩,vI 3]) ⟨Ue _,Wk.agg (vs':=[vI 0,vI 0,.bool false,aH []]) ⟨Ue _,Ue _,Ue _,Wk.aC 7,trivial⟩,Ue _,trivial⟩ hc rfl) ?_;apply sR;simp only[go_sem,seval];exact ay.pure hs rfl
  .rw[if_neg hsf'];rw[decide_eq_false hsf']at hc;simp only[go_sem,seval,a1,W4,hls,ak,al,ar,au,ae,ax,aI,aJ,Un,W2,r0,q0];rw[Wl];refine ad.aB rfl rfl rfl (aV.uy (args':=[_,bY ⟨⟨0,0,false⟩,[]⟩,vI 3]) ⟨Ue _,Wk.agg (vs':=[vI 0,vI 0,.bool false,aH []]) ⟨Ue _,Ue _,Ue _,Wk.aC 7,trivial⟩,Ue _,trivial⟩ hc rfl) ?_;apply sR;simp only[go_sem,seval];exact ay.pure hs rfl
 .have q0:((a.atoms.length:Int)+a.Re.length=0)=False:=eq_false h0;rw[if_neg h0];simp only[go_sem,seval,a1,W4,hls,ak,al,ar,au,ae,ax,aI,aJ,Un,W2,r0,q0];refine ad.aB rfl rfl rfl (uX a ha.toBkFull _) ?_;apply sR;simp only[go_sem,seval];refine af λi4 Z4 s4 a4 f4=>?_;have n14:=aq a1 f4;replace a1:=s4 _ _ a1;have z4:=hs.none f4;replace hs:=hs.trans s4;simp only[go_sem,seval,a1,a4,bE,cO,ar,au];generalize SZ:C' _ i4 _=Y4;replace a4:=(congrFun SZ i4).symm.trans ag;replace a1:=((congrFun SZ i1).symm.trans (ab n14)).trans a1;replace hs:=Eq.subst (motive:=aa _) SZ (hs.aE z4);clear SZ;apply sR;simp only[go_sem,seval];have hml:=B0 a b 1000000001 ⟨⟨0,0,true⟩,[]⟩ 0;generalize hR:dQ a b 1000000001 ⟨⟨0,0,true⟩,[]⟩ 0=R at*;refine ad.fe (λst=>aa U st.U/\st.s 3=vI R)
   (λm st=>∃(s:Sc) (n i4':Nat),mu2 a L s<m/\R=dQ a b m s n/\gy a s/\n+2*m<=2000000002/\aa U st.U/\U i4'=none/\st.U i1=some ⟨104,16,[lz a b (bL a.atoms b.atoms) (bL a.L' b.L')]⟩/\st.U i4'=some ⟨45,4,[bY s]⟩/\st.s 1=.ptr i1 0 0/\st.s 3=vI n/\st.s 4=.ptr i4' 0 0) 1000000001 ?_ ?_ ?_
  .exact⟨⟨⟨0,0,true⟩,[]⟩,0,i4,by omega,hR.symm,qc a ha.pos,by omega,hs,z4,a1,a4,rfl,rfl,rfl⟩
  .clear hs a1 a4;rintro m ⟨S,J⟩ ⟨s,n,i4,hm,ZZ,RZ,hn,hs,z4,a1,a4,t1,t3,t4⟩;simp only at hs a1 a4 t1 t3 t4;have n14:i1≠i4:=λe=>by rw[e,a4]at a1;simp at a1
   obtain⟨f,rfl⟩:∃f,m=f+1:=⟨m-1,by omega⟩
   have hp:=CL ha.toBkOk RZ;refine ad.mix 8 ?_;apply sR;simp only[go_sem,seval,t1,t3,t4,a1,a4,W4,hls,bE,cO];rw[<-bY];refine ad.aB rfl rfl rfl (xc a ha.toBkFull s hp _) ?_;rw[dQ]at ZZ;by_cases he:db a s
   .rw[if_pos he]at ZZ;rw[decide_eq_true he,ZZ];apply sR;simp only[go_sem,seval,t3];exact hs
   .rw[if_neg he]at ZZ;rw[decide_eq_false he];have hpg:=B2 a ha.toBkFull ha.fh s hp;rw[if_neg he]at hpg;have SE:0<=s.s.atom/\s.s.atom<a.L'.length:=by
     rcases RZ.2 with h|h
     .have:=h.1;omega
     .omega
    have V9:=iu ha he;have YQ:∀f∈s.bM,0<=f.h:=λf hf=>ha.fh f (mM _ _ RZ.1 f hf);have TS:=hsf s (aW a s).1.kind (λ_ _=>⟨SE.1,λhk=>(V9.cut hk).1,hp,YQ⟩);have hac:=GI a (by omega) (aW a s).1 s.s SE.1 SE.2 ((n:Int)+1) (by omega);have hmn:=Ac ha hL he;have hmy:=um ha he;generalize aW a s=X at*;obtain⟨p,t⟩:=X;simp only at hpg TS hac hmn hmy ZZ;have r1:Rq .i64 ((n:Int)+1):=ao (by omega) (by omega);have r2:Rq .i64 ((n:Int)+1+1):=ao (by omega) (by omega);apply sR;simp only[go_sem,seval,t1,t3,t4,a1,a4,W4,hls,bE,cO];rw[<-bY];refine ad.aB rfl rfl rfl (hpg _) ?_;apply sR;simp only[go_sem,seval];refine af λi5 Z5 s5 a5 f5=>?_;have YO:=aq a1 f5;replace a1:=s5 _ _ a1;have Tp:=aq a4 f5;replace a4:=s5 _ _ a4;have z5:=hs.none f5;replace hs:=hs.trans s5;simp only[go_sem,seval];refine af λi6 Z6 s6 a6 f6=>?_;have n16:=aq a1 f6;replace a1:=s6 _ _ a1;have Zd:=aq a4 f6;replace a4:=s6 _ _ a4;have n56:=aq a5 f6;replace a5:=s6 _ _ a5;have z6:=hs.none f6;replace hs:=hs.trans s6;simp only[go_sem,seval,a5,a6,Ua,Vx,Va,Tk,bE,cO,ar,au];generalize TR:C' _ i5 _=Y5;replace a5:=(congrFun TR i5).symm.trans ag;replace a1:=((congrFun TR i1).symm.trans (ab YO)).trans a1;replace a4:=((congrFun TR i4).symm.trans (ab Tp)).trans a4;replace a6:=((congrFun TR i6).symm.trans (ab n56.symm)).trans a6;replace hs:=Eq.subst (motive:=aa _) TR (hs.aE z5);clear TR;simp only[go_sem,seval,a5,a6,bE,cO,ar,au];generalize Vy:C' _ i6 _=Y6;replace a6:=(congrFun Vy i6).symm.trans ag;replace a1:=((congrFun Vy i1).symm.trans (ab n16)).trans a1;replace a4:=((congrFun Vy i4).symm.trans (ab Zd)).trans a4;replace a5:=((congrFun Vy i5).symm.trans (ab n56)).trans a5;replace hs:=Eq.subst (motive:=aa _) Vy (hs.aE z6);clear Vy;simp only[go_sem,seval,t1,t3,t4,a1,a4,a5,a6,W4,hls,Ua,Vx,Va,Tk,bE,cO,ar,au,ak,al,ae,ax,aI,aJ];rw[Wl,<-bY];refine ad.aB rfl rfl rfl (TS _) ?_;by_cases hsaf:cz a b s p.kind
    .rw[if_neg (λh=>h hsaf)]at ZZ;rw[decide_eq_true hsaf];apply sR;simp only[go_sem,seval,t1,t3,t4,a1,a4,a5,a6,r1,W4,hls,Ua,Vx,Va,Tk,bE,cO,ar,au,ak,al,ae,ax,aI,aJ];rw[<-ja,mE];refine ad.aB rfl rfl rfl (hac _) ?_;by_cases UE:ig a p s.s ((n:Int)+1)
     .rw[if_pos UE]at ZZ;rw[decide_eq_true UE];apply sR;simp only[go_sem,seval,t1,t3,t4,a1,a4,a5,a6,r1,r2,bE,cO,ar,au];generalize SZ:C' _ i4 _=Y4;replace a4:=(congrFun SZ i4).symm.trans ag;replace a1:=((congrFun SZ i1).symm.trans (ab n14)).trans a1;replace a5:=((congrFun SZ i5).symm.trans (ab Tp.symm)).trans a5;replace a6:=((congrFun SZ i6).symm.trans (ab Zd.symm)).trans a6;replace hs:=Eq.subst (motive:=aa _) SZ (hs.aE z4);clear SZ;refine af λi7 Z7 s7 a7 f7=>?_;have n17:=aq a1 f7;replace a1:=s7 _ _ a1;have n47:=aq a4 f7;replace a4:=s7 _ _ a4;have z7:=hs.none f7;replace hs:=hs.trans s7;simp only[go_sem,seval,a7,bE,cO,ar,au];generalize SY:C' _ i7 _=Y7;replace a7:=(congrFun SY i7).symm.trans ag;replace a1:=((congrFun SY i1).symm.trans (ab n17)).trans a1;replace a4:=((congrFun SY i4).symm.trans (ab n47)).trans a4;replace hs:=Eq.subst (motive:=aa _) SY (hs.aE z7);clear SY;exact⟨f,by omega,t,n+2,i7,by omega,ZZ,hmy,by omega,hs,z7,a1,a7,by simp[t1];omega⟩
     .rw[if_neg UE]at ZZ;rw[decide_eq_false UE];apply sR;simp only[go_sem,seval,t1,t3,t4,a1,a4,a5,a6,r1,r2,bE,cO,ar,au];generalize SZ:C' _ i4 _=Y4;replace a4:=(congrFun SZ i4).symm.trans ag;replace a1:=((congrFun SZ i1).symm.trans (ab n14)).trans a1;replace a5:=((congrFun SZ i5).symm.trans (ab Tp.symm)).trans a5;replace a6:=((congrFun SZ i6).symm.trans (ab Zd.symm)).trans a6;replace hs:=Eq.subst (motive:=aa _) SZ (hs.aE z4);clear SZ;refine af λi7 Z7 s7 a7 f7=>?_;have n17:=aq a1 f7;replace a1:=s7 _ _ a1;have n47:=aq a4 f7;replace a4:=s7 _ _ a4;have z7:=hs.none f7;replace hs:=hs.trans s7;simp only[go_sem,seval,a7,bE,cO,ar,au];generalize SY:C' _ i7 _=Y7;replace a7:=(congrFun SY i7).symm.trans ag;replace a1:=((congrFun SY i1).symm.trans (ab n17)).trans a1;replace a4:=((congrFun SY i4).symm.trans (ab n47)).trans a4;replace hs:=Eq.subst (motive:=aa _) SY (hs.aE z7);clear SY;exact⟨f,by omega,t,n+1,i7,by omega,ZZ,hmy,by omega,hs,z7,a1,a7,by simp[t1]⟩
    .rw[if_pos hsaf]at ZZ;rw[decide_eq_false hsaf,ZZ];apply sR;simp only[go_sem,seval,t3];exact hs
  .rintro⟨S,J⟩ ⟨hs,t3⟩;simp only at hs t3;refine ad.mix 8 ?_;apply sR;simp only[go_sem,seval,t3];exact ay.pure hs rfl
open Go.Proofs Go.Proofs.Tryz
def vF:V:=.agg [.RQ,.aC,vI 0,.aC,.aC,vI 0,.aC,.RQ,.aC,vI 0,.aC,.aC,vI 0,.aC]
def ez(l m:List Nd)(w h:Int):Int:=if ed l w h≠0 then ed l w h else ed m w h
def FU(l m:List Nd)(w h:Int):V:=if ez l m w h=0 then uk (bc l w h) (bc m w h)else vF
def DU(a:Bk):V:=.agg [.rp (bt a),aK a.nodes,vI a.h,bl a.atoms,aH a.Re,vI a.Ra,bC a.L',.RQ,.aC,vI 0,.aC,.aC,vI 0,.aC]
def CQ(l m:List Nd)(hl:dH l)(hm:dH m)(w h:Int):aV prog 34 [aK l,aK m,vI w,vI h] (.Rf [FU l m w h,vI (ez l m w h)]):=λU=>by
 refine e34.r (by simp[c34]) ?_;have hs:=aa.refl U;have c1:=BZ l hl w h;have c2:=BZ m hm w h;have hz:Bb.cells=[.RQ,.aC,vI 0,.aC,.aC,vI 0,.aC]:=rfl;have WU:Bb.stays=true:=rfl;refine ad.mix 10 ?_;apply sR;simp only[go_sem,seval,c34];refine af λi8 Z8 s8 a8 f8=>?_;have z8:=hs.none f8;replace hs:=hs.trans s8;simp only[go_sem,seval,ae,ax];unfold FU ez;unfold B9 at c1 c2;generalize hA:bc l w h=A at*;generalize hB:bc m w h=B at*;generalize ed l w h=e1 at*;generalize ed m w h=e2 at*;refine ad.fe (λst=>aa U st.U/\e1=0/\e2=0/\st.s 8=.ptr i8 0 0/\st.U i8=some ⟨100,14,[uk A B]⟩)
  (λk st=>aa U st.U/\st.s 2=vI w/\st.s 3=vI h/\st.s 8=.ptr i8 0 0/\st.s 14=.agg [aK l,aK m]/\(k=2/\st.s 15=vI 0/\st.U i8=some ⟨100,14,[vF]⟩\/k=1/\st.s 15=vI 1/\e1=0/\st.U i8=some ⟨100,14,[DU A]⟩\/k=0/\st.s 15=vI 2/\e1=0/\e2=0/\st.U i8=some ⟨100,14,[uk A B]⟩)) 2 ?_ ?_ ?_
 .exact⟨hs,rfl,rfl,rfl,rfl,.inl ⟨rfl,rfl,a8⟩⟩
 .clear hs a8;rintro k ⟨S,J⟩ ⟨hs,t2,t3,t8,t14,hc⟩;simp only at hs t2 t3 t8 t14 hc;refine ad.mix 10 ?_;rcases hc with⟨rfl,t15,a8⟩|⟨rfl,t15,hz1,a8⟩|⟨rfl,t15,hz1,hz2,a8⟩
  .apply sR;simp only[go_sem,seval,t2,t3,t8,t14,t15,ae,ax];refine ad.aB rfl rfl rfl (c1 _) ?_;by_cases h1:e1=0
   .have q1:(e1≠0)=False:=eq_false (λh=>h h1);rw[if_pos h1];rw[vF]at a8;apply sR;simp only[go_sem,seval,t2,t3,t8,t14,t15,a8,q1,bG,bH,ae,ax];generalize SC:C' _ i8 _=Y8;replace a8:=(congrFun SC i8).symm.trans ag;replace hs:=Eq.subst (motive:=aa _) SC (hs.aE z8);clear SC;exact⟨ao (by omega) (by omega),1,by omega,hs,.inr (.inl ⟨rfl,h1,rfl⟩)⟩
   .have q1:(e1≠0)=True:=eq_true h1;rw[if_neg h1,if_pos h1,if_neg h1];rw[vF]at a8;apply sR;simp only[go_sem,seval,t2,t3,t8,t14,t15,a8,q1,hz,WU,ae,ax];exact ay.pure (hs.aE z8) rfl
  .have h1n:¬(e1≠0):=λh=>h hz1;rw[if_neg h1n];apply sR;simp only[go_sem,seval,t2,t3,t8,t14,t15,ae,ax];refine ad.aB rfl rfl rfl (c2 _) ?_;by_cases h1:e2=0
   .have q1:(e2≠0)=False:=eq_false (λh=>h h1);rw[if_pos h1];rw[DU]at a8;apply sR;simp only[go_sem,seval,t2,t3,t8,t14,t15,a8,q1,bG,bH,ae,ax,ak,al,ar,au,aI,aJ];generalize SC:C' _ i8 _=Y8;replace a8:=(congrFun SC i8).symm.trans ag;replace hs:=Eq.subst (motive:=aa _) SC (hs.aE z8);clear SC;exact⟨ao (by omega) (by omega),0,by omega,hs,.inr (.inr ⟨rfl,hz1,h1,rfl⟩)⟩
   .have q1:(e2≠0)=True:=eq_true h1;rw[if_neg h1,if_neg h1];rw[DU]at a8;apply sR;simp only[go_sem,seval,t2,t3,t8,t14,t15,a8,q1,hz,WU,ae,ax,ak,al,ar,au,aI,aJ];exact ay.pure (hs.aE z8) rfl
  .apply sR;simp only[go_sem,seval,t15];exact⟨hs,hz1,hz2,t8,a8⟩
 .rintro⟨S,J⟩ ⟨hs,h1,h2,t8,a8⟩;simp only at hs t8 a8;refine ad.mix 10 ?_;rw[if_neg (show¬(e1≠0)from λh=>h h1),if_pos h2,h2];apply sR;simp only[go_sem,seval,t8,a8,cj,cm];exact ay.pure (hs.aE z8) rfl
def mL(l m:List Nd)(hl:dH l)(hm:dH m)(w h:Int):aV prog 18 [aK l,aK m,vI w,vI h] (.Rf [vI (if ez l m w h=0 then fD (bc l w h) (bc m w h)else 0:Nat),vI (ez l m w h)]):=λU=>by
 refine e18.r (by simp[c18]) ?_;have hs:=aa.refl U;have hc:=CQ l m hl hm w h;unfold FU at hc;refine ad.mix 13 ?_;apply sR;simp only[go_sem,seval,c18];refine ad.aB rfl rfl rfl (hc _) ?_;by_cases he:ez l m w h=0
 .rw[if_pos he,if_pos he];have e1:ed l w h=0:=by
   unfold ez at he;by_cases g:ed l w h=0
   .exact g
   .rw[if_pos g]at he;exact he
  have e2:ed m w h=0:=by
   unfold ez at he;rw[if_neg (λh=>h e1)]at he;exact he
  have ha:=gi hl e1;have hb:=gi hm e2;have hL:=uu e1;have Sh:=ha.ZV;have TZ:=ha.len;have q:(ez l m w h≠0)=False:=eq_false (λh=>h he);have hlk:=Dd (bc l w h) (bc m w h) (by omega) (by omega);have hmy:=Hm (bc l w h) (bc m w h) ha hb hL;generalize bc l w h=A at*;generalize bc m w h=B at*;rw[he];have q0:((0:Int)≠0)=False:=eq_false (λh=>h rfl);apply sR;simp only[go_sem,seval];refine af λRP Ws Tz RU f10=>?_;have U7:=hs.none f10;replace hs:=hs.trans Tz;simp only[go_sem,seval,RU,cj,cm,ae,ax,ak,al,ar,au,aI,aJ];generalize TA:C' _ RP _=Y10;replace RU:=(congrFun TA RP).symm.trans ag;replace hs:=Eq.subst (motive:=aa _) TA (hs.aE U7);clear TA;apply sR;simp only[go_sem,seval,q0,RU,cj,cm,ae,ax,ak,al,ar,au,aI,aJ];rw[<-uk];refine ad.aB rfl rfl rfl (hlk _) ?_;apply sR;simp only[go_sem,seval];refine ad.aB rfl rfl rfl (hmy _) ?_;apply sR;simp only[go_sem,seval];exact ay.pure hs rfl
 .rw[if_neg he,if_neg he];have q:(ez l m w h≠0)=True:=eq_true he;generalize ez l m w h=E at*;have hz:vF.cells=[.RQ,.aC,vI 0,.aC,.aC,vI 0,.aC,.RQ,.aC,vI 0,.aC,.aC,vI 0,.aC]:=rfl;have WU:vF.stays=true:=rfl;apply sR;simp only[go_sem,seval];refine af λRP Ws Tz RU f10=>?_;have U7:=hs.none f10;replace hs:=hs.trans Tz;simp only[go_sem,seval,RU,hz,WU,q];exact ay.pure (hs.aE U7) rfl
open Go.Proofs Go.Proofs.Tryz
def tS(l:List Nd)(hlen:l.length<=1000000000000)(hw:∀x∈l,x.words.length<=200000000000000)(h:Int)(hh:wK h)(vp:V)(P:List Uh)(hlP:dz false vp=some (.int .i64 P.length))(hiP:∀(U:ai) (i:Nat) (h:i<P.length),bQ U 5 vp (.int .i64 i)=some (.rp (cD P[i])))
 (hPl:P.length<=10000000000000)(hPp:∀p∈P,p.hs.length<=1000000000000000/\p.fs.length<=1000000000000000/\p.ls.length<=1000000000000000)(U:ai):
 aD prog 16 [aK l,vI h,vp] U λr Z'=>(∃x,r=.bool x/\(x=false->l.length<=30/\P.length<=60))/\Z'=U:=by
 refine e16.r (by simp[c16]) ?_;have US:=fj l;have Ua:∀p:Uh,(cD p).cells=[vI p.no,vI p.kind,bb p.hs,bb p.fs,bb p.ls]:=λ_=>rfl;have finT:ay (.bool true) U λr Z'=>(∃x,r=.bool x/\(x=false->l.length<=30/\P.length<=60))/\Z'=U:=⟨_,_,aa.refl _,Wk.refl (aa.refl _) _,⟨_,rfl,λh=>by cases h⟩,rfl⟩
 refine ad.mix 13 ?_;by_cases h30:l.length<=30
 .have q0:((l.length:Int)>30)=False:=eq_false (by omega);by_cases h60:P.length<=60
  .have q00:((P.length:Int)>60)=False:=eq_false (by omega);apply sR;simp only[go_sem,seval,c16,US,hlP,q0,q00];refine ad.fe (λst=>st.U=U/\st.s 0=aK l/\st.s 1=vI h/\st.s 2=vp/\st.s 9=vI 0/\∃c g:Int,st.s 7=vI c/\st.s 8=vI g/\0<=g/\g<=1152921504606846976)
    (λm st=>∃(i:Nat) (c g:Int),i<=l.length/\m=l.length-i/\st.U=U/\st.s 0=aK l/\st.s 1=vI h/\st.s 2=vp/\st.s 9=vI 0/\st.s 7=vI c/\0<=c/\c<=i*200000000000000/\st.s 8=vI g/\0<=g/\g<=i*3300000000000/\st.s 10=vI i) l.length ?_ ?_ ?_
   .exact⟨0,0,0,by omega,by omega,rfl,rfl,rfl,rfl,rfl,rfl,by omega,by omega,rfl,by omega,by omega,rfl⟩
   .rintro m ⟨S,J⟩ ⟨i,c,g,hi,rfl,RH,t0,t1,t2,t9,t7,UX,Yz,t8,hg0,hg1,t10⟩;simp only at RH t0 t1 t2 t9 t7 t8 t10;subst RH;refine ad.mix 13 ?_;by_cases H':i<l.length
    .have q1:((i:Int)<l.length)=True:=eq_true (by omega);have SR:=λU=>cK (U:=U) (l:=l) (a:=i) H';have hwi:=hw _ (List.getElem_mem H');have hlw:=dJ l[i].words;have r1:Rq .i64 ((i:Int)+1):=ao (by omega) (by omega);have r2:Rq .i64 (c+l[i].words.length):=ao (by omega) (by omega);apply sR;simp only[go_sem,seval,t0,t1,t2,t9,t7,t8,t10,US,q1,SR,Nd.cells,SA.cells,hlw,r1,r2,uL];obtain⟨b0,b1⟩:=Et l[i].line 8589934592 (by omega);obtain⟨d0,d1⟩:=Et l[i].h 2199023255552 (by omega);have e0:0<=(if 120<(l[i].words.length:Int)then 120 else(l[i].words.length:Int))/\(if 120<(l[i].words.length:Int)then 120 else(l[i].words.length:Int))<=120:=by split<;>omega
     obtain⟨e0,e1⟩:=e0;generalize (if 8589934592<if 0>l[i].line then 0 else l[i].line then 8589934592 else if 0>l[i].line then 0 else l[i].line)=A at*;generalize (if 2199023255552<if 0>l[i].h then 0 else l[i].h then 2199023255552 else if 0>l[i].h then 0 else l[i].h)=B at*;generalize (if 120<(l[i].words.length:Int)then 120 else(l[i].words.length:Int))=C at*;have m0:=Int.mul_nonneg b0 e0;have m1:=Int.mul_le_mul b1 e1 e0 (by omega:(0:Int)<=8589934592);generalize A*C=M at*;exact⟨ao (by omega) (by omega),ao (by omega) (by omega),ao (by omega) (by omega),_,by omega,i+1,_,_,by omega,rfl,rfl,by omega,by omega,rfl,by omega,by omega,rfl⟩
    .have q1:((i:Int)<l.length)=False:=eq_false (by omega);apply sR;simp only[go_sem,seval,t0,t10,US,q1];exact⟨t1,t2,t9,c,g,t7,t8,hg0,by omega⟩
   .rintro⟨S,J⟩ ⟨RH,t0,t1,t2,t9,c,g,t7,t8,hg0,hg1⟩;simp only at RH t0 t1 t2 t9 t7 t8;subst RH;refine ad.mix 13 ?_;apply sR;simp only[go_sem,seval,t0,t1,t2,t9,t7,t8];refine ad.fe (λst=>st.U=J/\st.s 2=vp/\st.s 9=vI 0/\∃h':Int,st.s 1=vI h'/\wK h'/\st.s 7=vI c/\st.s 8=vI g)
     (λm st=>∃(i:Nat) (h':Int),i<=l.length/\m=l.length-i/\st.U=J/\st.s 2=vp/\st.s 9=vI 0/\st.s 0=aK l/\st.s 1=vI h'/\wK h'/\st.s 7=vI c/\st.s 8=vI g/\st.s 11=vI i) l.length ?_ ?_ ?_
    .exact⟨0,h,by omega,by omega,rfl,t2,t9,t0,t1,hh,t7,t8,rfl⟩
    .rintro m ⟨S,X'⟩ ⟨i,h',hi,rfl,RH,t2,t9,t0,t1,ZW,t7,t8,t11⟩;simp only at RH t2 t9 t0 t1 t7 t8 t11;subst RH;refine ad.mix 13 ?_;by_cases H':i<l.length
     .have q1:((i:Int)<l.length)=True:=eq_true (by omega);have SR:=λU=>cK (U:=U) (l:=l) (a:=i) H';have r1:Rq .i64 ((i:Int)+1):=ao (by omega) (by omega);by_cases hb:h'=-9223372036854775808
      ·(refine ad.bN Tm.nothing 22 ?_;simp only[go_sem,seval,nQ,t0,t1,t2,t9,t7,t8,t11,US,q1,SR,Nd.cells,SA.cells])
       refine ad.NL rfl rfl rfl rfl ?_;generalize IntKind.i64.wrap (h'-1)=X
       (refine ad.bN Tm.nothing 2 ?_;simp only[go_sem,seval,nQ,t0,t1])
       refine ad.NL rfl rfl rfl rfl ?_;generalize hX:IntKind.i64.wrap _=Y;have hY:wK Y:=by rw[<-hX];exact Ho _
       apply sR;simp only[go_sem,seval,t11,r1,t7,t8,t0,t2,t9];exact⟨_,by omega,i+1,_,by omega,rfl,rfl,hY,rfl⟩
      .apply sR;simp only[go_sem,seval,t0,t1,t2,t9,t7,t8,t11,US,q1,SR,Nd.cells,SA.cells,r1];have hz:0<=(if(if 0>h'-1 then 0 else h'-1)<(if 0>l[i].st.head then 0 else l[i].st.head)then(if 0>h'-1 then 0 else h'-1)else if 0>l[i].st.head then 0 else l[i].st.head)/\
        (if(if 0>h'-1 then 0 else h'-1)<(if 0>l[i].st.head then 0 else l[i].st.head)then(if 0>h'-1 then 0 else h'-1)else if 0>l[i].st.head then 0 else l[i].st.head)<=(if 0>h'-1 then 0 else h'-1):=by
        have h1:0<=(if 0>h'-1 then 0 else h'-1):=by split<;>omega
        have h2:0<=(if 0>l[i].st.head then 0 else l[i].st.head):=by split<;>omega
        generalize (if 0>h'-1 then 0 else h'-1)=A at*;generalize (if 0>l[i].st.head then 0 else l[i].st.head)=B at*;split<;>omega
       have hx:(if 0>h'-1 then 0 else h'-1)=0\/(if 0>h'-1 then 0 else h'-1)=h'-1/\h'>=1:=by split<;>omega
       generalize (if(if 0>h'-1 then 0 else h'-1)<(if 0>l[i].st.head then 0 else l[i].st.head)then(if 0>h'-1 then 0 else h'-1)else if 0>l[i].st.head then 0 else l[i].st.head)=Z at*;unfold wK at ZW;exact⟨ao (by omega) (by omega),ao (by omega) (by omega),_,by omega,i+1,_,by omega,rfl,rfl,⟨by omega,by omega⟩,rfl⟩
     .have q1:((i:Int)<l.length)=False:=eq_false (by omega);apply sR;simp only[go_sem,seval,t0,t11,US,q1];exact⟨t2,t9,h',t1,ZW,t7,t8⟩
    .rintro⟨S,X'⟩ ⟨RH,t2,t9,h',t1,ZW,t7,t8⟩;simp only at RH t1 t7 t8 t2 t9;subst RH;refine ad.mix 13 ?_;apply sR;simp only[go_sem,seval,t1,t2,t9,t7,t8];refine ad.fe (λst=>st.U=X'/\st.s 1=vI h'/\st.s 7=vI c/\st.s 8=vI g/\∃q:Int,st.s 9=vI q)
      (λm st=>∃(i:Nat) (q:Int),i<=P.length/\m=P.length-i/\st.U=X'/\st.s 1=vI h'/\st.s 2=vp/\st.s 7=vI c/\st.s 8=vI g/\st.s 9=vI q/\0<=q/\q<=i*3000000000000000/\st.s 12=vI i) P.length ?_ ?_ ?_
     .exact⟨0,0,by omega,by omega,rfl,t1,t2,t7,t8,t9,by omega,by omega,rfl⟩
     .rintro m ⟨S,J⟩ ⟨i,q,hi,rfl,RH,t1,t2,t7,t8,t9,hq0,hq1,t12⟩;simp only at RH t1 t2 t7 t8 t9 t12;subst RH;refine ad.mix 13 ?_;by_cases H':i<P.length
      .have q1:((i:Int)<P.length)=True:=eq_true (by omega);have SR:=λU=>hiP U i H';have Vq:=hPp _ (List.getElem_mem H');generalize P[i]=p at*;have l1:=xu p.hs;have l2:=xu p.fs;have l3:=xu p.ls;have r1:Rq .i64 ((i:Int)+1):=ao (by omega) (by omega);have r2:Rq .i64 ((p.hs.length:Int)+p.fs.length):=ao (by omega) (by omega);have r3:Rq .i64 ((p.hs.length:Int)+p.fs.length+p.ls.length):=ao (by omega) (by omega);have r4:Rq .i64 (q+((p.hs.length:Int)+p.fs.length+p.ls.length)):=ao (by omega) (by omega);apply sR;simp only[go_sem,seval,t1,t2,t7,t8,t9,t12,hlP,q1,SR,Ua,NK,l1,l2,l3,r1,r2,r3,r4];exact⟨_,by omega,i+1,_,by omega,rfl,rfl,by omega,by omega,rfl⟩
      .have q1:((i:Int)<P.length)=False:=eq_false (by omega);apply sR;simp only[go_sem,seval,t2,t12,hlP,q1];exact⟨t1,t7,t8,q,t9⟩
     .rintro⟨S,J⟩ ⟨RH,t1,t7,t8,q,t9⟩;simp only at RH t1 t7 t8 t9;subst RH;refine ad.mix 13 ?_;have fin:∀x:Bool,ay (.bool x) J λr Z'=>(∃x,r=.bool x/\(x=false->l.length<=30/\P.length<=60))/\Z'=J:=λx=>⟨_,_,aa.refl _,Wk.refl (aa.refl _) _,⟨_,rfl,λ_=>⟨h30,h60⟩⟩,rfl⟩
      by_cases p1:c>120
      .have q1:(c>120)=True:=eq_true p1;apply sR;simp only[go_sem,seval,t1,t7,t8,t9,q1];exact fin _
      .have q1:(c>120)=False:=eq_false p1;by_cases p0:q>600
       .have q5:(q>600)=True:=eq_true p0;apply sR;simp only[go_sem,seval,t1,t7,t8,t9,q1,q5];exact fin _
       .have q5:(q>600)=False:=eq_false p0;by_cases p2:h'>=1
        .have q2:(h'>=1)=True:=eq_true p2;have q3:(h'=0)=False:=eq_false (by omega);have hq0:=Int.tdiv_nonneg hg0 (by omega:0<=h');have hq1:=Int.tdiv_le_self h' hg0;have r1:Rq .i64 (g.tdiv h'):=ao (by omega) (by omega);by_cases p4:g.tdiv h'>300
         .have q4:(g.tdiv h'>300)=True:=eq_true p4;apply sR;simp only[go_sem,seval,t1,t7,t8,t9,q1,q5,q2,q3,q4,r1];exact fin _
         .have q4:(g.tdiv h'>300)=False:=eq_false p4;apply sR;simp only[go_sem,seval,t1,t7,t8,t9,q1,q5,q2,q3,q4,r1];exact fin _
        .have q2:(h'>=1)=False:=eq_false p2;apply sR;simp only[go_sem,seval,t1,t7,t8,t9,q1,q5,q2];exact fin _
  .have q00:((P.length:Int)>60)=True:=eq_true (by omega);apply sR;simp only[go_sem,seval,c16,US,hlP,q0,q00];exact finT
 .have q0:((l.length:Int)>30)=True:=eq_true (by omega);apply sR;simp only[go_sem,seval,c16,US,q0];exact finT
inductive Tr(α:Type) where
 |e
 |n (l:Tr α) (v:α) (r:Tr α)
def y9:Nat->Nat->List Bool
 |0,_=>[]
 |_+1,0=>[]
 |f+1,k+1=>Nat.beq (Nat.mod k 2) 0::y9 f (Nat.div k 2)
def pathOf(k:Nat):List Bool:=y9 (Nat.succ k) k
def Nw{α:Type}(d:α)(f:Nat):List Bool->Tr α->α:=
 @Nat.rec (λ_=>List Bool->Tr α->α) (λ_ _=>d)
  (λ_ ih p t=>@List.casesOn Bool (λ_=>α) p (@Tr.casesOn α (λ_=>α) t d (λ_ v _=>v))
    (λb p'=>@Tr.casesOn α (λ_=>α) t d (λl _ r=>ih p' (@Bool.casesOn (λ_=>Tr α) b r l)))) f
def lC{α:Type}(d:α)(k:Nat)(t:Tr α):α:=Nw d (Nat.succ k) (pathOf k) t
def NX{α:Type}(d v:α)(f:Nat):List Bool->Tr α->Tr α:=
 @Nat.rec (λ_=>List Bool->Tr α->Tr α) (λ_ t=>t)
  (λ_ ih p t=>@List.casesOn Bool (λ_=>Tr α) p (@Tr.casesOn α (λ_=>Tr α) t (.n .e v .e) (λl _ r=>.n l v r))
    (λb p'=>@Tr.casesOn α (λ_=>Tr α) t (@Bool.casesOn (λ_=>Tr α) b (.n .e d (ih p' .e)) (.n (ih p' .e) d .e))
      (λl u r=>@Bool.casesOn (λ_=>Tr α) b (.n l u (ih p' r)) (.n (ih p' l) u r)))) f
def mo{α:Type}(d v:α)(k:Nat)(t:Tr α):Tr α:=NX d v (Nat.succ k) (pathOf k) t
structure CS where
 s:Tr V
 U:Tr (Option Ob)
 Sj:Nat
def CS.sf(cs:CS):Nat->V:=λi=>lC (.Rf []) i cs.s
def UI(U:Tr (Option Ob)):ai:=λi=>lC none i U
def OT(cs:CS)(d:Nat)(v:V):CS:=⟨mo (.Rf []) v d cs.s,cs.U,cs.Sj⟩
def CS.put(cs:CS)(d:Option Nat)(v:V):CS:=@Option.casesOn Nat (λ_=>CS) d cs (λd=>OT cs d v)
def eqQ:Int->Int->Bool
 |.ofNat m,.ofNat n=>Nat.beq m n
 |.negSucc m,.negSucc n=>Nat.beq m n
 |_,_=>false
def leQ:Int->Int->Bool
 |.ofNat m,.ofNat n=>Nat.ble m n
 |.negSucc _,.ofNat _=>true
 |.negSucc m,.negSucc n=>Nat.ble n m
 |.ofNat _,.negSucc _=>false
def Nq:Int->Int->Int
 |.ofNat m,.ofNat n=>.ofNat (Nat.add m n)
 |a,b=>a+b
def LJ:Int->Int->Int
 |.ofNat m,.ofNat n=>@Bool.casesOn (λ_=>Int) (Nat.ble n m) (.negSucc (Nat.sub (Nat.sub n m) 1)) (.ofNat (Nat.sub m n))
 |a,b=>a-b
def LA:Int->Bool
 |.ofNat m=>Nat.ble m 9223372036854775807
 |.negSucc m=>Nat.ble m 9223372036854775807
def JS(k:IntKind)(n:Int):Bool:=match k with
 |.i64=>LA n
 |k=>decide (k.wrap n=n)
def gI(k:IntKind)(n:Int):Option V:=@Bool.casesOn (λ_=>Option V) (JS k n) none (some (.int k n))
def eqK(k k':IntKind):Bool:=decide (k=k')
def Lz:IntKind->Bool
 |.i64=>true
 |_=>false
structure FI where
 f:IntKind->Int->Int->Option V
def oW(op:BinOp):FI:=
 match op with
 |.add=>⟨λk a b=>gI k (Nq a b)⟩
 |.sub=>⟨λk a b=>gI k (LJ a b)⟩
 |.mul=>⟨λk a b=>gI k (a*b)⟩
 |.quo=>⟨λk a b=>if b=0 then none else gI k (a.tdiv b)⟩
 |.rem=>⟨λk a b=>if b=0 then none else some (.int k (a.tmod b))⟩
 |.eql=>⟨λ_ a b=>some (.bool (eqQ a b))⟩
 |.neq=>⟨λ_ a b=>some (.bool (not (eqQ a b)))⟩
 |.lss=>⟨λ_ a b=>some (.bool (not (leQ b a)))⟩
 |.leq=>⟨λ_ a b=>some (.bool (leQ a b))⟩
 |.gtr=>⟨λ_ a b=>some (.bool (not (leQ a b)))⟩
 |.geq=>⟨λ_ a b=>some (.bool (leQ b a))⟩
 |.and=>⟨λk a b=>cQ .and k a b⟩
 |.or=>⟨λk a b=>cQ .or k a b⟩
 |.shl=>⟨λk a b=>cQ .shl k a b⟩
 |.shr=>⟨λk a b=>cQ .shr k a b⟩
 |_=>⟨λ_ _ _=>none⟩
def wI(op:BinOp)(a b:List UInt8):Option V:=
 match op with
 |.add=>@Bool.casesOn (λ_=>Option V) (Nat.ble (a.length+b.length) 9223372036854775807) none (some (.str (a++b)))
 |.eql=>some (.bool (decide (a=b)))
 |.neq=>some (.bool (decide (a≠b)))
 |_=>none
def EV(k k':IntKind):Bool:=@Bool.casesOn (λ_=>Bool) (Lz k) (eqK k k') (Lz k')
def NT(k:IntKind)(a:Int)(g:IntKind->Int->Int->Option V):V->Option V
 |.int k' b=>@Bool.casesOn (λ_=>Option V) (EV k k') none (g k a b)
 |_=>none
def Nv(op:BinOp)(a:List UInt8):V->Option V
 |.str b=>wI op a b
 |_=>none
def Hs(op:BinOp)(g:IntKind->Int->Int->Option V)(y:V):V->Option V
 |.int k a=>NT k a g y
 |.str a=>Nv op a y
 |_=>none
def No:V->Option V
 |.int k a=>gI k (0-a)
 |_=>none
def Im(k:IntKind):V->Option V
 |.int _ a=>gI k a
 |_=>none
def M4:V->Option V
 |.bool b=>some (.bool (!b))
 |_=>none
def Io(a b:V):V->Option V
 |.bool t=>some (@Bool.casesOn (λ_=>V) t b a)
 |_=>none
def zN:Int->Option Nat
 |.ofNat m=>some m
 |_=>none
def Ma(U:Tr (Option Ob))(Sy:Nat)(x i:V):Option V:=
 match x,i with
 |.own id off len,.int _ j=>match zN j with
  |some m=>match lC none id U with
   |some ob=>@Bool.casesOn (λ_=>Option V) (Nat.beq ob.sz Sy&&Nat.blt m len) none (some (.ptr id (Nat.add off m) 0))
   |none=>none
  |none=>none
 |.sl sz rows,.int _ j=>match zN j with
  |some m=>@Bool.casesOn (λ_=>Option V) (Nat.beq sz Sy) none (match rows[m]? with
   |some r=>some (.rp r)
   |none=>none)
  |none=>none
 |_,_=>none
def EO(U:Tr (Option Ob))(agg:Bool)(sz:Nat)(x:V):Option V:=
 match x with
 |.ptr id i k=>match lC none id U with
  |some ob=>match ob.rows[i]? with
   |some r=>match agg with
    |true=>@Bool.casesOn (λ_=>Option V) (Nat.beq k 0&&Nat.beq r.cells.length sz)
       (@Bool.casesOn (λ_=>Option V) (Nat.ble (Nat.add k sz) r.cells.length) none (some (.agg ((r.cells.drop k).take sz)))) (some (.agg r.cells))
    |false=>r.cells[k]?
   |none=>none
  |none=>none
 |x=>bS (UI U) agg sz x
def EM:V->V->Option V
 |.str s,.int _ j=>match zN j with
  |some m=>match s[m]? with
   |some b=>some (.int .u8 (Int.ofNat b.toNat))
   |none=>none
  |none=>none
 |_,_=>none
structure Mk where
 var:Bool
 len:Nat
 gone:Option Nat
 ob:Ob
def MV(e sz:Nat)(x:V):Option Mk:=@Bool.casesOn (λ_=>Option Mk) (Nat.beq x.cells.length sz&&x.stays) none (some ⟨true,0,none,⟨e,sz,[x]⟩⟩)
def Ct(e sz:Nat)(xs:List V):Option Mk:=@Bool.casesOn (λ_=>Option Mk) (xs.all λx=>Nat.beq x.cells.length sz&&x.stays) none (some ⟨false,xs.length,none,⟨e,sz,xs⟩⟩)
def mkQ(e sz bytes:Nat)(z:V):V->Option Mk
 |.int k m=>match k with
  |.i64=>match zN m with
   |some j=>@Bool.casesOn (λ_=>Option Mk) (Nat.ble (j*(bytes+1)) 140737488355328) none (some ⟨false,j,none,⟨e,sz,List.replicate j z⟩⟩)
   |none=>none
  |_=>none
 |_=>none
def BT(U:Tr (Option Ob))(e sz bytes:Nat)(a b:V):Option Mk:=match cg (UI U) e sz a,bR (UI U) sz b with
 |some (base,Rr),some src=>@Bool.casesOn (λ_=>Option Mk) (Nat.ble ((base.length+src.length)*(bytes+1)) 140737488355328) none (some ⟨false,base.length+src.length,Rr,⟨e,sz,base++src⟩⟩)
 |_,_=>none
def xC(fl:Nat)(dst:Option Nat)(cs:CS)(m:Mk):Option CS:=
 match m.gone with
 |none=>some (CS.put ⟨cs.s,mo none (some m.ob) cs.Sj cs.U,Nat.succ cs.Sj⟩ dst (@Bool.casesOn (λ_=>V) m.var (.own cs.Sj 0 m.len) (.ptr cs.Sj 0 0)))
 |some d=>@Bool.casesOn (λ_=>Option CS) (Nat.ble fl d) none
    (some (CS.put ⟨cs.s,mo none (some m.ob) cs.Sj (mo none none d cs.U),Nat.succ cs.Sj⟩ dst (@Bool.casesOn (λ_=>V) m.var (.own cs.Sj 0 m.len) (.ptr cs.Sj 0 0))))
inductive Out where
 |nx (cs:CS)
 |ex (id:Nat) (cs:CS)
 |rt (cs:CS)
 |bad
structure Rs where
 v:V
 U:Tr (Option Ob)
 Sj:Nat
def lT:=FuncId->List V->Tr (Option Ob)->Nat->Nat->Option Rs
structure BI where
 f:lT->Nat->CS->Option CS
def jC(dst:Option Nat)(g:CS->Option V):BI:=⟨λ_ _ cs=>match g cs with
 |some v=>some (cs.put dst v)
 |none=>none⟩
def Nr(dst:Option Nat)(x:VX):BI:=⟨λ_ _ cs=>some (cs.put dst (x.ev cs.sf))⟩
def AL(dst:Option Nat)(g:CS->Option Mk):BI:=⟨λ_ fl cs=>match g cs with
 |some m=>xC fl dst cs m
 |none=>none⟩
def A5(dst:Option Nat)(cs:CS):Option Rs->Option CS
 |some r=>some (CS.put ⟨cs.s,r.U,r.Sj⟩ dst r.v)
 |none=>none
def wg(dst:Option Nat)(cs:CS):Option Rs->Option CS
 |some r=>@Bool.casesOn (λ_=>Option CS) r.v.eH none (some (cs.put dst r.v))
 |none=>none
def Ej(draw:Bool)(dst:Option Nat)(fx:VX)(xs:List VX):BI:=match draw with
 |true=>⟨λcall _ cs=>match fx.ev cs.sf with
  |.fn f caps=>wg dst cs (call f (xs.map (·.ev cs.sf)++caps) cs.U cs.Sj cs.Sj)
  |_=>none⟩
 |false=>⟨λcall fl cs=>match fx.ev cs.sf with
  |.fn f caps=>A5 dst cs (call f (xs.map (·.ev cs.sf)++caps) cs.U cs.Sj fl)
  |_=>none⟩
def BR(dst:Option Nat)(fl sz:Nat)(xv:V)(cs:CS):V->Option CS
 |.ptr id i0 c=>@Bool.casesOn (λ_=>Option CS) (Nat.ble fl id) none (match lC none id cs.U with
  |some ob=>match ob.rows[i0]? with
   |some r=>match ck r c sz xv with
    |some r'=>some (CS.put ⟨cs.s,mo none (some ⟨ob.elem,ob.sz,ob.rows.set i0 r'⟩) id cs.U,cs.Sj⟩ dst (.Rf []))
    |none=>none
   |none=>none
  |none=>none)
 |_=>none
def AS(dst:Option Nat)(sz:Nat)(xa xv:VX):BI:=⟨λ_ fl cs=>BR dst fl sz (xv.ev cs.sf) cs (xa.ev cs.sf)⟩
def BC(dst:Option Nat)(fl sz:Nat)(z:V)(cs:CS):V->Option CS
 |.own id off len=>@Bool.casesOn (λ_=>Option CS) (Nat.ble fl id) none (match lC none id cs.U with
  |some ob=>@Bool.casesOn (λ_=>Option CS) (Nat.beq ob.sz sz&&Nat.ble (off+len) ob.rows.length) none
     (some (CS.put ⟨cs.s,mo none (some ⟨ob.elem,ob.sz,ob.rows.take off++List.replicate len z++ob.rows.drop (off+len)⟩) id cs.U,cs.Sj⟩ dst (.Rf [])))
  |none=>none)
 |_=>none
def Ar(draw:Bool)(dst:Option Nat)(sz:Nat)(z:V)(xv:VX):BI:=match draw with
 |true=>⟨λ_ _ _=>none⟩
 |false=>⟨λ_ fl cs=>BC dst fl sz z cs (xv.ev cs.sf)⟩
def jZ(draw:Bool)(dst:Option Nat)(op:Rt):BI:=match op with
 |.Rn x=>Nr dst x
 |.pick c a b=>jC dst λcs=>Io (a.ev cs.sf) (b.ev cs.sf) (c.ev cs.sf)
 |.bin op x y=>@FI.casesOn (λ_=>BI) (oW op) λg=>jC dst λcs=>Hs op g (y.ev cs.sf) (x.ev cs.sf)
 |.not x=>jC dst λcs=>M4 (x.ev cs.sf)
 |.neg x=>jC dst λcs=>No (x.ev cs.sf)
 |.UO k x=>jC dst λcs=>Im k (x.ev cs.sf)
 |.T9 Sy x i=>jC dst λcs=>Ma cs.U Sy (x.ev cs.sf) (i.ev cs.sf)
 |.YS x i=>jC dst λcs=>EM (x.ev cs.sf) (i.ev cs.sf)
 |.load agg sz x=>jC dst λcs=>EO cs.U agg sz (x.ev cs.sf)
 |.box e sz x=>AL dst λcs=>MV e sz (x.ev cs.sf)
 |.alloc e sz z=>AL dst λ_=>some ⟨true,0,none,⟨e,sz,[z]⟩⟩
 |.bp e sz xs=>AL dst λcs=>Ct e sz (xs.map (·.ev cs.sf))
 |.mk e sz bytes z x=>AL dst λcs=>mkQ e sz bytes z (x.ev cs.sf)
 |.append e sz bytes a b=>AL dst λcs=>BT cs.U e sz bytes (a.ev cs.sf) (b.ev cs.sf)
 |.call f xs=>Ej draw dst f xs
 |.store sz a x=>AS dst sz a x
 |.clear sz z x=>Ar draw dst sz z x
 |op=>jC dst λcs=>aL (UI cs.U) cs.sf op
def Fe(dst:Option Nat)(b:Bool)(B:BI)(call:lT)(fl:Nat)(cs:CS):V->Option CS
 |.bool c=>@Bool.casesOn (λ_=>Option CS) (Bool.xor c b) (B.f call fl cs) (some (cs.put dst (.Rf [])))
 |.Rf []=>some (cs.put dst (.Rf []))
 |.int _ _=>some (cs.put dst (.Rf []))
 |_=>none
def qU(draw:Bool)(i:aN):BI:=match i.g with
 |none=>jZ draw i.dst i.op
 |some (x,b)=>⟨λcall fl cs=>Fe i.dst b (jZ draw i.dst i.op) call fl cs (x.ev cs.sf)⟩
def l7(draw:Bool)(call:lT)(fl m:Nat):List aN->CS->Out:=
 @Nat.rec (λ_=>List aN->CS->Out) (λ_ _=>.bad)
  (λ_ ih l cs=>@List.casesOn aN (λ_=>Out) l (.nx cs)
    (λi l'=>@BI.casesOn (λ_=>Out) (qU draw i) λf=>@Option.casesOn CS (λ_=>Out) (f call fl cs) .bad (ih l'))) m
def D0(draw:Bool)(call:lT)(fl:Nat)(l:List aN)(cs:CS):Out:=l7 draw call fl 1000 l cs
def Tr.ofL:List V->Nat->Tr V->Tr V
 |[],_,t=>t
 |v::l,k,t=>Tr.ofL l (Nat.succ k) (mo (.Rf []) v k t)
def HZ(res:List VR)(cs:CS):Option Rs:=match mW ⟨cs.sf,UI cs.U⟩ res with
 |some v=>some ⟨v,cs.U,cs.Sj⟩
 |none=>none
def N5(res:List VR):Out->Option Rs
 |.nx cs=>HZ res cs
 |.rt cs=>HZ res cs
 |_=>none
def evF(run:Nat->bJ->CS->Out)(code:FuncId->Option Rc):lT:=λf args U Sj fl=>match code f with
 |none=>none
 |some vf=>@Bool.casesOn (λ_=>Option Rs) (Nat.ble args.length vf.n) none (N5 vf.res (run fl vf.code ⟨Tr.ofL args 0 .e,U,Sj⟩))
def DF(o:Out)(k:CS->Out):Out:=@Out.casesOn (λ_=>Out) o k (λid cs=>.ex id cs) (λcs=>.rt cs) .bad
def Mj(id:Nat)(o:Out):Out:=@Out.casesOn (λ_=>Out) o (λcs=>.nx cs) (λj cs=>@Bool.casesOn (λ_=>Out) (Nat.beq j id) (.ex j cs) (.nx cs)) (λcs=>.rt cs) .bad
def onB(v:V)(a b:Out):Out:=match v with
 |.bool c=>@Bool.casesOn (λ_=>Out) c b a
 |_=>.bad
def V6(code:FuncId->Option Rc)(fuel:Nat):Nat->bJ->CS->Out:=
 @Nat.rec (λ_=>Nat->bJ->CS->Out) (λ_ _ _=>.bad)
  (λ_ ih fl c cs=>match c with
    |.skip=>.nx cs
    |.RR draw l=>D0 draw (evF ih code) fl l cs
    |.seq a b=>DF (ih fl a cs) λSz=>ih fl b Sz
    |.cond c a b=>onB (c.ev cs.sf) (ih fl a cs) (ih fl b cs)
    |.block id a=>Mj id (ih fl a cs)
    |.loop a=>DF (ih fl a cs) λSz=>ih fl (.loop a) Sz
    |.exit id=>.ex id cs
    |.ret=>.rt cs
    |.cX ..=>.bad
    |.Ss ..=>.bad
    |.pW ..=>.bad
    |.bad=>.bad) fuel
def gL{α:Type}(d:α):List Bool->Tr α->α
 |_,.e=>d
 |[],.n _ v _=>v
 |b::p,.n l _ r=>gL d p (if b then l else r)
def sL{α:Type}(d v:α):List Bool->Tr α->Tr α
 |[],.e=>.n .e v .e
 |[],.n l _ r=>.n l v r
 |b::p,.e=>if b then .n (sL d v p .e) d .e else .n .e d (sL d v p .e)
 |b::p,.n l u r=>if b then .n (sL d v p l) u r else .n l u (sL d v p r)
def rX{α:Type}(d:α):∀(f:Nat) (p:List Bool) (t:Tr α),p.length<f->Nw d f p t=gL d p t
 |0,_,_,h=>by omega
 |f+1,[],t,_=>by cases t<;>rfl
 |f+1,b::p,t,h=>by
  cases t with
  |e=>rfl
  |n l u r=>
   have ih:=rX d f p (if b then l else r) (by simpa using h);cases b<;>exact ih
def wD{α:Type}(d v:α):∀(f:Nat) (p:List Bool) (t:Tr α),p.length<f->NX d v f p t=sL d v p t
 |0,_,_,h=>by omega
 |f+1,[],t,_=>by cases t<;>rfl
 |f+1,b::p,t,h=>by
  have h':p.length<f:=by simpa using h
  cases t with
  |e=>cases b<;>simp only[sL,Bool.false_eq_true,if_false,if_true]<;>rw[<-wD d v f p _ h']<;>rfl
  |n l u r=>cases b<;>simp only[sL,Bool.false_eq_true,if_false,if_true]<;>rw[<-wD d v f p _ h']<;>rfl
def L4{α:Type}(d:α)(p:List Bool):gL d p .e=d:=by cases p<;>rfl
def BV{α:Type}(d v:α):∀(p q:List Bool) (t:Tr α),gL d q (sL d v p t)=if q=p then v else gL d q t
 |[],[],t=>by cases t<;>simp[sL,gL]
 |[],b::q,t=>by cases t<;>simp[sL,gL,L4]
 |a::p,[],t=>by cases t<;>cases a<;>simp[sL,gL]
 |a::p,b::q,t=>by
  cases t with
  |e=>
   have ih:=BV d v p q .e;cases a<;>cases b<;>simp[sL,gL,L4,ih]
  |n l u r=>
   have ihl:=BV d v p q l;have ihr:=BV d v p q r;cases a<;>cases b<;>simp[sL,gL,ihl,ihr]
def wX:List Bool->Nat
 |[]=>0
 |b::p=>2*wX p+(if b then 1 else 2)
def mK:∀(f k:Nat),k<f->wX (y9 f k)=k
 |0,_,h=>by omega
 |f+1,0,_=>rfl
 |f+1,k+1,h=>by
  have ih:=mK f (k/2) (by omega);have ih':wX (y9 f (k.div 2))=k/2:=ih;simp only[y9,wX,ih'];have h1:Nat.mod k 2=k%2:=rfl;by_cases hk:k%2=0
  .have:Nat.beq (Nat.mod k 2) 0=true:=by rw[h1,hk];rfl
   simp only[this,if_true];omega
  .have TH:k%2=1:=by omega
   have:Nat.beq (Nat.mod k 2) 0=false:=by rw[h1,TH];rfl
   simp only[this,Bool.false_eq_true,if_false];omega
def NW:∀p:List Bool,p.length<=wX p
 |[]=>Nat.le_refl _
 |b::p=>by have:=NW p;simp only[List.length_cons,wX];split<;>omega
def ln(k:Nat):(pathOf k).length<k.succ:=by
 have h1:=NW (pathOf k);have h2:wX (pathOf k)=k:=mK (k+1) k (by omega);omega
def AJ{i k:Nat}(h:pathOf i=pathOf k):i=k:=by
 have h1:wX (pathOf i)=i:=mK (i+1) i (by omega);have h2:wX (pathOf k)=k:=mK (k+1) k (by omega);rw[<-h1,<-h2,h]
def oD{α:Type}(d v:α)(i k:Nat)(t:Tr α):lC d i (mo d v k t)=if i=k then v else lC d i t:=by
 unfold lC mo;rw[rX _ _ _ _ (ln i),rX _ _ _ _ (ln i),wD _ _ _ _ _ (ln k),BV];by_cases h:i=k
 .simp[h]
 .rw[if_neg h,if_neg (λe=>h (AJ e))]
def Ms{α:Type}(d:α)(i:Nat):lC d i .e=d:=by
 unfold lC;rw[rX _ _ _ _ (ln i),L4]
def L6(cs:CS)(d:Option Nat)(v:V):(cs.put d v).sf=aX cs.sf d v:=by
 funext i;cases d with
 |none=>rfl
 |some d=>show lC _ i (mo _ v d cs.s)=_;rw[oD];rfl
def Fk(cs:CS)(d:Option Nat)(v:V):(cs.put d v).U=cs.U/\(cs.put d v).Sj=cs.Sj:=by cases d<;>exact⟨rfl,rfl⟩
def rY(U:Tr (Option Ob))(k:Nat)(o:Ob):UI (mo none (some o) k U)=C' (UI U) k o:=by
 funext i;show lC none i _=_;rw[oD];rfl
def HO(U:Tr (Option Ob))(k:Nat):UI (mo none none k U)=del (UI U) k:=by
 funext i;show lC none i _=_;rw[oD];rfl
mutual
def aF(R:Nat->Nat->Prop):V->V->Prop
 |.own id off len,u=>∃Ta,u=.own Ta off len/\R id Ta
 |.ptr id i k,u=>∃Ta,u=.ptr Ta i k/\R id Ta
 |.sl sz rows,u=>∃Rd,u=.sl sz Rd/\aS R rows Rd
 |.rp v,u=>∃v',u=.rp v'/\aF R v v'
 |.fn f caps,u=>∃Vd,u=.fn f Vd/\aS R caps Vd
 |.bm f caps,u=>∃Vd,u=.bm f Vd/\aS R caps Vd
 |.iface t v,u=>∃v',u=.iface t v'/\aF R v v'
 |.agg c,u=>∃c',u=.agg c'/\aS R c c'
 |.Rf c,u=>∃c',u=.Rf c'/\aS R c c'
 |.undef,u=>u=.undef
 |.int k n,u=>u=.int k n
 |.bool b,u=>u=.bool b
 |.str s,u=>u=.str s
 |.aC,u=>u=.aC
 |.RQ,u=>u=.RQ
 |.Rv,u=>u=.Rv
 |.RW,u=>u=.RW
 |.raw v,u=>u=.raw v
 |.obj v,u=>u=.obj v
 |.gp v,u=>u=.gp v
 |.yl v,u=>∃Ta,u=.yl Ta/\R v Ta
 |.mp v,u=>u=.mp v
def aS(R:Nat->Nat->Prop):List V->List V->Prop
 |[],l=>l=[]
 |v::vs,l=>∃u us,l=u::us/\aF R v u/\aS R vs us
end
section
variable {R R':Nat->Nat->Prop}
mutual
def aF.mono(h:∀a b,R a b->R' a b):∀(v u:V),aF R v u->aF R' v u
 |.own id off len,u,g=>by simp only[aF]at g|-;obtain⟨i,e,r⟩:=g;exact⟨i,e,h _ _ r⟩
 |.ptr id i k,u,g=>by simp only[aF]at g|-;obtain⟨i,e,r⟩:=g;exact⟨i,e,h _ _ r⟩
 |.sl sz rows,u,g=>by simp only[aF]at g|-;obtain⟨i,e,r⟩:=g;exact⟨i,e,aS.mono h _ _ r⟩
 |.rp v,u,g=>by simp only[aF]at g|-;obtain⟨i,e,r⟩:=g;exact⟨i,e,aF.mono h _ _ r⟩
 |.fn f caps,u,g=>by simp only[aF]at g|-;obtain⟨i,e,r⟩:=g;exact⟨i,e,aS.mono h _ _ r⟩
 |.bm f caps,u,g=>by simp only[aF]at g|-;obtain⟨i,e,r⟩:=g;exact⟨i,e,aS.mono h _ _ r⟩
 |.iface t v,u,g=>by simp only[aF]at g|-;obtain⟨i,e,r⟩:=g;exact⟨i,e,aF.mono h _ _ r⟩
 |.agg c,u,g=>by simp only[aF]at g|-;obtain⟨i,e,r⟩:=g;exact⟨i,e,aS.mono h _ _ r⟩
 |.Rf c,u,g=>by simp only[aF]at g|-;obtain⟨i,e,r⟩:=g;exact⟨i,e,aS.mono h _ _ r⟩
 |.undef,u,g=>by simpa[aF]using g
 |.int k n,u,g=>by simpa[aF]using g
 |.bool b,u,g=>by simpa[aF]using g
 |.str s,u,g=>by simpa[aF]using g
 |.aC,u,g=>by simpa[aF]using g
 |.RQ,u,g=>by simpa[aF]using g
 |.Rv,u,g=>by simpa[aF]using g
 |.RW,u,g=>by simpa[aF]using g
 |.raw v,u,g=>by simpa[aF]using g
 |.obj v,u,g=>by simpa[aF]using g
 |.gp v,u,g=>by simpa[aF]using g
 |.yl v,u,g=>by simp only[aF]at g|-;obtain⟨i,e,r⟩:=g;exact⟨i,e,h _ _ r⟩
 |.mp v,u,g=>by simpa[aF]using g
def aS.mono(h:∀a b,R a b->R' a b):∀(v u:List V),aS R v u->aS R' v u
 |[],u,g=>by simpa[aS]using g
 |v::vs,u,g=>by
  simp only[aS]at g|-;obtain⟨a,as1,e,r,rs⟩:=g;exact⟨a,as1,e,aF.mono h _ _ r,aS.mono h _ _ rs⟩
end
mutual
def eV:∀(v:V),v.eH=true->aF R v v
 |.own ..,g=>by simp[V.eH]at g
 |.ptr ..,g=>by simp[V.eH]at g
 |.sl sz rows,g=>by simp only[V.eH]at g;simp only[aF];exact⟨rows,rfl,gd rows g⟩
 |.rp v,g=>by simp only[V.eH]at g;simp only[aF];exact⟨v,rfl,eV v g⟩
 |.fn f caps,g=>by simp only[V.eH]at g;simp only[aF];exact⟨caps,rfl,gd caps g⟩
 |.bm f caps,g=>by simp only[V.eH]at g;simp only[aF];exact⟨caps,rfl,gd caps g⟩
 |.iface t v,g=>by simp only[V.eH]at g;simp only[aF];exact⟨v,rfl,eV v g⟩
 |.agg c,g=>by simp only[V.eH]at g;simp only[aF];exact⟨c,rfl,gd c g⟩
 |.Rf c,g=>by simp only[V.eH]at g;simp only[aF];exact⟨c,rfl,gd c g⟩
 |.undef,_=>by simp[aF]
 |.int k n,_=>by simp[aF]
 |.bool b,_=>by simp[aF]
 |.str s,_=>by simp[aF]
 |.aC,_=>by simp[aF]
 |.RQ,_=>by simp[aF]
 |.Rv,_=>by simp[aF]
 |.RW,_=>by simp[aF]
 |.raw v,_=>by simp[aF]
 |.obj v,_=>by simp[aF]
 |.gp v,_=>by simp[aF]
 |.yl v,g=>by simp[V.eH]at g
 |.mp v,_=>by simp[aF]
def gd:∀(l:List V),gq l=true->aS R l l
 |[],_=>by simp[aS]
 |v::vs,g=>by
  simp only[gq,Ba]at g;simp only[aS];exact⟨v,vs,rfl,eV v g.1,gd vs g.2⟩
end
mutual
def nY:∀(v u:V),v.eH=true->aF R v u->u=v
 |.own ..,_,g,_=>by simp[V.eH]at g
 |.ptr ..,_,g,_=>by simp[V.eH]at g
 |.sl sz rows,u,g,h=>by simp only[V.eH]at g;simp only[aF]at h;obtain⟨r,rfl,h⟩:=h;rw[kF rows r g h]
 |.rp v,u,g,h=>by simp only[V.eH]at g;simp only[aF]at h;obtain⟨r,rfl,h⟩:=h;rw[nY v r g h]
 |.fn f caps,u,g,h=>by simp only[V.eH]at g;simp only[aF]at h;obtain⟨r,rfl,h⟩:=h;rw[kF caps r g h]
 |.bm f caps,u,g,h=>by simp only[V.eH]at g;simp only[aF]at h;obtain⟨r,rfl,h⟩:=h;rw[kF caps r g h]
 |.iface t v,u,g,h=>by simp only[V.eH]at g;simp only[aF]at h;obtain⟨r,rfl,h⟩:=h;rw[nY v r g h]
 |.agg c,u,g,h=>by simp only[V.eH]at g;simp only[aF]at h;obtain⟨r,rfl,h⟩:=h;rw[kF c r g h]
 |.Rf c,u,g,h=>by simp only[V.eH]at g;simp only[aF]at h;obtain⟨r,rfl,h⟩:=h;rw[kF c r g h]
 |.undef,u,_,h=>by simpa[aF]using h
 |.int k n,u,_,h=>by simpa[aF]using h
 |.bool b,u,_,h=>by simpa[aF]using h
 |.str s,u,_,h=>by simpa[aF]using h
 |.aC,u,_,h=>by simpa[aF]using h
 |.RQ,u,_,h=>by simpa[aF]using h
 |.Rv,u,_,h=>by simpa[aF]using h
 |.RW,u,_,h=>by simpa[aF]using h
 |.raw v,u,_,h=>by simpa[aF]using h
 |.obj v,u,_,h=>by simpa[aF]using h
 |.gp v,u,_,h=>by simpa[aF]using h
 |.yl v,_,g,_=>by simp[V.eH]at g
 |.mp v,u,_,h=>by simpa[aF]using h
def kF:∀(l m:List V),gq l=true->aS R l m->m=l
 |[],m,_,h=>by simpa[aS]using h
 |v::vs,m,g,h=>by
  simp only[gq,Ba]at g;simp only[aS]at h;obtain⟨u,us,rfl,h1,h2⟩:=h;rw[nY v u g.1 h1,kF vs us g.2 h2]
end
def aS.iI{l:List V}:aS R [] l↔l=[]:=by simp[aS]
def aS.cB{v:V}{vs l:List V}:aS R (v::vs) l↔∃u us,l=u::us/\aF R v u/\aS R vs us:=by simp[aS]
def aS.length:∀{l m:List V},aS R l m->m.length=l.length
 |[],_,h=>by rw[aS.iI]at h;simp[h]
 |v::vs,_,h=>by obtain⟨u,us,rfl,_,h2⟩:=aS.cB.1 h;simp[h2.length]
def aS.get:∀{l m:List V},aS R l m->∀{i:Nat} {v:V},l[i]?=some v->∃u,m[i]?=some u/\aF R v u
 |[],_,_,i,v,hv=>by simp at hv
 |v::vs,_,h,i,x,hv=>by
  obtain⟨u,us,rfl,h1,h2⟩:=aS.cB.1 h;cases i with
  |zero=>simp at hv;subst hv;exact⟨u,by simp,h1⟩
  |succ i=>simp at hv;simpa using h2.get hv
def aS.append:∀{l m l' m':List V},aS R l m->aS R l' m'->aS R (l++l') (m++m')
 |[],_,_,_,h,h'=>by rw[aS.iI]at h;subst h;simpa using h'
 |v::vs,_,_,_,h,h'=>by
  obtain⟨u,us,rfl,h1,h2⟩:=aS.cB.1 h;exact aS.cB.2 ⟨u,us++_,by simp,h1,h2.append h'⟩
def aS.take:∀{l m:List V},aS R l m->∀i,aS R (l.take i) (m.take i)
 |[],_,h,i=>by rw[aS.iI]at h;subst h;simp[aS]
 |v::vs,_,h,i=>by
  obtain⟨u,us,rfl,h1,h2⟩:=aS.cB.1 h;cases i with
  |zero=>simp[aS]
  |succ i=>exact aS.cB.2 ⟨u,us.take i,by simp,h1,h2.take i⟩
def aS.drop:∀{l m:List V},aS R l m->∀i,aS R (l.drop i) (m.drop i)
 |[],_,h,i=>by rw[aS.iI]at h;subst h;simp[aS]
 |v::vs,_,h,i=>by
  obtain⟨u,us,rfl,h1,h2⟩:=aS.cB.1 h;cases i with
  |zero=>exact aS.cB.2 ⟨u,us,by simp,h1,h2⟩
  |succ i=>simpa using h2.drop i
def aS.set:∀{l m:List V},aS R l m->∀(i:Nat) {v u:V},aF R v u->aS R (l.set i v) (m.set i u)
 |[],_,h,i,_,_,_=>by rw[aS.iI]at h;subst h;simp[aS]
 |v::vs,_,h,i,x,y,hx=>by
  obtain⟨u,us,rfl,h1,h2⟩:=aS.cB.1 h;cases i with
  |zero=>exact aS.cB.2 ⟨y,us,by simp,hx,h2⟩
  |succ i=>exact aS.cB.2 ⟨u,us.set i y,by simp,h1,h2.set i hx⟩
def aS.replicate{v u:V}(h:aF R v u):∀n,aS R (List.replicate n v) (List.replicate n u)
 |0=>by simp[aS]
 |n+1=>aS.cB.2 ⟨u,List.replicate n u,by simp[List.replicate_succ],h,aS.replicate h n⟩
def aS.one{v u:V}(h:aF R v u):aS R [v] [u]:=aS.cB.2 ⟨u,[],rfl,h,by simp[aS]⟩
def aF.j9{k:IntKind}{n:Int}{u:V}:aF R (.int k n) u↔u=.int k n:=by simp[aF]
def aF.mj{b:Bool}{u:V}:aF R (.bool b) u↔u=.bool b:=by simp[aF]
def aF.rM{b:List UInt8}{u:V}:aF R (.str b) u↔u=.str b:=by simp[aF]
def aF.o9{b:List V}{u:V}:aF R (.agg b) u↔∃c,u=.agg c/\aS R b c:=by simp[aF]
def aF.agg{l m:List V}(h:aS R l m):aF R (.agg l) (.agg m):=aF.o9.2 ⟨m,rfl,h⟩
def aF.rp{l m:V}(h:aF R l m):aF R (.rp l) (.rp m):=by simp only[aF];exact⟨m,rfl,h⟩
def aF.cells{v u:V}(h:aF R v u):aS R v.cells u.cells:=by
 cases v<;>simp only[aF]at h
 case agg c=>obtain⟨c',rfl,h⟩:=h;simpa[V.cells]using h
 all_goals first
  |(subst h;exact aS.one (by simp[aF]))
  |(obtain⟨c,rfl,h⟩:=h;exact aS.one (by simp only[aF];exact⟨_,rfl,h⟩))
def aF.stays{v u:V}(h:aF R v u):u.stays=v.stays:=by
 cases v<;>simp only[aF]at h<;>first
  |(subst h;rfl)
  |(obtain⟨c,rfl,h⟩:=h;rfl)
end
def Lv(R:Nat->Nat->Prop)(Zc U:ai):Prop:=∀c a o,R c a->Zc c=some o->∃Rd,U a=some ⟨o.elem,o.sz,Rd⟩/\aS R o.rows Rd
def Lv.sup{R:Nat->Nat->Prop}{Zc U Z1:ai}(h:Lv R Zc U)(hs:aa U Z1):Lv R Zc Z1:=λc a o hc ho=>by
 obtain⟨Rd,h1,h2⟩:=h c a o hc ho;exact⟨Rd,hs _ _ h1,h2⟩
structure nL(K:ai)(fl:Nat)(R:Nat->Nat->Prop)(Zc:ai)(Sj:Nat)(U:ai):Prop where
 dom:∀c a,R c a->c<Sj
 live:Lv R Zc U
 inj:∀c c' a o o',R c a->R c' a->Zc c=some o->Zc c'=some o'->c=c'
 fn:∀c a a',R c a->R c a'->a=a'
 mB:aa K U
 kfl:∀a o c oc,K a=some o->R c a->Zc c=some oc->c<fl
section
variable {R:Nat->Nat->Prop} {K Zc U:ai} {fl Sj:Nat}
def nL.write(h:nL K fl R Zc Sj U){c a:Nat}{o:Ob}(hc:R c a)(ho:Zc c=some o)(hf:fl<=c){rows Rd:List V}(hr:aS R rows Rd):
 nL K fl R (C' Zc c ⟨o.elem,o.sz,rows⟩) Sj (C' U a ⟨o.elem,o.sz,Rd⟩):=by
 have Ux:∀i x,C' Zc c ⟨o.elem,o.sz,rows⟩ i=some x->∃y,Zc i=some y:=λi x hx=>by
  by_cases e:i=c
  .rw[e];exact⟨o,ho⟩
  .rw[ab e]at hx;exact⟨x,hx⟩
 refine⟨h.dom,?_,?_,?_,?_,?_⟩
 .intro c1 a1 o1 h1 h2;by_cases e:c1=c
  .subst e;have:a1=a:=h.fn c1 a1 a h1 hc;subst this;rw[ag]at h2;simp only[Oi]at h2;subst h2;exact⟨Rd,ag,hr⟩
  .rw[ab e]at h2;have RK:a1≠a:=λe'=>by subst e';exact e (h.inj c1 c a1 o1 o h1 hc h2 ho)
   rw[ab RK];exact h.live c1 a1 o1 h1 h2
 .intro c1 c2 a1 o1 o2 h1 h2 h3 h4;obtain⟨y,hy⟩:=Ux _ _ h3;obtain⟨z,hz⟩:=Ux _ _ h4;exact h.inj c1 c2 a1 y z h1 h2 hy hz
 .exact h.fn
 .intro i x hx;have RK:i≠a:=λe=>by subst e;have:=h.kfl i x c o hx hc ho;omega
  rw[ab RK];exact h.mB i x hx
 .intro a1 o1 c1 oc h1 h2 h3;obtain⟨y,hy⟩:=Ux _ _ h3;exact h.kfl a1 o1 c1 y h1 h2 hy
def nL.rem(h:nL K fl R Zc Sj U){c a:Nat}{o:Ob}(hc:R c a)(ho:Zc c=some o)(hf:fl<=c):
 nL K fl R (del Zc c) Sj (del U a):=by
 have Ux:∀i x,del Zc c i=some x->i≠c/\Zc i=some x:=λi x hx=>by
  by_cases e:i=c
  .subst e;simp[Vc.del]at hx
  .rw[dO e]at hx;exact⟨e,hx⟩
 refine⟨h.dom,?_,?_,?_,?_,?_⟩
 .intro c1 a1 o1 h1 h2;obtain⟨e,h2⟩:=Ux _ _ h2;have RK:a1≠a:=λe'=>by subst e';exact e (h.inj c1 c a1 o1 o h1 hc h2 ho)
  rw[dO RK];exact h.live c1 a1 o1 h1 h2
 .intro c1 c2 a1 o1 o2 h1 h2 h3 h4;exact h.inj c1 c2 a1 o1 o2 h1 h2 (Ux _ _ h3).2 (Ux _ _ h4).2
 .exact h.fn
 .intro i x hx;have RK:i≠a:=λe=>by subst e;have:=h.kfl i x c o hx hc ho;omega
  rw[dO RK];exact h.mB i x hx
 .intro a1 o1 c1 oc h1 h2 h3;exact h.kfl a1 o1 c1 oc h1 h2 (Ux _ _ h3).2
def ext(R:Nat->Nat->Prop)(c a:Nat):Nat->Nat->Prop:=λx y=>R x y\/(x=c/\y=a)
def xE(c a:Nat):∀x y,R x y->ext R c a x y:=λ_ _ h=>.inl h
def nL.new(h:nL K fl R Zc Sj U){i:Nat}(hi:U i=none){ob:Ob}{Rd:List V}(hr:aS R ob.rows Rd):
 nL K fl (ext R Sj i) (C' Zc Sj ob) (Sj+1) (C' U i ⟨ob.elem,ob.sz,Rd⟩):=by
 have H':∀c a,R c a->c≠Sj:=λc a hc=>by have:=h.dom c a hc;omega
 have hold:∀c a o,R c a->C' Zc Sj ob c=some o->Zc c=some o/\a≠i:=λc a o hc ho=>by
  rw[ab (H' c a hc)]at ho;refine⟨ho,λe=>?_⟩;subst e;obtain⟨r,hr,_⟩:=h.live c a o hc ho;rw[hi]at hr;cases hr
 refine⟨?_,?_,?_,?_,h.mB.C' hi,?_⟩
 .rintro c a (hc|⟨rfl,rfl⟩)
  .have:=h.dom c a hc;omega
  .omega
 .rintro c a o (hc|⟨rfl,rfl⟩) ho
  .obtain⟨h1,h2⟩:=hold c a o hc ho;obtain⟨r,h3,h4⟩:=h.live c a o hc h1;rw[ab h2];exact⟨r,h3,aS.mono (xE Sj i) _ _ h4⟩
  .rw[ag]at ho;simp only[Oi]at ho;subst ho;exact⟨Rd,ag,aS.mono (xE _ _) _ _ hr⟩
 .rintro c c' a o o' (hc|⟨rfl,rfl⟩) (Yy|⟨rfl,e⟩) ho ho'
  .exact h.inj c c' a o o' hc Yy (hold _ _ _ hc ho).1 (hold _ _ _ Yy ho').1
  .exact absurd e (hold _ _ _ hc ho).2
  .exact absurd rfl (hold _ _ _ Yy ho').2
  .rfl
 .rintro c a a' (hc|⟨rfl,rfl⟩) (Yy|⟨e,rfl⟩)
  .exact h.fn c a a' hc Yy
  .exact absurd e (H' _ _ hc)
  .exact absurd rfl (H' _ _ Yy)
  .rfl
 .rintro a o c oc hk (hc|⟨rfl,rfl⟩) ho
  .exact h.kfl a o c oc hk hc (hold _ _ _ hc ho).1
  .have:=h.mB a o hk;rw[hi]at this;cases this
def okX:VX->Bool
 |.t _=>true
 |.c v=>v.eH
def pM(op:Rt):Bool:=op.xs.all okX&&(match op with
 |.alloc _ _ z=>z.eH
 |.build zero _=>gq zero
 |.clear _ z _=>z.eH
 |.mk _ _ _ z _=>z.eH
 |.more (.tas _ _ z) _=>z.eH
 |_=>true)
def oE(i:aN):Bool:=pM i.op&&(match i.g with
 |some (x,_)=>okX x
 |none=>true)
def iy:bJ->Bool
 |.RR _ l=>l.all oE
 |.seq a b=>iy a&&iy b
 |.cond c a b=>okX c&&(iy a&&iy b)
 |.block _ a=>iy a
 |.loop a=>iy a
 |_=>true
def Co:VR->Bool
 |.tmp x=>okX x
 |.cell _ _ x=>okX x
 |.bad=>true
def Mc(f:Rc):Bool:=iy f.code&&f.res.all Co
variable {s s':Nat->V}
def fA(hs:∀i,aF R (s i) (s' i)){x:VX}(hx:okX x=true):aF R (x.ev s) (x.ev s'):=by
 cases x with
 |t n=>exact hs n
 |c v=>exact eV v hx
def mH(hs:∀i,aF R (s i) (s' i)):∀{xs:List VX},xs.all okX=true->aS R (xs.map (·.ev s)) (xs.map (·.ev s'))
 |[],_=>by simp[aS]
 |x::xs,h=>by
  simp only[List.all_cons,Ba]at h;exact aS.cB.2 ⟨_,_,rfl,fA hs h.1,mH hs h.2⟩
def ym{op:BinOp}{k:IntKind}{a b:Int}{v:V}(h:cQ op k a b=some v):v.eH=true:=by
 unfold cQ at h;split at h<;>first
  |(simp only[Oi]at h;subst h;rfl)
  |(split at h<;>first|(simp only[Oi]at h;subst h;rfl)|cases h)
  |cases h
def Af{op:BinOp}{a b:List UInt8}{v:V}(h:ej op a b=some v):v.eH=true:=by
 unfold ej at h;split at h<;>first
  |(simp only[Oi]at h;subst h;rfl)
  |cases h
def Fs{op:BinOp}{a b a' b' v:V}(ha:aF R a a')(hb:aF R b b')(h:uJ op a b=some v):a'=a/\b'=b/\v.eH=true:=by
 unfold uJ at h;split at h
 .simp only[aF]at ha hb;split at h
  .exact⟨ha,hb,ym h⟩
  .cases h
 .simp only[aF]at ha hb;exact⟨ha,hb,Af h⟩
 .cases h
def Gn{b:Bool}{x x' v:V}(hx:aF R x x')(h:dz b x=some v):∃v',dz b x'=some v'/\aF R v v':=by
 unfold dz at h;split at h<;>simp only[Oi,reduceCtorEq]at h<;>simp only[aF]at hx<;>subst h
 .obtain⟨i,rfl,_⟩:=hx;exact⟨_,rfl,by simp[aF]⟩
 .obtain⟨i,rfl,hr⟩:=hx;exact⟨_,rfl,by simp[aF,hr.length]⟩
 .subst hx;exact⟨_,rfl,by simp[aF]⟩
 .subst hx;exact⟨_,rfl,by simp[aF]⟩
def ji{agg:Bool}{off sz:Nat}{vs us:List V}{v:V}(h:aS R vs us)(hv:bI agg off sz vs=some v):∃v',bI agg off sz us=some v'/\aF R v v':=by
 unfold bI at hv|-;cases agg
 .simpa using h.get hv
 .simp only[if_true,Oi]at hv|-;subst hv;exact⟨_,rfl,aF.agg ((h.drop off).take sz)⟩
def E6{agg:Bool}{off sz:Nat}{x x' v:V}(hx:aF R x x')(h:jS agg off sz x=some v):∃v',jS agg off sz x'=some v'/\aF R v v':=by
 unfold jS at h;split at h
 .obtain⟨c,rfl,hr⟩:=aF.o9.1 hx;exact ji hr h
 .cases h
def DS{agg:Bool}{off sz:Nat}{x x' v:V}(hx:aF R x x')(h:gx agg off sz x=some v):∃v',gx agg off sz x'=some v'/\aF R v v':=by
 unfold gx at h;split at h
 .simp only[aF]at hx;obtain⟨i,rfl,hr⟩:=hx;simp only[Oi]at h;subst h;exact⟨_,rfl,by simp only[aF];exact⟨i,rfl,hr⟩⟩
 .simp only[aF]at hx;obtain⟨u,rfl,hr⟩:=hx;simp only[Option.map_eq_some_iff]at h;obtain⟨w,hw,rfl⟩:=h;obtain⟨w',h1,h2⟩:=ji hr.cells hw;exact⟨.rp w',by simp[gx,h1],aF.rp h2⟩
 .cases h
def Df(hm:Lv R Zc U){Sy:Nat}{x i x' i' v:V}(hx:aF R x x')(hi:aF R i i')(h:bQ Zc Sy x i=some v):∃v',bQ U Sy x' i'=some v'/\aF R v v':=by
 unfold bQ at h;split at h
 .simp only[aF]at hx hi;obtain⟨a,rfl,ha⟩:=hx;subst hi;split at h
  .rename_i ob Sa;obtain⟨Rd,h1,h2⟩:=hm _ _ _ ha Sa;split at h
   .rename_i hc;simp only[Oi]at h;subst h;refine⟨_,?_,by simp only[aF];exact⟨a,rfl,ha⟩⟩;simp only[bQ,h1];rw[if_pos hc]
   .cases h
  .cases h
 .simp only[aF]at hx hi;obtain⟨Rd,rfl,hr⟩:=hx;subst hi;split at h
  .rename_i hc;split at h
   .rename_i r hrr;simp only[Oi]at h;subst h;obtain⟨u,h1,h2⟩:=hr.get hrr;refine⟨.rp u,?_,aF.rp h2⟩;simp only[bQ,h1];rw[if_pos hc]
   .cases h
  .cases h
 .cases h
def Ax{agg:Bool}{n Sy:Nat}{x i x' i' v:V}(hx:aF R x x')(hi:aF R i i')(h:dN agg n Sy x i=some v):∃v',dN agg n Sy x' i'=some v'/\aF R v v':=by
 unfold dN at h;split at h
 .simp only[aF]at hx hi;obtain⟨a,rfl,ha⟩:=hx;subst hi;split at h
  .rename_i hc;simp only[Oi]at h;subst h;exact⟨_,by simp only[dN];rw[if_pos hc],by simp only[aF];exact⟨a,rfl,ha⟩⟩
  .cases h
 .simp only[aF]at hx hi;obtain⟨u,rfl,hr⟩:=hx;subst hi;split at h
  .rename_i hc;simp only[Option.map_eq_some_iff]at h;obtain⟨w,hw,rfl⟩:=h;obtain⟨w',h1,h2⟩:=ji hr.cells hw;exact⟨.rp w',by simp only[dN];rw[if_pos hc,h1];rfl,aF.rp h2⟩
  .cases h
 .cases h
def CI{agg:Bool}{n Sy:Nat}{x i x' i' v:V}(hx:aF R x x')(hi:aF R i i')(h:fC agg n Sy x i=some v):∃v',fC agg n Sy x' i'=some v'/\aF R v v':=by
 unfold fC at h;split at h
 .obtain⟨c,rfl,hr⟩:=aF.o9.1 hx;rw[aF.j9]at hi;subst hi;split at h
  .rename_i hc;obtain⟨w',h1,h2⟩:=ji hr h;exact⟨w',by simp only[fC];rw[if_pos hc,h1],h2⟩
  .cases h
 .cases h
def C9{x i x' i' v:V}(hx:aF R x x')(hi:aF R i i')(h:fq x i=some v):∃v',fq x' i'=some v'/\aF R v v':=by
 have h0:=h;unfold fq at h;split at h
 .rw[aF.rM]at hx;rw[aF.j9]at hi;subst hx hi;refine⟨v,h0,?_⟩;split at h
  .split at h
   .simp only[Oi]at h;subst h;simp[aF]
   .cases h
  .cases h
 .cases h
def uQ(hm:Lv R Zc U){agg:Bool}{sz:Nat}{x x' v:V}(hx:aF R x x')(h:bS Zc agg sz x=some v):∃v',bS U agg sz x'=some v'/\aF R v v':=by
 unfold bS at h;split at h
 .simp only[aF]at hx;obtain⟨a,rfl,ha⟩:=hx;split at h
  .rename_i ob Sa;obtain⟨Rd,h1,h2⟩:=hm _ _ _ ha Sa;split at h
   .rename_i r hr;obtain⟨r',h3,h4⟩:=h2.get hr;have hl:=h4.cells.length;simp only[bS,h1,h3,hl];cases agg
    .simp only[Bool.false_eq_true,if_false]at h|-;exact h4.cells.get h
    .simp only[if_true]at h|-;split at h
     .rename_i hc;simp only[Oi]at h;subst h;exact⟨_,by rw[if_pos hc],aF.agg h4.cells⟩
     .split at h
      .rename_i hc Yy;rw[if_neg hc,if_pos Yy];simp only[Oi]at h;subst h;exact⟨_,rfl,aF.agg ((h4.cells.drop _).take _)⟩
      .cases h
   .cases h
  .cases h
 .simp only[aF]at hx;obtain⟨u,rfl,hr⟩:=hx;rename_i w;have hl:=hr.cells.length;cases agg
  .simp only[Bool.false_eq_true,if_false]at h;split at h
   .cases h
   .simp only[Oi]at h;subst h;rename_i hna;refine⟨u,?_,hr⟩;cases u<;>simp only[bS,Bool.false_eq_true,if_false];cases w<;>simp only[aF]at hr<;>simp at hr hna
  .simp only[if_true]at h;split at h
   .rename_i hc;simp only[Oi]at h;subst h;refine⟨_,?_,aF.agg hr.cells⟩;simp only[bS,hl,if_true];rw[if_pos hc]
   .cases h
 .cases h
def AP{d:Int}:∀{o o':Option V},(match o,o' with|none,none=>True|some x,some x'=>aF R x x'|_,_=>False)->∀{j:Int},bF d o=some j->bF d o'=some j
 |none,none,_,j,h=>h
 |some x,some x',hx,j,h=>by
  simp only at hx;cases x<;>simp only[bF]at h<;>first|cases h|skip
  rw[aF.j9]at hx;subst hx;rfl
 |none,some _,hx,_,_=>hx.elim
 |some _,none,hx,_,_=>hx.elim
def Bf(hm:Lv R Zc U){Sy:Nat}{x x' v:V}{lo hi mx lo' WI mx':Option V}(hx:aF R x x')
 (h1:∀d j,bF d lo=some j->bF d lo'=some j)(h2:∀d j,bF d hi=some j->bF d WI=some j)(h3:∀d j,bF d mx=some j->bF d mx'=some j)
 (h:cM Zc Sy x lo hi mx=some v):∃v',cM U Sy x' lo' WI mx'=some v'/\aF R v v':=by
 unfold cM at h;split at h
 .simp only[aF]at hx;obtain⟨a,rfl,ha⟩:=hx;split at h
  .rename_i l hh m e1 e2 e3;split at h
   .rename_i hc;simp only[Oi]at h;subst h;have Ti:iN U a Sy=true:=by
     have hz:=hc.2.2.2.2;unfold iN at hz|-;split at hz
     .rename_i ob Sa;obtain⟨Rd,g1,g2⟩:=hm _ _ _ ha Sa;rw[g1];exact hz
     .cases hz
    refine⟨_,?_,by simp only[aF];exact⟨a,rfl,ha⟩⟩;simp only[cM,h1 _ _ e1,h2 _ _ e2,h3 _ _ e3];rw[if_pos ⟨hc.1,hc.2.1,hc.2.2.1,hc.2.2.2.1,Ti⟩]
   .cases h
  .cases h
 .simp only[aF]at hx;obtain⟨Rd,rfl,hr⟩:=hx;have hl:=hr.length;split at h
  .rename_i l hh m e1 e2 e3;split at h
   .rename_i hc;simp only[Oi]at h;subst h;refine⟨.sl _ ((Rd.drop l.toNat).take (hh.toNat-l.toNat)),?_,by simp only[aF];exact⟨_,rfl,(hr.drop _).take _⟩⟩;simp only[cM,h1 _ _ e1,hl,h2 _ _ e2,h3 _ _ e3];rw[if_pos hc]
   .cases h
  .cases h
 .simp only[aF]at hx;subst hx;split at h
  .rename_i l hh m e1 e2 e3;split at h
   .rename_i hc;simp only[Oi]at h;subst h;refine⟨.aC,?_,by simp[aF]⟩;simp only[cM,h1 _ _ e1,h2 _ _ e2,h3 _ _ e3];rw[if_pos hc]
   .cases h
  .cases h
 .cases h
def y7{x x' v:V}{lo hi lo' WI:Option V}(hx:aF R x x')
 (h1:∀d j,bF d lo=some j->bF d lo'=some j)(h2:∀d j,bF d hi=some j->bF d WI=some j)
 (h:cP x lo hi=some v):∃v',cP x' lo' WI=some v'/\aF R v v':=by
 unfold cP at h;split at h
 .rw[aF.rM]at hx;subst hx;split at h
  .rename_i l hh e1 e2;split at h
   .rename_i hc;simp only[Oi]at h;subst h;refine⟨_,?_,aF.rM.2 rfl⟩;simp only[cP,h1 _ _ e1,h2 _ _ e2];rw[if_pos hc]
   .cases h
  .cases h
 .cases h
def uw{x x' v:V}(hx:aF R x x')(h:bW x=some v):∃v',bW x'=some v'/\aF R v v':=by
 unfold bW at h;split at h<;>first|cases h|skip
 all_goals (have hx0:=hx;simp only[aF]at hx;obtain⟨i,rfl,_⟩:=hx;exact⟨_,rfl,hx0⟩)
def CD{neg:Bool}{x y x' y' v:V}(hx:aF R x x')(hy:aF R y y')(h:binBV neg x y=some v):∃v',binBV neg x' y'=some v'/\aF R v v':=by
 have h0:=h;unfold binBV at h;split at h
 .rw[aF.mj]at hx hy;subst hx hy;refine⟨v,h0,?_⟩;simp only[Oi]at h;subst h;simp[aF]
 .cases h
def xQ{m:Bool}{x y x' y' v:V}(hx:aF R x x')(hy:aF R y y')(h:cY m x y=some v):∃v',cY m x' y'=some v'/\aF R v v':=by
 have h0:=h;unfold cY at h;split at h
 .rw[aF.j9]at hx hy;subst hx hy;refine⟨v,h0,?_⟩;split at h
  .simp only[Oi]at h;subst h;simp[aF]
  .cases h
 .cases h
def AR{x y x' y':V}{b:Bool}(hx:aF R x x')(hy:aF R y y')(h:df x y=some b):x'=x/\y'=y:=by
 unfold df at h;split at h<;>first|cases h|skip
 all_goals simp only[aF]at hx hy
 all_goals exact⟨hx,hy⟩
def qY:∀{l m l' m':List V} {b:Bool},aS R l l'->aS R m m'->cd l m=some b->l'=l/\m'=m
 |[],[],_,_,_,h1,h2,_=>by rw[aS.iI]at h1 h2;exact⟨h1,h2⟩
 |v::vs,u::us,_,_,b,h1,h2,h=>by
  obtain⟨v',vs',rfl,g1,g2⟩:=aS.cB.1 h1;obtain⟨u',us',rfl,g3,g4⟩:=aS.cB.1 h2;simp only[cd]at h;split at h
  .rename_i e1 e2;obtain⟨rfl,rfl⟩:=AR g1 g3 e1;obtain⟨rfl,rfl⟩:=qY g2 g4 e2;exact⟨rfl,rfl⟩
  .cases h
 |[],_::_,_,_,_,_,_,h=>by simp[cd]at h
 |_::_,[],_,_,_,_,_,h=>by simp[cd]at h
def EC{neg:Bool}{ks:List Nat}{x y x' y' v:V}(hx:aF R x x')(hy:aF R y y')(h:iM neg ks x y=some v):∃v',iM neg ks x' y'=some v'/\aF R v v':=by
 have h0:=h;unfold iM at h;split at h
 .obtain⟨c,rfl,g1⟩:=aF.o9.1 hx;obtain⟨d,rfl,g2⟩:=aF.o9.1 hy;split at h
  .split at h
   .rename_i e;obtain⟨rfl,rfl⟩:=qY g1 g2 e;refine⟨v,h0,?_⟩;simp only[Oi]at h;subst h;simp[aF]
   .cases h
  .cases h
 .cases h
def ql:∀{l m:List V} {b:List UInt8},aS R l m->bytesOf l=some b->m=l
 |[],_,_,h,_=>by rw[aS.iI]at h;exact h
 |v::vs,_,b,h,hb=>by
  obtain⟨u,us,rfl,g1,g2⟩:=aS.cB.1 h;simp only[bytesOf]at hb;split at hb
  .rename_i e1 e2;rw[ql g2 e2];cases v<;>simp[byteOf]at e1;rw[aF.j9]at g1;rw[g1]
  .cases hb
def AT(hm:Lv R Zc U){x x' v:V}(hx:aF R x x')(h:dq Zc x=some v):∃v',dq U x'=some v'/\aF R v v':=by
 unfold dq at h;split at h
 .simp only[aF]at hx;subst hx;simp only[Oi]at h;subst h;exact⟨_,rfl,by simp[aF]⟩
 .simp only[aF]at hx;obtain⟨a,rfl,ha⟩:=hx;split at h
  .rename_i ob Sa;obtain⟨Rd,h1,h2⟩:=hm _ _ _ ha Sa;split at h
   .rename_i hc;simp only[Option.map_eq_some_iff]at h;obtain⟨l,hl,rfl⟩:=h;have e:=ql ((h2.drop _).take _) hl;refine⟨_,?_,aF.rM.2 rfl⟩;simp only[dq,h1,h2.length,e,hl,Option.map_some];rw[if_pos hc]
   .cases h
  .cases h
 .cases h
def Ew{i:Nat}{x x' v:V}(hx:aF R x x')(h:jV i x=some v):∃v',jV i x'=some v'/\aF R v v':=by
 unfold jV at h;split at h
 .simp only[aF]at hx;obtain⟨c,rfl,hr⟩:=hx;exact hr.get h
 .cases h
def jD(R:Nat->Nat->Prop):List (Nat×Nat×V)->List (Nat×Nat×V)->Prop
 |[],l=>l=[]
 |p::ps,l=>∃u us,l=(p.1,p.2.1,u)::us/\aF R p.2.2 u/\jD R ps us
def sO:∀{ps ps':List (Nat×Nat×V)} {z z' l:List V},aS R z z'->jD R ps ps'->dc z ps=some l->∃l',dc z' ps'=some l'/\aS R l l'
 |[],_,z,z',l,hz,hp,h=>by
  simp only[jD]at hp;subst hp;simp only[dc,Oi]at h;subst h;exact⟨_,rfl,hz⟩
 |(off,sz,x)::ps,_,z,z',l,hz,hp,h=>by
  simp only[jD]at hp;obtain⟨u,us,rfl,h1,h2⟩:=hp;simp only[dc]at h|-;split at h
  .rename_i hc;rw[if_pos ⟨by rw[h1.cells.length];exact hc.1,by rw[h1.stays];exact hc.2.1,by rw[hz.length];exact hc.2.2⟩];refine sO ?_ h2 h;unfold cc;rw[h1.cells.length];exact((hz.take _).append h1.cells).append (hz.drop _)
  .cases h
def l8(hs:∀i,aF R (s i) (s' i)){lo:Option VX}(h:∀x∈lo.toList,okX x=true)(d j:Int):bF d (lo.map (·.ev s))=some j->bF d (lo.map (·.ev s'))=some j:=by
 refine AP (R:=R) ?_;cases lo with
 |none=>trivial
 |some x=>exact fA hs (h x (by simp))
def DM(hm:Lv R Zc U)(hs:∀i,aF R (s i) (s' i)){op:Rt}(Rg:pM op=true){v:V}(hp:fi s op)(h:aL Zc s op=some v):
 fi s' op/\∃v',aL U s' op=some v'/\aF R v v':=by
 have hok':=Rg;simp only[pM,Ba]at Rg;have hx:=List.all_eq_true.1 Rg.1;have E:∀x,x∈op.xs->aF R (x.ev s) (x.ev s'):=λx h=>fA hs (hx x h);cases op<;>simp only[Rt.xs,List.mem_cons,List.not_mem_nil,or_false,forall_eq_or_imp,forall_eq,List.mem_append]at E<;>simp only[aL,fi,Oi,reduceCtorEq,true_and]at h hp|-
 case Rn=>subst h;exact⟨_,rfl,E⟩
 case pick c a b=>
  split at h
  .rename_i t ht;have:=E.1;rw[ht,aF.mj]at this;rw[this];simp only[Oi]at h|-;subst h;refine⟨_,rfl,?_⟩;cases t
   .exact E.2.2
   .exact E.2.1
  .cases h
 case bin op x y=>
  obtain⟨e1,e2,e3⟩:=Fs E.1 E.2 h;rw[e1,e2];exact⟨hp,v,h,eV v e3⟩
 case not x=>
  split at h
  .rename_i b hb;rw[hb,aF.mj]at E;rw[E];simp only[Oi]at h|-;subst h;exact⟨_,rfl,by simp[aF]⟩
  .cases h
 case neg x=>
  split at h
  .rename_i k b hb;rw[hb]at hp;rw[hb,aF.j9]at E;rw[E];simp only[Oi]at h|-;subst h;exact⟨hp,_,rfl,by simp[aF]⟩
  .cases h
 case len=>exact Gn E h
 case cap=>
  unfold kT at h;split at h
  .rename_i hn;rw[hn]at E;simp only[aF]at E;rw[E];simp only[Oi]at h;subst h;exact⟨_,rfl,by simp[aF]⟩
  .cases h
 case fld=>exact E6 E h
 case Rz=>exact DS E h
 case T9=>exact Df hm E.1 E.2 h
 case Uk=>exact Ax E.1 E.2 h
 case W8=>exact CI E.1 E.2 h
 case YS=>exact C9 E.1 E.2 h
 case load=>exact uQ hm E h
 case slice Sy x lo hi mx=>
  have RN:=hx;simp only[Rt.xs,List.mem_cons,List.mem_append]at RN;exact Bf hm E.1 (l8 hs λy hy=>RN y (.inr (.inl (.inl hy)))) (l8 hs λy hy=>RN y (.inr (.inl (.inr hy)))) (l8 hs λy hy=>RN y (.inr (.inr hy))) h
 case VA x lo hi=>
  have RN:=hx;simp only[Rt.xs,List.mem_cons,List.mem_append]at RN;exact y7 E.1 (l8 hs λy hy=>RN y (.inr (.inl hy))) (l8 hs λy hy=>RN y (.inr (.inr hy))) h
 case ext=>exact Ew E h
 case more m xs=>
  by_cases hb:∃f,m=.XH f
  .obtain⟨f,rfl⟩:=hb;simp only[aL,Oi]at h|-;subst h;exact⟨_,rfl,by simp only[aF];exact⟨_,rfl,mH hs Rg.1⟩⟩
  cases xs with
  |nil=>cases m<;>first|exact absurd ⟨_,rfl⟩ hb|simp[aL]at h
  |cons x xs=>
   have ex:=E x (by simp);cases xs with
   |cons y ys=>cases m<;>first|exact absurd ⟨_,rfl⟩ hb|simp[aL]at h
   |nil=>
    cases m
    case XH=>exact absurd ⟨_,rfl⟩ hb
    case W7 t=>
     simp only[Oi]at h|-;subst h;exact⟨_,rfl,by simp only[aF];exact⟨_,rfl,ex⟩⟩
    case tas t ok z=>
     have hz:z.eH=true:=Rg.2;simp only[]at h|-;unfold EK at h|-;split at h
     .rename_i t' v' Ve;rw[Ve]at ex;simp only[aF]at ex;obtain⟨u,hu,hru⟩:=ex;rw[hu];simp only;split at h
      .rename_i e;rw[if_pos e];simp only[Oi]at h|-;subst h;refine⟨_,rfl,?_⟩;cases ok
       .exact hru
       .simp only[if_true,aF,aS];exact⟨_,rfl,_,_,rfl,hru,_,_,rfl,rfl,rfl⟩
      .rename_i e;rw[if_neg e];cases ok
       .simp at h
       .simp only[if_true,Oi]at h|-;subst h;refine⟨_,rfl,?_⟩;simp only[aF,aS];exact⟨_,rfl,_,_,rfl,eV z hz,_,_,rfl,rfl,rfl⟩
     .rename_i Ve;rw[Ve]at ex;simp only[aF]at ex;rw[ex];cases ok
      .simp at h
      .simp only[if_true,Oi]at h|-;subst h;refine⟨_,rfl,?_⟩;simp only[aF,aS];exact⟨_,rfl,_,_,rfl,eV z hz,_,_,rfl,rfl,rfl⟩
     .cases h
    case aab neg=>
     simp only[]at h|-;unfold BK at h;split at h
     .rename_i Ve;rw[Ve]at ex;simp only[aF]at ex;rw[ex];exact⟨v,h,by simp only[Oi]at h;subst h;simp[aF]⟩
     .rename_i Ve;rw[Ve]at ex;simp only[aF]at ex;obtain⟨u,hu,_⟩:=ex;rw[hu];exact⟨v,h,by simp only[Oi]at h;subst h;simp[aF]⟩
     .rename_i Ve;rw[Ve]at ex;simp only[aF]at ex;obtain⟨u,hu,_⟩:=ex;rw[hu];exact⟨v,h,by simp only[Oi]at h;subst h;simp[aF]⟩
     .cases h
    all_goals simp[aL]at h
 case Si f xs=>
  subst h;exact⟨_,rfl,by simp only[aF];exact⟨_,rfl,mH hs Rg.1⟩⟩
 case UO k x=>
  split at h
  .rename_i k' b hb;rw[hb]at hp;rw[hb,aF.j9]at E;rw[E];simp only[Oi]at h|-;subst h;exact⟨hp,_,rfl,by simp[aF]⟩
  .cases h
 case nilCheck=>exact uw E h
 case SW=>exact CD E.1 E.2 h
 case XU=>exact EC E.1 E.2 h
 case Rh=>exact xQ E.1 E.2 h
 case W9=>exact AT hm E h
 case build zero parts=>
  simp only[Option.map_eq_some_iff]at h;obtain⟨l,hl,rfl⟩:=h;have Zj:∀ps:List (Nat×Nat×VX),(∀p∈ps,okX p.2.2=true)->jD R (ps.map λp=>(p.1,p.2.1,p.2.2.ev s)) (ps.map λp=>(p.1,p.2.1,p.2.2.ev s')):=by
   intro ps
   induction ps with
   |nil=>intro _;simp[jD]
   |cons p ps ih=>
    intro Vx;simp only[List.map_cons,jD];exact⟨_,_,rfl,fA hs (Vx p (by simp)),ih λq hq=>Vx q (by simp[hq])⟩
  obtain⟨l',h1,h2⟩:=sO (gd zero Rg.2) (Zj parts λp hp=>hx _ (by simp only[Rt.xs,List.mem_map];exact⟨p,hp,rfl⟩)) hl;exact⟨.agg l',by rw[h1];rfl,aF.agg h2⟩
end
variable {R:Nat->Nat->Prop} {K:ai} {fl:Nat} {P:Program} {n:Nat}
structure fN(K:ai)(fl:Nat)(R:Nat->Nat->Prop)(cs:CS)(st:St):Prop where
 slot:∀i,aF R (cs.sf i) (st.s i)
 mem:nL K fl R (UI cs.U) cs.Sj st.U
def Dq{s s':Nat->V}(h:∀i,aF R (s i) (s' i)){d:Option Nat}{v u:V}(hv:aF R v u):∀i,aF R (aX s d v i) (aX s' d u i):=by
 intro i;cases d with
 |none=>exact h i
 |some d=>
  show aF R (if i=d then v else s i) (if i=d then u else s' i);split
  .exact hv
  .exact h i
def fN.put{cs:CS}{st:St}(h:fN K fl R cs st){d:Option Nat}{v u:V}(hv:aF R v u):fN K fl R (cs.put d v) ⟨aX st.s d u,st.U⟩:=by
 refine⟨?_,?_⟩
 .rw[L6];exact Dq h.slot hv
 .rw[(Fk cs d v).1,(Fk cs d v).2];exact h.mem
def aF.Hz:aF R (.Rf []) (.Rf []):=by simp[aF,aS]
def L5(a b:Int):eqQ a b=decide (a=b):=by
 cases a<;>cases b<;>rw[Bool.eq_iff_iff]<;>simp[eqQ]<;>first|rfl|omega
def La(a b:Int):leQ a b=decide (a<=b):=by
 cases a<;>cases b<;>rw[Bool.eq_iff_iff]<;>simp only[leQ,Nat.ble_eq,decide_eq_true_eq,Bool.false_eq_true,false_iff,true_iff,Int.ofNat_eq_natCast]<;>omega
def GK(a b:Int):Nq a b=a+b:=by cases a<;>cases b<;>rfl
def HL(a b:Int):LJ a b=a-b:=by
 cases a<;>cases b<;>simp only[LJ];rename_i m k;cases h:Nat.ble k m
 .have:¬k<=m:=by rw[<-Nat.ble_eq];simp[h]
  simp only[Nat.sub_eq,Int.ofNat_eq_natCast];omega
 .have:k<=m:=Nat.le_of_ble_eq_true h;simp only[Nat.sub_eq,Int.ofNat_eq_natCast];omega
def Hp{a:Int}(h:LA a=true):Rq .i64 a:=by
 cases a<;>simp only[LA,Nat.ble_eq]at h
 .rw[Int.ofNat_eq_natCast];exact ao (by omega) (by omega)
 .exact ao (by omega) (by omega)
def H3{k:IntKind}{a:Int}(h:JS k a=true):Rq k a:=by
 unfold JS at h;split at h
 .exact Hp h
 .simpa[Rq]using h
def iV{α:Type}{b:Bool}{x y:α}:@Bool.casesOn (λ_=>α) b x y=if b then y else x:=by cases b<;>rfl
def CF{α:Type}{b:Bool}{x y:α}:@Bool.rec (λ_=>α) x y b=if b then y else x:=by cases b<;>rfl
def vi{k:IntKind}{a:Int}{v:V}(h:gI k a=some v):v=.int k a/\Rq k a:=by
 unfold gI at h;rw[iV]at h;split at h
 .rename_i hi;simp only[Oi]at h;exact⟨h.symm,H3 hi⟩
 .cases h
def At{op:BinOp}{k:IntKind}{a b:Int}{v:V}(h:(oW op).f k a b=some v):eN op k a b/\cQ op k a b=some v:=by
 unfold oW at h;split at h<;>simp only[]at h
 .obtain⟨rfl,h2⟩:=vi h;rw[GK]at*;exact⟨h2,rfl⟩
 .obtain⟨rfl,h2⟩:=vi h;rw[HL]at*;exact⟨h2,rfl⟩
 .obtain⟨rfl,h2⟩:=vi h;exact⟨h2,rfl⟩
 .split at h
  .cases h
  .rename_i hb;obtain⟨rfl,h2⟩:=vi h;exact⟨h2,by simp[cQ,hb]⟩
 .split at h
  .cases h
  .rename_i hb;simp only[Oi]at h;subst h;exact⟨trivial,by simp[cQ,hb]⟩
 all_goals first
  |exact⟨trivial,h⟩
  |(simp only[Oi]at h;subst h;refine⟨trivial,?_⟩;simp only[L5,La,cQ,Oi,V.bool.injEq];try (rw[Bool.eq_iff_iff];simp))
  |cases h
def Az{op:BinOp}{a b:List UInt8}{v:V}(h:wI op a b=some v):eK op a b/\ej op a b=some v:=by
 unfold wI at h;split at h
 .rw[iV]at h;split at h
  .rename_i hb;simp only[Oi]at h;subst h;exact⟨Nat.le_of_ble_eq_true hb,rfl⟩
  .cases h
 .exact⟨trivial,h⟩
 .exact⟨trivial,h⟩
 .cases h
def Eb{k k':IntKind}(h:EV k k'=true):k=k':=by
 unfold EV at h;rw[iV]at h;cases k<;>cases k'<;>simp_all [Lz,eqK]
def HJ{op:BinOp}{x y v:V}(h:Hs op (oW op).f y x=some v):nE op x y/\uJ op x y=some v:=by
 unfold Hs at h;split at h
 .unfold NT at h;split at h
  .rw[iV]at h;split at h
   .rename_i hk;have:=Eb hk;subst this;obtain⟨h1,h2⟩:=At h;exact⟨h1,by simp[uJ,h2]⟩
   .cases h
  .cases h
 .unfold Nv at h;split at h
  .exact Az h
  .cases h
 .cases h
def GJ{U:Tr (Option Ob)}{Sy:Nat}{x i v:V}(h:Ma U Sy x i=some v):bQ (UI U) Sy x i=some v:=by
 unfold Ma at h;split at h
 .split at h
  .rename_i m hm;have hj:=hm;unfold zN at hm;split at hm
   .simp only[Oi]at hm;subst hm;split at h
    .rename_i ob Sa;rw[iV]at h;split at h
     .rename_i hc;simp only[Ba,Nat.beq_eq,Nat.blt_eq]at hc;have e:UI U _=some ob:=Sa;simp only[bQ,e];rw[if_pos ⟨hc.1,by simp,by simpa using hc.2⟩];exact h
     .cases h
    .cases h
   .cases hm
  .cases h
 .split at h
  .rename_i m hm;unfold zN at hm;split at hm
   .simp only[Oi]at hm;subst hm;rw[iV]at h;split at h
    .rename_i hc;rw[Nat.beq_eq]at hc;simp only[bQ];rw[if_pos ⟨hc,by simp⟩];exact h
    .cases h
   .cases hm
  .cases h
 .cases h
def Gf{x i v:V}(h:EM x i=some v):fq x i=some v:=by
 unfold EM at h;split at h
 .split at h
  .rename_i m hm;unfold zN at hm;split at hm
   .simp only[Oi]at hm;subst hm;simp only[fq];rw[if_pos (by simp)];exact h
   .cases hm
  .cases h
 .cases h
def FT{U:Tr (Option Ob)}{agg:Bool}{sz:Nat}{x v:V}(h:EO U agg sz x=some v):bS (UI U) agg sz x=some v:=by
 unfold EO at h;split at h
 .split at h
  .rename_i ob Sa;have e:UI U _=some ob:=Sa;split at h
   .rename_i r hr;simp only[bS,e,hr];split at h
    .rw[iV,iV]at h;simp only[if_true];split at h
     .rename_i hc;simp only[Ba,Nat.beq_eq]at hc;rw[if_pos hc];exact h
     .rename_i hc;split at h
      .rename_i Yy;rw[if_neg (by simpa using hc),if_pos (show _+sz<=_ from Nat.le_of_ble_eq_true Yy)];exact h
      .cases h
    .simpa using h
   .cases h
  .cases h
 .exact h
def vE{draw:Bool}{call:lT}{dst:Option Nat}{op:Rt}{cs Sz:CS}{st:St}(hk:bw op=0)(Rg:pM op=true)(h:fN K fl R cs st)
 (hr:(jZ draw dst op).f call fl cs=some Sz):∃v',fi st.s op/\aL st.U st.s op=some v'/\fN K fl R Sz ⟨aX st.s dst v',st.U⟩:=by
 have key:∃v,fi cs.sf op/\aL (UI cs.U) cs.sf op=some v/\Sz=cs.put dst v:=by
  have hp:∀(g:CS->Option V),(jC dst g).f call fl cs=some Sz->∃v,g cs=some v/\Sz=cs.put dst v:=by
   intro g hg;simp only[jC]at hg;split at hg
   .rename_i v hv;simp only[Oi]at hg;exact⟨v,hv,hg.symm⟩
   .cases hg
  cases op<;>simp only[bw,reduceCtorEq,Nat.reduceEqDiff]at hk<;>simp only[jZ]at hr
  case Rn x=>
   simp only[Nr,Oi]at hr;exact⟨_,trivial,rfl,hr.symm⟩
  case bin op x y=>
   have hr':(jC dst λcs=>Hs op (oW op).f (y.ev cs.sf) (x.ev cs.sf)).f call fl cs=some Sz:=hr;obtain⟨v,h1,h2⟩:=hp _ hr';obtain⟨h3,h4⟩:=HJ h1;exact⟨v,h3,h4,h2⟩
  case pick c a b=>
   obtain⟨v,h1,h2⟩:=hp _ hr;refine⟨v,trivial,?_,h2⟩;simp only[aL];unfold Io at h1;split at h1
   .rename_i t ht;rw[iV]at h1;rw[ht];exact h1
   .cases h1
  case not x=>
   obtain⟨v,h1,h2⟩:=hp _ hr;refine⟨v,trivial,?_,h2⟩;simp only[aL];unfold M4 at h1;split at h1
   .rename_i t ht;rw[ht];exact h1
   .cases h1
  case neg x=>
   obtain⟨v,h1,h2⟩:=hp _ hr;unfold No at h1;split at h1
   .rename_i k t ht;obtain⟨h3,h4⟩:=vi h1;exact⟨v,by simp only[fi,ht];exact h4,by simp only[aL,ht,h3],h2⟩
   .cases h1
  case UO k x=>
   obtain⟨v,h1,h2⟩:=hp _ hr;unfold Im at h1;split at h1
   .rename_i k t ht;obtain⟨h3,h4⟩:=vi h1;exact⟨v,by simp only[fi,ht];exact h4,by simp only[aL,ht,h3],h2⟩
   .cases h1
  case T9=>obtain⟨v,h1,h2⟩:=hp _ hr;exact⟨v,trivial,GJ h1,h2⟩
  case YS=>obtain⟨v,h1,h2⟩:=hp _ hr;exact⟨v,trivial,Gf h1,h2⟩
  case load=>obtain⟨v,h1,h2⟩:=hp _ hr;exact⟨v,trivial,FT h1,h2⟩
  all_goals (obtain⟨v,h1,h2⟩:=hp _ hr;exact⟨v,trivial,h1,h2⟩)
 obtain⟨v,h1,h2,rfl⟩:=key;obtain⟨h3,v',h4,h5⟩:=DM h.mem.live h.slot Rg h1 h2;exact⟨v',h3,h4,h.put h5⟩
def zh{Zc U:ai}(hm:Lv R Zc U){sz:Nat}{x x':V}{l:List V}(hx:aF R x x')(h:bR Zc sz x=some l):∃l',bR U sz x'=some l'/\aS R l l':=by
 unfold bR at h;split at h
 .simp only[aF]at hx;obtain⟨a,rfl,ha⟩:=hx;split at h
  .rename_i ob Sa;obtain⟨Rd,h1,h2⟩:=hm _ _ _ ha Sa;split at h
   .rename_i hc;simp only[Oi]at h;subst h;refine⟨_,?_,(h2.drop _).take _⟩;simp only[bR,h1,h2.length];rw[if_pos hc]
   .cases h
  .cases h
 .simp only[aF]at hx;obtain⟨Rd,rfl,hr⟩:=hx;split at h
  .rename_i hc;simp only[Oi]at h;subst h;exact⟨Rd,by simp[bR,hc],hr⟩
  .cases h
 .simp only[aF]at hx;subst hx;simp only[Oi]at h;subst h;exact⟨[],rfl,by simp[aS]⟩
 .rename_i s;simp only[aF]at hx;subst hx;refine⟨l,h,?_⟩;split at h
  .simp only[Oi]at h;subst h
   induction s with
   |nil=>simp[aS]
   |cons b s ih=>simp only[List.map_cons,aS];exact⟨_,_,rfl,by simp[aF],ih⟩
  .cases h
 .cases h
def xZ{Zc U:ai}(hm:Lv R Zc U){e sz:Nat}{x x':V}{l:List V}{d:Option Nat}(hx:aF R x x')(h:cg Zc e sz x=some (l,d)):
 ∃l' d',cg U e sz x'=some (l',d')/\aS R l l'/\(d=none/\d'=none\/∃c a o,d=some c/\d'=some a/\R c a/\Zc c=some o):=by
 unfold cg at h;split at h
 .simp only[aF]at hx;obtain⟨a,rfl,ha⟩:=hx;split at h
  .rename_i ob Sa;obtain⟨Rd,h1,h2⟩:=hm _ _ _ ha Sa;split at h
   .rename_i hc;simp only[Oi,Prod.mk.injEq]at h;obtain⟨rfl,rfl⟩:=h;refine⟨_,some a,?_,h2.take _,.inr ⟨_,a,ob,rfl,rfl,ha,Sa⟩⟩;simp only[cg,h1,h2.length];rw[if_pos hc]
   .cases h
  .cases h
 .simp only[aF]at hx;subst hx;simp only[Oi,Prod.mk.injEq]at h;obtain⟨rfl,rfl⟩:=h;exact⟨[],none,rfl,by simp[aS],.inl ⟨rfl,rfl⟩⟩
 .cases h
def jO{dst:Option Nat}{cs Sz:CS}{st:St}(h:fN K fl R cs st){m:Mk}{Rd:List V}{d':Option Nat}(RS:aS R m.ob.rows Rd)
 (hd:m.gone=none/\d'=none\/∃c a o,m.gone=some c/\d'=some a/\R c a/\UI cs.U c=some o)(hr:xC fl dst cs m=some Sz){id:Nat}(M':st.U id=none):
 ∃R',(∀a b,R a b->R' a b)/\fN K fl R' Sz ⟨aX st.s dst (if m.var then .ptr id 0 0 else .own id 0 m.len),C' (bK st.U d') id ⟨m.ob.elem,m.ob.sz,Rd⟩⟩:=by
 refine⟨ext R cs.Sj id,xE _ _,?_⟩;have Ut:aF (ext R cs.Sj id) (@Bool.casesOn (λ_=>V) m.var (.own cs.Sj 0 m.len) (.ptr cs.Sj 0 0)) (if m.var then .ptr id 0 0 else .own id 0 m.len):=by
  cases m.var
  .simp only[aF,Bool.false_eq_true,if_false];exact⟨id,rfl,.inr ⟨rfl,rfl⟩⟩
  .simp only[aF,if_true];exact⟨id,rfl,.inr ⟨rfl,rfl⟩⟩
 have hslot:∀i,aF (ext R cs.Sj id) (cs.sf i) (st.s i):=λi=>aF.mono (xE _ _) _ _ (h.slot i);unfold xC at hr;rcases hd with⟨e1,rfl⟩|⟨c,a,o,e1,rfl,hR,ho⟩
 .rw[e1]at hr;simp only[Oi]at hr;subst hr;have hm:=h.mem.new M' RS;have hS:fN K fl (ext R cs.Sj id) ⟨cs.s,mo none (some m.ob) cs.Sj cs.U,Nat.succ cs.Sj⟩ ⟨st.s,C' st.U id ⟨m.ob.elem,m.ob.sz,Rd⟩⟩:=
   ⟨hslot,by simp only[rY];exact hm⟩
  exact hS.put Ut
 .rw[e1]at hr;simp only[iV]at hr;split at hr
  .rename_i hf;simp only[Oi]at hr;subst hr;have h1:=h.mem.rem hR ho (Nat.le_of_ble_eq_true hf);have WH:del st.U a id=none:=by
    by_cases e:id=a
    .simp[del,e]
    .rw[dO e];exact M'
   have hm:=h1.new WH RS;have hS:fN K fl (ext R cs.Sj id) ⟨cs.s,mo none (some m.ob) cs.Sj (mo none none c cs.U),Nat.succ cs.Sj⟩ ⟨st.s,C' (del st.U a) id ⟨m.ob.elem,m.ob.sz,Rd⟩⟩:=
    ⟨hslot,by simp only[rY,HO];exact hm⟩
   rw[iV]at Ut;exact hS.put Ut
  .cases hr
def zo{draw:Bool}{call:lT}{dst:Option Nat}{op:Rt}{cs Sz:CS}{st:St}(hk:bw op=3)(Rg:pM op=true)(h:fN K fl R cs st)
 (hr:(jZ draw dst op).f call fl cs=some Sz):∃g',Sk st.s st.U op=some g'/\∀id,st.U id=none->∃R',(∀a b,R a b->R' a b)/\
   fN K fl R' Sz ⟨aX st.s dst (g' id).1,(g' id).2⟩:=by
 have hp:∀(g:CS->Option Mk),(AL dst g).f call fl cs=some Sz->∃m,g cs=some m/\xC fl dst cs m=some Sz:=by
  intro g hg;simp only[AL]at hg;split at hg
  .rename_i v hv;exact⟨v,hv,hg⟩
  .cases hg
 simp only[pM,Ba]at Rg;have hx:=List.all_eq_true.1 Rg.1;cases op<;>simp only[bw,reduceCtorEq,Nat.reduceEqDiff]at hk<;>simp only[jZ]at hr
 case more m xs=>cases m<;>simp at hk
 case alloc e sz z=>
  obtain⟨m,h1,h2⟩:=hp _ hr;simp only[Oi]at h1;subst h1;refine⟨_,rfl,λid M'=>?_⟩;have:=jO (d':=none) h (aS.one (eV (R:=R) z Rg.2)) (.inl ⟨rfl,rfl⟩) h2 M';simpa[bK]using this
 case box e sz x=>
  obtain⟨m,h1,h2⟩:=hp _ hr;have hv:=fA h.slot (hx x (by simp[Rt.xs]));unfold MV at h1;rw[iV]at h1;split at h1
  .rename_i hc;simp only[Ba,Nat.beq_eq]at hc;simp only[Oi]at h1;subst h1;refine⟨λid=>(.ptr id 0 0,C' st.U id ⟨e,sz,[x.ev st.s]⟩),?_,λid M'=>?_⟩
   .simp only[Sk];rw[if_pos ⟨by rw[hv.cells.length];exact hc.1,by rw[hv.stays];exact hc.2⟩]
   .have:=jO (d':=none) h (aS.one hv) (.inl ⟨rfl,rfl⟩) h2 M';simpa[bK]using this
  .cases h1
 case V7=>simp[jC,aL]at hr
 case mk e sz bytes z x=>
  obtain⟨m,h1,h2⟩:=hp _ hr;have hv:=fA h.slot (hx x (by simp[Rt.xs]));unfold mkQ at h1;split at h1
  .rename_i kk mm YF;rw[YF]at hv;simp only[aF]at hv;split at h1
   .split at h1
    .rename_i j hj;rw[iV]at h1;split at h1
     .rename_i hc;simp only[Oi]at h1;subst h1;have hmj:mm=(j:Int):=by
       cases mm<;>simp only[zN,Oi,reduceCtorEq]at hj;subst hj;rfl
      subst hmj;refine⟨λid=>(.own id 0 j,C' st.U id ⟨e,sz,List.replicate j z⟩),?_,λid M'=>?_⟩
      .simp only[Sk];rw[hv];have Yy:j*(bytes+1)<=140737488355328:=Nat.le_of_ble_eq_true hc;simp only[Int.toNat_natCast];rw[if_pos ⟨by omega,Yy⟩]
      .have:=jO (d':=none) h (aS.replicate (eV (R:=R) z Rg.2) j) (.inl ⟨rfl,rfl⟩) h2 M';simpa[bK]using this
     .cases h1
    .cases h1
   .cases h1
  .cases h1
 case bp e sz xs=>
  obtain⟨m,h1,h2⟩:=hp _ hr;have hv:=mH h.slot Rg.1;simp only[Rt.xs]at hv;unfold Ct at h1;rw[iV]at h1;split at h1
  .rename_i hc;simp only[Oi]at h1;subst h1;refine⟨λid=>(.own id 0 xs.length,C' st.U id ⟨e,sz,xs.map (·.ev st.s)⟩),?_,λid M'=>?_⟩
   .simp only[Sk];rw[if_pos];rw[List.all_eq_true];intro y hy;rw[List.mem_map]at hy;obtain⟨x,hxx,rfl⟩:=hy;have hvx:=fA h.slot (hx x (by simp[Rt.xs,hxx]));have:=List.all_eq_true.1 hc (x.ev cs.sf) (List.mem_map.2 ⟨x,hxx,rfl⟩);simp only[Ba,Nat.beq_eq]at this;simp[hvx.cells.length,hvx.stays,this]
   .have:=jO (d':=none) h hv (.inl ⟨rfl,rfl⟩) h2 M';simpa[bK]using this
  .cases h1
 case append e sz bytes xa xb=>
  obtain⟨m,h1,h2⟩:=hp _ hr;have ha:=fA h.slot (hx xa (by simp[Rt.xs]));have hb:=fA h.slot (hx xb (by simp[Rt.xs]));unfold BT at h1;split at h1
  .rename_i base Rr src e1 e2;obtain⟨base',d',g1,g2,g3⟩:=xZ h.mem.live ha e1;obtain⟨src',g4,g5⟩:=zh h.mem.live hb e2;rw[iV]at h1;split at h1
   .rename_i hc;simp only[Oi]at h1;subst h1;refine⟨λid=>(.own id 0 (base'.length+src'.length),C' (bK st.U d') id ⟨e,sz,base'++src'⟩),?_,λid M'=>?_⟩
    .simp only[Sk,g1,g4];rw[if_pos (by rw[g2.length,g5.length];exact Nat.le_of_ble_eq_true hc)]
    .have:=jO h (g2.append g5) g3 h2 M';simpa[g2.length,g5.length]using this
   .cases h1
  .cases h1
def zV{r r' x x' q:V}{k sz:Nat}(hr:aF R r r')(hx:aF R x x')(h:ck r k sz x=some q):∃q',ck r' k sz x'=some q'/\aF R q q':=by
 unfold ck at h;split at h
 .rename_i hc;have Yy:x'.cells.length=sz/\x'.stays=true:=⟨by rw[hx.cells.length];exact hc.1,by rw[hx.stays];exact hc.2⟩
  split at h
  .rename_i hd;simp only[Oi]at h;subst h;refine⟨x',?_,hx⟩;unfold ck;rw[if_pos Yy,if_pos ⟨hd.1,by rw[hr.cells.length];exact hd.2⟩]
  .rename_i hd;split at h
   .rename_i he;simp only[Oi]at h;subst h;refine⟨_,?_,aF.agg (((hr.cells.take k).append hx.cells).append (hr.cells.drop (k+sz)))⟩;unfold ck;rw[if_pos Yy,if_neg (by rw[hr.cells.length];exact hd),if_pos (by rw[hr.cells.length];exact he)]
   .cases h
 .cases h
def tJ{dst:Option Nat}{sz:Nat}{xa xv:VX}{call:lT}{cs Sz:CS}{st:St}(Rg:pM (.store sz xa xv)=true)(h:fN K fl R cs st)
 (hr:(AS dst sz xa xv).f call fl cs=some Sz):∃Z',cT st.U sz (xa.ev st.s) (xv.ev st.s)=some Z'/\fN K fl R Sz ⟨aX st.s dst (.Rf []),Z'⟩:=by
 simp only[pM,Rt.xs,List.all_cons,List.all_nil,Bool.and_true,Ba]at Rg;have ha:=fA h.slot Rg.1;have hv:=fA h.slot Rg.2;simp only[AS,BR]at hr;split at hr
 .rename_i id i0 c hptr;rw[hptr]at ha;simp only[aF]at ha;obtain⟨a,VM,ha2⟩:=ha;rw[CF]at hr;split at hr
  .rename_i hf;split at hr
   .rename_i ob Sa;have hob':UI cs.U id=some ob:=Sa;obtain⟨Rd,h1,h2⟩:=h.mem.live _ _ _ ha2 hob';split at hr
    .rename_i r hrr;obtain⟨r',h3,h4⟩:=h2.get hrr;split at hr
     .rename_i q hq;obtain⟨q',h5,h6⟩:=zV h4 hv hq;simp only[Oi]at hr;subst hr;refine⟨C' st.U a ⟨ob.elem,ob.sz,Rd.set i0 q'⟩,?_,?_⟩
      .simp only[cT,VM,h1,h3,h5]
      .have hm:=h.mem.write ha2 hob' (Nat.le_of_ble_eq_true hf) (h2.set i0 h6);have hS:fN K fl R ⟨cs.s,mo none (some ⟨ob.elem,ob.sz,ob.rows.set i0 q⟩) id cs.U,cs.Sj⟩ ⟨st.s,C' st.U a ⟨ob.elem,ob.sz,Rd.set i0 q'⟩⟩:=
        ⟨h.slot,by simp only[rY];exact hm⟩
       exact hS.put aF.Hz
     .cases hr
    .cases hr
   .cases hr
  .cases hr
 .cases hr
variable {P:Program} {n:Nat}
def Le(R R':Nat->Nat->Prop):Prop:=∀a b,R a b->R' a b
def Le.refl(R:Nat->Nat->Prop):Le R R:=λ_ _ h=>h
def Le.trans{R R' R'':Nat->Nat->Prop}(h:Le R R')(h':Le R' R''):Le R R'':=λa b g=>h' a b (h a b g)
def tg(P:Program)(call:lT):Prop:=∀g args Zc Sj fl r,call g args Zc Sj fl=some r->∀(K:ai) (R:Nat->Nat->Prop) (U:ai) (args':List V),
 nL K fl R (UI Zc) Sj U->aS R args args'->aD P g args' U λv Z'=>∃R',Le R R'/\aF R' r.v v/\nL K fl R' (UI r.U) r.Sj Z'
def aD.drop{f:FuncId}{args:List V}{U:ai}{Post Uj:V->ai->Prop}(h:aD P f args U Post)
 (hp:∀r Z',Post r Z'->∃Z0,aa Z0 Z'/\Uj r Z0):aD P f args U Uj:=by
 refine⟨h.1,λI w Ri hs hr=>(h.2 I w Ri hs hr).mono ?_⟩;rintro e w' ⟨r,Z',Y',val,h1,h2,h3,h4,h5⟩;obtain⟨Z0,h6,h7⟩:=hp r Z' h2;exact⟨r,Z0,Y',val,h1,h7,h3,h4.drop h6,Wk.refl h6 r Y' _ _ _ val h4 h5⟩
section
variable {call:lT} {K:ai} {fl:Nat} {R:Nat->Nat->Prop} {cs Sz:CS} {st:St} {Q:St->Prop} {k:List It}
def qG{draw:Bool}{i:aN}(Rg:oE i=true)(h:fN K fl R cs st)(hr:(qU draw i).f call fl cs=some Sz):
 (bx st.s i.g=some true/\(jZ draw i.dst i.op).f call fl cs=some Sz)\/(bx st.s i.g=some false/\Sz=cs.put i.dst (.Rf [])):=by
 simp only[oE,Ba]at Rg;unfold qU at hr;split at hr
 .rename_i hg;exact .inl ⟨by simp[hg,bx],hr⟩
 .rename_i x b hg;have hx:=Rg.2;simp only[hg]at hx;have hv:=fA h.slot hx;simp only[Fe]at hr;split at hr
  .rename_i c hc;rw[hc,aF.mj]at hv;rw[CF]at hr;split at hr
   .rename_i hcb;simp only[Oi]at hr;refine .inr ⟨?_,hr.symm⟩;simp only[hg,bx,hv];cases c<;>cases b<;>simp_all
   .rename_i hcb;refine .inl ⟨?_,hr⟩;simp only[hg,bx,hv];cases c<;>cases b<;>simp_all
  .rename_i hc;rw[hc]at hv;simp only[aF,aS]at hv;obtain⟨c',hv,rfl⟩:=hv;simp only[Oi]at hr;exact .inr ⟨by simp only[hg,bx,hv],hr.symm⟩
  .rename_i hc;rw[hc,aF.j9]at hv;simp only[Oi]at hr;exact .inr ⟨by simp only[hg,bx,hv],hr.symm⟩
  .cases hr
def Cu{draw:Bool}{dst:Option Nat}{op:Rt}(h:op=.bad\/(∃b x,op=.YT b x)\/(∃x,op=.aac x)\/∃m xs,op=.more m xs/\bw op=4)(hr:(jZ draw dst op).f call fl cs=some Sz):False:=by
 rcases h with rfl|⟨b,x,rfl⟩|⟨x,rfl⟩|⟨m,xs,rfl,hk⟩
 case inr.inr.inr=>cases m<;>simp[bw]at hk<;>simp[jZ,jC,aL]at hr
 all_goals simp[jZ,jC,aL]at hr
def rj(op:Rt):bw op=0\/(∃fx xs,op=.call fx xs)\/(∃sz a x,op=.store sz a x)\/bw op=3\/(∃sz z x,op=.clear sz z x)\/(op=.bad\/(∃b x,op=.YT b x)\/(∃x,op=.aac x)\/∃m xs,op=.more m xs/\bw op=4):=by
 cases op
 case more m xs=>cases m<;>simp[bw]
 all_goals simp[bw]
def HU(hc:tg P call){i:aN}{l:List aN}(Rg:oE i=true)(h:fN K fl R cs st)(hr:(qU false i).f call fl cs=some Sz)
 (hk:∀R' TP,Le R R'->fN K fl R' Sz TP->ad P n (.ops l::k) TP Q):ad P n (.ops (i::l)::k) st Q:=by
 have Rk:pM i.op=true:=by simp only[oE,Ba]at Rg;exact Rg.1
 rcases qG Rg h hr with⟨hw,hr⟩|⟨hw,rfl⟩
 .rcases rj i.op with h0|⟨fx,xs,h0⟩|⟨sz,a,x,h0⟩|h0|⟨sz,z,x,h0⟩|h0
  .obtain⟨v',h1,h2,h3⟩:=vE h0 Rk h hr;exact ad.pure hw h1 h2 (hk R _ (Le.refl R) h3)
  .rw[h0]at hr Rk;simp only[jZ,Ej]at hr;simp only[pM,Rt.xs,List.all_cons,Ba]at Rk;split at hr
   .rename_i f caps hf;have hfx:=fA h.slot Rk.1.1;rw[hf]at hfx;simp only[aF]at hfx;obtain⟨Vd,UG,hcaps⟩:=hfx;generalize Sn:call f (xs.map (·.ev cs.sf)++caps) cs.U cs.Sj fl=r at hr;cases r with
    |none=>simp[A5]at hr
    |some r=>
     simp only[A5,Oi]at hr;refine ad.call hw h0 UG (hc _ _ _ _ _ _ Sn K R st.U _ h.mem ((mH h.slot Rk.1.2).append hcaps)) ?_;rintro v Z' ⟨R',hle,hv,hm⟩;have hS:fN K fl R' ⟨cs.s,r.U,r.Sj⟩ ⟨st.s,Z'⟩:=⟨λj=>aF.mono hle _ _ (h.slot j),hm⟩
     exact hk R' _ hle (hr▸hS.put hv)
   .cases hr
  .rw[h0]at hr Rk;obtain⟨Z',h1,h2⟩:=tJ Rk h hr;exact ad.cT hw h0 h1 (hk R _ (Le.refl R) h2)
  .obtain⟨g',h1,h2⟩:=zo h0 Rk h hr;refine ad.Sk hw h1 λid M'=>?_;obtain⟨R',h3,h4⟩:=h2 id M';exact hk R' _ h3 h4
  .rw[h0]at hr Rk;simp only[jZ,Ar,BC]at hr;simp only[pM,Rt.xs,List.all_cons,List.all_nil,Bool.and_true,Ba]at Rk;have hx:=fA h.slot Rk.1;split at hr
   .rename_i id off len M';rw[M']at hx;simp only[aF]at hx;obtain⟨a,VM,ha2⟩:=hx;rw[CF]at hr;split at hr
    .rename_i hf;split at hr
     .rename_i ob Sa;have hob':UI cs.U id=some ob:=Sa;obtain⟨Rd,g1,g2⟩:=h.mem.live _ _ _ ha2 hob';rw[CF]at hr;split at hr
      .rename_i SK;simp only[Ba,Nat.beq_eq,Nat.ble_eq]at SK;simp only[Oi]at hr;refine ad.clear hw h0 VM g1 SK.1 (by rw[g2.length];exact SK.2) ?_;have hm:=h.mem.write ha2 hob' (Nat.le_of_ble_eq_true hf) (((g2.take off).append (aS.replicate (eV (R:=R) z Rk.2) len)).append (g2.drop (off+len)));have hS:fN K fl R ⟨cs.s,mo none (some ⟨ob.elem,ob.sz,ob.rows.take off++List.replicate len z++ob.rows.drop (off+len)⟩) id cs.U,cs.Sj⟩
        ⟨st.s,C' st.U a ⟨ob.elem,ob.sz,Rd.take off++List.replicate len z++Rd.drop (off+len)⟩⟩:=⟨h.slot,by simp only[rY];exact hm⟩
       exact hk R _ (Le.refl R) (hr▸hS.put aF.Hz)
      .cases hr
     .cases hr
    .cases hr
   .cases hr
  .exact(Cu h0 hr).elim
 .exact ad.rK hw (hk R _ (Le.refl R) (h.put aF.Hz))
def NM(hc:tg P call){i:aN}(Rg:oE i=true)(h:fN K fl R cs st)(hr:(qU true i).f call fl cs=some Sz){K':St->Prop}
 (hk:∀R' TP,Le R R'->fN K fl R' Sz TP->K' TP):T P i st K':=by
 have Rk:pM i.op=true:=by simp only[oE,Ba]at Rg;exact Rg.1
 rcases qG Rg h hr with⟨hw,hr⟩|⟨hw,rfl⟩
 .refine nH hw ?_;rcases rj i.op with h0|⟨fx,xs,h0⟩|⟨sz,a,x,h0⟩|h0|⟨sz,z,x,h0⟩|h0
  .obtain⟨v',h1,h2,h3⟩:=vE h0 Rk h hr;unfold TO;simp only[h0];exact⟨h1,v',h2,hk R _ (Le.refl R) h3⟩
  .rw[h0]at hr Rk;rw[h0];simp only[jZ,Ej]at hr;simp only[pM,Rt.xs,List.all_cons,Ba]at Rk;split at hr
   .rename_i f caps hf;have hfx:=fA h.slot Rk.1.1;rw[hf]at hfx;simp only[aF]at hfx;obtain⟨Vd,UG,hcaps⟩:=hfx;generalize Sn:call f (xs.map (·.ev cs.sf)++caps) cs.U cs.Sj cs.Sj=r at hr;cases r with
    |none=>simp[wg]at hr
    |some r=>
     simp only[wg,CF]at hr;split at hr
     .rename_i RL;simp only[Oi]at hr;refine⟨f,Vd,r.v,UG,λZ1 Tl=>?_,hk R _ (Le.refl R) (hr▸h.put (eV r.v RL))⟩;have V0:nL Z1 cs.Sj R (UI cs.U) cs.Sj Z1:=⟨h.mem.dom,h.mem.live.sup Tl,h.mem.inj,h.mem.fn,aa.refl _,λ_ _ c _ _ hcR _=>h.mem.dom c _ hcR⟩
      refine(hc _ _ _ _ _ _ Sn Z1 R Z1 _ V0 ((mH h.slot Rk.1.2).append hcaps)).drop ?_;rintro v Z' ⟨R',hle,hv,hm⟩;exact⟨Z1,hm.mB,nY _ _ RL hv,rfl⟩
     .cases hr
   .cases hr
  .rw[h0]at hr Rk;rw[h0];obtain⟨Z',h1,h2⟩:=tJ Rk h hr;exact⟨Z',h1,hk R _ (Le.refl R) h2⟩
  .obtain⟨g',h1,h2⟩:=zo h0 Rk h hr;unfold TO;simp only[h0];refine⟨g',h1,λid M'=>?_⟩;obtain⟨R',h3,h4⟩:=h2 id M';exact hk R' _ h3 h4
  .rw[h0]at hr;simp[jZ,Ar]at hr
  .exact(Cu h0 hr).elim
 .exact rJ hw (hk R _ (Le.refl R) (h.put aF.Hz))
def mv(draw:Bool)(m:Nat)(i:aN)(l:List aN):l7 draw call fl (m+1) (i::l) cs=match(qU draw i).f call fl cs with
 |some Sz=>l7 draw call fl m l Sz
 |none=>.bad:=by
 show(@Option.casesOn CS (λ_=>Out) ((qU draw i).f call fl cs) .bad (l7 draw call fl m l))=_;cases (qU draw i).f call fl cs<;>rfl
def B3(hc:tg P call):∀(m:Nat) (l:List aN) (R:Nat->Nat->Prop) (cs:CS) (st:St),l7 false call fl m l cs=.nx Sz->l.all oE=true->fN K fl R cs st->
 (∀R' TP,Le R R'->fN K fl R' Sz TP->ad P n k TP Q)->ad P n (.ops l::k) st Q
 |0,_,_,_,_,h,_,_,_=>by cases h
 |m+1,[],R,cs,st,h,_,hs,hk=>by
  have h':Out.nx cs=.nx Sz:=h;simp only[Out.nx.injEq]at h';subst h';exact ad.B6 (hk R st (Le.refl R) hs)
 |m+1,i::l,R,cs,st,h,Rg,hs,hk=>by
  rw[mv]at h;simp only[List.all_cons,Ba]at Rg;split at h
  .rename_i XT h1;refine HU hc Rg.1 hs h1 λR' TP hle Ru=>?_;exact B3 hc m l R' XT TP h Rg.2 Ru λR'' st'' hle' hs''=>hk R'' st'' (hle.trans hle') hs''
  .cases h
def Iv(hc:tg P call){K':St->Prop}:∀(m:Nat) (l:List aN) (R:Nat->Nat->Prop) (cs:CS) (st:St),l7 true call fl m l cs=.nx Sz->l.all oE=true->fN K fl R cs st->
 (∀R' TP,Le R R'->fN K fl R' Sz TP->K' TP)->gK P K' l st
 |0,_,_,_,_,h,_,_,_=>by cases h
 |m+1,[],R,cs,st,h,_,hs,hk=>by
  have h':Out.nx cs=.nx Sz:=h;simp only[Out.nx.injEq]at h';subst h';exact hk R st (Le.refl R) hs
 |m+1,i::l,R,cs,st,h,Rg,hs,hk=>by
  rw[mv]at h;simp only[List.all_cons,Ba]at Rg;split at h
  .rename_i XT h1;refine NM hc Rg.1 hs h1 λR' TP hle Ru=>?_;exact Iv hc m l R' XT TP h Rg.2 Ru λR'' st'' hle' hs''=>hk R'' st'' (hle.trans hle') hs''
  .cases h
end
def DG(P:Program)(n:Nat)(K:ai)(fl:Nat)(R:Nat->Nat->Prop)(k:List It)(Q:St->Prop):Out->Prop
 |.nx cs=>∀R' st,Le R R'->fN K fl R' cs st->ad P n k st Q
 |.ex id cs=>∃k',dY id k=some k'/\∀R' st,Le R R'->fN K fl R' cs st->ad P n k' st Q
 |.rt cs=>∀R' st,Le R R'->fN K fl R' cs st->Q st
 |.bad=>False
def DG.le{K:ai}{fl:Nat}{R R':Nat->Nat->Prop}{k:List It}{Q:St->Prop}{o:Out}(h:DG P n K fl R k Q o)(hle:Le R R'):DG P n K fl R' k Q o:=by
 cases o
 case bad=>exact h
 case ex=>obtain⟨k',h1,h2⟩:=h;exact⟨k',h1,λR'' st h3 h4=>h2 R'' st (hle.trans h3) h4⟩
 all_goals exact λR'' st h3 h4=>h R'' st (hle.trans h3) h4
def tF(P:Program)(code:FuncId->Option Rc):Prop:=∀g vf,code g=some vf->eF P g=true/\Mc vf=true/\∃fn,P.funcs[g]?=some fn/\cfn P fn=some vf
def LOk(P:Program)(code:FuncId->Option Rc)(fuel:Nat):Prop:=∀(n:Nat) (K:ai) (fl:Nat) (R:Nat->Nat->Prop) (c:bJ) (cs:CS) (st:St) (k:List It) (Q:St->Prop),
 iy c=true->fN K fl R cs st->DG P n K fl R k Q (V6 code fuel fl c cs)->ad P n (.code c::k) st Q
def Cd(i:Nat):∀(l:List V) (k:Nat) (t:Tr V),lC (.Rf []) i (Tr.ofL l k t)=if k<=i/\i<k+l.length then l.getD (i-k) (.Rf [])else lC (.Rf []) i t
 |[],k,t=>by simp[Tr.ofL];intro h1 h2;omega
 |v::l,k,t=>by
  rw[Tr.ofL,Cd i l (k+1),oD];simp only[List.length_cons];by_cases h1:i=k
  .subst h1;rw[if_neg (by omega),if_pos rfl,if_pos (by omega)];simp
  .by_cases h2:k+1<=i/\i<k+1+l.length
   .rw[if_pos h2,if_pos (by omega),show i-k=(i-(k+1))+1 by omega];simp
   .rw[if_neg h2,if_neg h1,if_neg (by omega)]
def Be{K:ai}{fl:Nat}{R:Nat->Nat->Prop}{cs:CS}{st:St}(h:fN K fl R cs st){r:VR}(Rg:Co r=true){v:V}(hv:gC ⟨cs.sf,UI cs.U⟩ r=some v):
 ∃v',gC st r=some v'/\aF R v v':=by
 cases r<;>simp only[gC,reduceCtorEq,Oi]at hv|-
 case tmp x=>subst hv;exact⟨_,rfl,fA h.slot Rg⟩
 case cell agg sz x=>exact uQ h.mem.live (fA h.slot Rg) hv
def so{K:ai}{fl:Nat}{R:Nat->Nat->Prop}{cs:CS}{st:St}(h:fN K fl R cs st):∀{l:List VR},l.all Co=true->∀{vs:List V},eX ⟨cs.sf,UI cs.U⟩ l=some vs->
 ∃vs',eX st l=some vs'/\aS R vs vs'
 |[],_,vs,hv=>by simp only[eX,Oi]at hv;subst hv;exact⟨[],rfl,by simp[aS]⟩
 |r::l,Rg,vs,hv=>by
  simp only[List.all_cons,Ba]at Rg;simp only[eX]at hv;split at hv
  .rename_i v h1;split at hv
   .rename_i us h2;simp only[Oi]at hv;subst hv;obtain⟨v',g1,g2⟩:=Be h Rg.1 h1;obtain⟨us',g3,g4⟩:=so h Rg.2 h2;exact⟨v'::us',by simp[eX,g1,g3],aS.cB.2 ⟨v',us',rfl,g2,g4⟩⟩
   .cases hv
  .cases hv
def ES{K:ai}{fl:Nat}{R:Nat->Nat->Prop}{cs:CS}{st:St}(h:fN K fl R cs st){l:List VR}(Rg:l.all Co=true){v:V}(hv:mW ⟨cs.sf,UI cs.U⟩ l=some v):
 ∃v',mW st l=some v'/\aF R v v':=by
 unfold mW at hv;cases hr:eX ⟨cs.sf,UI cs.U⟩ l with
 |none=>simp[hr]at hv
 |some vs=>
  obtain⟨vs',g1,g2⟩:=so h Rg hr;rw[hr]at hv;unfold mW;rw[g1]
  match vs,hv,g2 with
  |[],hv,g2=>
   rw[aS.iI]at g2;subst g2;simp only[Oi]at hv;subst hv;exact⟨_,rfl,by simp[aF,aS]⟩
  |[u],hv,g2=>
   obtain⟨x,xs,rfl,g3,g4⟩:=aS.cB.1 g2;rw[aS.iI]at g4;subst g4;simp only[Oi]at hv;subst hv;exact⟨_,rfl,g3⟩
  |u1::u2::us,hv,g2=>
   obtain⟨x,xs,rfl,g3,g4⟩:=aS.cB.1 g2;obtain⟨y,ys,rfl,g5,g6⟩:=aS.cB.1 g4;simp only[Oi]at hv;subst hv;exact⟨_,rfl,by simp only[aF];exact⟨_,rfl,g2⟩⟩
def wS{code:FuncId->Option Rc}(VQ:tF P code){fuel:Nat}(ih:LOk P code fuel):tg P (evF (V6 code fuel) code):=by
 intro g args Zc Sj fl r hr K R U args' hm R4;unfold evF at hr;split at hr
 .cases hr
 .rename_i vf hvf;rw[iV]at hr;split at hr
  .rename_i hlen;obtain⟨Sn,Rg,fn,hf,hcf⟩:=VQ g vf hvf;simp only[Mc,Ba]at Rg;have hlen':=Nat.le_of_ble_eq_true hlen;refine aD.jY hf hcf Sn (by rw[R4.length];exact hlen') ?_;have hs:fN K fl R ⟨Tr.ofL args 0 .e,Zc,Sj⟩ ⟨ct args',U⟩:=by
    refine⟨λi=>?_,hm⟩;show aF R (lC (.Rf []) i (Tr.ofL args 0 .e)) (args'.getD i (.Rf []));rw[Cd,Ms];by_cases hi:i<args.length
    .rw[if_pos ⟨Nat.zero_le _,by omega⟩,Nat.sub_zero];obtain⟨u,h1,h2⟩:=R4.get (List.getElem?_eq_getElem hi);simp only[List.getD_eq_getElem?_getD,h1,List.getElem?_eq_getElem hi,Option.getD_some];exact h2
    .rw[if_neg (by omega)];have:args'[i]?=none:=List.getElem?_eq_none (by rw[R4.length];omega);simp only[List.getD_eq_getElem?_getD,this,Option.getD_none];simp[aF,aS]
   have Se:∀Sz,HZ vf.res Sz=some r->∀R' st,Le R R'->fN K fl R' Sz st->Vr vf.res st λv Z'=>∃R',Le R R'/\aF R' r.v v/\nL K fl R' (UI r.U) r.Sj Z':=by
    intro Sz hq R' st hle Ru;unfold HZ at hq;split at hq
    .rename_i v hv;simp only[Oi]at hq;subst hq;obtain⟨v',g1,g2⟩:=ES Ru Rg.2 hv;exact⟨v',v',st.U,g1,aa.refl _,Wk.refl (aa.refl _) _,R',hle,g2,Ru.mem⟩
    .cases hq
   refine ih vf.n K fl R vf.code _ _ [] _ Rg.1 hs ?_;generalize V6 code fuel fl vf.code ⟨Tr.ofL args 0 .e,Zc,Sj⟩=o at hr;cases o<;>simp only[N5,reduceCtorEq]at hr
   .exact λR' st hle Ru=>ad.nil (Se _ hr R' st hle Ru)
   .exact λR' st hle Ru=>Se _ hr R' st hle Ru
  .cases hr
def zf(code:FuncId->Option Rc)(f fl:Nat)(c:bJ)(cs:CS):V6 code (f+1) fl c cs=match c with
 |.skip=>.nx cs
 |.RR draw l=>D0 draw (evF (V6 code f) code) fl l cs
 |.seq a b=>DF (V6 code f fl a cs) λSz=>V6 code f fl b Sz
 |.cond c a b=>onB (c.ev cs.sf) (V6 code f fl a cs) (V6 code f fl b cs)
 |.block id a=>Mj id (V6 code f fl a cs)
 |.loop a=>DF (V6 code f fl a cs) λSz=>V6 code f fl (.loop a) Sz
 |.exit id=>.ex id cs
 |.ret=>.rt cs
 |.cX ..=>.bad
 |.Ss ..=>.bad
 |.pW ..=>.bad
 |.bad=>.bad:=rfl
def zr{draw:Bool}{call:lT}{fl:Nat}:∀(m:Nat) (l:List aN) (cs:CS),(∃Sz,l7 draw call fl m l cs=.nx Sz)\/l7 draw call fl m l cs=.bad
 |0,_,_=>.inr rfl
 |m+1,[],cs=>.inl ⟨cs,rfl⟩
 |m+1,i::l,cs=>by
  rw[mv];split
  .exact zr m l _
  .exact .inr rfl
def Ld{code:FuncId->Option Rc}(VQ:tF P code):∀fuel,LOk P code fuel:=by
 intro fuel
 induction fuel using Nat.strongRecOn with
 |_ fuel ih=>
  intro n K fl R c cs st k Q Rg hs RB;cases fuel with
  |zero=>exact RB.elim
  |succ f=>
   have ihf:=ih f (by omega);rw[zf]at RB;cases c with
   |skip=>exact ad.skip (RB R st (Le.refl R) hs)
   |RR draw l=>
    simp only[iy]at Rg;simp only[D0]at RB;rcases zr (draw:=draw) (call:=evF (V6 code f) code) (fl:=fl) 1000 l cs with⟨Sz,he⟩|he
    .rw[he]at RB;cases draw
     .exact ad.region (B3 (wS VQ ihf) 1000 l R cs st he Rg hs RB)
     .exact ad.BW (Iv (wS VQ ihf) 1000 l R cs st he Rg hs RB)
    .rw[he]at RB;exact RB.elim
   |seq a b=>
    simp only[iy,Ba]at Rg;refine ad.seq (ihf n K fl R a cs st _ Q Rg.1 hs ?_);simp only[DF]at RB;generalize V6 code f fl a cs=o at RB;cases o with
    |nx XT=>exact λR1 ZK Wf Tl=>ihf n K fl R1 b XT ZK k Q Rg.2 Tl (RB.le Wf)
    |ex id XT=>exact RB
    |rt XT=>exact RB
    |bad=>exact RB
   |cond c a b=>
    simp only[iy,Ba]at Rg;have hv:=fA hs.slot Rg.1;have RB:DG P n K fl R k Q (onB (c.ev cs.sf) (V6 code f fl a cs) (V6 code f fl b cs)):=RB;unfold onB at RB;split at RB
    .rename_i t ht;rw[ht,aF.mj]at hv;refine ad.cond hv (λe=>?_) (λe=>?_)
     .subst e;exact ihf n K fl R a cs st k Q Rg.2.1 hs RB
     .subst e;exact ihf n K fl R b cs st k Q Rg.2.2 hs RB
    .exact RB.elim
   |block id a=>
    simp only[iy]at Rg;refine ad.block (ihf n K fl R a cs st _ Q Rg hs ?_);simp only[Mj]at RB;generalize V6 code f fl a cs=o at RB;cases o with
    |nx XT=>exact λR1 ZK Wf Tl=>ad.inBlock (RB R1 ZK Wf Tl)
    |ex j XT=>
     simp only[CF]at RB;by_cases hj:j=id
     .subst hj;rw[if_pos (by rw[Nat.beq_eq])]at RB;exact⟨k,by simp[dY],RB⟩
     .rw[if_neg (by rw[Nat.beq_eq];exact hj)]at RB;obtain⟨k',h1,h2⟩:=RB;exact⟨k',by simp[dY,hj,h1],h2⟩
    |rt XT=>exact RB
    |bad=>exact RB
   |loop a=>
    have hok':=Rg;simp only[iy]at Rg;have TW:DG P n K fl R k Q (V6 code (f+1) fl (.loop a) cs):=RB;generalize ho:V6 code (f+1) fl (.loop a) cs=o at TW;refine ad.loop (λm st=>m<=f+1/\∃R1 XT,Le R R1/\fN K fl R1 XT st/\V6 code m fl (.loop a) XT=o) (f+1) ⟨Nat.le_refl _,R,cs,Le.refl R,hs,ho⟩ ?_;rintro m ZK ⟨hm,R1,XT,Wf,Tl,YR⟩;cases m with
    |zero=>
     have:o=.bad:=YR.symm;rw[this]at TW;exact TW.elim
    |succ m=>
     have ihm:=ih m (by omega);rw[zf]at YR;refine ihm n K fl R1 a XT ZK _ Q Rg Tl ?_;simp only[DF]at YR;generalize V6 code m fl a XT=o1 at YR;cases o1 with
     |nx cs2=>exact λR2 Ug Xh TQ=>ad.stop ⟨m,by omega,by omega,R2,cs2,Wf.trans Xh,TQ,YR⟩
     |ex id cs2=>
      have YR:Out.ex id cs2=o:=YR;rw[<-YR]at TW;obtain⟨k',h1,h2⟩:=TW;exact⟨k',by simpa[dY]using h1,λR2 Ug Xh TQ=>h2 R2 Ug (Wf.trans Xh) TQ⟩
     |rt cs2=>
      have YR:Out.rt cs2=o:=YR;rw[<-YR]at TW;exact λR2 Ug Xh TQ=>TW R2 Ug (Wf.trans Xh) TQ
     |bad=>
      have YR:Out.bad=o:=YR;rw[<-YR]at TW;exact TW.elim
   |exit id=>
    obtain⟨k',h1,h2⟩:=RB;exact ad.exit h1 (h2 R st (Le.refl R) hs)
   |ret=>exact ad.ret (RB R st (Le.refl R) hs)
   |cX g ps a b=>exact RB.elim
   |Ss l Rx=>exact RB.elim
   |pW l e=>exact RB.elim
   |bad=>exact RB.elim
def wj(g:V->V->Bool):List V->List V->Bool
 |[],[]=>true
 |v::vs,u::us=>g v u&&wj g vs us
 |_,_=>false
def fzB:Nat->Tr (Option Ob)->V->V->Bool
 |0,_,_,_=>false
 |f+1,U,v,u=>match v with
  |.own id off len=>match u with
   |.sl sz rows=>match lC none id U with
    |some ob=>Nat.beq ob.sz sz&&(Nat.ble (off+len) ob.rows.length&&wj (fzB f U) ((ob.rows.drop off).take len) rows)
    |none=>false
   |_=>false
  |.aC=>match u with
   |.sl _ rows=>rows.isEmpty
   |.aC=>true
   |_=>false
  |.sl sz rows=>match u with
   |.sl Ui Rd=>Nat.beq sz Ui&&wj (fzB f U) rows Rd
   |_=>false
  |.agg cs=>match u with
   |.agg ds=>wj (fzB f U) cs ds
   |_=>false
  |.Rf cs=>match u with
   |.Rf ds=>wj (fzB f U) cs ds
   |_=>false
  |.int k n=>match u with
   |.int k' n'=>eqK k k'&&eqQ n n'
   |_=>false
  |.bool b=>match u with
   |.bool b'=>b==b'
   |_=>false
  |.str b=>match u with
   |.str b'=>decide (b=b')
   |_=>false
  |.RQ=>match u with
   |.RQ=>true
   |_=>false
  |_=>false
def GY{a b:Int}(h:eqQ a b=true):a=b:=by
 cases a<;>cases b<;>simp only[eqQ,Bool.false_eq_true]at h
 .rw[Nat.eq_of_beq_eq_true h]
 .rw[Nat.eq_of_beq_eq_true h]
def Gm{R:Nat->Nat->Prop}{Zt:Tr (Option Ob)}{U:ai}(hm:Lv R (UI Zt) U):∀(f:Nat) (v u v':V),fzB f Zt v v'=true->aF R v u->Fz U (λa=>∃c o,R c a/\UI Zt c=some o) u v'
 |0,_,_,_,h,_=>by simp[fzB]at h
 |f+1,v,u,v',h,hr=>by
  have hL:∀(vs us out:List V),wj (fzB f Zt) vs out=true->aS R vs us->To U (λa=>∃c o,R c a/\UI Zt c=some o) us out:=by
   intro vs
   induction vs with
   |nil=>
    intro us out h1 h2;rw[aS.iI]at h2;subst h2;cases out with
    |nil=>exact .nil
    |cons a b=>simp[wj]at h1
   |cons a vs ih=>
    intro us out h1 h2;obtain⟨b,bs,rfl,h3,h4⟩:=aS.cB.1 h2;cases out with
    |nil=>simp[wj]at h1
    |cons c cs=>
     simp only[wj,Ba]at h1;exact .cons _ _ _ _ (Gm hm f _ _ _ h1.1 h3) (ih _ _ h1.2 h4)
  have RL:v.eH=true->v'=v->Fz U (λa=>∃c o,R c a/\UI Zt c=some o) u v':=λh1 h2=>by
   have:=nY v u h1 hr;rw[this,h2];exact .same v h1
  simp only[fzB]at h;cases v<;>simp only[Bool.false_eq_true]at h
  case own id off len=>
   split at h
   .split at h
    .rename_i ob Sa;simp only[Ba]at h;obtain⟨h1,h2,h3⟩:=h;simp only[aF]at hr;obtain⟨Ta,rfl,hR⟩:=hr;obtain⟨Rd,g1,g2⟩:=hm _ Ta ob hR Sa;have:=hL _ _ _ h3 ((g2.drop _).take _);rw[<-Nat.eq_of_beq_eq_true h1];exact .own Ta _ _ ⟨ob.elem,ob.sz,Rd⟩ _ g1 ⟨_,ob,hR,Sa⟩ (by rw[g2.length];exact Nat.le_of_ble_eq_true h2) this
    .cases h
   .cases h
  case aC=>
   split at h
   .rename_i sz rows;simp only[aF]at hr;subst hr;have:rows=[]:=by simpa using h
    subst this;exact .nil _
   .exact RL rfl rfl
   .cases h
  case sl sz rows=>
   split at h
   .simp only[Ba]at h;simp only[aF]at hr;obtain⟨Rd,rfl,hr⟩:=hr;rw[<-Nat.eq_of_beq_eq_true h.1];exact .sl _ _ _ (hL _ _ _ h.2 hr)
   .cases h
  case agg cs=>
   split at h
   .simp only[aF]at hr;obtain⟨es,rfl,hr⟩:=hr;exact .agg _ _ (hL _ _ _ h hr)
   .cases h
  case Rf cs=>
   split at h
   .simp only[aF]at hr;obtain⟨es,rfl,hr⟩:=hr;exact .Rf _ _ (hL _ _ _ h hr)
   .cases h
  case int k n=>
   split at h
   .simp only[Ba]at h;refine RL rfl ?_;rw[GY h.2,of_decide_eq_true h.1]
   .cases h
  case bool b=>
   split at h
   .refine RL rfl ?_;rw[eq_of_beq h]
   .cases h
  case str b=>
   split at h
   .refine RL rfl ?_;rw[of_decide_eq_true h]
   .cases h
  case RQ=>
   split at h
   .exact RL rfl rfl
   .cases h
def F4(code:FuncId->Option Rc)(fuel:Nat)(f:FuncId)(args:List V)(v:V):Bool:=match evF (V6 code fuel) code f args .e 0 0 with
 |some r=>fzB 10 r.U r.v v
 |none=>false
def aV.sk{P:Program}{code:FuncId->Option Rc}(VQ:tF P code){fuel:Nat}{f:FuncId}{args:List V}{v:V}(ha:gq args=true)
 (h:F4 code fuel f args v=true):aV P f args v:=by
 intro U;unfold F4 at h;split at h
 .rename_i r hr;have hm:nL U 0 (λ_ _=>False) (UI .e) 0 U:=⟨λ_ _ h=>h.elim,λ_ _ _ h=>h.elim,λ_ _ _ _ _ h=>h.elim,λ_ _ _ h=>h.elim,aa.refl U,λ_ _ _ _ _ h=>h.elim⟩
  refine(wS VQ (Ld VQ fuel) f args .e 0 0 r hr U _ U args hm (gd args ha)).GS ?_;rintro u Z' ⟨R',_,h1,h2⟩;refine⟨v,U,h2.mB,(Gm h2.live 10 r.v u v h h1).wk h2.mB ?_,rfl,rfl⟩;rintro a ⟨c,o,hc,ho⟩;cases hk:U a with
  |none=>rfl
  |some x=>have:=h2.kfl a x c o hk hc ho;omega
 .cases h
open Go.Proofs Go.Proofs.Tryz
def cdF(P:Program)(l:List Nat)(f:FuncId):Option Rc:=
 if l.contains f then(P.funcs[f]?).bind λfn=>(cfn P fn).bind λvf=>if eF P f&&Mc vf then some vf else none else none
def KU(P:Program)(l:List Nat):tF P (cdF P l):=by
 intro g vf h;unfold cdF at h;split at h
 .simp only[Option.bind_eq_some_iff]at h;obtain⟨fn,h1,U4,h2,h3⟩:=h;split at h3
  .rename_i h4;simp only[Ba]at h4;simp only[Oi]at h3;subst h3;exact⟨h4.1,h4.2,fn,h1,h2⟩
  .cases h3
 .cases h
def Nu:List Nat:=[20,38,39,77,78,79,80,81,136,137,138,139,192,193,194,195,196,245]
noncomputable def P4:FuncId->Option Rc:=cdF prog Nu
def n9:tF prog P4:=KU _ _
open Go.Proofs Go.Proofs.Tryz
def N1:SA:=⟨0,0,0,0,0,0,0,0,0,0,0,0⟩
def E4(n:Int):Nd:=⟨1,n,⟨0,0,0,0,0,1,1,0,0,0,0,0⟩,0,0,[],0,0,0⟩
def D7(ws:List Int):Nd:=⟨2,1,N1,10,0,ws,0,0,0⟩
def wO:List Nd:=[E4 2,D7 [5,5,5]]
def MW:List Nd:=[E4 2,D7 [5,5,5],⟨3,1,N1,0,0,[],0,3,4⟩]
def Nj:List Nd:=[E4 2,D7 [5,5,6]]
def Ni:List Nd:=[E4 2,D7 [5,6,5]]
def M7:List Nd:=[E4 2,D7 [5,5,5,5]]
set_option maxRecDepth 1000000
def NR:aV prog 20 [.str [91,111,49,119,49,32,40,49,48,32,48,32,53,32,53,32,53,41,93]] (.Rf [aK wO,vI 0,vI 0]):=aV.sk (fuel:=3000) n9 rfl (by kernel_rfl)
def Nz:aV prog 20 [.str [91,111,49,119,49,32,40,49,48,32,48,32,53,32,53,32,53,41,93,123,51,32,52,125]] (.Rf [aK MW,vI 0,vI 0]):=aV.sk (fuel:=3000) n9 rfl (by kernel_rfl)
def NO:aV prog 20 [.str [91,111,49,119,49,32,40,49,48,32,48,32,53,32,53,32,54,41,93]] (.Rf [aK Nj,vI 0,vI 0]):=aV.sk (fuel:=3000) n9 rfl (by kernel_rfl)
def Nc:aV prog 20 [.str [91,111,49,119,49,32,40,49,48,32,48,32,53,32,54,32,53,41,93]] (.Rf [aK Ni,vI 0,vI 0]):=aV.sk (fuel:=3000) n9 rfl (by kernel_rfl)
def NP:aV prog 20 [.str [91,111,49,119,49,32,40,49,48,32,48,32,53,32,53,32,53,32,53,41,93]] (.Rf [aK M7,vI 0,vI 0]):=aV.sk (fuel:=3000) n9 rfl (by kernel_rfl)
open Go.Proofs Go.Proofs.Tryz
def tX(s:List UInt8)(l:List Nd)(x y:V)(Sx:aV prog 20 [.str s] (.Rf [aK l,x,y])):aV prog 67 [.str s] (aK l):=λU=>by
 refine e67.r (by simp[c67]) ?_;refine ad.mix 6 ?_;apply sR;simp only[go_sem,seval,c67];refine ad.aB rfl rfl rfl (Sx _) ?_;apply sR;simp only[go_sem,seval];exact ay.same rfl
def od(a:aV prog 67 [.str [91,111,49,119,49,32,40,49,48,32,48,32,53,32,53,32,53,41,93]] (aK wO))(s:List UInt8)(l:List Nd)(hl:dH l)(k:aV prog 67 [.str s] (aK l))(n:Int)
 (h1:ez wO l 8 20=0)(h2:(fD (bc wO 8 20) (bc l 8 20):Int)=n):aV prog 33 [.str s,vI n] (.bool true):=λU=>by
 refine e33.r (by simp[c33]) ?_;have hc:=mL wO l ⟨by decide,by decide⟩ hl 8 20;rw[if_pos h1,h1]at hc;have q:(((fD (bc wO 8 20) (bc l 8 20):Nat):Int)=n)=True:=eq_true h2;generalize fD (bc wO 8 20) (bc l 8 20)=M at*;generalize wO=D at*;refine ad.mix 7 ?_;apply sR;simp only[go_sem,seval,c33];refine ad.aB rfl rfl rfl (a _) ?_;apply sR;simp only[go_sem,seval];refine ad.aB rfl rfl rfl (k _) ?_;apply sR;simp only[go_sem,seval];refine ad.aB rfl rfl rfl (hc _) ?_;apply sR;simp only[go_sem,seval,q];exact ay.same rfl
def IY:aV prog 17 [] (.bool true):=λU=>by
 refine e17.r (by simp[c17]) ?_;have a:=tX _ _ _ _ NR;have k1:=od a _ wO ⟨by decide,by decide⟩ a 2 (by kernel_rfl) (by kernel_rfl);have k2:=od a _ MW ⟨by decide,by decide⟩ (tX _ _ _ _ Nz) 1 (by kernel_rfl) (by kernel_rfl);have k3:=od a _ Nj ⟨by decide,by decide⟩ (tX _ _ _ _ NO) 0 (by kernel_rfl) (by kernel_rfl);have k4:=od a _ Ni ⟨by decide,by decide⟩ (tX _ _ _ _ Nc) 0 (by kernel_rfl) (by kernel_rfl);have k5:=od a _ M7 ⟨by decide,by decide⟩ (tX _ _ _ _ NP) 1 (by kernel_rfl) (by kernel_rfl);clear a;refine ad.mix 1 ?_;apply sR;simp only[go_sem,seval,c17];refine ad.aB rfl rfl rfl (k1 _) ?_;apply sR;simp only[go_sem,seval];refine ad.aB rfl rfl rfl (k2 _) ?_;apply sR;simp only[go_sem,seval];refine ad.aB rfl rfl rfl (k3 _) ?_;apply sR;simp only[go_sem,seval];refine ad.aB rfl rfl rfl (k4 _) ?_;apply sR;simp only[go_sem,seval];refine ad.aB rfl rfl rfl (k5 _) ?_;apply sR;simp only[go_sem,seval];exact ay.same rfl
def pD:∀(U:ai) (i:Nat) (h:i<([]:List Uh).length),bQ U 5 .aC (.int .i64 i)=some (.rp (cD ([]:List Uh)[i])):=λ_ i h=>absurd h (by simp)
def F2{a b c:List Nd}(ha:dH a)(hb:dH b)(hc:dH c)(w h:Int):
 (ez a b w h=0↔ez b a w h=0)/\
 (if ez a b w h=0 then fD (bc a w h) (bc b w h)else 0)=(if ez b a w h=0 then fD (bc b w h) (bc a w h)else 0)/\ed a w h=ez a a w h/\
 (if ez a a w h=0 then fD (bc a w h) (bc a w h)else 0)=(if ed a w h=0 then(lU (bc a w h)).length else 0)/\
 (ez a b w h=0->ez b c w h=0->ez a c w h=0->min (fD (bc a w h) (bc b w h)) (fD (bc b w h) (bc c w h))<=fD (bc a w h) (bc c w h)):=by
 have key:∀x y:List Nd,ez x y w h=0↔ed x w h=0/\ed y w h=0:=λx y=>by
  unfold ez;by_cases g:ed x w h=0
  .rw[if_neg (λk=>k g)];simp[g]
  .rw[if_pos g];simp[g]
 have haa:ed a w h=ez a a w h:=by
  unfold ez;split<;>rfl
 refine⟨by rw[key,key];exact And.comm,?_,haa,?_,λh1 h2 h3=>?_⟩
 .by_cases g:ed a w h=0/\ed b w h=0
  .rw[if_pos ((key _ _).2 g),if_pos ((key _ _).2 g.symm),Da ha hb g.1 g.2]
  .rw[if_neg λk=>g ((key _ _).1 k),if_neg λk=>g ((key _ _).1 k).symm]
 .rw[<-haa];by_cases g:ed a w h=0
  .rw[if_pos g,if_pos g,EZ ha g]
  .rw[if_neg g,if_neg g]
 .exact Bh ha hb ((key _ _).1 h1).1 ((key _ _).1 h1).2
open Go.Proofs Go.Proofs.Tryz
def Fh(l:List Nd):Prop:=l.length<=1000000000000/\∀x∈l,x.words.length<=200000000000000
def AZ(aw:aV prog 17 [] (.bool true))(a b c:List Nd)(ha:Fh a)(hb:Fh b)(hc:Fh c)(w h:Int)(hh:wK h):
 aV prog 5 [aK a,aK b,aK c,vI w,vI h] (.bool true):=λU=>by
 refine e5.r (by simp[c5]) ?_;have va:=λU=>tS a ha.1 ha.2 h hh .aC [] rfl pD (by simp) (λp hp=>by cases hp) U;have vb:=λU=>tS b hb.1 hb.2 h hh .aC [] rfl pD (by simp) (λp hp=>by cases hp) U;have vc:=λU=>tS c hc.1 hc.2 h hh .aC [] rfl pD (by simp) (λp hp=>by cases hp) U;refine ad.mix 23 ?_;apply sR;simp only[go_sem,seval,c5];refine ad.call rfl rfl rfl (va _) ?_;rintro r Z' ⟨⟨x,rfl,hx⟩,rfl⟩;cases x with
 |true=>
  apply sR;simp only[go_sem,seval];refine ad.aB rfl rfl rfl (aw _) ?_;apply sR;simp only[go_sem,seval];exact ay.same rfl
 |false=>
  apply sR;simp only[go_sem,seval];refine ad.call rfl rfl rfl (vb _) ?_;rintro r Z2 ⟨⟨y,rfl,hy⟩,rfl⟩;cases y with
  |true=>
   apply sR;simp only[go_sem,seval];refine ad.aB rfl rfl rfl (aw _) ?_;apply sR;simp only[go_sem,seval];exact ay.same rfl
  |false=>
   apply sR;simp only[go_sem,seval];refine ad.call rfl rfl rfl (vc _) ?_;rintro r Z3 ⟨⟨z,rfl,hz⟩,rfl⟩;cases z with
   |true=>
    apply sR;simp only[go_sem,seval];refine ad.aB rfl rfl rfl (aw _) ?_;apply sR;simp only[go_sem,seval];exact ay.same rfl
   |false=>
    have fa:dH a:=⟨by have:=(hx rfl).1;omega,ha.2⟩
    have fb:dH b:=⟨by have:=(hy rfl).1;omega,hb.2⟩
    have fc:dH c:=⟨by have:=(hz rfl).1;omega,hc.2⟩
    obtain⟨k1,k2,k3,k4,k5⟩:=F2 fa fb fc w h;have s1:=mL a b fa fb w h;have s2:=mL b a fb fa w h;have s3:=mL a a fa fa w h;have s4:=mL b c fb fc w h;have s5:=mL a c fa fc w h;have pg:=CN a fa w h;rw[<-k2]at s2;rw[k4]at s3;rw[<-k3]at s3;have hlP:=Fw (lU (bc a w h));have kk:(if ez a b w h=0 then(0:Int)=0 else True):=by split<;>trivial
    clear k2 k3 k4 va vb vc hx hy hz;generalize lU (bc a w h)=PG at*;generalize ez a b w h=e1 at*;generalize ez b a w h=e2 at*;generalize ez b c w h=e4 at*;generalize ez a c w h=e5 at*;generalize ed a w h=e3 at*;generalize fD (bc a w h) (bc b w h)=m1 at*;generalize fD (bc b w h) (bc c w h)=m4 at*;generalize fD (bc a w h) (bc c w h)=m5 at*;apply sR;simp only[go_sem,seval];refine ad.aB rfl rfl rfl (s1 _) ?_;apply sR;simp only[go_sem,seval];refine ad.aB rfl rfl rfl (s2 _) ?_;apply sR;simp only[go_sem,seval];refine ad.aB rfl rfl rfl (pg _) ?_;generalize hX:(if e1=0 then m1 else 0)=X at*;generalize hZ:(if e3=0 then PG.length else 0)=Z at*;have qX:((X:Int)≠X)=False:=eq_false (λh=>h rfl);have q12:((decide (e1=0)==decide (e2=0))=true):=by
     by_cases g:e1=0
     .rw[decide_eq_true g,decide_eq_true (k1.1 g)];rfl
     .rw[decide_eq_false g,decide_eq_false λk=>g (k1.2 k)];rfl
    have q3:(e3≠e3)=False:=eq_false (λh=>h rfl);have qq:∃vv,(if e3=0 then V.Rf [mR PG,vI 0]else .Rf [.aC,vI e3])=.Rf [vv,vI e3]/\dz false vv=some (.int .i64 Z):=by
     by_cases g:e3=0
     .rw[if_pos g,<-hZ,if_pos g,g];exact⟨_,rfl,hlP⟩
     .rw[if_neg g,<-hZ,if_neg g];exact⟨_,rfl,rfl⟩
    obtain⟨vv,hvv,hlv⟩:=qq;rw[hvv];have qZ:((Z:Int)≠Z)=False:=eq_false (λh=>h rfl);have R6:∀x:Bool,(x==x)=true:=λx=>by cases x<;>rfl
    have k1':decide (e2=0)=decide (e1=0):=decide_eq_decide.2 k1.symm;apply sR;simp only[go_sem,seval];refine ad.aB rfl rfl rfl (s3 _) ?_;by_cases g1:e1=0
    .have g2:=k1.1 g1;have w1:(e1=0)=True:=eq_true g1;have w2:(e2=0)=True:=eq_true g2;have w1n:(e1≠0)=False:=eq_false (λh=>h g1);apply sR;simp only[go_sem,seval,w1,w2,qX,q3,qZ,hlv,R6];refine ad.aB rfl rfl rfl (s4 _) ?_;apply sR;simp only[go_sem,seval];refine ad.aB rfl rfl rfl (s5 _) ?_;by_cases g4:e4=0
     .have w4n:(e4≠0)=False:=eq_false (λh=>h g4);by_cases g5:e5=0
      .have w5n:(e5≠0)=False:=eq_false (λh=>h g5);have hk:=k5 g1 g4 g5;rw[if_pos g4,if_pos g5];rw[if_pos g1]at hX;subst hX;have hmin:(if(m4:Int)<m1 then(m4:Int)else m1)=((min m1 m4:Nat):Int):=by split<;>omega
       have w6:((m5:Int)>=((min m1 m4:Nat):Int))=True:=eq_true (by omega);apply sR;simp only[go_sem,seval,w1n,w4n,w5n,hmin,w6];refine ad.aB rfl rfl rfl (aw _) ?_;apply sR;simp only[go_sem,seval];exact ay.same rfl
      .have w5n:(e5≠0)=True:=eq_true g5;apply sR;simp only[go_sem,seval,w1n,w4n,w5n];refine ad.aB rfl rfl rfl (aw _) ?_;apply sR;simp only[go_sem,seval];exact ay.same rfl
     .have w4n:(e4≠0)=True:=eq_true g4;apply sR;simp only[go_sem,seval,w1n,w4n];refine ad.aB rfl rfl rfl (aw _) ?_;apply sR;simp only[go_sem,seval];exact ay.same rfl
    .have g2:=λk=>g1 (k1.2 k);have w1:(e1=0)=False:=eq_false g1;have w2:(e2=0)=False:=eq_false g2;have w1n:(e1≠0)=True:=eq_true g1;apply sR;simp only[go_sem,seval,w1,w2,qX,q3,qZ,hlv,R6];refine ad.aB rfl rfl rfl (s4 _) ?_;apply sR;simp only[go_sem,seval];refine ad.aB rfl rfl rfl (s5 _) ?_;apply sR;simp only[go_sem,seval,w1n];refine ad.aB rfl rfl rfl (aw _) ?_;apply sR;simp only[go_sem,seval];exact ay.same rfl
end Go.Vc
