/- Part 10 of the library of this proof. -/
import Derived.Test.YtdaelobhgmdoeaaGreatW9
import Derived.Test.YtdaelobhgmdoeaaGreatProg
import Derived.KernelRfl
set_option linter.all false
set_option maxHeartbeats 8000000
set_option maxRecDepth 100000
namespace Go.Vc
def dQ(a b:Bk):Nat->Sy->Nat->Nat
 |0,_,n=>n
 |f+1,s,n=>if da a s then n else if¬cy a b s (aW a s).1.kind then n
  else dQ a b f (aW a s).2 (if ig a (aW a s).1 s.s ((n:Int)+1)then n+2 else n+1)
def fD(a b:Bk):Nat:=if(a.atoms.length:Int)+a.RA.length=0 then(if cy a b ⟨⟨0,0,false⟩,[]⟩ 3 then 1 else 0)else dQ a b 1000000001 ⟨⟨0,0,true⟩,[]⟩ 0
def Ch(a b:Bk):∀(f:Nat) (s:Sy) (n:Nat),n<=dQ a b f s n
 |0,_,_=>Nat.le_refl _
 |f+1,s,n=>by
  rw[dQ];split
  .exact Nat.le_refl _
  .split
   .exact Nat.le_refl _
   .refine Nat.le_trans ?_ (Ch a b f _ _);split<;>omega
def uT{a b:Bk}(ha:bP a){s:Sy}(he:¬da a s)(hp:aW a s=aW b s)(h:Ud a.L' s.s.atom.toNat=Ud b.L' s.s.atom.toNat\/a.atoms=[])(no:Int):ig a (aW a s).1 s.s no↔ig b (aW b s).1 s.s no:=by
 rcases h with h|h
 .unfold ig;rw[hp,h]
 .have hk:(aW a s).1.kind≠1:=λk=>by
   have:=((iH ha he).cut k).1.1;rw[h]at this;simp at this;omega
  unfold ig;rw[<-hp];constructor
  .intro g;exact absurd g.1 hk
  .intro g;exact absurd g.1 hk
def pn{a b:Bk}(ha:bP a)(hb:bP b)(hw:a.w=b.w)(hh:a.h=b.h){s:Sy}(he:¬da a s)(hs:cy a b s (aW a s).1.kind):
 aW a s=aW b s/\cy b a s (aW b s).1.kind/\∀no,ig a (aW a s).1 s.s no↔ig b (aW b s).1 s.s no:=by
 rcases D2 ha hb hw hh he hs with⟨g1,g2,g3⟩|⟨g0,-,g1,g2⟩
 .exact⟨g1,g2,uT ha he g1 (.inl g3)⟩
 .exact⟨g1,g2,uT ha he g1 (.inr g0)⟩
def xT{a b:Bk}(hb:bP b){s:Sy}(hm:gA a s)(he:da a s)(he':¬da b s):¬cy b a s (aW b s).1.kind:=λhs=>by
 obtain⟨e1,e2,e3⟩:=he.resolve_left (λh=>h hm);obtain⟨r1,r2,r3⟩:=oC hb he';have hmb:gA b s:=Decidable.byContradiction λh=>he' (.inl h);unfold cy at hs;split at hs
 .exact he' (.inr ⟨by omega,e2,e3⟩)
 .have hl:=rW b.atoms a.atoms;rcases hs.1 with h|⟨h1,h2,h3⟩
  .omega
  .exact he' (.inr ⟨by omega,e2,e3⟩)
def zo{a b:Bk}(ha:bP a)(hb:bP b)(hw:a.w=b.w)(hh:a.h=b.h):∀(f:Nat) (s:Sy) (n:Nat),gA a s->gA b s->dQ a b f s n=dQ b a f s n
 |0,_,_,_,_=>rfl
 |f+1,s,n,hma,hmb=>by
  rw[dQ,dQ];by_cases ea:da a s
  .rw[if_pos ea];by_cases eb:da b s
   .rw[if_pos eb]
   .rw[if_neg eb,if_pos (xT hb hma ea eb)]
  .rw[if_neg ea];by_cases eb:da b s
   .rw[if_pos eb,if_pos (xT ha hmb eb ea)]
   .rw[if_neg eb];by_cases hs:cy a b s (aW a s).1.kind
    .obtain⟨g1,g2,g3⟩:=pn ha hb hw hh ea hs;rw[if_neg (show¬¬cy a b s (aW a s).1.kind from λh=>h hs),if_neg (show¬¬cy b a s (aW b s).1.kind from λh=>h g2)];have ma:=tX ha ea;have mb:=tX hb eb;rw[zo ha hb hw hh f _ _ ma (by rw[g1];exact mb),<-g1];have YS:=g3 ((n:Int)+1);rw[<-g1]at YS;by_cases UZ:ig a (aW a s).1 s.s ((n:Int)+1)
     .rw[if_pos UZ,if_pos (YS.1 UZ)]
     .rw[if_neg UZ,if_neg λg=>UZ (YS.2 g)]
    .have RP:¬cy b a s (aW b s).1.kind:=λh=>by
      obtain⟨g1,g2,g3⟩:=pn hb ha hw.symm hh.symm eb h;exact hs g2
     rw[if_pos hs,if_pos RP]
def C7{a:Bk}(ha:bP a){s:Sy}(he:¬da a s):cy a a s (aW a s).1.kind:=by
 by_cases na:a.atoms=[]
 .unfold cy;rw[if_pos (.inl (by rw[na];rfl))];exact⟨rfl,rfl⟩
 .have hr:=oC ha he;exact(ml ha he na na rfl rfl).2 ⟨⟨by omega,λ_ _=>rfl,λ_ _=>rfl,rfl,rfl,λ_ _=>rfl,rfl,rfl⟩,λ_ _=>rfl⟩
def vQ{a:Bk}(ha:bP a):∀(f:Nat) (s:Sy) (n:Nat),dQ a a f s n=n+(Wp a f s n).length
 |0,_,_=>rfl
 |f+1,s,n=>by
  rw[dQ,Wp];by_cases he:da a s
  .rw[if_pos he,if_pos he];rfl
  .rw[if_neg he,if_neg he,if_neg (show¬¬cy a a s (aW a s).1.kind from λh=>h (C7 ha he)),vQ ha f];have hw:=Ec (b:=a) (s:=s) ((n:Int)+1);by_cases UZ:ig a (aW a s).1 s.s ((n:Int)+1)
   .rw[if_pos UZ,if_pos (hw.1 UZ)];simp only[List.length_cons];rw[show((n+2:Nat):Int)=(n:Int)+2 by omega];omega
   .rw[if_neg UZ,if_neg λg=>UZ (hw.2 g)];simp only[List.length_cons];rw[show((n+1:Nat):Int)=(n:Int)+1 by omega];omega
def AH{a b c:Bk}(ha:bP a)(hb:bP b)(hw:a.w=b.w)(hh:a.h=b.h)(Yo:b.w=c.w)(hh':b.h=c.h){s:Sy}(ea:¬da a s)(eb:¬da b s)(h1:cy a b s (aW a s).1.kind)(h2:cy b c s (aW b s).1.kind):cy a c s (aW a s).1.kind:=by
 by_cases na:a.atoms=[]
 .unfold cy at h1 h2|-;rw[if_pos (.inl (by rw[na];rfl))]at h1|-;have nb:(b.atoms.length:Int)=0:=by rw[<-h1.1,na];rfl
  rw[if_pos (.inl nb)]at h2;exact⟨h1.1.trans h2.1,h1.2.trans h2.2⟩
 .have l1:=List.length_pos_iff.2 na;have nb:b.atoms≠[]:=λe=>by
   unfold cy at h1;rw[if_pos (.inr (by rw[e];rfl)),e]at h1;have:=h1.1;simp at this;exact na this
  have l2:=List.length_pos_iff.2 nb;have nc:c.atoms≠[]:=λe=>by
   unfold cy at h2;rw[if_pos (.inr (by rw[e];rfl)),e]at h2;have:=h2.1;simp at this;exact nb this
  obtain⟨p1,p2⟩:=(ml ha ea na nb hw hh).1 h1;obtain⟨q1,q2⟩:=(ml hb eb nb nc Yo hh').1 h2;obtain⟨g1,g2⟩:=p1.Ou ha hb ea na nb;rw[g2]at q1 q2;refine(ml ha ea na nc (hw.trans Yo) (hh.trans hh')).2 ⟨⟨p1.r0,λk hk=>(p1.RY k hk).trans (q1.RY k hk),λk hk=>(p1.bk k hk).trans (q1.bk k hk),p1.fl.trans q1.fl,p1.hd.trans q1.hd,λn hn=>(p1.st n hn).trans (q1.st n (p1.hd▸hn)),p1.w.trans q1.w,p1.h.trans q1.h⟩,λk hk=>(p2 k hk).trans (q2 k hk)⟩
def nB{a b c:Bk}(ha:bP a)(hb:bP b)(hw:a.w=b.w)(hh:a.h=b.h)(Yo:b.w=c.w)(hh':b.h=c.h):∀(f:Nat) (s:Sy) (n:Nat),min (dQ a b f s n) (dQ b c f s n)<=dQ a c f s n
 |0,_,_=>Nat.min_le_left _ _
 |f+1,s,n=>by
  have We:=Ch a c (f+1) s n;by_cases ea:da a s
  .have:dQ a b (f+1) s n=n:=by rw[dQ,if_pos ea]
   omega
  .by_cases hs:cy a b s (aW a s).1.kind
   .by_cases eb:da b s
    .have:dQ b c (f+1) s n=n:=by rw[dQ,if_pos eb]
     omega
    .by_cases Uh:cy b c s (aW b s).1.kind
     .have hs3:=AH ha hb hw hh Yo hh' ea eb hs Uh;obtain⟨g1,g2,g3⟩:=pn ha hb hw hh ea hs;have YS:=g3 ((n:Int)+1);rw[dQ,dQ,dQ,if_neg ea,if_neg eb,if_neg ea,if_neg (show¬¬cy a b s (aW a s).1.kind from λh=>h hs),if_neg (show¬¬cy b c s (aW b s).1.kind from λh=>h Uh),if_neg (show¬¬cy a c s (aW a s).1.kind from λh=>h hs3),<-g1];rw[<-g1]at YS;by_cases UZ:ig a (aW a s).1 s.s ((n:Int)+1)
      .rw[if_pos UZ,if_pos (YS.1 UZ)];exact nB ha hb hw hh Yo hh' f _ _
      .rw[if_neg UZ,if_neg λg=>UZ (YS.2 g)];exact nB ha hb hw hh Yo hh' f _ _
     .have:dQ b c (f+1) s n=n:=by rw[dQ,if_neg eb,if_pos Uh]
      omega
   .have:dQ a b (f+1) s n=n:=by rw[dQ,if_neg ea,if_pos hs]
    omega
def Dp{l m:List Nd}(hl:dH l)(hm:dH m){w h:Int}(e1:ec l w h=0)(e2:ec m w h=0):fD (bc l w h) (bc m w h)=fD (bc m w h) (bc l w h):=by
 have ha:=gj hl e1;have hb:=gj hm e2;have ma:=pD _ ha.pos;have mb:=pD _ hb.pos;have hw:(bc l w h).w=(bc m w h).w:=rfl;have hh:(bc l w h).h=(bc m w h).h:=rfl;generalize bc l w h=a at*;generalize bc m w h=b at*;have hz:∀{a b:Bk},((a.atoms.length:Int)+a.RA.length=0)->(cy a b ⟨⟨0,0,false⟩,[]⟩ 3↔(b.atoms.length:Int)+b.RA.length=0):=λ{a b} h=>by
  unfold cy;rw[if_pos (.inl (by omega))];constructor
  .rintro⟨h1,h2⟩;rw[<-h1,<-h2];exact h
  .intro h';exact⟨by omega,by rw[List.eq_nil_of_length_eq_zero (show a.RA.length=0 by omega),List.eq_nil_of_length_eq_zero (show b.RA.length=0 by omega)]⟩
 have hx:∀{a b:Bk},bP a->bP b->a.w=b.w->a.h=b.h->gA a ⟨⟨0,0,true⟩,[]⟩->((a.atoms.length:Int)+a.RA.length=0)->¬((b.atoms.length:Int)+b.RA.length=0)->dQ b a 1000000001 ⟨⟨0,0,true⟩,[]⟩ 0=0:=λ{a b} ha hb hw hh hma h h'=>by
  rw[dQ];split
  .rfl
  .rename_i eb;rw[if_pos];intro hs;unfold cy at hs;rw[if_pos (.inr (by omega))]at hs;have:=hs.1;have:=congrArg List.length hs.2;omega
 unfold fD;by_cases h1:(a.atoms.length:Int)+a.RA.length=0
 .rw[if_pos h1];by_cases h2:(b.atoms.length:Int)+b.RA.length=0
  .rw[if_pos h2,if_pos ((hz h1).2 h2),if_pos ((hz h2).2 h1)]
  .rw[if_neg h2,if_neg λg=>h2 ((hz h1).1 g),hx ha hb hw hh ma h1 h2]
 .rw[if_neg h1];by_cases h2:(b.atoms.length:Int)+b.RA.length=0
  .rw[if_pos h2,if_neg λg=>h1 ((hz h2).1 g),hx hb ha hw.symm hh.symm mb h2 h1]
  .rw[if_neg h2];exact zo ha hb hw hh _ _ _ ma mb
def FE{l:List Nd}(hl:dH l){w h:Int}(e1:ec l w h=0):fD (bc l w h) (bc l w h)=(lT (bc l w h)).length:=by
 have ha:=gj hl e1;generalize bc l w h=a at*;unfold fD lT;by_cases h1:(a.atoms.length:Int)+a.RA.length=0
 .rw[if_pos h1,if_pos h1,if_pos]
  .rfl
  .unfold cy;rw[if_pos (.inl (by omega))];exact⟨rfl,rfl⟩
 .rw[if_neg h1,if_neg h1,vQ ha,FC,Nat.zero_add];rfl
def AV{l m k:List Nd}(hl:dH l)(hm:dH m){w h:Int}(e1:ec l w h=0)(e2:ec m w h=0):min (fD (bc l w h) (bc m w h)) (fD (bc m w h) (bc k w h))<=fD (bc l w h) (bc k w h):=by
 have ha:=gj hl e1;have hb:=gj hm e2;have hw:(bc l w h).w=(bc m w h).w:=rfl;have hh:(bc l w h).h=(bc m w h).h:=rfl;have Yo:(bc m w h).w=(bc k w h).w:=rfl;have hh':(bc m w h).h=(bc k w h).h:=rfl;generalize bc l w h=a at*;generalize bc m w h=b at*;generalize bc k w h=c at*;have hz:∀{a b:Bk},((a.atoms.length:Int)+a.RA.length=0)->(cy a b ⟨⟨0,0,false⟩,[]⟩ 3↔(b.atoms.length:Int)+b.RA.length=0):=λ{a b} h=>by
  unfold cy;rw[if_pos (.inl (by omega))];constructor
  .rintro⟨h1,h2⟩;rw[<-h1,<-h2];exact h
  .intro h';exact⟨by omega,by rw[List.eq_nil_of_length_eq_zero (show a.RA.length=0 by omega),List.eq_nil_of_length_eq_zero (show b.RA.length=0 by omega)]⟩
 unfold fD;by_cases h1:(a.atoms.length:Int)+a.RA.length=0
 .rw[if_pos h1,if_pos h1];by_cases h2:(b.atoms.length:Int)+b.RA.length=0
  .rw[if_pos h2,if_pos ((hz h1).2 h2)];by_cases h3:(c.atoms.length:Int)+c.RA.length=0
   .rw[if_pos ((hz h2).2 h3),if_pos ((hz h1).2 h3)];omega
   .rw[if_neg λg=>h3 ((hz h2).1 g)];omega
  .rw[if_neg λg=>h2 ((hz h1).1 g)];omega
 .rw[if_neg h1,if_neg h1];by_cases h2:(b.atoms.length:Int)+b.RA.length=0
  .have:dQ a b 1000000001 ⟨⟨0,0,true⟩,[]⟩ 0=0:=by
    rw[dQ];split
    .rfl
    .rw[if_pos];intro hs;unfold cy at hs;rw[if_pos (.inr (by omega))]at hs;have:=hs.1;have:=congrArg List.length hs.2;omega
   omega
  .rw[if_neg h2];exact nB ha hb hw hh Yo hh' _ _ _
open Go.Proofs Go.Proofs.Tryz
def Iq(sz:Nat)(ks:List Nat):Ry:=⟨26,(.seq (.Sd false [⟨(some 4),(.RJ (.c (.bool false))),none⟩]) (.seq (.seq (.Sd false [⟨(some 6),(.RJ (.t 0)),none⟩,⟨(some 7),(.len false (.t 6)),none⟩,⟨(some 8),(.RJ (.t 1)),none⟩,⟨(some 9),(.len false (.t 8)),none⟩,⟨(some 10),(.bin .neq (.t 7) (.t 9)),none⟩]) (.cond (.t 10) (.seq (.Sd false [⟨(some 4),(.RJ (.c (.bool false))),none⟩]) .ret) .skip)) (.seq (.seq (.Sd false [⟨(some 11),(.RJ (.t 0)),none⟩,⟨(some 12),(.len false (.t 11)),none⟩,⟨(some 13),(.RJ (.c (.int .i64 0))),none⟩]) (.block 0 (.loop (.seq (.Sd false [⟨(some 14),(.bin .lss (.t 13) (.t 12)),none⟩]) (.seq (.cond (.t 14) .skip (.exit 0)) (.seq (.block 1 (.seq (.Sd false [⟨(some 15),(.RJ (.t 13)),none⟩,⟨(some 5),(.RJ (.t 15)),none⟩]) (.seq (.Sd true [⟨(some 16),(.RJ (.t 0)),none⟩,⟨(some 17),(.RJ (.t 5)),none⟩,⟨(some 18),(.Us sz (.t 16) (.t 17)),none⟩,⟨(some 19),(.load true sz (.t 18)),none⟩,⟨(some 20),(.RJ (.t 1)),none⟩,⟨(some 21),(.RJ (.t 5)),none⟩,⟨(some 22),(.Us sz (.t 20) (.t 21)),none⟩,⟨(some 23),(.load true sz (.t 22)),none⟩,⟨(some 24),(.Yj true ks (.t 19) (.t 23)),none⟩]) (.cond (.t 24) (.seq (.Sd false [⟨(some 4),(.RJ (.c (.bool false))),none⟩]) .ret) .skip)))) (.Sd false [⟨(some 25),(.bin .add (.t 13) (.c (.int .i64 1))),none⟩,⟨(some 13),(.RJ (.t 25)),none⟩]))))))) (.seq (.Sd false [⟨(some 4),(.RJ (.c (.bool true))),none⟩]) .ret)))),[(.tmp (.t 4))]⟩
def KK{P:Program}{f:FuncId}{fn:Func}(hf:P.funcs[f]?=some fn){sz:Nat}{ks:List Nat}(hc:cfn P fn=some (Iq sz ks))(hk:eG P f=true){α:Type}[DecidableEq α](enc:α->V)
 (he:∀a b,iO true ks (enc a) (enc b)=some (.bool (decide (a≠b))))(hl:∀U a,bT U true sz (.rp (enc a))=some (enc a))(xs ys:List α)(hx:xs.length<=1000000000000000):
 aV P f [.sl sz (xs.map enc),.sl sz (ys.map enc)] (.bool (decide (xs=ys))):=λU=>by
 refine aD.kc hf hc hk (by simp[Iq]) ?_;refine ad.mix 6 ?_;have n1:dy false (.sl sz (xs.map enc))=some (.int .i64 xs.length):=by simp[dy]
 have n2:dy false (.sl sz (ys.map enc))=some (.int .i64 ys.length):=by simp[dy]
 by_cases hlen:xs.length=ys.length
 .have q:((xs.length:Int)≠ys.length)=False:=eq_false (by omega);apply sR;simp only[go_sem,seval,Iq,n1,n2,q];refine ad.loop (λm st=>∃j,j<=xs.length/\m=xs.length-j/\xs.take j=ys.take j/\st.s 0=.sl sz (xs.map enc)/\st.s 1=.sl sz (ys.map enc)/\st.s 12=.int .i64 xs.length/\st.s 13=.int .i64 j/\st.U=U) xs.length ⟨0,by omega,rfl,rfl,rfl,rfl,rfl,rfl,rfl⟩ ?_;rintro m ⟨S,Z'⟩ ⟨j,hj,rfl,ht,t0,t1,t12,t13,R3⟩;simp only at t0 t1 t12 t13 R3;subst R3;refine ad.mix 6 ?_;by_cases H':j<xs.length
  .have q1:((j:Int)<xs.length)=True:=eq_true (by omega);have YM:j<ys.length:=by omega
   have i1:∀U,bQ U sz (.sl sz (xs.map enc)) (.int .i64 j)=some (.rp (enc xs[j])):=λU=>by simp[bQ,H']
   have i2:∀U,bQ U sz (.sl sz (ys.map enc)) (.int .i64 j)=some (.rp (enc ys[j])):=λU=>by simp[bQ,YM]
   have Yg:=he xs[j] ys[j];have tx:=List.take_succ_eq_append_getElem H';have ty:=List.take_succ_eq_append_getElem YM;by_cases hq:xs[j]=ys[j]
   .rw[show decide (xs[j]≠ys[j])=false by simpa using hq]at Yg;apply sR;simp only[BB,seval,<-decide_not,bx,fg,aL,cU,eJ,eo,eN,dY,cz,jQ,gx,bI,fH,dP,fq,cL,cP,bF,iP,dh,cQ,cp,SG,jT,dd,cc,dI,cd,dc,cZ,kG,binBV,bW,dp,V.cells,V.stays,TJ.nothing,t0,t1,t12,t13,n1,q1,i1,i2,hl,Yg];exact⟨ao (by omega) (by omega),_,by omega,j+1,by omega,rfl,by rw[tx,ty,ht,hq],by simp⟩
   .rw[show decide (xs[j]≠ys[j])=true by simpa using hq]at Yg;apply sR;simp only[BB,seval,<-decide_not,bx,fg,aL,cU,eJ,eo,eN,dY,cz,jQ,gx,bI,fH,dP,fq,cL,cP,bF,iP,dh,cQ,cp,SG,jT,dd,cc,dI,cd,dc,cZ,kG,binBV,bW,dp,V.cells,V.stays,TJ.nothing,t0,t1,t12,t13,n1,q1,i1,i2,hl,Yg];refine ay.same ?_;have:¬xs=ys:=λh=>hq (by simp only[h]);rw[decide_eq_false this]
  .have q1:((j:Int)<xs.length)=False:=eq_false (by omega);apply sR;simp only[go_sem,seval,t0,t1,t12,t13,n1,q1];refine ay.same ?_;rw[List.take_of_length_le (by omega),List.take_of_length_le (by omega)]at ht;rw[decide_eq_true ht]
 .have q:((xs.length:Int)≠ys.length)=True:=eq_true (by omega);apply sR;simp only[go_sem,seval,Iq,n1,n2,q];refine ay.same ?_;rw[decide_eq_false λh=>hlen (by rw[h])]
def E7(sz:Nat):Ry:=⟨30,(.seq (.Sd false [⟨(some 6),(.RJ (.c (.int .i64 0))),none⟩]) (.seq (.Sd false [⟨(some 7),(.RJ (.c (.int .i64 0))),none⟩]) (.seq (.block 0 (.loop (.seq (.seq (.Sd true [⟨(some 8),(.RJ (.t 7)),none⟩,⟨(some 9),(.RJ (.t 0)),none⟩,⟨(some 10),(.len false (.t 9)),none⟩,⟨(some 11),(.RJ (.t 1)),none⟩,⟨(some 12),(.len false (.t 11)),none⟩,⟨(some 13),(.RD false (.t 10) (.t 12)),none⟩,⟨(some 14),(.bin .lss (.t 8) (.t 13)),none⟩,⟨(some 15),(.RJ (.t 14)),none⟩,⟨(some 16),(.RJ (.t 2)),(some ((.t 15),true))⟩,⟨(some 17),(.RJ (.t 0)),(some ((.t 15),true))⟩,⟨(some 18),(.RJ (.t 7)),(some ((.t 15),true))⟩,⟨(some 19),(.Us sz (.t 17) (.t 18)),(some ((.t 15),true))⟩,⟨(some 20),(.load true sz (.t 19)),(some ((.t 15),true))⟩,⟨(some 21),(.RJ (.t 1)),(some ((.t 15),true))⟩,⟨(some 22),(.RJ (.t 7)),(some ((.t 15),true))⟩,⟨(some 23),(.Us sz (.t 21) (.t 22)),(some ((.t 15),true))⟩,⟨(some 24),(.load true sz (.t 23)),(some ((.t 15),true))⟩,⟨(some 25),(.call (.t 16) [(.t 20),(.t 24)]),(some ((.t 15),true))⟩,⟨(some 26),(.pick (.t 15) (.t 25) (.c (.bool false))),none⟩]) (.cond (.t 26) .skip (.exit 0))) (.block 1 (.Sd false [⟨(some 27),(.RJ (.t 7)),none⟩,⟨(some 28),(.bin .add (.t 27) (.c (.int .i64 1))),none⟩,⟨(some 7),(.RJ (.t 28)),none⟩]))))) (.seq (.Sd false [⟨(some 29),(.RJ (.t 7)),none⟩,⟨(some 6),(.RJ (.t 29)),none⟩]) .ret)))),[(.tmp (.t 6))]⟩
def v8{α:Type}[DecidableEq α]:∀{l m:List α} {n:Nat},n<=l.length->n<=m.length->l.take n=m.take n->bL l m=n+bL (l.drop n) (m.drop n)
 |_,_,0,_,_,_=>by simp
 |[],_,n+1,h,_,_=>by simp at h
 |_::_,[],n+1,_,h,_=>by simp at h
 |x::l,y::m,n+1,h1,h2,h=>by
  simp only[List.take_succ_cons,List.cons.injEq]at h;obtain⟨rfl,h⟩:=h;rw[bL,if_pos rfl,List.drop_succ_cons,List.drop_succ_cons,v8 (by simpa using h1) (by simpa using h2) h];omega
def BR{P:Program}{f:FuncId}{fn:Func}(hf:P.funcs[f]?=some fn){sz:Nat}(hc:cfn P fn=some (E7 sz))(hk:eG P f=true){α:Type}[DecidableEq α](enc:α->V){g:FuncId}
 (hg:∀a b,aV P g [enc a,enc b] (.bool (decide (a=b))))(hl:∀U a,bT U true sz (.rp (enc a))=some (enc a))(xs ys:List α)(hx:xs.length<=1000000):
 aV P f [.sl sz (xs.map enc),.sl sz (ys.map enc),.fn g []] (vI (bL xs ys)):=λU=>by
 refine aD.kc hf hc hk (by simp[E7]) ?_;refine ad.mix 8 ?_;have n1:dy false (.sl sz (xs.map enc))=some (.int .i64 xs.length):=by simp[dy]
 have n2:dy false (.sl sz (ys.map enc))=some (.int .i64 ys.length):=by simp[dy]
 apply sR;simp only[go_sem,seval,E7];refine ad.fi (λst=>st.U=U/\st.s 7=vI (bL xs ys)) (λm st=>∃j:Nat,j<=xs.length/\j<=ys.length/\m=xs.length-j/\xs.take j=ys.take j/\st.s 0=.sl sz (xs.map enc)/\st.s 1=.sl sz (ys.map enc)/\st.s 2=.fn g []/\st.s 7=vI j/\st.U=U) xs.length ⟨0,by omega,by omega,rfl,rfl,rfl,rfl,rfl,rfl,rfl⟩ ?_ ?_
 .rintro m ⟨S,Z'⟩ ⟨j,hj,hj2,rfl,ht,t0,t1,t2,t7,R3⟩;simp only at t0 t1 t2 t7 R3;subst R3;refine ad.mix 8 ?_;have hM:(if(ys.length:Int)<xs.length then(ys.length:Int)else xs.length)=((min xs.length ys.length:Nat):Int):=by split<;>omega
  have H':=v8 hj hj2 ht;by_cases h1:j<min xs.length ys.length
  .have q1:((j:Int)<((min xs.length ys.length:Nat):Int))=True:=eq_true (by omega);have hlx:j<xs.length:=by omega
   have hly:j<ys.length:=by omega
   have i1:∀U,bQ U sz (.sl sz (xs.map enc)) (.int .i64 j)=some (.rp (enc xs[j])):=λU=>by simp[bQ,hlx]
   have i2:∀U,bQ U sz (.sl sz (ys.map enc)) (.int .i64 j)=some (.rp (enc ys[j])):=λU=>by simp[bQ,hly]
   have Yg:=hg xs[j] ys[j];have tx:=List.take_succ_eq_append_getElem hlx;have ty:=List.take_succ_eq_append_getElem hly;rw[List.drop_eq_getElem_cons hlx,List.drop_eq_getElem_cons hly,bL]at H';have r1:RM .i64 ((j:Int)+1):=ao (by omega) (by omega);by_cases hq:xs[j]=ys[j]
   .rw[if_pos hq]at H';rw[decide_eq_true hq]at Yg;apply sR;simp only[go_sem,seval,t0,t1,t2,t7,n1,n2,hM,q1,i1,i2,hl];refine Go.bO rfl rfl rfl Yg ?_;apply sG;simp only[go_sem,seval,t7,r1];exact⟨_,by omega,j+1,by omega,by omega,rfl,by rw[tx,ty,ht,hq],by simp[t0,t1,t2]⟩
   .rw[if_neg hq]at H';rw[decide_eq_false hq]at Yg;apply sR;simp only[go_sem,seval,t0,t1,t2,t7,n1,n2,hM,q1,i1,i2,hl];refine Go.bO rfl rfl rfl Yg ?_;apply sG;simp only[go_sem,seval,t7];rw[H'];rfl
  .have q1:((j:Int)<((min xs.length ys.length:Nat):Int))=False:=eq_false (by omega);have hz:bL (xs.drop j) (ys.drop j)=0:=by
    have:=rW (xs.drop j) (ys.drop j);rw[List.length_drop,List.length_drop]at this;omega
   apply sR;simp only[go_sem,seval,t0,t1,t2,t7,n1,n2,hM,q1];rw[H',hz];rfl
 .rintro⟨S,Z'⟩ ⟨R3,t7⟩;simp only at t7 R3;subst R3;refine ad.mix 8 ?_;apply sR;simp only[go_sem,seval,t7];exact ay.same rfl
open Go.Proofs Go.Proofs.Tryz
section
variable {P:Program} {n:Nat} {st:St} {Q:St->Prop} {k:List It}
def E4{o:Op}{x y:VX}(h:R0 P n o=.bin .sub x y):∃t x0 y0 yt,o=.binOp .sub t x0 y0 yt/\cx n x0=x/\cx n y0=y:=by
 cases o
 case binOp op' t x0 y0 yt=>
  simp only[R0,cN]at h
  repeat' split at h
  all_goals first
   |(simp only[RO.bin.injEq]at h;obtain⟨rfl,h2,h3⟩:=h;exact⟨t,x0,y0,yt,rfl,h2,h3⟩)
   |cases h
   |(cases op'<;>cases h)
 case call c=>
  obtain⟨callee,args,argTypes⟩:=c;cases callee
  case builtin b=>cases b<;>simp only[R0]at h<;>(repeat' split at h)<;>cases h
  all_goals (simp only[R0]at h;cases h)
 case unOp op t x=>cases op<;>simp only[R0]at h<;>cases h
 case makeFunc f a b=>cases f<;>simp only[R0]at h<;>(repeat' split at h)<;>cases h
 all_goals (simp only[R0]at h;(repeat' split at h)<;>cases h)
def ad.On{i:aN}{l:List aN}{x y:VX}{kk:IntKind}{a b:Int}(hw:bu st.s i.g=some true)(ho:i.op=.bin .sub x y)(hx:x.ev st.s=.int kk a)(hy:y.ev st.s=.int kk b)
 (h:ad P n (.ops l::k) ⟨aX st.s i.dst (.int kk (kk.wrap (a-b))),st.U⟩ Q):ad P n (.ops (i::l)::k) st Q:=by
 refine ad.ins (by rw[ho];simp) hw λF hn I act w o all hi hs next Q' RL=>?_
 subst hn;obtain⟨RH,hd⟩:=eF hi;rw[ho]at RH;obtain⟨t,x0,y0,yt,g1,rfl,rfl⟩:=E4 RH;have ex:act.eval x0=.int kk a:=by
  have:=cM hs x0;rw[hx]at this;simpa[E']using this
 have ey:act.eval y0=.int kk b:=by
  have:=cM hs y0;rw[hy]at this;simpa[E']using this
 have Sf:(execOp act.eval o).run P w=.ok (.value (.int kk (kk.wrap (a-b)))) w:=by
  unfold execOp;rw[g1];simp[ex,ey,eqGuard,binOp,Op.intArith]
 unfold Oper.wp;rw[Sf];refine RL _ _ _ ⟨I,?_⟩ h;have:=hs.pure (d:=o.dst) (v:=.int kk (kk.wrap (a-b))) (x:=.int kk (kk.wrap (a-b))) (by simp[E']);rw[<-hd];exact this
end
def wG(h:Int):Prop:=-9223372036854775808<=h/\h<=9223372036854775807
def GY(x:Int):wG (IntKind.i64.wrap x):=by unfold wG;rw[IntKind.wrap_i64];omega
def E6(x B:Int)(hB:0<=B):0<=(if B<if 0>x then 0 else x then B else if 0>x then 0 else x)/\(if B<if 0>x then 0 else x then B else if 0>x then 0 else x)<=B:=by
 by_cases h:0>x
 .simp only[if_pos h];split<;>omega
 .simp only[if_neg h];split<;>omega
open Go.Proofs Go.Proofs.Tryz
def xA(l:List Tp):dy false (bb l)=some (.int .i64 l.length):=by simp[bb,dy]
open Go.Proofs Go.Proofs.Tryz
def F9(l:List UB):dy false (mC l)=some (.int .i64 l.length):=by simp[mC,dy]
def N4(U:ai)(l:List Tp):bT U false 1 (.rp (bb l))=some (bb l):=rfl
open Go.Proofs Go.Proofs.Tryz
def iZ(b:Bk):V:=.agg [.rp (bt b),aK b.nodes,vI b.h,bl b.atoms,aH b.RA,vI b.Rw,bC b.L']
def AG:V:=.agg [.Sc,.aC,vI 0,.aC,.aC,vI 0,.aC]
def bH(b:Bk):(iZ b).cells=[.rp (bt b),aK b.nodes,vI b.h,bl b.atoms,aH b.RA,vI b.Rw,bC b.L']:=rfl
def bG(b:Bk):(iZ b).stays=true:=rfl
def CK(l:List Nd)(w h:Int):V:=if ec l w h=0 then iZ (bc l w h)else AG
def CL(l:List Nd)(hl:dH l)(w h:Int):aV prog 68 [aK l,vI w,vI h] (.RB [CK l w h,vI (ec l w h)]):=λU=>by
 refine e68.r (by simp[c68]) ?_;have hs:=aa.refl U;have hn:=IJ l hl w h;unfold Bf at hn;refine ad.mix 9 ?_;apply sR;simp only[go_sem,seval,c68];refine af λi6 Z6 s6 a6 f6=>?_;have z6:=hs.none f6;replace hs:=hs.trans s6;simp only[go_sem,seval];refine ad.aB rfl rfl rfl (hn _) ?_;by_cases he:ec l w h=0
 .have hb:=gj hl he;have Vg:(bc l w h).nodes=l:=rfl;have hbh:(bc l w h).h=h:=rfl;unfold CK;rw[if_pos he,if_pos he,he];generalize bc l w h=b at*;subst Vg;subst hbh;have q:((0:Int)≠0)=False:=eq_false (λh=>h rfl);have hgc:(xi b).cells=[bl b.atoms,aH b.RA,vI b.Rw]:=rfl;have hgs:(xi b).stays=true:=rfl;apply sR;simp only[go_sem,seval,q];refine ad.aB rfl rfl rfl (wx b hb.toBkFull _) ?_;apply sR;simp only[go_sem,seval];refine ad.aB rfl rfl rfl (wh b hb.toBkFull _) ?_;apply sR;simp only[go_sem,seval,a6,hgc,hgs,ak,au,aJ,al,ar,aI,ae,ax];exact ay.pure (hs.aE z6) rfl
 .have q:(ec l w h≠0)=True:=eq_true he;unfold CK;rw[if_neg he,if_neg he];generalize ec l w h=E at*;apply sR;simp only[go_sem,seval,q,a6];exact ay.pure (hs.aE z6) rfl
def N1(a b:Sk):iO false [0,0,0,0,0,0,0,0] (cF a) (cF b)=some (.bool (decide (a=b))):=by
 obtain⟨a1,a2,a3,a4,a5,a6,a7,a8⟩:=a;obtain⟨b1,b2,b3,b4,b5,b6,b7,b8⟩:=b;simp only[iO,cF,dI,cd,dc,vI,List.length_cons,List.length_nil,true_and,↓reduceIte,Sk.mk.injEq];by_cases h1:a1=b1<;>simp[h1,Bool.and_assoc]
def N0(a b:Tw):iO false [0,0,0] (dZ a) (dZ b)=some (.bool (decide (a=b))):=by
 obtain⟨a1,a2,a3⟩:=a;obtain⟨b1,b2,b3⟩:=b;simp only[iO,dZ,dI,cd,dc,vI,List.length_cons,List.length_nil,true_and,↓reduceIte,Tw.mk.injEq];by_cases h1:a1=b1<;>simp[h1,Bool.and_assoc]
def KJ(a b:P'):iO true [0,0,0,0,0,0,0] (aQ a) (aQ b)=some (.bool (decide (a≠b))):=by
 obtain⟨a1,a2,a3,a4,a5,a6,a7⟩:=a;obtain⟨b1,b2,b3,b4,b5,b6,b7⟩:=b;simp only[iO,aQ,dI,cd,dc,vI,List.length_cons,List.length_nil,true_and,↓reduceIte,ne_eq,P'.mk.injEq];by_cases h1:a1=b1<;>simp[h1,Bool.and_assoc]
def HP(a b:Sk):aV prog 70 [cF a,cF b] (.bool (decide (a=b))):=λU=>by
 refine e70.r (by simp[c70]) ?_;have hs:=aa.refl U;have he:=N1 a b;have hc:∀a:Sk,(cF a).cells=[vI a.kind,vI a.node,vI a.fr,vI a.to,vI a.x,vI a.y,vI a.w,vI a.h]:=λ_=>rfl;have RV:∀a:Sk,(cF a).stays=true:=λ_=>rfl;have WH:∀a:Sk,V.agg [vI a.kind,vI a.node,vI a.fr,vI a.to,vI a.x,vI a.y,vI a.w,vI a.h]=cF a:=λ_=>rfl;refine ad.mix 4 ?_;apply sR;simp only[go_sem,seval,c70,hc,RV];refine af λi2 Z2 s2 a2 f2=>?_;have z2:=hs.none f2;replace hs:=hs.trans s2;simp only[go_sem,seval,hc,RV];refine af λi3 Z3 s3 a3 f3=>?_;have XD:=aq a2 f3;replace a2:=s3 _ _ a2;have z3:=hs.none f3;replace hs:=hs.trans s3;simp only[BB,seval,<-decide_not,bx,fg,aL,cU,eJ,eo,eN,dY,cz,jQ,gx,bI,fH,dP,fq,cL,cP,bF,iP,dh,cQ,cp,SG,jT,dd,cc,dI,cd,dc,cZ,kG,binBV,bW,dp,a2,a3,hc,RV,WH,he,V.vx,V.vF,V.td,V.vm,V.Ao,V.wa,V.um,V.zL,V.vV,V.Ae,V.vX,V.wu,V.sN,V.vk,V.zD,V.vi,V.tr,V.zK,V.vL,V.yR];exact ay.pure hs rfl
def Ih(a b:Tw):aV prog 72 [dZ a,dZ b] (.bool (decide (a=b))):=λU=>by
 refine e72.r (by simp[c72]) ?_;have hs:=aa.refl U;have he:=N0 a b;have hc:∀a:Tw,(dZ a).cells=[vI a.cls,vI a.forced,vI a.Sq]:=λ_=>rfl;have RV:∀a:Tw,(dZ a).stays=true:=λ_=>rfl;have WH:∀a:Tw,V.agg [vI a.cls,vI a.forced,vI a.Sq]=dZ a:=λ_=>rfl;refine ad.mix 4 ?_;apply sR;simp only[go_sem,seval,c72,hc,RV];refine af λi2 Z2 s2 a2 f2=>?_;have z2:=hs.none f2;replace hs:=hs.trans s2;simp only[go_sem,seval,hc,RV];refine af λi3 Z3 s3 a3 f3=>?_;have XD:=aq a2 f3;replace a2:=s3 _ _ a2;have z3:=hs.none f3;replace hs:=hs.trans s3;simp only[BB,seval,<-decide_not,bx,fg,aL,cU,eJ,eo,eN,dY,cz,jQ,gx,bI,fH,dP,fq,cL,cP,bF,iP,dh,cQ,cp,SG,jT,dd,cc,dI,cd,dc,cZ,kG,binBV,bW,dp,a2,a3,hc,RV,WH,he,V.vx,V.vF,V.td,V.vm,V.Ao,V.wa,V.um,V.zL,V.vV,V.Ae,V.vX,V.wu,V.sN,V.vk,V.zD,V.vi,V.tr,V.zK,V.vL,V.yR];exact ay.pure hs rfl
def Iv(a b:List Sk)(h:a.length<=1000000):aV prog 69 [bl a,bl b,.fn 70 []] (vI (bL a b)):=
 BR func69 (e69.b.trans rfl) e69.c cF HP (λ_ _=>rfl) a b h
def Ij(a b:List Tw)(h:a.length<=1000000):aV prog 71 [bC a,bC b,.fn 72 []] (vI (bL a b)):=
 BR func71 (e71.b.trans rfl) e71.c dZ Ih (λ_ _=>rfl) a b h
def CU(a b:List P')(h:a.length<=1000000):aV prog 132 [aH a,aH b] (.bool (decide (a=b))):=
 KK func132 (Oq.b.trans rfl) Oq.c aQ KJ (λ_ _=>rfl) a b (by omega)
def JY(end':Int)(f:P'){U:ai}{i3:Nat}(a3:U i3=some ⟨3,1,[vI end']⟩):
 aD prog 189 [aQ f,.ptr i3 0 0] U λr Z'=>r=.bool (decide (f.anchor>end'))/\Z'=U:=by
 refine Pt.r (by simp[Ji]) ?_;have hs:=aa.refl U;have hc:(aQ f).cells=[vI f.node,vI f.side,vI f.anchor,vI f.x,vI f.y,vI f.w,vI f.h]:=rfl;have RV:(aQ f).stays=true:=rfl;refine ad.mix 5 ?_;apply sR;simp only[go_sem,seval,Ji,hc,RV];refine af λi2 Z2 s2 a2 f2=>?_;have n32:=aq a3 f2;replace a3:=s2 _ _ a3;have z2:=hs.none f2;replace hs:=hs.trans s2;simp only[go_sem,seval,a2,a3,hc,RV];exact⟨_,U,hs,Wk.refl hs _,rfl,rfl⟩
def DT(b:Bk)(r:Int):lx (λf=>decide (f.anchor>r)) b.RA=kI b r:=by
 unfold kI lx;congr 1;funext f;by_cases h:f.anchor<=r
 .show(!decide (f.anchor>r))=decide (f.anchor<=r);rw[decide_eq_true h,decide_eq_false (by omega)];rfl
 .show(!decide (f.anchor>r))=decide (f.anchor<=r);rw[decide_eq_false h,decide_eq_true (by omega)];rfl
def vr(b:Bk)(hl:b.RA.length<=1000000)(r:Int):aV prog 134 [iZ b,vI r] (aH (kI b r)):=λU=>by
 refine Qz.r (by simp[JL]) ?_;have hs:=aa.refl U;refine ad.mix 5 ?_;apply sR;simp only[go_sem,seval,JL,bH,bG];refine af λi2 Z2 s2 a2 f2=>?_;have z2:=hs.none f2;replace hs:=hs.trans s2;simp only[go_sem,seval,bH,bG];refine af λi3 Z3 s3 a3 f3=>?_;have XD:=aq a2 f3;replace a2:=s3 _ _ a2;have z3:=hs.none f3;replace hs:=hs.trans s3;simp only[go_sem,seval,a2,a3,bH,bG,au,ar];refine ad.call rfl rfl rfl (oe func62 (e62.b.trans rfl) e62.c (b.RA.map aQ) (by simp;omega) _) ?_;rintro r1 Z9 ⟨h9,ho9⟩;apply sR;simp only[go_sem,seval];refine ad.call rfl rfl rfl (vT b.RA hl h9 ho9 (λf=>decide (f.anchor>r)) (λx _ J ZF=>JY r x (ZF _ _ a3))) ?_;rintro r2 WO ⟨hp,Wh⟩;rw[DT]at hp;apply sR;simp only[go_sem,seval];exact⟨_,U,hs.trans Wh,hp.wk hs (hs.trans Wh),rfl,rfl⟩
def Di(b:Bk)(s:Sn):V:=if b.atoms=[]then .agg [.aC,vI 0,vI b.h]else jF (bf b s)
def wP(b:Bk)(hb:BkFull b)(s:Sn)(Sj:0<=s.atom):aV prog 187 [iZ b,bj s] (Di b s):=λU=>by
 refine O0.r (by simp[Ky]) ?_;have hs:=aa.refl U;have Uj:(bj s).cells=[vI s.atom,vI s.done,.bool s.free]:=rfl;have U2:(bj s).stays=true:=rfl;have Vd:=gC b.atoms;have hlen:=hb.len;refine ad.mix 6 ?_;apply sR;simp only[go_sem,seval,Ky,bH,bG,Uj,U2];refine af λi2 Z2 s2 a2 f2=>?_;have z2:=hs.none f2;replace hs:=hs.trans s2;simp only[go_sem,seval,Uj,U2];refine af λi3 Z3 s3 a3 f3=>?_;have XD:=aq a2 f3;replace a2:=s3 _ _ a2;have z3:=hs.none f3;replace hs:=hs.trans s3;simp only[go_sem,seval];refine af λi4 Z4 s4 a4 f4=>?_;have YU:=aq a3 f4;replace a3:=s4 _ _ a3;have Yv:=aq a2 f4;replace a2:=s4 _ _ a2;have z4:=hs.none f4;replace hs:=hs.trans s4;by_cases hn:b.atoms=[]
 .have q:((b.atoms.length:Int)=0)=True:=eq_true (by rw[hn];rfl);simp only[go_sem,seval,a2,a3,a4,bH,bG,ak,al,Vd,q];unfold Di;rw[if_pos hn];exact ay.pure (hs.aE z4) rfl
 .have hl0:=List.length_pos_iff.2 hn;have q:((b.atoms.length:Int)=0)=False:=eq_false (by omega);unfold Di;rw[if_neg hn,bf,if_neg hn];obtain⟨k,hk⟩:∃k:Nat,min s.atom ((b.atoms.length:Int)-1)=k:=⟨(min s.atom ((b.atoms.length:Int)-1)).toNat,by omega⟩
  have TR:k<b.atoms.length:=by omega
  have hmin:(if(b.atoms.length:Int)-1<s.atom then(b.atoms.length:Int)-1 else s.atom)=k:=by split<;>omega
  have r1:RM .i64 ((b.atoms.length:Int)-1):=ao (by omega) (by omega);have Rv:=λU=>iD (U:=U) TR;rw[hk,bz TR];have hc:=I8 b.nodes hb.rE b.atoms[k].node b.h;have hac:∀a:Sk,(cF a).cells=[vI a.kind,vI a.node,vI a.fr,vI a.to,vI a.x,vI a.y,vI a.w,vI a.h]:=λ_=>rfl;have hkc:∀x:Kp,(jF x).cells=[bn x.RG,vI x.high,vI x.body]:=λ_=>rfl;have Ya:∀x:Kp,(jF x).stays=true:=λ_=>rfl;generalize b.atoms[k]=A at*;simp only[go_sem,seval,a2,a3,a4,Uj,U2,bH,bG,ak,al,ae,ax,Vd,q,hmin,r1,Rv,hac];refine Go.bO rfl rfl rfl hc ?_;apply sG;simp only[go_sem,seval,a4,hkc,Ya];exact ay.pure (hs.aE z4) rfl
open Go.Proofs Go.Proofs.Tryz
def bE(s:Sy):(bX s).cells=[vI s.s.atom,vI s.s.done,.bool s.s.free,aH s.bM]:=rfl
def cO(s:Sy):(bX s).stays=true:=rfl
def mI(s:Sn):V.agg [vI s.atom,vI s.done,.bool s.free]=bj s:=rfl
def eY(s:Sn):(bj s).cells=[vI s.atom,vI s.done,.bool s.free]:=rfl
def eU(s:Sn):(bj s).stays=true:=rfl
def MK(b:Bk)(hb:bP b)(s:Sy)(kind:Int)(h0:0<=s.s.atom)(hm:kind=1->bZ b.atoms s.s)(hp:s.bM.length<=1000000)(Zh:∀f∈s.bM,0<=f.h):
 aV prog 133 [iZ b,bX s,vI kind] (vI (dv b s kind)):=λU=>by
 refine QR.r (by simp[Lh]) ?_;have hs:=aa.refl U;refine ad.mix 12 ?_;apply sR;simp only[go_sem,seval,Lh,bH,bG,bE,cO,au,ar];refine af λi3 Z3 s3 a3 f3=>?_;have z3:=hs.none f3;replace hs:=hs.trans s3;simp only[go_sem,seval,bE,cO,au,ar];refine af λi4 Z4 s4 a4 f4=>?_;have YU:=aq a3 f4;replace a3:=s4 _ _ a3;have z4:=hs.none f4;replace hs:=hs.trans s4;by_cases hk:kind=1
 .have q:(kind≠1)=False:=eq_false (λh=>h hk);have hf:=hm hk;have R6:b.atoms≠[]:=λh=>by have:=hf.1;rw[h]at this;simp at this;omega
  have hR:dv b s kind=iS b.atoms s.s (ie b.atoms s.s ((bf b s.s).body-(dC (bf b s.s).body s.bM 0).2.2)) (dC (bf b s.s).body s.bM 0).2.2 (bf b s.s).body:=by unfold dv;rw[if_neg (λh=>h hk)]
  rw[hR];have hrv:Di b s.s=jF (bf b s.s):=if_neg R6;have hrc:=wP b hb.toBkFull s.s h0;rw[hrv]at hrc;have hr1:=iu hb.toBkFull s.s h0;have Wf:=(mO hb.toBkFull s.s).body;have hkc:∀x:Kp,(jF x).cells=[bn x.RG,vI x.high,vI x.body]:=λ_=>rfl;have Ya:∀x:Kp,(jF x).stays=true:=λ_=>rfl;generalize bf b s.s=X at*;have htc:=Ek s.bM hp X.body hr1 (by omega) Zh;obtain⟨g1,g2,g3,g4⟩:=rP (body:=X.body) s.bM 0 (Int.le_refl _) (by omega) Zh;generalize dC X.body s.bM 0=T at*;have hkr:=vz hb.toBkOk s.s (X.body-T.2.2);have WE:=CH b.atoms hb.RY s.s (X.body-T.2.2);have X8:=pS hb.toBkOk hf;have hRc:=zP b.atoms hb.RY s.s (by omega) (ie b.atoms s.s (X.body-T.2.2)) T.2.2 X.body hkr ⟨by omega,by omega⟩;generalize ie b.atoms s.s (X.body-T.2.2)=K at*;have r1:RM .i64 (X.body-T.2.2):=ao (by omega) (by omega);have hI:(bn X.RG).cells=[bn X.RG]:=rfl;have Zz:(bn X.RG).stays=true:=rfl;simp only[go_sem,seval,a3,a4,q,bH,bG,bE,cO];rw[<-iZ,mI];refine ad.aB rfl rfl rfl (hrc _) ?_;apply sR;simp only[go_sem,seval,a3,a4,hkc,Ya];refine af λi7 Z7 s7 a7 f7=>?_;have ZU:=aq a3 f7;replace a3:=s7 _ _ a3;have n47:=aq a4 f7;replace a4:=s7 _ _ a4;have z7:=hs.none f7;replace hs:=hs.trans s7;simp only[go_sem,seval,a3,a4,a7,hkc,Ya,hI,Zz];generalize Tu:C' _ i7 _=Y7;replace a7:=(congrFun Tu i7).symm.trans ag;replace a3:=((congrFun Tu i3).symm.trans (ab ZU)).trans a3;replace a4:=((congrFun Tu i4).symm.trans (ab n47)).trans a4;replace hs:=Eq.subst (motive:=aa _) Tu (hs.aE z7);clear Tu;simp only[go_sem,seval,a3,a4,a7,hkc,Ya,bH,bG,bE,cO,au,ar,hI,Zz];refine ad.aB rfl rfl rfl (htc _) ?_;apply sR;simp only[go_sem,seval,a3,a4,a7,r1,hkc,Ya,bH,bG,bE,cO,ak,al,au,ar,hI,Zz];rw[mI];refine ad.aB rfl rfl rfl (WE _) ?_;apply sR;simp only[go_sem,seval,a3,a4,a7,hkc,Ya,bH,bG,bE,cO,ak,al,au,ar,hI,Zz];rw[mI];refine ad.aB rfl rfl rfl (hRc _) ?_;apply sR;simp only[go_sem,seval];exact ay.pure hs rfl
 .have q:(kind≠1)=True:=eq_true hk;unfold dv;rw[if_pos hk];simp only[go_sem,seval,a4,q,bE,cO];exact ay.pure hs rfl
def lB(a b:Bk)(n m:Int):V:=.agg [.rp (bt a),aK a.nodes,vI a.h,bl a.atoms,aH a.RA,vI a.Rw,bC a.L',.rp (bt b),aK b.nodes,vI b.h,bl b.atoms,aH b.RA,vI b.Rw,bC b.L',vI n,vI m]
def cI(a b:Bk)(n m:Int):(lB a b n m).cells=[.rp (bt a),aK a.nodes,vI a.h,bl a.atoms,aH a.RA,vI a.Rw,bC a.L',.rp (bt b),aK b.nodes,vI b.h,bl b.atoms,aH b.RA,vI b.Rw,bC b.L',vI n,vI m]:=rfl
def cK(a b:Bk)(n m:Int):(lB a b n m).stays=true:=rfl
def Ix(a b:Bk)(n m:Int)(i k:Int)(hi:∃j:Nat,i=j/\j<a.nodes.length)(hk:∃j:Nat,k=j/\j<b.nodes.length){U:ai}{i2:Nat}(a2:U i2=some ⟨104,16,[lB a b n m]⟩):
 aD prog 191 [vI i,vI k,.ptr i2 0 0] U λr Z'=>r=.bool (decide (i=k/\(Tk a.nodes i).head=(Tk b.nodes k).head))/\Z'=U:=by
 refine Qr.r (by simp[Ib]) ?_;have hs:=aa.refl U;obtain⟨i,rfl,hi⟩:=hi;obtain⟨k,rfl,hk⟩:=hk;have e1:(Tk a.nodes (i:Int)).head=a.nodes[i].st.head:=by simp[Tk,hi]
 have e2:(Tk b.nodes (k:Int)).head=b.nodes[k].st.head:=by simp[Tk,hk]
 have x1:=λU=>cJ (U:=U) hi;have x2:=λU=>cJ (U:=U) hk;rw[e1,e2];generalize a.nodes[i]=x at*;generalize b.nodes[k]=y at*;refine ad.mix 5 ?_;by_cases hik:(i:Int)=k
 .have q:((i:Int)=k)=True:=eq_true hik;apply sR;simp only[go_sem,seval,Ib,a2,cI,cK,ae,ax,q,x1,x2,Nd.cells,SW.cells];exact ay.same (by simp[hik])
 .have q:((i:Int)=k)=False:=eq_false hik;apply sR;simp only[go_sem,seval,Ib,a2,q];exact ay.same (by simp[hik])
def pC{α:Type}(p:α->α->Bool):List α->List α->Bool
 |[],[]=>true
 |x::l,y::m=>p x y&&pC p l m
 |_,_=>false
def Ak{α:Type}{p:α->α->Bool}:∀{l m:List α},l.length≠m.length->pC p l m=false
 |[],[],h=>absurd rfl h
 |x::l,y::m,h=>by rw[pC,Ak (by simpa using h),Bool.and_false]
 |[],_::_,_=>rfl
 |_::_,[],_=>rfl
def Ki{U:ai}{f:FuncId}{caps:List V}(p:Int->Int->Bool)(xs ys:List Int)(hx:xs.length<=1000000)
 (hf:∀x∈xs,∀y∈ys,aD prog f (vI x::vI y::caps) U λr Z'=>r=.bool (p x y)/\Z'=U):
 aD prog 190 [bn xs,bn ys,.fn f caps] U λr Z'=>r=.bool (pC p xs ys)/\Z'=U:=by
 refine Qk.r (by simp[IC]) ?_;refine ad.mix 10 ?_;have n1:=dJ xs;have n2:=dJ ys;by_cases hlen:xs.length=ys.length
 .have q:((xs.length:Int)≠ys.length)=False:=eq_false (by omega);apply sR;simp only[go_sem,seval,IC,n1,n2,q];refine ad.loop (λm st=>∃j,j<=xs.length/\m=xs.length-j/\pC p xs ys=pC p (xs.drop j) (ys.drop j)/\st.s 1=bn ys/\st.s 2=.fn f caps/\st.s 15=bn xs/\st.s 16=.int .i64 xs.length/\st.s 17=.int .i64 j/\st.U=U) xs.length ⟨0,by omega,rfl,rfl,rfl,rfl,rfl,rfl,rfl,rfl⟩ ?_;rintro m ⟨S,Z'⟩ ⟨j,hj,rfl,ht,t1,t2,t15,t16,t17,R3⟩;simp only at t1 t2 t15 t16 t17 R3;subst R3;refine ad.mix 10 ?_;by_cases H':j<xs.length
  .have q1:((j:Int)<xs.length)=True:=eq_true (by omega);have YM:j<ys.length:=by omega
   have i1:=λU=>gS (U:=U) H';have i2:=λU=>gS (U:=U) YM;have Yg:=hf xs[j] (List.getElem_mem H') ys[j] (List.getElem_mem YM);rw[List.drop_eq_getElem_cons H',List.drop_eq_getElem_cons YM,pC]at ht;have r1:RM .i64 ((j:Int)+1):=ao (by omega) (by omega);generalize xs[j]=x at*;generalize ys[j]=y at*;apply sR;simp only[go_sem,seval,t1,t2,t15,t16,t17,q1,i1,i2,lq];refine ad.aB rfl rfl rfl Yg ?_;cases hp:p x y
   .apply sR;simp only[go_sem,seval];exact ay.same (by rw[ht,hp];rfl)
   .apply sR;simp only[go_sem,seval,t1,t2,t15,t16,t17,r1];exact⟨_,by omega,j+1,by omega,rfl,by rw[ht,hp];rfl,by simp[t1,t2,t15,t16]⟩
  .have q1:((j:Int)<xs.length)=False:=eq_false (by omega);apply sR;simp only[go_sem,seval,t1,t2,t15,t16,t17,q1];refine ay.same ?_;rw[ht,List.drop_eq_nil_of_le (by omega),List.drop_eq_nil_of_le (by omega)];rfl
 .have q:((xs.length:Int)≠ys.length)=True:=eq_true (by omega);apply sR;simp only[go_sem,seval,IC,n1,n2,q];exact ay.same (by rw[Ak hlen])
def zq{q:Int->Int->Prop}[∀x y,Decidable (q x y)]:∀(l m:List Int),pC (λx y=>decide (x=y/\q x y)) l m=decide (l=m/\∀n∈l,q n n)
 |[],[]=>by simp[pC]
 |[],y::m=>by simp[pC]
 |x::l,[]=>by simp[pC]
 |x::l,y::m=>by
  rw[pC,zq l m];by_cases h:x=y
  .subst h;simp only[true_and,List.cons.injEq,List.mem_cons,forall_eq_or_imp,Bool.decide_and];cases decide (q x x)<;>cases decide (l=m)<;>simp
  .simp[h]
def C6(a b:Bk)(ha:bP a)(hb:bP b)(na:a.atoms≠[])(nb:b.atoms≠[])(n m:Int)(s:Sn)(h0:0<=s.atom):
 aV prog 135 [lB a b n m,bj s] (.bool (decide (lh a b s))):=λU=>by
 refine OE.r (by simp[JV]) ?_;have hs:=aa.refl U;have ca:=wP a ha.toBkFull s h0;have cb:=wP b hb.toBkFull s h0;rw[Di,if_neg na]at ca;rw[Di,if_neg nb]at cb;have oa:=mO ha.toBkFull s;have ob:=mO hb.toBkFull s;have hD:decide (lh a b s)=pC (λx y=>decide (x=y/\(Tk a.nodes x).head=(Tk b.nodes y).head)) (bf a s).RG (bf b s).RG:=by
  rw[zq (q:=λx y=>(Tk a.nodes x).head=(Tk b.nodes y).head)];exact decide_eq_decide.2 Iff.rfl
 rw[hD];clear hD;have hkc:∀x:Kp,(jF x).cells=[bn x.RG,vI x.high,vI x.body]:=λ_=>rfl;have Ya:∀x:Kp,(jF x).stays=true:=λ_=>rfl;have hIc:∀l,(bn l).cells=[bn l]:=λ_=>rfl;have Zz:∀l,(bn l).stays=true:=λ_=>rfl;generalize bf a s=X at*;generalize bf b s=Y at*;refine ad.mix 7 ?_;apply sR;simp only[go_sem,seval,JV,cI,cK,eY,eU];refine af λi2 Z2 s2 a2 f2=>?_;have z2:=hs.none f2;replace hs:=hs.trans s2;simp only[go_sem,seval,eY,eU];refine af λi3 Z3 s3 a3 f3=>?_;have XD:=aq a2 f3;replace a2:=s3 _ _ a2;have z3:=hs.none f3;replace hs:=hs.trans s3;simp only[go_sem,seval,a2,a3,cI,cK,eY,eU];refine Go.bO rfl rfl rfl ca ?_;apply sG;simp only[go_sem,seval,a2,a3,cI,cK,eY,eU];refine Go.bO rfl rfl rfl cb ?_;apply sG;simp only[go_sem,seval,a2,a3,hkc,Ya];refine bw λi5 Z5 s5 a5 f5=>?_;have Yw:=aq a3 f5;replace a3:=s5 _ _ a3;have ZR:=aq a2 f5;replace a2:=s5 _ _ a2;have z5:=hs.none f5;replace hs:=hs.trans s5;simp only[go_sem,seval,a2,a3,hkc,Ya];refine bw λi6 Z6 s6 a6 f6=>?_;have n56:=aq a5 f6;replace a5:=s6 _ _ a5;have n36:=aq a3 f6;replace a3:=s6 _ _ a3;have n26:=aq a2 f6;replace a2:=s6 _ _ a2;have z6:=hs.none f6;replace hs:=hs.trans s6;simp only[go_sem,seval,a2,a3,a5,a6,hkc,Ya,ab ZR,ab Yw,ab n56.symm,ab n26,ab n36,ab n56];generalize Ui:C' _ i5 _=Y5;replace a5:=(congrFun Ui i5).symm.trans ag;replace a2:=((congrFun Ui i2).symm.trans (ab ZR)).trans a2;replace a3:=((congrFun Ui i3).symm.trans (ab Yw)).trans a3;replace a6:=((congrFun Ui i6).symm.trans (ab n56.symm)).trans a6;replace hs:=Eq.subst (motive:=aa _) Ui (hs.aE z5);clear Ui;generalize VT:C' _ i6 _=Y6;replace a6:=(congrFun VT i6).symm.trans ag;replace a2:=((congrFun VT i2).symm.trans (ab n26)).trans a2;replace a3:=((congrFun VT i3).symm.trans (ab n36)).trans a3;replace a5:=((congrFun VT i5).symm.trans (ab n56)).trans a5;replace hs:=Eq.subst (motive:=aa _) VT (hs.aE z6);clear VT;apply sR;simp only[go_sem,seval,a2,a3,a5,a6,hkc,Ya,hIc,Zz,cI,cK];refine ad.aB rfl rfl rfl (Ki (λx y=>decide (x=y/\(Tk a.nodes x).head=(Tk b.nodes y).head)) X.RG Y.RG oa.len λx hx y hy=>Ix a b n m x y (oa.mem x hx) (ob.mem y hy) a2) ?_;apply sR;simp only[go_sem,seval];exact ay.pure hs rfl
open Go.Proofs Go.Proofs.Tryz
def Hn(b:Bk)(SD:b.L'.length<=1000000)(p:UB)(s:Sn)(h0:0<=s.atom)(h1:s.atom<b.L'.length)(no:Int)(R7:0<=no):aV prog 74 [iZ b,bj s,vI p.kind,vI no] (.bool (decide (ig b p s no))):=λU=>by
 refine e74.r (by simp[c74]) ?_;have hs:=aa.refl U;obtain⟨k,hk⟩:∃k:Nat,s.atom=k:=⟨s.atom.toNat,by omega⟩
 have TR:k<b.L'.length:=by omega
 have Rv:=λU=>sX (U:=U) TR;have hg:Ud b.L' s.atom.toNat=b.L'[k]:=by rw[hk];simp[Ud,TR]
 have hb3:∀x:Tw,(dZ x).cells=[vI x.cls,vI x.forced,vI x.Sq]:=λ_=>rfl;have htm:no.tmod 2=no%2:=Int.tmod_eq_emod_of_nonneg R7;refine ad.mix 9 ?_;have hD:decide (ig b p s no)=decide (p.kind=1/\¬s.done>0/\(b.L'[k].forced=3/\no%2=1\/b.L'[k].forced=4/\no%2=0)):=decide_eq_decide.2 (by unfold ig;rw[hg]);rw[hD];clear hD hg;generalize hX:decide (p.kind=1/\¬s.done>0/\(b.L'[k].forced=3/\no%2=1\/b.L'[k].forced=4/\no%2=0))=X;generalize b.L'[k]=x at*;apply sR;simp only[go_sem,seval,c74,bH,bG,eY,eU];refine af λi4 Z4 s4 a4 f4=>?_;have z4:=hs.none f4;replace hs:=hs.trans s4;simp only[go_sem,seval,eY,eU];refine af λi5 Z5 s5 a5 f5=>?_;have TL:=aq a4 f5;replace a4:=s5 _ _ a4;have z5:=hs.none f5;replace hs:=hs.trans s5;by_cases q1:p.kind=1
 .have YO:(p.kind≠1)=False:=eq_false (λh=>h q1);by_cases q2:s.done>0
  .have ZM:(s.done>0)=True:=eq_true q2;simp only[go_sem,seval,a4,a5,YO,ZM,eY,eU];exact ay.pure hs (by rw[<-hX,decide_eq_false λh=>h.2.1 q2])
  .have ZM:(s.done>0)=False:=eq_false q2;by_cases q3:x.forced=3
   .have q3':(x.forced=3)=True:=eq_true q3;have q6:(x.forced=4)=False:=eq_false (by omega);by_cases q4:no%2=1
    .have q4':(no.tmod 2=1)=True:=eq_true (by omega);simp only[go_sem,seval,a4,a5,YO,ZM,q3',q4',q6,hk,Rv,hb3,eY,eU,bH,bG,aJ,aI];exact ay.pure hs (by rw[<-hX,decide_eq_true ⟨q1,q2,.inl ⟨q3,q4⟩⟩])
    .have q4':(no.tmod 2=1)=False:=eq_false (by omega);simp only[go_sem,seval,a4,a5,YO,ZM,q3',q4',q6,hk,Rv,hb3,eY,eU,bH,bG,aJ,aI];exact ay.pure hs (by rw[<-hX,decide_eq_false];omega)
   .have q3':(x.forced=3)=False:=eq_false q3;by_cases q6:x.forced=4
    .have q6':(x.forced=4)=True:=eq_true q6;by_cases q4:no%2=0
     .have q4':(no.tmod 2=0)=True:=eq_true (by omega);simp only[go_sem,seval,a4,a5,YO,ZM,q3',q4',q6',hk,Rv,hb3,eY,eU,bH,bG,aJ,aI];exact ay.pure hs (by rw[<-hX,decide_eq_true ⟨q1,q2,.inr ⟨q6,q4⟩⟩])
     .have q4':(no.tmod 2=0)=False:=eq_false (by omega);simp only[go_sem,seval,a4,a5,YO,ZM,q3',q4',q6',hk,Rv,hb3,eY,eU,bH,bG,aJ,aI];exact ay.pure hs (by rw[<-hX,decide_eq_false];omega)
    .have q6':(x.forced=4)=False:=eq_false q6;simp only[go_sem,seval,a4,a5,YO,ZM,q3',q6',hk,Rv,hb3,eY,eU,bH,bG,aJ,aI];exact ay.pure hs (by rw[<-hX,decide_eq_false];omega)
 .have YO:(p.kind≠1)=True:=eq_true q1;simp only[go_sem,seval,a4,a5,YO,eY,eU];exact ay.pure hs (by rw[<-hX,decide_eq_false λh=>q1 h.1])
def tU(a b:Bk):V:=.agg [.rp (bt a),aK a.nodes,vI a.h,bl a.atoms,aH a.RA,vI a.Rw,bC a.L',.rp (bt b),aK b.nodes,vI b.h,bl b.atoms,aH b.RA,vI b.Rw,bC b.L']
def cj(a b:Bk):(tU a b).cells=[.rp (bt a),aK a.nodes,vI a.h,bl a.atoms,aH a.RA,vI a.Rw,bC a.L',.rp (bt b),aK b.nodes,vI b.h,bl b.atoms,aH b.RA,vI b.Rw,bC b.L']:=rfl
def cm(a b:Bk):(tU a b).stays=true:=rfl
def DM(a b:Bk)(ha:a.atoms.length<=1000000)(hb:a.L'.length<=1000000):aV prog 35 [tU a b] (lB a b (bL a.atoms b.atoms) (bL a.L' b.L')):=λU=>by
 refine e35.r (by simp[c35]) ?_;have hs:=aa.refl U;have c1:=Iv a.atoms b.atoms ha;have c2:=Ij a.L' b.L' hb;generalize bL a.atoms b.atoms=n1 at*;generalize bL a.L' b.L'=n2 at*;have fin:∀(S:Nat->V) (J:ai) (i2 i3 i4:Nat) (hsZ:aa U J) (z2:U i2=none) (a2:J i2=some ⟨104,16,[.agg [.Sc,.aC,vI 0,.aC,.aC,vI 0,.aC,.Sc,.aC,vI 0,.aC,.aC,vI 0,.aC,vI 0,vI 0]]⟩) (a3:J i3=some ⟨99,7,[iZ a]⟩) (a4:J i4=some ⟨99,7,[iZ b]⟩) (t2:S 2=.ptr i2 0 0) (t3:S 3=.ptr i3 0 0) (t4:S 4=.ptr i4 0 0),
  ad prog 24 [It.code c35.code.rt.rt] ⟨S,J⟩ λst=>VL [.cell true 16 (.t 2)] st λr Z'=>r=lB a b n1 n2/\Z'=U:=by
  intro S J i2 i3 i4 hsZ z2 a2 a3 a4 t2 t3 t4;refine ad.mix 5 ?_;apply sR;simp only[go_sem,seval,c35,bJ.rt,t2,t3,t4,a2,a3,a4,bH,bG,ak,al,aJ,aI];refine Go.bO rfl rfl rfl c1 ?_;apply sG;simp only[go_sem,seval,t2,t3,t4,a2,a3,a4,bH,bG,ak,al,aJ,aI];refine Go.bO rfl rfl rfl c2 ?_;apply sG;simp only[go_sem,seval,t2,t3,t4,a2,a3,a4,bH,bG,ak,al,aJ,aI,ae,ax,au,ar];exact ay.pure (hsZ.aE z2) rfl
 refine ad.mix 5 ?_;apply sR;simp only[go_sem,seval,c35,cj,cm];refine af λi1 Z1 s1 a1 f1=>?_;have z1:=hs.none f1;replace hs:=hs.trans s1;simp only[go_sem,seval,cj,cm];refine af λi2 Z2 s2 a2 f2=>?_;have n12:=aq a1 f2;replace a1:=s2 _ _ a1;have z2:=hs.none f2;replace hs:=hs.trans s2;simp only[go_sem,seval,a1,a2,di];have a3:True:=trivial;have a4:True:=trivial;have hn:True:=trivial;have Vp:True:=trivial;have VH:True:=trivial;have VI:True:=trivial;have VJ:True:=trivial;have Sj:=hs;refine ad.Dl (by kernel_rfl) 8 (.fork [[],[0],[],[2],[],[],[4,1,0,5],[5,3,6,0,1,2,4]] [0,1,2,3] [4,5] [(.leaf [[],[0],[],[2],[],[4],[4,1,0,5],[4,5,3,6,0,1,2]] [4,5,6,7]),(.leaf [[],[0],[],[2],[5],[],[5,4,1,0],[5,3,6,0,1,2,4]] [5,4,6,7])]) (by kernel_rfl) ?_;refine GT.o9 (its:=[0,2,4,6]) (by kernel_rfl) ?_;refine RE.SC (n:=0) [] [0,2,4,6] [⟨(.some 5),(.UE .true 2 7 (.t 1) (.c (.int .i64 0))),.none⟩,⟨(.some 6),(.load .true 7 (.t 5)),.none⟩,⟨(.some 7),(.UE .true 2 7 (.t 1) (.c (.int .i64 1))),.none⟩,⟨(.some 8),(.load .true 7 (.t 7)),.none⟩] rfl rfl ?_;apply sG;simp only[go_sem,seval,a1,a2,a3,a4,hn,cj,cm,Vp,VH,VI,VJ,ak,al,aJ,aI,ae,ax,au,ar];refine⟨?_,?_⟩
 .refine GT.iK (its:=[8,3,7,10,3,7,12,7,14]) (by kernel_rfl) ?_;refine RE.SC (n:=0) [3,7,10,3,7,12,7,14] [8] [⟨(.some 3),(.alloc 99 7 (.agg [.Sc,.aC,(.int .i64 0),.aC,.aC,(.int .i64 0),.aC])),.none⟩] rfl rfl ?_;apply sG;simp only[go_sem,seval,a1,a2,a3,a4,hn,cj,cm,Vp,VH,VI,VJ,ak,al,aJ,aI,ae,ax,au,ar];refine bw λi3 Z3 s3 a3 f3=>?_
  try replace hn:=cB (aq a4 f3).symm
  try replace a4:=s3 _ _ a4
  have Vt:=aq a1 f3;have XD:=aq a2 f3;replace Vp:=(cB Vt).2;replace VI:=(cB XD).2;replace a1:=s3 _ _ a1;replace a2:=s3 _ _ a2;have z3:=Sj.none f3;replace Sj:=Sj.trans s3;simp only[go_sem,seval,a1,a2,a3,a4,hn,cj,cm,Vp,VH,VI,VJ,ak,al,aJ,aI,ae,ax,au,ar];refine RE.SX rfl rfl rfl rfl rfl trivial (by simp only[go_sem,seval,a1,a2,a3,a4,hn,cj,cm,Vp,VH,VI,VJ,ak,al,aJ,aI,ae,ax,au,ar]) ?_;refine RE.SX rfl rfl rfl rfl rfl trivial (by simp only[go_sem,seval,a1,a2,a3,a4,hn,cj,cm,Vp,VH,VI,VJ,ak,al,aJ,aI,ae,ax,au,ar]) ?_;refine RE.SC (n:=0) [3,7,12,7,14] [10] [⟨(.some 4),(.alloc 99 7 (.agg [.Sc,.aC,(.int .i64 0),.aC,.aC,(.int .i64 0),.aC])),.none⟩] rfl rfl ?_;apply sG;simp only[go_sem,seval,a1,a2,a3,a4,hn,cj,cm,Vp,VH,VI,VJ,ak,al,aJ,aI,ae,ax,au,ar];refine bw λi4 Z4 s4 a4 f4=>?_
  try replace hn:=cB (aq a3 f4)
  try replace a3:=s4 _ _ a3
  have n14:=aq a1 f4;have Yv:=aq a2 f4;replace VH:=(cB n14).2;replace VJ:=(cB Yv).2;replace a1:=s4 _ _ a1;replace a2:=s4 _ _ a2;have z4:=Sj.none f4;replace Sj:=Sj.trans s4;simp only[go_sem,seval,a1,a2,a3,a4,hn,cj,cm,Vp,VH,VI,VJ,ak,al,aJ,aI,ae,ax,au,ar];refine RE.SX rfl rfl rfl rfl rfl trivial (by simp only[go_sem,seval,a1,a2,a3,a4,hn,cj,cm,Vp,VH,VI,VJ,ak,al,aJ,aI,ae,ax,au,ar]) ?_;refine RE.SX rfl rfl rfl rfl rfl trivial (by simp only[go_sem,seval,a1,a2,a3,a4,hn,cj,cm,Vp,VH,VI,VJ,ak,al,aJ,aI,ae,ax,au,ar]) ?_;refine RE.SC (n:=0) [7,14] [12] [⟨.none,(.store 7 (.t 3) (.t 6)),.none⟩] rfl rfl ?_;apply sG;simp only[go_sem,seval,a1,a2,a3,a4,hn,cj,cm,Vp,VH,VI,VJ,ak,al,aJ,aI,ae,ax,au,ar];refine RE.SX rfl rfl rfl rfl rfl trivial (by simp only[go_sem,seval,a1,a2,a3,a4,hn,cj,cm,Vp,VH,VI,VJ,ak,al,aJ,aI,ae,ax,au,ar]) ?_;refine RE.SC (n:=0) [] [14] [⟨.none,(.store 7 (.t 4) (.t 8)),.none⟩] rfl rfl ?_;apply sG;simp only[go_sem,seval,a1,a2,a3,a4,hn,cj,cm,Vp,VH,VI,VJ,ak,al,aJ,aI,ae,ax,au,ar];exact fin _ _ i2 i3 i4 ((Sj.aE z3).aE z4) z2 (((ab Yv).trans (ab XD)).trans a2) ((hn.2 _ _).trans ag) ag rfl rfl rfl
 .refine GT.iK (its:=[10,3,7,8,3,7,12,7,14]) (by kernel_rfl) ?_;refine RE.SC (n:=0) [3,7,8,3,7,12,7,14] [10] [⟨(.some 4),(.alloc 99 7 (.agg [.Sc,.aC,(.int .i64 0),.aC,.aC,(.int .i64 0),.aC])),.none⟩] rfl rfl ?_;apply sG;simp only[go_sem,seval,a1,a2,a3,a4,hn,cj,cm,Vp,VH,VI,VJ,ak,al,aJ,aI,ae,ax,au,ar];refine bw λi4 Z4 s4 a4 f4=>?_
  try replace hn:=cB (aq a3 f4)
  try replace a3:=s4 _ _ a3
  have n14:=aq a1 f4;have Yv:=aq a2 f4;replace VH:=(cB n14).2;replace VJ:=(cB Yv).2;replace a1:=s4 _ _ a1;replace a2:=s4 _ _ a2;have z4:=Sj.none f4;replace Sj:=Sj.trans s4;simp only[go_sem,seval,a1,a2,a3,a4,hn,cj,cm,Vp,VH,VI,VJ,ak,al,aJ,aI,ae,ax,au,ar];refine RE.SX rfl rfl rfl rfl rfl trivial (by simp only[go_sem,seval,a1,a2,a3,a4,hn,cj,cm,Vp,VH,VI,VJ,ak,al,aJ,aI,ae,ax,au,ar]) ?_;refine RE.SX rfl rfl rfl rfl rfl trivial (by simp only[go_sem,seval,a1,a2,a3,a4,hn,cj,cm,Vp,VH,VI,VJ,ak,al,aJ,aI,ae,ax,au,ar]) ?_;refine RE.SC (n:=0) [3,7,12,7,14] [8] [⟨(.some 3),(.alloc 99 7 (.agg [.Sc,.aC,(.int .i64 0),.aC,.aC,(.int .i64 0),.aC])),.none⟩] rfl rfl ?_;apply sG;simp only[go_sem,seval,a1,a2,a3,a4,hn,cj,cm,Vp,VH,VI,VJ,ak,al,aJ,aI,ae,ax,au,ar];refine bw λi3 Z3 s3 a3 f3=>?_
  try replace hn:=cB (aq a4 f3).symm
  try replace a4:=s3 _ _ a4
  have Vt:=aq a1 f3;have XD:=aq a2 f3;replace Vp:=(cB Vt).2;replace VI:=(cB XD).2;replace a1:=s3 _ _ a1;replace a2:=s3 _ _ a2;have z3:=Sj.none f3;replace Sj:=Sj.trans s3;simp only[go_sem,seval,a1,a2,a3,a4,hn,cj,cm,Vp,VH,VI,VJ,ak,al,aJ,aI,ae,ax,au,ar];refine RE.SX rfl rfl rfl rfl rfl trivial (by simp only[go_sem,seval,a1,a2,a3,a4,hn,cj,cm,Vp,VH,VI,VJ,ak,al,aJ,aI,ae,ax,au,ar]) ?_;refine RE.SX rfl rfl rfl rfl rfl trivial (by simp only[go_sem,seval,a1,a2,a3,a4,hn,cj,cm,Vp,VH,VI,VJ,ak,al,aJ,aI,ae,ax,au,ar]) ?_;refine RE.SC (n:=0) [7,14] [12] [⟨.none,(.store 7 (.t 3) (.t 6)),.none⟩] rfl rfl ?_;apply sG;simp only[go_sem,seval,a1,a2,a3,a4,hn,cj,cm,Vp,VH,VI,VJ,ak,al,aJ,aI,ae,ax,au,ar];refine RE.SX rfl rfl rfl rfl rfl trivial (by simp only[go_sem,seval,a1,a2,a3,a4,hn,cj,cm,Vp,VH,VI,VJ,ak,al,aJ,aI,ae,ax,au,ar]) ?_;refine RE.SC (n:=0) [] [14] [⟨.none,(.store 7 (.t 4) (.t 8)),.none⟩] rfl rfl ?_;apply sG;simp only[go_sem,seval,a1,a2,a3,a4,hn,cj,cm,Vp,VH,VI,VJ,ak,al,aJ,aI,ae,ax,au,ar];exact fin _ _ i2 i3 i4 ((Sj.aE z3).aE z4) z2 (((ab Yv).trans (ab XD)).trans a2) ((hn.2 _ _).trans ag) ag rfl rfl rfl
open Go.Proofs Go.Proofs.Tryz
def Ho(a b:Bk)(ha:bP a)(hb:bP b)(s:Sy)(kind:Int)(RV:a.atoms≠[]->b.atoms≠[]->0<=s.s.atom/\(kind=1->bZ a.atoms s.s)/\s.bM.length<=1000000/\∀f∈s.bM,0<=f.h):
 aV prog 73 [lB a b (bL a.atoms b.atoms) (bL a.L' b.L'),bX s,vI kind] (.bool (decide (cy a b s kind))):=λU=>by
 refine e73.r (by simp[c73]) ?_;have hs:=aa.refl U;have UH:=gC a.atoms;have Wm:=gC b.atoms;refine ad.mix 11 ?_;apply sR;simp only[go_sem,seval,c73,cI,cK,bE,cO,au,ar];refine af λi3 Z3 s3 a3 f3=>?_;have z3:=hs.none f3;replace hs:=hs.trans s3;simp only[go_sem,seval,bE,cO,au,ar];refine af λi4 Z4 s4 a4 f4=>?_;have YU:=aq a3 f4;replace a3:=s4 _ _ a3;have z4:=hs.none f4;replace hs:=hs.trans s4;generalize hX:decide (cy a b s kind)=X;by_cases h0:(a.atoms.length:Int)=0\/(b.atoms.length:Int)=0
 .have hq:((a.atoms.length:Int)=0)=True\/((a.atoms.length:Int)=0)=False/\((b.atoms.length:Int)=0)=True:=by
   by_cases h:(a.atoms.length:Int)=0
   .exact .inl (eq_true h)
   .exact .inr ⟨eq_false h,eq_true (h0.resolve_left h)⟩
  have hX':X=decide ((a.atoms.length:Int)=b.atoms.length/\a.RA=b.RA):=by
   rw[<-hX];exact decide_eq_decide.2 (by unfold cy;rw[if_pos h0])
  clear hX;have hc:=CU a.RA b.RA ha.Uz;by_cases hnm:(a.atoms.length:Int)=b.atoms.length
  .have q2:((a.atoms.length:Int)=b.atoms.length)=True:=eq_true hnm;have SA:X=decide (a.RA=b.RA):=hX'.trans (decide_eq_decide.2 (by simp[hnm]));rw[<-SA]at hc;rcases hq with q1|⟨q1,q3⟩
   .simp only[go_sem,seval,a3,a4,cI,cK,ak,al,au,ar,UH,Wm,q1,q2];refine ad.aB rfl rfl rfl (hc _) ?_;apply sR;simp only[go_sem,seval];exact ay.pure hs rfl
   .simp only[go_sem,seval,a3,a4,cI,cK,ak,al,au,ar,UH,Wm,q1,q2,q3];refine ad.aB rfl rfl rfl (hc _) ?_;apply sR;simp only[go_sem,seval];exact ay.pure hs rfl
  .have q2:((a.atoms.length:Int)=b.atoms.length)=False:=eq_false hnm;have SA:X=false:=hX'.trans (decide_eq_false λh=>hnm h.1);rw[SA];rcases hq with q1|⟨q1,q3⟩
   .simp only[go_sem,seval,a3,a4,cI,cK,ak,al,au,ar,UH,Wm,q1,q2];exact ay.pure hs rfl
   .simp only[go_sem,seval,a3,a4,cI,cK,ak,al,au,ar,UH,Wm,q1,q2,q3];exact ay.pure hs rfl
 .have na:a.atoms≠[]:=λh=>h0 (.inl (by rw[h];rfl));have nb:b.atoms≠[]:=λh=>h0 (.inr (by rw[h];rfl));obtain⟨x0,x1,x2,x3⟩:=RV na nb;have q1:((a.atoms.length:Int)=0)=False:=eq_false λh=>h0 (.inl h);have q3:((b.atoms.length:Int)=0)=False:=eq_false λh=>h0 (.inr h);have Yn:=MK a ha s kind x0 x1 x2 x3;have hX':X=decide ((dv a s kind<bL a.atoms b.atoms\/dv a s kind=a.atoms.length/\dv a s kind=b.atoms.length/\dv a s kind=bL a.atoms b.atoms)/\dv a s kind<bL a.L' b.L'/\kI a (dv a s kind)=kI b (dv a s kind)/\lh a b s.s):=by
   rw[<-hX];exact decide_eq_decide.2 (by unfold cy;rw[if_neg h0])
  clear hX;have hhc:=C6 a b ha hb na nb (bL a.atoms b.atoms) (bL a.L' b.L') s.s x0;generalize dv a s kind=r at*;have fa:=vr a ha.Uz r;have fb:=vr b hb.Uz r;have hul:(kI a r).length<=1000000:=by
   have:=List.length_filter_le (λf:P'=>decide (f.anchor<=r)) a.RA;have h2:=ha.Uz;unfold kI;omega
  have hc:=CU (kI a r) (kI b r) hul;generalize kI a r=A at*;generalize kI b r=B at*;generalize bL a.atoms b.atoms=n1 at*;generalize bL a.L' b.L'=n2 at*;generalize hH:decide (lh a b s.s)=Hb at hhc;simp only[go_sem,seval,a3,a4,cI,cK,ak,al,au,ar,bE,UH,Wm,q1,q3];rw[<-iZ,<-bX];refine ad.aB rfl rfl rfl (Yn _) ?_;by_cases p1:r<n1
  .have s1:(r<(n1:Int))=True:=eq_true p1;have hsm:(r<(n1:Int)\/r=a.atoms.length/\r=b.atoms.length/\r=n1):=.inl p1;by_cases hB:r<n2
   .have s2:(r<(n2:Int))=True:=eq_true hB;apply sR;simp only[go_sem,seval,a3,a4,cI,cK,ak,al,au,ar,ae,ax,aJ,aI,bE,s1,s2];rw[<-iZ];refine Go.bO rfl rfl rfl fa ?_;apply sG;simp only[go_sem,seval,a3,a4,cI,cK,ak,al,au,ar,ae,ax,aJ,aI,bE];rw[<-iZ];refine Go.bO rfl rfl rfl fb ?_;apply sG;simp only[go_sem,seval,a3,a4,cI,cK,ak,al,au,ar,bE];refine Go.bO rfl rfl rfl hc ?_;by_cases hAB:A=B
    .rw[decide_eq_true hAB];apply sG;simp only[go_sem,seval,a3,a4,cI,cK,ak,al,au,ar,ae,ax,aJ,aI,bE];rw[<-lB,mI];refine Go.bO rfl rfl rfl hhc ?_;apply sG;simp only[go_sem,seval];exact ay.pure hs (by rw[hX',<-hH];exact congrArg V.bool (decide_eq_decide.2 ⟨λh=>⟨hsm,hB,hAB,h⟩,λh=>h.2.2.2⟩))
    .rw[decide_eq_false hAB];apply sG;simp only[go_sem,seval];exact ay.pure hs (by rw[hX',decide_eq_false λh=>hAB h.2.2.1])
   .have s2:(r<(n2:Int))=False:=eq_false hB;apply sR;simp only[go_sem,seval,a3,a4,cI,cK,ak,al,au,ar,bE,s1,s2];exact ay.pure hs (by rw[hX',decide_eq_false λh=>hB h.2.1])
  .have s1:(r<(n1:Int))=False:=eq_false p1;by_cases p2:r=a.atoms.length
   .have s3:(r=(a.atoms.length:Int))=True:=eq_true p2;by_cases p3:r=b.atoms.length
    .have s4:(r=(b.atoms.length:Int))=True:=eq_true p3;by_cases p4:r=n1
     .have s5:(r=(n1:Int))=True:=eq_true p4;have hsm:(r<(n1:Int)\/r=a.atoms.length/\r=b.atoms.length/\r=n1):=.inr ⟨p2,p3,p4⟩;by_cases hB:r<n2
      .have s2:(r<(n2:Int))=True:=eq_true hB;apply sR;simp only[go_sem,seval,a3,a4,cI,cK,ak,al,au,ar,ae,ax,aJ,aI,bE,s1,s2,s3,s4,s5];rw[<-iZ];refine Go.bO rfl rfl rfl fa ?_;apply sG;simp only[go_sem,seval,a3,a4,cI,cK,ak,al,au,ar,ae,ax,aJ,aI,bE];rw[<-iZ];refine Go.bO rfl rfl rfl fb ?_;apply sG;simp only[go_sem,seval,a3,a4,cI,cK,ak,al,au,ar,bE];refine Go.bO rfl rfl rfl hc ?_;by_cases hAB:A=B
       .rw[decide_eq_true hAB];apply sG;simp only[go_sem,seval,a3,a4,cI,cK,ak,al,au,ar,ae,ax,aJ,aI,bE];rw[<-lB,mI];refine Go.bO rfl rfl rfl hhc ?_;apply sG;simp only[go_sem,seval];exact ay.pure hs (by rw[hX',<-hH];exact congrArg V.bool (decide_eq_decide.2 ⟨λh=>⟨hsm,hB,hAB,h⟩,λh=>h.2.2.2⟩))
       .rw[decide_eq_false hAB];apply sG;simp only[go_sem,seval];exact ay.pure hs (by rw[hX',decide_eq_false λh=>hAB h.2.2.1])
      .have s2:(r<(n2:Int))=False:=eq_false hB;apply sR;simp only[go_sem,seval,a3,a4,cI,cK,ak,al,au,ar,bE,s1,s2,s3,s4,s5];exact ay.pure hs (by rw[hX',decide_eq_false λh=>hB h.2.1])
     .have s5:(r=(n1:Int))=False:=eq_false p4;apply sR;simp only[go_sem,seval,a3,a4,cI,cK,ak,al,au,ar,bE,s1,s3,s4,s5];exact ay.pure hs (by rw[hX',decide_eq_false λh=>h.1.elim p1 λg=>p4 g.2.2])
    .have s4:(r=(b.atoms.length:Int))=False:=eq_false p3;apply sR;simp only[go_sem,seval,a3,a4,cI,cK,ak,al,au,ar,bE,s1,s3,s4];exact ay.pure hs (by rw[hX',decide_eq_false λh=>h.1.elim p1 λg=>p3 g.2.1])
   .have s3:(r=(a.atoms.length:Int))=False:=eq_false p2;apply sR;simp only[go_sem,seval,a3,a4,cI,cK,ak,al,au,ar,bE,s1,s3];exact ay.pure hs (by rw[hX',decide_eq_false λh=>h.1.elim p1 λg=>p2 g.1])
open Go.Proofs Go.Proofs.Tryz
def D7{b:Bk}(hb:BkOk b){s:Sy}(h:gA b s):s.bM.length<=1000000:=by
 have h1:=(tk _ 0 h.1).length_le;rw[List.drop_zero]at h1;have:=hb.Uz;omega
def CI(a b:Bk):∀(f:Nat) (s:Sy) (n:Nat),dQ a b f s n<=n+2*f
 |0,_,_=>Nat.le_refl _
 |f+1,s,n=>by
  rw[dQ];split
  .omega
  .split
   .omega
   .refine Nat.le_trans (CI a b f _ _) ?_;split<;>omega
def G8(a b:Bk)(ha:bP a)(hb:bP b){L:Int}(hL:oP a L):
 aV prog 36 [lB a b (bL a.atoms b.atoms) (bL a.L' b.L')] (vI (fD a b)):=λU=>by
 refine e36.r (by simp[c36]) ?_;have hs:=aa.refl U;have UH:=gC a.atoms;have Xm:=gi a.RA;have Up:=ha.len;have U6:=ha.Uz;have r0:RM .i64 ((a.atoms.length:Int)+a.RA.length):=ao (by omega) (by omega);have hsf:=Ho a b ha hb;have SD:=ha.brk;have hmu:=vE hL;have Xo:=cI a b (bL a.atoms b.atoms) (bL a.L' b.L');have hls:=cK a b (bL a.atoms b.atoms) (bL a.L' b.L');have WH:V.agg [.rp (bt a),aK a.nodes,vI a.h,bl a.atoms,aH a.RA,vI a.Rw,bC a.L',.rp (bt b),aK b.nodes,vI b.h,bl b.atoms,aH b.RA,vI b.Rw,bC b.L',vI (bL a.atoms b.atoms),vI (bL a.L' b.L')]=lB a b (bL a.atoms b.atoms) (bL a.L' b.L'):=rfl;have Uu:∀p:UB,(cE p).cells=[vI p.no,vI p.kind,bb p.hs,bb p.fs,bb p.ls]:=λ_=>rfl;have VS:∀p:UB,(cE p).stays=true:=λ_=>rfl;have Vv:∀l:List Tp,(bb l).cells=[bb l]:=λ_=>rfl;have TH:∀l:List Tp,(bb l).stays=true:=λ_=>rfl;refine ad.mix 8 ?_;unfold fD;apply sR;simp only[go_sem,seval,c36,Xo,hls];refine af λi1 Z1 s1 a1 f1=>?_;have z1:=hs.none f1;replace hs:=hs.trans s1;by_cases h0:(a.atoms.length:Int)+a.RA.length=0
 .have q0:((a.atoms.length:Int)+a.RA.length=0)=True:=eq_true h0;rw[if_pos h0];have hc:=hsf ⟨⟨0,0,false⟩,[]⟩ 3 (λna _=>absurd (List.eq_nil_of_length_eq_zero (by omega)) na);have RV:bX ⟨⟨0,0,false⟩,[]⟩=.agg [vI 0,vI 0,.bool false,aH []]:=rfl;have hn1:Wk U jV .aC (aH []):=Wk.aC 7;by_cases hsf':cy a b ⟨⟨0,0,false⟩,[]⟩ 3
  .rw[if_pos hsf'];rw[decide_eq_true hsf']at hc;simp only[go_sem,seval,a1,Xo,hls,ak,al,au,ar,ae,ax,aJ,aI,UH,Xm,r0,q0];rw[WH];refine ad.aB rfl rfl rfl (aV.uP (args':=[_,bX ⟨⟨0,0,false⟩,[]⟩,vI 3]) ⟨Uy _,Wk.agg (vs':=[vI 0,vI 0,.bool false,aH []]) ⟨Uy _,Uy _,Uy _,Wk.aC 7,trivial⟩,Uy _,trivial⟩ hc rfl) ?_;apply sR;simp only[go_sem,seval];exact ay.pure hs rfl
  .rw[if_neg hsf'];rw[decide_eq_false hsf']at hc;simp only[go_sem,seval,a1,Xo,hls,ak,al,au,ar,ae,ax,aJ,aI,UH,Xm,r0,q0];rw[WH];refine ad.aB rfl rfl rfl (aV.uP (args':=[_,bX ⟨⟨0,0,false⟩,[]⟩,vI 3]) ⟨Uy _,Wk.agg (vs':=[vI 0,vI 0,.bool false,aH []]) ⟨Uy _,Uy _,Uy _,Wk.aC 7,trivial⟩,Uy _,trivial⟩ hc rfl) ?_;apply sR;simp only[go_sem,seval];exact ay.pure hs rfl
 .have q0:((a.atoms.length:Int)+a.RA.length=0)=False:=eq_false h0;rw[if_neg h0];simp only[go_sem,seval,a1,Xo,hls,ak,al,au,ar,ae,ax,aJ,aI,UH,Xm,r0,q0];refine ad.aB rfl rfl rfl (wb a ha.toBkFull _) ?_;apply sR;simp only[go_sem,seval];refine af λi4 Z4 s4 a4 f4=>?_;have n14:=aq a1 f4;replace a1:=s4 _ _ a1;have z4:=hs.none f4;replace hs:=hs.trans s4;simp only[go_sem,seval,a1,a4,bE,cO,au,ar];generalize Tv:C' _ i4 _=Y4;replace a4:=(congrFun Tv i4).symm.trans ag;replace a1:=((congrFun Tv i1).symm.trans (ab n14)).trans a1;replace hs:=Eq.subst (motive:=aa _) Tv (hs.aE z4);clear Tv;apply sR;simp only[go_sem,seval];have hml:=CI a b 1000000001 ⟨⟨0,0,true⟩,[]⟩ 0;generalize hR:dQ a b 1000000001 ⟨⟨0,0,true⟩,[]⟩ 0=R at*;refine ad.fi (λst=>aa U st.U/\st.s 3=vI R)
   (λm st=>∃(s:Sy) (n i4':Nat),mu2 a L s<m/\R=dQ a b m s n/\gA a s/\n+2*m<=2000000002/\aa U st.U/\U i4'=none/\st.U i1=some ⟨104,16,[lB a b (bL a.atoms b.atoms) (bL a.L' b.L')]⟩/\st.U i4'=some ⟨45,4,[bX s]⟩/\st.s 1=.ptr i1 0 0/\st.s 3=vI n/\st.s 4=.ptr i4' 0 0) 1000000001 ?_ ?_ ?_
  .exact⟨⟨⟨0,0,true⟩,[]⟩,0,i4,by omega,hR.symm,pD a ha.pos,by omega,hs,z4,a1,a4,rfl,rfl,rfl⟩
  .clear hs a1 a4;rintro m ⟨S,J⟩ ⟨s,n,i4,hm,hRm,Sl,hn,hs,z4,a1,a4,t1,t3,t4⟩;simp only at hs a1 a4 t1 t3 t4;have n14:i1≠i4:=λe=>by rw[e,a4]at a1;simp at a1
   obtain⟨f,rfl⟩:∃f,m=f+1:=⟨m-1,by omega⟩
   have hp:=D7 ha.toBkOk Sl;refine ad.mix 8 ?_;apply sR;simp only[go_sem,seval,t1,t3,t4,a1,a4,Xo,hls,bE,cO];rw[<-bX];refine ad.aB rfl rfl rfl (xL a ha.toBkFull s hp _) ?_;rw[dQ]at hRm;by_cases he:da a s
   .rw[if_pos he]at hRm;rw[decide_eq_true he,hRm];apply sR;simp only[go_sem,seval,t3];exact hs
   .rw[if_neg he]at hRm;rw[decide_eq_false he];have hpg:=BP a ha.toBkFull ha.fh s hp;rw[if_neg he]at hpg;have S1:0<=s.s.atom/\s.s.atom<a.L'.length:=by
     rcases Sl.2 with h|h
     .have:=h.1;omega
     .omega
    have Wt:=iH ha he;have Zh:∀f∈s.bM,0<=f.h:=λf hf=>ha.fh f (mM _ _ Sl.1 f hf);have Uj:=hsf s (aW a s).1.kind (λ_ _=>⟨S1.1,λhk=>(Wt.cut hk).1,hp,Zh⟩);have hac:=Hn a (by omega) (aW a s).1 s.s S1.1 S1.2 ((n:Int)+1) (by omega);have hmn:=zk ha hL he;have hmy:=tX ha he;generalize aW a s=X at*;obtain⟨p,t⟩:=X;simp only at hpg Uj hac hmn hmy hRm;have r1:RM .i64 ((n:Int)+1):=ao (by omega) (by omega);have r2:RM .i64 ((n:Int)+1+1):=ao (by omega) (by omega);apply sR;simp only[go_sem,seval,t1,t3,t4,a1,a4,Xo,hls,bE,cO];rw[<-bX];refine ad.aB rfl rfl rfl (hpg _) ?_;apply sR;simp only[go_sem,seval];refine af λi5 Z5 s5 a5 f5=>?_;have Zf:=aq a1 f5;replace a1:=s5 _ _ a1;have TL:=aq a4 f5;replace a4:=s5 _ _ a4;have z5:=hs.none f5;replace hs:=hs.trans s5;simp only[go_sem,seval];refine af λi6 Z6 s6 a6 f6=>?_;have n16:=aq a1 f6;replace a1:=s6 _ _ a1;have Zu:=aq a4 f6;replace a4:=s6 _ _ a4;have n56:=aq a5 f6;replace a5:=s6 _ _ a5;have z6:=hs.none f6;replace hs:=hs.trans s6;simp only[go_sem,seval,a5,a6,Uu,VS,Vv,TH,bE,cO,au,ar];generalize Ui:C' _ i5 _=Y5;replace a5:=(congrFun Ui i5).symm.trans ag;replace a1:=((congrFun Ui i1).symm.trans (ab Zf)).trans a1;replace a4:=((congrFun Ui i4).symm.trans (ab TL)).trans a4;replace a6:=((congrFun Ui i6).symm.trans (ab n56.symm)).trans a6;replace hs:=Eq.subst (motive:=aa _) Ui (hs.aE z5);clear Ui;simp only[go_sem,seval,a5,a6,bE,cO,au,ar];generalize VT:C' _ i6 _=Y6;replace a6:=(congrFun VT i6).symm.trans ag;replace a1:=((congrFun VT i1).symm.trans (ab n16)).trans a1;replace a4:=((congrFun VT i4).symm.trans (ab Zu)).trans a4;replace a5:=((congrFun VT i5).symm.trans (ab n56)).trans a5;replace hs:=Eq.subst (motive:=aa _) VT (hs.aE z6);clear VT;simp only[go_sem,seval,t1,t3,t4,a1,a4,a5,a6,Xo,hls,Uu,VS,Vv,TH,bE,cO,au,ar,ak,al,ae,ax,aJ,aI];rw[WH,<-bX];refine ad.aB rfl rfl rfl (Uj _) ?_;by_cases hsaf:cy a b s p.kind
    .rw[if_neg (λh=>h hsaf)]at hRm;rw[decide_eq_true hsaf];apply sR;simp only[go_sem,seval,t1,t3,t4,a1,a4,a5,a6,r1,Xo,hls,Uu,VS,Vv,TH,bE,cO,au,ar,ak,al,ae,ax,aJ,aI];rw[<-iZ,mI];refine ad.aB rfl rfl rfl (hac _) ?_;by_cases UZ:ig a p s.s ((n:Int)+1)
     .rw[if_pos UZ]at hRm;rw[decide_eq_true UZ];apply sR;simp only[go_sem,seval,t1,t3,t4,a1,a4,a5,a6,r1,r2,bE,cO,au,ar];generalize Tv:C' _ i4 _=Y4;replace a4:=(congrFun Tv i4).symm.trans ag;replace a1:=((congrFun Tv i1).symm.trans (ab n14)).trans a1;replace a5:=((congrFun Tv i5).symm.trans (ab TL.symm)).trans a5;replace a6:=((congrFun Tv i6).symm.trans (ab Zu.symm)).trans a6;replace hs:=Eq.subst (motive:=aa _) Tv (hs.aE z4);clear Tv;refine af λi7 Z7 s7 a7 f7=>?_;have n17:=aq a1 f7;replace a1:=s7 _ _ a1;have n47:=aq a4 f7;replace a4:=s7 _ _ a4;have z7:=hs.none f7;replace hs:=hs.trans s7;simp only[go_sem,seval,a7,bE,cO,au,ar];generalize Tu:C' _ i7 _=Y7;replace a7:=(congrFun Tu i7).symm.trans ag;replace a1:=((congrFun Tu i1).symm.trans (ab n17)).trans a1;replace a4:=((congrFun Tu i4).symm.trans (ab n47)).trans a4;replace hs:=Eq.subst (motive:=aa _) Tu (hs.aE z7);clear Tu;exact⟨f,by omega,t,n+2,i7,by omega,hRm,hmy,by omega,hs,z7,a1,a7,by simp[t1];omega⟩
     .rw[if_neg UZ]at hRm;rw[decide_eq_false UZ];apply sR;simp only[go_sem,seval,t1,t3,t4,a1,a4,a5,a6,r1,r2,bE,cO,au,ar];generalize Tv:C' _ i4 _=Y4;replace a4:=(congrFun Tv i4).symm.trans ag;replace a1:=((congrFun Tv i1).symm.trans (ab n14)).trans a1;replace a5:=((congrFun Tv i5).symm.trans (ab TL.symm)).trans a5;replace a6:=((congrFun Tv i6).symm.trans (ab Zu.symm)).trans a6;replace hs:=Eq.subst (motive:=aa _) Tv (hs.aE z4);clear Tv;refine af λi7 Z7 s7 a7 f7=>?_;have n17:=aq a1 f7;replace a1:=s7 _ _ a1;have n47:=aq a4 f7;replace a4:=s7 _ _ a4;have z7:=hs.none f7;replace hs:=hs.trans s7;simp only[go_sem,seval,a7,bE,cO,au,ar];generalize Tu:C' _ i7 _=Y7;replace a7:=(congrFun Tu i7).symm.trans ag;replace a1:=((congrFun Tu i1).symm.trans (ab n17)).trans a1;replace a4:=((congrFun Tu i4).symm.trans (ab n47)).trans a4;replace hs:=Eq.subst (motive:=aa _) Tu (hs.aE z7);clear Tu;exact⟨f,by omega,t,n+1,i7,by omega,hRm,hmy,by omega,hs,z7,a1,a7,by simp[t1]⟩
    .rw[if_pos hsaf]at hRm;rw[decide_eq_false hsaf,hRm];apply sR;simp only[go_sem,seval,t3];exact hs
  .rintro⟨S,J⟩ ⟨hs,t3⟩;simp only at hs t3;refine ad.mix 8 ?_;apply sR;simp only[go_sem,seval,t3];exact ay.pure hs rfl
open Go.Proofs Go.Proofs.Tryz
def wc:V:=.agg [.Sc,.aC,vI 0,.aC,.aC,vI 0,.aC,.Sc,.aC,vI 0,.aC,.aC,vI 0,.aC]
def ez(l m:List Nd)(w h:Int):Int:=if ec l w h≠0 then ec l w h else ec m w h
def Gw(l m:List Nd)(w h:Int):V:=if ez l m w h=0 then tU (bc l w h) (bc m w h)else wc
def F0(a:Bk):V:=.agg [.rp (bt a),aK a.nodes,vI a.h,bl a.atoms,aH a.RA,vI a.Rw,bC a.L',.Sc,.aC,vI 0,.aC,.aC,vI 0,.aC]
def DG(l m:List Nd)(hl:dH l)(hm:dH m)(w h:Int):aV prog 34 [aK l,aK m,vI w,vI h] (.RB [Gw l m w h,vI (ez l m w h)]):=λU=>by
 refine e34.r (by simp[c34]) ?_;have hs:=aa.refl U;have c1:=CL l hl w h;have c2:=CL m hm w h;have hz:AG.cells=[.Sc,.aC,vI 0,.aC,.aC,vI 0,.aC]:=rfl;have Xf:AG.stays=true:=rfl;refine ad.mix 10 ?_;apply sR;simp only[go_sem,seval,c34];refine af λi8 Z8 s8 a8 f8=>?_;have z8:=hs.none f8;replace hs:=hs.trans s8;simp only[go_sem,seval,ae,ax];unfold Gw ez;unfold CK at c1 c2;generalize hA:bc l w h=A at*;generalize hB:bc m w h=B at*;generalize ec l w h=e1 at*;generalize ec m w h=e2 at*;refine ad.fi (λst=>aa U st.U/\e1=0/\e2=0/\st.s 8=.ptr i8 0 0/\st.U i8=some ⟨100,14,[tU A B]⟩)
  (λk st=>aa U st.U/\st.s 2=vI w/\st.s 3=vI h/\st.s 8=.ptr i8 0 0/\st.s 14=.agg [aK l,aK m]/\(k=2/\st.s 15=vI 0/\st.U i8=some ⟨100,14,[wc]⟩\/k=1/\st.s 15=vI 1/\e1=0/\st.U i8=some ⟨100,14,[F0 A]⟩\/k=0/\st.s 15=vI 2/\e1=0/\e2=0/\st.U i8=some ⟨100,14,[tU A B]⟩)) 2 ?_ ?_ ?_
 .exact⟨hs,rfl,rfl,rfl,rfl,.inl ⟨rfl,rfl,a8⟩⟩
 .clear hs a8;rintro k ⟨S,J⟩ ⟨hs,t2,t3,t8,t14,hc⟩;simp only at hs t2 t3 t8 t14 hc;refine ad.mix 10 ?_;rcases hc with⟨rfl,t15,a8⟩|⟨rfl,t15,hz1,a8⟩|⟨rfl,t15,hz1,hz2,a8⟩
  .apply sR;simp only[go_sem,seval,t2,t3,t8,t14,t15,ae,ax];refine ad.aB rfl rfl rfl (c1 _) ?_;by_cases h1:e1=0
   .have q1:(e1≠0)=False:=eq_false (λh=>h h1);rw[if_pos h1];rw[wc]at a8;apply sR;simp only[go_sem,seval,t2,t3,t8,t14,t15,a8,q1,bH,bG,ae,ax];generalize SY:C' _ i8 _=Y8;replace a8:=(congrFun SY i8).symm.trans ag;replace hs:=Eq.subst (motive:=aa _) SY (hs.aE z8);clear SY;exact⟨ao (by omega) (by omega),1,by omega,hs,.inr (.inl ⟨rfl,h1,rfl⟩)⟩
   .have q1:(e1≠0)=True:=eq_true h1;rw[if_neg h1,if_pos h1,if_neg h1];rw[wc]at a8;apply sR;simp only[go_sem,seval,t2,t3,t8,t14,t15,a8,q1,hz,Xf,ae,ax];exact ay.pure (hs.aE z8) rfl
  .have h1n:¬(e1≠0):=λh=>h hz1;rw[if_neg h1n];apply sR;simp only[go_sem,seval,t2,t3,t8,t14,t15,ae,ax];refine ad.aB rfl rfl rfl (c2 _) ?_;by_cases h1:e2=0
   .have q1:(e2≠0)=False:=eq_false (λh=>h h1);rw[if_pos h1];rw[F0]at a8;apply sR;simp only[go_sem,seval,t2,t3,t8,t14,t15,a8,q1,bH,bG,ae,ax,ak,al,au,ar,aJ,aI];generalize SY:C' _ i8 _=Y8;replace a8:=(congrFun SY i8).symm.trans ag;replace hs:=Eq.subst (motive:=aa _) SY (hs.aE z8);clear SY;exact⟨ao (by omega) (by omega),0,by omega,hs,.inr (.inr ⟨rfl,hz1,h1,rfl⟩)⟩
   .have q1:(e2≠0)=True:=eq_true h1;rw[if_neg h1,if_neg h1];rw[F0]at a8;apply sR;simp only[go_sem,seval,t2,t3,t8,t14,t15,a8,q1,hz,Xf,ae,ax,ak,al,au,ar,aJ,aI];exact ay.pure (hs.aE z8) rfl
  .apply sR;simp only[go_sem,seval,t15];exact⟨hs,hz1,hz2,t8,a8⟩
 .rintro⟨S,J⟩ ⟨hs,h1,h2,t8,a8⟩;simp only at hs t8 a8;refine ad.mix 10 ?_;rw[if_neg (show¬(e1≠0)from λh=>h h1),if_pos h2,h2];apply sR;simp only[go_sem,seval,t8,a8,cj,cm];exact ay.pure (hs.aE z8) rfl
def mV(l m:List Nd)(hl:dH l)(hm:dH m)(w h:Int):aV prog 18 [aK l,aK m,vI w,vI h] (.RB [vI (if ez l m w h=0 then fD (bc l w h) (bc m w h)else 0:Nat),vI (ez l m w h)]):=λU=>by
 refine e18.r (by simp[c18]) ?_;have hs:=aa.refl U;have hc:=DG l m hl hm w h;unfold Gw at hc;refine ad.mix 13 ?_;apply sR;simp only[go_sem,seval,c18];refine ad.aB rfl rfl rfl (hc _) ?_;by_cases he:ez l m w h=0
 .rw[if_pos he,if_pos he];have e1:ec l w h=0:=by
   unfold ez at he;by_cases g:ec l w h=0
   .exact g
   .rw[if_pos g]at he;exact he
  have e2:ec m w h=0:=by
   unfold ez at he;rw[if_neg (λh=>h e1)]at he;exact he
  have ha:=gj hl e1;have hb:=gj hm e2;have hL:=sD e1;have SD:=ha.brk;have Up:=ha.len;have q:(ez l m w h≠0)=False:=eq_false (λh=>h he);have hlk:=DM (bc l w h) (bc m w h) (by omega) (by omega);have hmy:=G8 (bc l w h) (bc m w h) ha hb hL;generalize bc l w h=A at*;generalize bc m w h=B at*;rw[he];have q0:((0:Int)≠0)=False:=eq_false (λh=>h rfl);apply sR;simp only[go_sem,seval];refine af λSb WO TV Sg f10=>?_;have Vr:=hs.none f10;replace hs:=hs.trans TV;simp only[go_sem,seval,Sg,cj,cm,ae,ax,ak,al,au,ar,aJ,aI];generalize TW:C' _ Sb _=Y10;replace Sg:=(congrFun TW Sb).symm.trans ag;replace hs:=Eq.subst (motive:=aa _) TW (hs.aE Vr);clear TW;apply sR;simp only[go_sem,seval,q0,Sg,cj,cm,ae,ax,ak,al,au,ar,aJ,aI];rw[<-tU];refine ad.aB rfl rfl rfl (hlk _) ?_;apply sR;simp only[go_sem,seval];refine ad.aB rfl rfl rfl (hmy _) ?_;apply sR;simp only[go_sem,seval];exact ay.pure hs rfl
 .rw[if_neg he,if_neg he];have q:(ez l m w h≠0)=True:=eq_true he;generalize ez l m w h=E at*;have hz:wc.cells=[.Sc,.aC,vI 0,.aC,.aC,vI 0,.aC,.Sc,.aC,vI 0,.aC,.aC,vI 0,.aC]:=rfl;have Xf:wc.stays=true:=rfl;apply sR;simp only[go_sem,seval];refine af λSb WO TV Sg f10=>?_;have Vr:=hs.none f10;replace hs:=hs.trans TV;simp only[go_sem,seval,Sg,hz,Xf,q];exact ay.pure (hs.aE Vr) rfl
open Go.Proofs Go.Proofs.Tryz
def sE(l:List Nd)(hlen:l.length<=1000000000000)(hw:∀x∈l,x.words.length<=200000000000000)(h:Int)(hh:wG h)(vp:V)(P:List UB)(hlP:dy false vp=some (.int .i64 P.length))(hiP:∀(U:ai) (i:Nat) (h:i<P.length),bQ U 5 vp (.int .i64 i)=some (.rp (cE P[i])))
 (hPl:P.length<=10000000000000)(hPp:∀p∈P,p.hs.length<=1000000000000000/\p.fs.length<=1000000000000000/\p.ls.length<=1000000000000000)(U:ai):
 aD prog 16 [aK l,vI h,vp] U λr Z'=>(∃x,r=.bool x/\(x=false->l.length<=30/\P.length<=60))/\Z'=U:=by
 refine e16.r (by simp[c16]) ?_;have Vd:=fj l;have Uu:∀p:UB,(cE p).cells=[vI p.no,vI p.kind,bb p.hs,bb p.fs,bb p.ls]:=λ_=>rfl;have finT:ay (.bool true) U λr Z'=>(∃x,r=.bool x/\(x=false->l.length<=30/\P.length<=60))/\Z'=U:=⟨_,_,aa.refl _,Wk.refl (aa.refl _) _,⟨_,rfl,λh=>by cases h⟩,rfl⟩
 refine ad.mix 13 ?_;by_cases h30:l.length<=30
 .have q0:((l.length:Int)>30)=False:=eq_false (by omega);by_cases h60:P.length<=60
  .have q00:((P.length:Int)>60)=False:=eq_false (by omega);apply sR;simp only[go_sem,seval,c16,Vd,hlP,q0,q00];refine ad.fi (λst=>st.U=U/\st.s 0=aK l/\st.s 1=vI h/\st.s 2=vp/\st.s 9=vI 0/\∃c g:Int,st.s 7=vI c/\st.s 8=vI g/\0<=g/\g<=1152921504606846976)
    (λm st=>∃(i:Nat) (c g:Int),i<=l.length/\m=l.length-i/\st.U=U/\st.s 0=aK l/\st.s 1=vI h/\st.s 2=vp/\st.s 9=vI 0/\st.s 7=vI c/\0<=c/\c<=i*200000000000000/\st.s 8=vI g/\0<=g/\g<=i*3300000000000/\st.s 10=vI i) l.length ?_ ?_ ?_
   .exact⟨0,0,0,by omega,by omega,rfl,rfl,rfl,rfl,rfl,rfl,by omega,by omega,rfl,by omega,by omega,rfl⟩
   .rintro m ⟨S,J⟩ ⟨i,c,g,hi,rfl,R3,t0,t1,t2,t9,t7,Vh,YQ,t8,hg0,hg1,t10⟩;simp only at R3 t0 t1 t2 t9 t7 t8 t10;subst R3;refine ad.mix 13 ?_;by_cases H':i<l.length
    .have q1:((i:Int)<l.length)=True:=eq_true (by omega);have Tm:=λU=>cJ (U:=U) (l:=l) (a:=i) H';have hwi:=hw _ (List.getElem_mem H');have hlw:=dJ l[i].words;have r1:RM .i64 ((i:Int)+1):=ao (by omega) (by omega);have r2:RM .i64 (c+l[i].words.length):=ao (by omega) (by omega);apply sR;simp only[go_sem,seval,t0,t1,t2,t9,t7,t8,t10,Vd,q1,Tm,Nd.cells,SW.cells,hlw,r1,r2,uH];obtain⟨b0,b1⟩:=E6 l[i].line 8589934592 (by omega);obtain⟨d0,d1⟩:=E6 l[i].h 2199023255552 (by omega);have e0:0<=(if 120<(l[i].words.length:Int)then 120 else(l[i].words.length:Int))/\(if 120<(l[i].words.length:Int)then 120 else(l[i].words.length:Int))<=120:=by split<;>omega
     obtain⟨e0,e1⟩:=e0;generalize (if 8589934592<if 0>l[i].line then 0 else l[i].line then 8589934592 else if 0>l[i].line then 0 else l[i].line)=A at*;generalize (if 2199023255552<if 0>l[i].h then 0 else l[i].h then 2199023255552 else if 0>l[i].h then 0 else l[i].h)=B at*;generalize (if 120<(l[i].words.length:Int)then 120 else(l[i].words.length:Int))=C at*;have m0:=Int.mul_nonneg b0 e0;have m1:=Int.mul_le_mul b1 e1 e0 (by omega:(0:Int)<=8589934592);generalize A*C=M at*;exact⟨ao (by omega) (by omega),ao (by omega) (by omega),ao (by omega) (by omega),_,by omega,i+1,_,_,by omega,rfl,rfl,by omega,by omega,rfl,by omega,by omega,rfl⟩
    .have q1:((i:Int)<l.length)=False:=eq_false (by omega);apply sR;simp only[go_sem,seval,t0,t10,Vd,q1];exact⟨t1,t2,t9,c,g,t7,t8,hg0,by omega⟩
   .rintro⟨S,J⟩ ⟨R3,t0,t1,t2,t9,c,g,t7,t8,hg0,hg1⟩;simp only at R3 t0 t1 t2 t9 t7 t8;subst R3;refine ad.mix 13 ?_;apply sR;simp only[go_sem,seval,t0,t1,t2,t9,t7,t8];refine ad.fi (λst=>st.U=J/\st.s 2=vp/\st.s 9=vI 0/\∃h':Int,st.s 1=vI h'/\wG h'/\st.s 7=vI c/\st.s 8=vI g)
     (λm st=>∃(i:Nat) (h':Int),i<=l.length/\m=l.length-i/\st.U=J/\st.s 2=vp/\st.s 9=vI 0/\st.s 0=aK l/\st.s 1=vI h'/\wG h'/\st.s 7=vI c/\st.s 8=vI g/\st.s 11=vI i) l.length ?_ ?_ ?_
    .exact⟨0,h,by omega,by omega,rfl,t2,t9,t0,t1,hh,t7,t8,rfl⟩
    .rintro m ⟨S,X'⟩ ⟨i,h',hi,rfl,R3,t2,t9,t0,t1,hh',t7,t8,t11⟩;simp only at R3 t2 t9 t0 t1 t7 t8 t11;subst R3;refine ad.mix 13 ?_;by_cases H':i<l.length
     .have q1:((i:Int)<l.length)=True:=eq_true (by omega);have Tm:=λU=>cJ (U:=U) (l:=l) (a:=i) H';have r1:RM .i64 ((i:Int)+1):=ao (by omega) (by omega);by_cases hb:h'=-9223372036854775808
      ·(refine ad.bN TJ.nothing 22 ?_;simp only[go_sem,seval,nI,t0,t1,t2,t9,t7,t8,t11,Vd,q1,Tm,Nd.cells,SW.cells])
       refine ad.On rfl rfl rfl rfl ?_;generalize IntKind.i64.wrap (h'-1)=X
       (refine ad.bN TJ.nothing 2 ?_;simp only[go_sem,seval,nI,t0,t1])
       refine ad.On rfl rfl rfl rfl ?_;generalize hX:IntKind.i64.wrap _=Y;have hY:wG Y:=by rw[<-hX];exact GY _
       apply sR;simp only[go_sem,seval,t11,r1,t7,t8,t0,t2,t9];exact⟨_,by omega,i+1,_,by omega,rfl,rfl,hY,rfl⟩
      .apply sR;simp only[go_sem,seval,t0,t1,t2,t9,t7,t8,t11,Vd,q1,Tm,Nd.cells,SW.cells,r1];have hz:0<=(if(if 0>h'-1 then 0 else h'-1)<(if 0>l[i].st.head then 0 else l[i].st.head)then(if 0>h'-1 then 0 else h'-1)else if 0>l[i].st.head then 0 else l[i].st.head)/\
        (if(if 0>h'-1 then 0 else h'-1)<(if 0>l[i].st.head then 0 else l[i].st.head)then(if 0>h'-1 then 0 else h'-1)else if 0>l[i].st.head then 0 else l[i].st.head)<=(if 0>h'-1 then 0 else h'-1):=by
        have h1:0<=(if 0>h'-1 then 0 else h'-1):=by split<;>omega
        have h2:0<=(if 0>l[i].st.head then 0 else l[i].st.head):=by split<;>omega
        generalize (if 0>h'-1 then 0 else h'-1)=A at*;generalize (if 0>l[i].st.head then 0 else l[i].st.head)=B at*;split<;>omega
       have hx:(if 0>h'-1 then 0 else h'-1)=0\/(if 0>h'-1 then 0 else h'-1)=h'-1/\h'>=1:=by split<;>omega
       generalize (if(if 0>h'-1 then 0 else h'-1)<(if 0>l[i].st.head then 0 else l[i].st.head)then(if 0>h'-1 then 0 else h'-1)else if 0>l[i].st.head then 0 else l[i].st.head)=Z at*;unfold wG at hh';exact⟨ao (by omega) (by omega),ao (by omega) (by omega),_,by omega,i+1,_,by omega,rfl,rfl,⟨by omega,by omega⟩,rfl⟩
     .have q1:((i:Int)<l.length)=False:=eq_false (by omega);apply sR;simp only[go_sem,seval,t0,t11,Vd,q1];exact⟨t2,t9,h',t1,hh',t7,t8⟩
    .rintro⟨S,X'⟩ ⟨R3,t2,t9,h',t1,hh',t7,t8⟩;simp only at R3 t1 t7 t8 t2 t9;subst R3;refine ad.mix 13 ?_;apply sR;simp only[go_sem,seval,t1,t2,t9,t7,t8];refine ad.fi (λst=>st.U=X'/\st.s 1=vI h'/\st.s 7=vI c/\st.s 8=vI g/\∃q:Int,st.s 9=vI q)
      (λm st=>∃(i:Nat) (q:Int),i<=P.length/\m=P.length-i/\st.U=X'/\st.s 1=vI h'/\st.s 2=vp/\st.s 7=vI c/\st.s 8=vI g/\st.s 9=vI q/\0<=q/\q<=i*3000000000000000/\st.s 12=vI i) P.length ?_ ?_ ?_
     .exact⟨0,0,by omega,by omega,rfl,t1,t2,t7,t8,t9,by omega,by omega,rfl⟩
     .rintro m ⟨S,J⟩ ⟨i,q,hi,rfl,R3,t1,t2,t7,t8,t9,hq0,hq1,t12⟩;simp only at R3 t1 t2 t7 t8 t9 t12;subst R3;refine ad.mix 13 ?_;by_cases H':i<P.length
      .have q1:((i:Int)<P.length)=True:=eq_true (by omega);have Tm:=λU=>hiP U i H';have VK:=hPp _ (List.getElem_mem H');generalize P[i]=p at*;have l1:=xA p.hs;have l2:=xA p.fs;have l3:=xA p.ls;have r1:RM .i64 ((i:Int)+1):=ao (by omega) (by omega);have r2:RM .i64 ((p.hs.length:Int)+p.fs.length):=ao (by omega) (by omega);have r3:RM .i64 ((p.hs.length:Int)+p.fs.length+p.ls.length):=ao (by omega) (by omega);have r4:RM .i64 (q+((p.hs.length:Int)+p.fs.length+p.ls.length)):=ao (by omega) (by omega);apply sR;simp only[go_sem,seval,t1,t2,t7,t8,t9,t12,hlP,q1,Tm,Uu,N4,l1,l2,l3,r1,r2,r3,r4];exact⟨_,by omega,i+1,_,by omega,rfl,rfl,by omega,by omega,rfl⟩
      .have q1:((i:Int)<P.length)=False:=eq_false (by omega);apply sR;simp only[go_sem,seval,t2,t12,hlP,q1];exact⟨t1,t7,t8,q,t9⟩
     .rintro⟨S,J⟩ ⟨R3,t1,t7,t8,q,t9⟩;simp only at R3 t1 t7 t8 t9;subst R3;refine ad.mix 13 ?_;have fin:∀x:Bool,ay (.bool x) J λr Z'=>(∃x,r=.bool x/\(x=false->l.length<=30/\P.length<=60))/\Z'=J:=λx=>⟨_,_,aa.refl _,Wk.refl (aa.refl _) _,⟨_,rfl,λ_=>⟨h30,h60⟩⟩,rfl⟩
      by_cases p1:c>120
      .have q1:(c>120)=True:=eq_true p1;apply sR;simp only[go_sem,seval,t1,t7,t8,t9,q1];exact fin _
      .have q1:(c>120)=False:=eq_false p1;by_cases p0:q>600
       .have q5:(q>600)=True:=eq_true p0;apply sR;simp only[go_sem,seval,t1,t7,t8,t9,q1,q5];exact fin _
       .have q5:(q>600)=False:=eq_false p0;by_cases p2:h'>=1
        .have q2:(h'>=1)=True:=eq_true p2;have q3:(h'=0)=False:=eq_false (by omega);have hq0:=Int.tdiv_nonneg hg0 (by omega:0<=h');have hq1:=Int.tdiv_le_self h' hg0;have r1:RM .i64 (g.tdiv h'):=ao (by omega) (by omega);by_cases p4:g.tdiv h'>300
         .have q4:(g.tdiv h'>300)=True:=eq_true p4;apply sR;simp only[go_sem,seval,t1,t7,t8,t9,q1,q5,q2,q3,q4,r1];exact fin _
         .have q4:(g.tdiv h'>300)=False:=eq_false p4;apply sR;simp only[go_sem,seval,t1,t7,t8,t9,q1,q5,q2,q3,q4,r1];exact fin _
        .have q2:(h'>=1)=False:=eq_false p2;apply sR;simp only[go_sem,seval,t1,t7,t8,t9,q1,q5,q2];exact fin _
  .have q00:((P.length:Int)>60)=True:=eq_true (by omega);apply sR;simp only[go_sem,seval,c16,Vd,hlP,q0,q00];exact finT
 .have q0:((l.length:Int)>30)=True:=eq_true (by omega);apply sR;simp only[go_sem,seval,c16,Vd,q0];exact finT
inductive Tr(α:Type) where
 |e
 |n (l:Tr α) (v:α) (r:Tr α)
def y6:Nat->Nat->List Bool
 |0,_=>[]
 |_+1,0=>[]
 |f+1,k+1=>Nat.beq (Nat.mod k 2) 0::y6 f (Nat.div k 2)
def pathOf(k:Nat):List Bool:=y6 (Nat.succ k) k
def No{α:Type}(d:α)(f:Nat):List Bool->Tr α->α:=
 @Nat.rec (λ_=>List Bool->Tr α->α) (λ_ _=>d)
  (λ_ ih p t=>@List.casesOn Bool (λ_=>α) p (@Tr.casesOn α (λ_=>α) t d (λ_ v _=>v))
    (λb p'=>@Tr.casesOn α (λ_=>α) t d (λl _ r=>ih p' (@Bool.casesOn (λ_=>Tr α) b r l)))) f
def lF{α:Type}(d:α)(k:Nat)(t:Tr α):α:=No d (Nat.succ k) (pathOf k) t
def Og{α:Type}(d v:α)(f:Nat):List Bool->Tr α->Tr α:=
 @Nat.rec (λ_=>List Bool->Tr α->Tr α) (λ_ t=>t)
  (λ_ ih p t=>@List.casesOn Bool (λ_=>Tr α) p (@Tr.casesOn α (λ_=>Tr α) t (.n .e v .e) (λl _ r=>.n l v r))
    (λb p'=>@Tr.casesOn α (λ_=>Tr α) t (@Bool.casesOn (λ_=>Tr α) b (.n .e d (ih p' .e)) (.n (ih p' .e) d .e))
      (λl u r=>@Bool.casesOn (λ_=>Tr α) b (.n l u (ih p' r)) (.n (ih p' l) u r)))) f
def lX{α:Type}(d v:α)(k:Nat)(t:Tr α):Tr α:=Og d v (Nat.succ k) (pathOf k) t
structure CS where
 s:Tr V
 U:Tr (Option Ob)
 SF:Nat
def CS.sf(cs:CS):Nat->V:=λi=>lF (.RB []) i cs.s
def U3(U:Tr (Option Ob)):ai:=λi=>lF none i U
def Q9(cs:CS)(d:Nat)(v:V):CS:=⟨lX (.RB []) v d cs.s,cs.U,cs.SF⟩
def CS.put(cs:CS)(d:Option Nat)(v:V):CS:=@Option.casesOn Nat (λ_=>CS) d cs (λd=>Q9 cs d v)
def eqQ:Int->Int->Bool
 |.ofNat m,.ofNat n=>Nat.beq m n
 |.negSucc m,.negSucc n=>Nat.beq m n
 |_,_=>false
def leQ:Int->Int->Bool
 |.ofNat m,.ofNat n=>Nat.ble m n
 |.negSucc _,.ofNat _=>true
 |.negSucc m,.negSucc n=>Nat.ble n m
 |.ofNat _,.negSucc _=>false
def Ol:Int->Int->Int
 |.ofNat m,.ofNat n=>.ofNat (Nat.add m n)
 |a,b=>a+b
def KX:Int->Int->Int
 |.ofNat m,.ofNat n=>@Bool.casesOn (λ_=>Int) (Nat.ble n m) (.negSucc (Nat.sub (Nat.sub n m) 1)) (.ofNat (Nat.sub m n))
 |a,b=>a-b
def J6:Int->Bool
 |.ofNat m=>Nat.ble m 9223372036854775807
 |.negSucc m=>Nat.ble m 9223372036854775807
def Mz(k:IntKind)(n:Int):Bool:=match k with
 |.i64=>J6 n
 |k=>decide (k.wrap n=n)
def gI(k:IntKind)(n:Int):Option V:=@Bool.casesOn (λ_=>Option V) (Mz k n) none (some (.int k n))
def eqK(k k':IntKind):Bool:=decide (k=k')
def Mr:IntKind->Bool
 |.i64=>true
 |_=>false
structure FI where
 f:IntKind->Int->Int->Option V
def o5(op:BinOp):FI:=
 match op with
 |.add=>⟨λk a b=>gI k (Ol a b)⟩
 |.sub=>⟨λk a b=>gI k (KX a b)⟩
 |.mul=>⟨λk a b=>gI k (a*b)⟩
 |.quo=>⟨λk a b=>if b=0 then none else gI k (a.tdiv b)⟩
 |.rem=>⟨λk a b=>if b=0 then none else some (.int k (a.tmod b))⟩
 |.eql=>⟨λ_ a b=>some (.bool (eqQ a b))⟩
 |.neq=>⟨λ_ a b=>some (.bool (not (eqQ a b)))⟩
 |.lss=>⟨λ_ a b=>some (.bool (not (leQ b a)))⟩
 |.leq=>⟨λ_ a b=>some (.bool (leQ a b))⟩
 |.gtr=>⟨λ_ a b=>some (.bool (not (leQ a b)))⟩
 |.geq=>⟨λ_ a b=>some (.bool (leQ b a))⟩
 |.and=>⟨λk a b=>cU .and k a b⟩
 |.or=>⟨λk a b=>cU .or k a b⟩
 |.shl=>⟨λk a b=>cU .shl k a b⟩
 |.shr=>⟨λk a b=>cU .shr k a b⟩
 |_=>⟨λ_ _ _=>none⟩
def wS(op:BinOp)(a b:List UInt8):Option V:=
 match op with
 |.add=>@Bool.casesOn (λ_=>Option V) (Nat.ble (a.length+b.length) 9223372036854775807) none (some (.str (a++b)))
 |.eql=>some (.bool (decide (a=b)))
 |.neq=>some (.bool (decide (a≠b)))
 |_=>none
def GF(k k':IntKind):Bool:=@Bool.casesOn (λ_=>Bool) (Mr k) (eqK k k') (Mr k')
def Om(k:IntKind)(a:Int)(g:IntKind->Int->Int->Option V):V->Option V
 |.int k' b=>@Bool.casesOn (λ_=>Option V) (GF k k') none (g k a b)
 |_=>none
def Nf(op:BinOp)(a:List UInt8):V->Option V
 |.str b=>wS op a b
 |_=>none
def Hg(op:BinOp)(g:IntKind->Int->Int->Option V)(y:V):V->Option V
 |.int k a=>Om k a g y
 |.str a=>Nf op a y
 |_=>none
def NZ:V->Option V
 |.int k a=>gI k (0-a)
 |_=>none
def IT(k:IntKind):V->Option V
 |.int _ a=>gI k a
 |_=>none
def Nc:V->Option V
 |.bool b=>some (.bool (!b))
 |_=>none
def I9(a b:V):V->Option V
 |.bool t=>some (@Bool.casesOn (λ_=>V) t b a)
 |_=>none
def ye:Int->Option Nat
 |.ofNat m=>some m
 |_=>none
def LN(U:Tr (Option Ob))(SU:Nat)(x i:V):Option V:=
 match x,i with
 |.own id off len,.int _ j=>match ye j with
  |some m=>match lF none id U with
   |some ob=>@Bool.casesOn (λ_=>Option V) (Nat.beq ob.sz SU&&Nat.blt m len) none (some (.ptr id (Nat.add off m) 0))
   |none=>none
  |none=>none
 |.sl sz rows,.int _ j=>match ye j with
  |some m=>@Bool.casesOn (λ_=>Option V) (Nat.beq sz SU) none (match rows[m]? with
   |some r=>some (.rp r)
   |none=>none)
  |none=>none
 |_,_=>none
def Fe(U:Tr (Option Ob))(agg:Bool)(sz:Nat)(x:V):Option V:=
 match x with
 |.ptr id i k=>match lF none id U with
  |some ob=>match ob.rows[i]? with
   |some r=>match agg with
    |true=>@Bool.casesOn (λ_=>Option V) (Nat.beq k 0&&Nat.beq r.cells.length sz)
       (@Bool.casesOn (λ_=>Option V) (Nat.ble (Nat.add k sz) r.cells.length) none (some (.agg ((r.cells.drop k).take sz)))) (some (.agg r.cells))
    |false=>r.cells[k]?
   |none=>none
  |none=>none
 |x=>bT (U3 U) agg sz x
def EB:V->V->Option V
 |.str s,.int _ j=>match ye j with
  |some m=>match s[m]? with
   |some b=>some (.int .u8 (Int.ofNat b.toNat))
   |none=>none
  |none=>none
 |_,_=>none
structure Mk where
 var:Bool
 len:Nat
 gone:Option Nat
 ob:Ob
def N5(e sz:Nat)(x:V):Option Mk:=@Bool.casesOn (λ_=>Option Mk) (Nat.beq x.cells.length sz&&x.stays) none (some ⟨true,0,none,⟨e,sz,[x]⟩⟩)
def BY(e sz:Nat)(xs:List V):Option Mk:=@Bool.casesOn (λ_=>Option Mk) (xs.all λx=>Nat.beq x.cells.length sz&&x.stays) none (some ⟨false,xs.length,none,⟨e,sz,xs⟩⟩)
def mkQ(e sz bytes:Nat)(z:V):V->Option Mk
 |.int k m=>match k with
  |.i64=>match ye m with
   |some j=>@Bool.casesOn (λ_=>Option Mk) (Nat.ble (j*(bytes+1)) 140737488355328) none (some ⟨false,j,none,⟨e,sz,List.replicate j z⟩⟩)
   |none=>none
  |_=>none
 |_=>none
def CA(U:Tr (Option Ob))(e sz bytes:Nat)(a b:V):Option Mk:=match cg (U3 U) e sz a,bR (U3 U) sz b with
 |some (base,RN),some src=>@Bool.casesOn (λ_=>Option Mk) (Nat.ble ((base.length+src.length)*(bytes+1)) 140737488355328) none (some ⟨false,base.length+src.length,RN,⟨e,sz,base++src⟩⟩)
 |_,_=>none
def xu(fl:Nat)(dst:Option Nat)(cs:CS)(m:Mk):Option CS:=
 match m.gone with
 |none=>some (CS.put ⟨cs.s,lX none (some m.ob) cs.SF cs.U,Nat.succ cs.SF⟩ dst (@Bool.casesOn (λ_=>V) m.var (.own cs.SF 0 m.len) (.ptr cs.SF 0 0)))
 |some d=>@Bool.casesOn (λ_=>Option CS) (Nat.ble fl d) none
    (some (CS.put ⟨cs.s,lX none (some m.ob) cs.SF (lX none none d cs.U),Nat.succ cs.SF⟩ dst (@Bool.casesOn (λ_=>V) m.var (.own cs.SF 0 m.len) (.ptr cs.SF 0 0))))
inductive Out where
 |nx (cs:CS)
 |ex (id:Nat) (cs:CS)
 |rt (cs:CS)
 |bad
structure Rs where
 v:V
 U:Tr (Option Ob)
 SF:Nat
def lI:=FuncId->List V->Tr (Option Ob)->Nat->Nat->Option Rs
structure BI where
 f:lI->Nat->CS->Option CS
def jD(dst:Option Nat)(g:CS->Option V):BI:=⟨λ_ _ cs=>match g cs with
 |some v=>some (cs.put dst v)
 |none=>none⟩
def Nh(dst:Option Nat)(x:VX):BI:=⟨λ_ _ cs=>some (cs.put dst (x.ev cs.sf))⟩
def BF(dst:Option Nat)(g:CS->Option Mk):BI:=⟨λ_ fl cs=>match g cs with
 |some m=>xu fl dst cs m
 |none=>none⟩
def A1(dst:Option Nat)(cs:CS):Option Rs->Option CS
 |some r=>some (CS.put ⟨cs.s,r.U,r.SF⟩ dst r.v)
 |none=>none
def wC(dst:Option Nat)(cs:CS):Option Rs->Option CS
 |some r=>@Bool.casesOn (λ_=>Option CS) r.v.eM none (some (cs.put dst r.v))
 |none=>none
def EV(draw:Bool)(dst:Option Nat)(fx:VX)(xs:List VX):BI:=match draw with
 |true=>⟨λcall _ cs=>match fx.ev cs.sf with
  |.fn f caps=>wC dst cs (call f (xs.map (·.ev cs.sf)++caps) cs.U cs.SF cs.SF)
  |_=>none⟩
 |false=>⟨λcall fl cs=>match fx.ev cs.sf with
  |.fn f caps=>A1 dst cs (call f (xs.map (·.ev cs.sf)++caps) cs.U cs.SF fl)
  |_=>none⟩
def Ca(dst:Option Nat)(fl sz:Nat)(xv:V)(cs:CS):V->Option CS
 |.ptr id i0 c=>@Bool.casesOn (λ_=>Option CS) (Nat.ble fl id) none (match lF none id cs.U with
  |some ob=>match ob.rows[i0]? with
   |some r=>match cp r c sz xv with
    |some r'=>some (CS.put ⟨cs.s,lX none (some ⟨ob.elem,ob.sz,ob.rows.set i0 r'⟩) id cs.U,cs.SF⟩ dst (.RB []))
    |none=>none
   |none=>none
  |none=>none)
 |_=>none
def BG(dst:Option Nat)(sz:Nat)(xa xv:VX):BI:=⟨λ_ fl cs=>Ca dst fl sz (xv.ev cs.sf) cs (xa.ev cs.sf)⟩
def B1(dst:Option Nat)(fl sz:Nat)(z:V)(cs:CS):V->Option CS
 |.own id off len=>@Bool.casesOn (λ_=>Option CS) (Nat.ble fl id) none (match lF none id cs.U with
  |some ob=>@Bool.casesOn (λ_=>Option CS) (Nat.beq ob.sz sz&&Nat.ble (off+len) ob.rows.length) none
     (some (CS.put ⟨cs.s,lX none (some ⟨ob.elem,ob.sz,ob.rows.take off++List.replicate len z++ob.rows.drop (off+len)⟩) id cs.U,cs.SF⟩ dst (.RB [])))
  |none=>none)
 |_=>none
def Bi(draw:Bool)(dst:Option Nat)(sz:Nat)(z:V)(xv:VX):BI:=match draw with
 |true=>⟨λ_ _ _=>none⟩
 |false=>⟨λ_ fl cs=>B1 dst fl sz z cs (xv.ev cs.sf)⟩
def jY(draw:Bool)(dst:Option Nat)(op:RO):BI:=match op with
 |.RJ x=>Nh dst x
 |.pick c a b=>jD dst λcs=>I9 (a.ev cs.sf) (b.ev cs.sf) (c.ev cs.sf)
 |.bin op x y=>@FI.casesOn (λ_=>BI) (o5 op) λg=>jD dst λcs=>Hg op g (y.ev cs.sf) (x.ev cs.sf)
 |.not x=>jD dst λcs=>Nc (x.ev cs.sf)
 |.neg x=>jD dst λcs=>NZ (x.ev cs.sf)
 |.U9 k x=>jD dst λcs=>IT k (x.ev cs.sf)
 |.Us SU x i=>jD dst λcs=>LN cs.U SU (x.ev cs.sf) (i.ev cs.sf)
 |.Zj x i=>jD dst λcs=>EB (x.ev cs.sf) (i.ev cs.sf)
 |.load agg sz x=>jD dst λcs=>Fe cs.U agg sz (x.ev cs.sf)
 |.box e sz x=>BF dst λcs=>N5 e sz (x.ev cs.sf)
 |.alloc e sz z=>BF dst λ_=>some ⟨true,0,none,⟨e,sz,[z]⟩⟩
 |.bp e sz xs=>BF dst λcs=>BY e sz (xs.map (·.ev cs.sf))
 |.mk e sz bytes z x=>BF dst λcs=>mkQ e sz bytes z (x.ev cs.sf)
 |.append e sz bytes a b=>BF dst λcs=>CA cs.U e sz bytes (a.ev cs.sf) (b.ev cs.sf)
 |.call f xs=>EV draw dst f xs
 |.store sz a x=>BG dst sz a x
 |.clear sz z x=>Bi draw dst sz z x
 |op=>jD dst λcs=>aL (U3 cs.U) cs.sf op
def Fc(dst:Option Nat)(b:Bool)(B:BI)(call:lI)(fl:Nat)(cs:CS):V->Option CS
 |.bool c=>@Bool.casesOn (λ_=>Option CS) (Bool.xor c b) (B.f call fl cs) (some (cs.put dst (.RB [])))
 |.RB []=>some (cs.put dst (.RB []))
 |.int _ _=>some (cs.put dst (.RB []))
 |_=>none
def qJ(draw:Bool)(i:aN):BI:=match i.g with
 |none=>jY draw i.dst i.op
 |some (x,b)=>⟨λcall fl cs=>Fc i.dst b (jY draw i.dst i.op) call fl cs (x.ev cs.sf)⟩
def l4(draw:Bool)(call:lI)(fl m:Nat):List aN->CS->Out:=
 @Nat.rec (λ_=>List aN->CS->Out) (λ_ _=>.bad)
  (λ_ ih l cs=>@List.casesOn aN (λ_=>Out) l (.nx cs)
    (λi l'=>@BI.casesOn (λ_=>Out) (qJ draw i) λf=>@Option.casesOn CS (λ_=>Out) (f call fl cs) .bad (ih l'))) m
def Fv(draw:Bool)(call:lI)(fl:Nat)(l:List aN)(cs:CS):Out:=l4 draw call fl 1000 l cs
def Tr.ofL:List V->Nat->Tr V->Tr V
 |[],_,t=>t
 |v::l,k,t=>Tr.ofL l (Nat.succ k) (lX (.RB []) v k t)
def G5(res:List VR)(cs:CS):Option Rs:=match mW ⟨cs.sf,U3 cs.U⟩ res with
 |some v=>some ⟨v,cs.U,cs.SF⟩
 |none=>none
def Np(res:List VR):Out->Option Rs
 |.nx cs=>G5 res cs
 |.rt cs=>G5 res cs
 |_=>none
def evF(run:Nat->bJ->CS->Out)(code:FuncId->Option Ry):lI:=λf args U SF fl=>match code f with
 |none=>none
 |some vf=>@Bool.casesOn (λ_=>Option Rs) (Nat.ble args.length vf.n) none (Np vf.res (run fl vf.code ⟨Tr.ofL args 0 .e,U,SF⟩))
def DX(o:Out)(k:CS->Out):Out:=@Out.casesOn (λ_=>Out) o k (λid cs=>.ex id cs) (λcs=>.rt cs) .bad
def KS(id:Nat)(o:Out):Out:=@Out.casesOn (λ_=>Out) o (λcs=>.nx cs) (λj cs=>@Bool.casesOn (λ_=>Out) (Nat.beq j id) (.ex j cs) (.nx cs)) (λcs=>.rt cs) .bad
def onB(v:V)(a b:Out):Out:=match v with
 |.bool c=>@Bool.casesOn (λ_=>Out) c b a
 |_=>.bad
def Wq(code:FuncId->Option Ry)(fuel:Nat):Nat->bJ->CS->Out:=
 @Nat.rec (λ_=>Nat->bJ->CS->Out) (λ_ _ _=>.bad)
  (λ_ ih fl c cs=>match c with
    |.skip=>.nx cs
    |.Sd draw l=>Fv draw (evF ih code) fl l cs
    |.seq a b=>DX (ih fl a cs) λSV=>ih fl b SV
    |.cond c a b=>onB (c.ev cs.sf) (ih fl a cs) (ih fl b cs)
    |.block id a=>KS id (ih fl a cs)
    |.loop a=>DX (ih fl a cs) λSV=>ih fl (.loop a) SV
    |.exit id=>.ex id cs
    |.ret=>.rt cs
    |.cX ..=>.bad
    |.SO ..=>.bad
    |.pH ..=>.bad
    |.bad=>.bad) fuel
def gL{α:Type}(d:α):List Bool->Tr α->α
 |_,.e=>d
 |[],.n _ v _=>v
 |b::p,.n l _ r=>gL d p (if b then l else r)
def sL{α:Type}(d v:α):List Bool->Tr α->Tr α
 |[],.e=>.n .e v .e
 |[],.n l _ r=>.n l v r
 |b::p,.e=>if b then .n (sL d v p .e) d .e else .n .e d (sL d v p .e)
 |b::p,.n l u r=>if b then .n (sL d v p l) u r else .n l u (sL d v p r)
def rZ{α:Type}(d:α):∀(f:Nat) (p:List Bool) (t:Tr α),p.length<f->No d f p t=gL d p t
 |0,_,_,h=>by omega
 |f+1,[],t,_=>by cases t<;>rfl
 |f+1,b::p,t,h=>by
  cases t with
  |e=>rfl
  |n l u r=>
   have ih:=rZ d f p (if b then l else r) (by simpa using h);cases b<;>exact ih
def xP{α:Type}(d v:α):∀(f:Nat) (p:List Bool) (t:Tr α),p.length<f->Og d v f p t=sL d v p t
 |0,_,_,h=>by omega
 |f+1,[],t,_=>by cases t<;>rfl
 |f+1,b::p,t,h=>by
  have h':p.length<f:=by simpa using h
  cases t with
  |e=>cases b<;>simp only[sL,Bool.false_eq_true,if_false,if_true]<;>rw[<-xP d v f p _ h']<;>rfl
  |n l u r=>cases b<;>simp only[sL,Bool.false_eq_true,if_false,if_true]<;>rw[<-xP d v f p _ h']<;>rfl
def Jf{α:Type}(d:α)(p:List Bool):gL d p .e=d:=by cases p<;>rfl
def Cw{α:Type}(d v:α):∀(p q:List Bool) (t:Tr α),gL d q (sL d v p t)=if q=p then v else gL d q t
 |[],[],t=>by cases t<;>simp[sL,gL]
 |[],b::q,t=>by cases t<;>simp[sL,gL,Jf]
 |a::p,[],t=>by cases t<;>cases a<;>simp[sL,gL]
 |a::p,b::q,t=>by
  cases t with
  |e=>
   have ih:=Cw d v p q .e;cases a<;>cases b<;>simp[sL,gL,Jf,ih]
  |n l u r=>
   have ihl:=Cw d v p q l;have ihr:=Cw d v p q r;cases a<;>cases b<;>simp[sL,gL,ihl,ihr]
def xO:List Bool->Nat
 |[]=>0
 |b::p=>2*xO p+(if b then 1 else 2)
def mR:∀(f k:Nat),k<f->xO (y6 f k)=k
 |0,_,h=>by omega
 |f+1,0,_=>rfl
 |f+1,k+1,h=>by
  have ih:=mR f (k/2) (by omega);have ih':xO (y6 f (k.div 2))=k/2:=ih;simp only[y6,xO,ih'];have h1:Nat.mod k 2=k%2:=rfl;by_cases hk:k%2=0
  .have:Nat.beq (Nat.mod k 2) 0=true:=by rw[h1,hk];rfl
   simp only[this,if_true];omega
  .have T':k%2=1:=by omega
   have:Nat.beq (Nat.mod k 2) 0=false:=by rw[h1,T'];rfl
   simp only[this,Bool.false_eq_true,if_false];omega
def Nx:∀p:List Bool,p.length<=xO p
 |[]=>Nat.le_refl _
 |b::p=>by have:=Nx p;simp only[List.length_cons,xO];split<;>omega
def lg(k:Nat):(pathOf k).length<k.succ:=by
 have h1:=Nx (pathOf k);have h2:xO (pathOf k)=k:=mR (k+1) k (by omega);omega
def AI{i k:Nat}(h:pathOf i=pathOf k):i=k:=by
 have h1:xO (pathOf i)=i:=mR (i+1) i (by omega);have h2:xO (pathOf k)=k:=mR (k+1) k (by omega);rw[<-h1,<-h2,h]
def od{α:Type}(d v:α)(i k:Nat)(t:Tr α):lF d i (lX d v k t)=if i=k then v else lF d i t:=by
 unfold lF lX;rw[rZ _ _ _ _ (lg i),rZ _ _ _ _ (lg i),xP _ _ _ _ _ (lg k),Cw];by_cases h:i=k
 .simp[h]
 .rw[if_neg h,if_neg (λe=>h (AI e))]
def Ku{α:Type}(d:α)(i:Nat):lF d i .e=d:=by
 unfold lF;rw[rZ _ _ _ _ (lg i),Jf]
def K6(cs:CS)(d:Option Nat)(v:V):(cs.put d v).sf=aX cs.sf d v:=by
 funext i;cases d with
 |none=>rfl
 |some d=>show lF _ i (lX _ v d cs.s)=_;rw[od];rfl
def GO(cs:CS)(d:Option Nat)(v:V):(cs.put d v).U=cs.U/\(cs.put d v).SF=cs.SF:=by cases d<;>exact⟨rfl,rfl⟩
def rY(U:Tr (Option Ob))(k:Nat)(o:Ob):U3 (lX none (some o) k U)=C' (U3 U) k o:=by
 funext i;show lF none i _=_;rw[od];rfl
def HQ(U:Tr (Option Ob))(k:Nat):U3 (lX none none k U)=del (U3 U) k:=by
 funext i;show lF none i _=_;rw[od];rfl
mutual
def aF(R:Nat->Nat->Prop):V->V->Prop
 |.own id off len,u=>∃Tx,u=.own Tx off len/\R id Tx
 |.ptr id i k,u=>∃Tx,u=.ptr Tx i k/\R id Tx
 |.sl sz rows,u=>∃Rz,u=.sl sz Rz/\aS R rows Rz
 |.rp v,u=>∃v',u=.rp v'/\aF R v v'
 |.fn f caps,u=>∃Vx,u=.fn f Vx/\aS R caps Vx
 |.bm f caps,u=>∃Vx,u=.bm f Vx/\aS R caps Vx
 |.iface t v,u=>∃v',u=.iface t v'/\aF R v v'
 |.agg c,u=>∃c',u=.agg c'/\aS R c c'
 |.RB c,u=>∃c',u=.RB c'/\aS R c c'
 |.undef,u=>u=.undef
 |.int k n,u=>u=.int k n
 |.bool b,u=>u=.bool b
 |.str s,u=>u=.str s
 |.aC,u=>u=.aC
 |.Sc,u=>u=.Sc
 |.RQ,u=>u=.RQ
 |.Si,u=>u=.Si
 |.raw v,u=>u=.raw v
 |.obj v,u=>u=.obj v
 |.gp v,u=>u=.gp v
 |.yl v,u=>∃Tx,u=.yl Tx/\R v Tx
 |.mp v,u=>u=.mp v
def aS(R:Nat->Nat->Prop):List V->List V->Prop
 |[],l=>l=[]
 |v::vs,l=>∃u us,l=u::us/\aF R v u/\aS R vs us
end
section
variable {R R':Nat->Nat->Prop}
mutual
def aF.mono(h:∀a b,R a b->R' a b):∀(v u:V),aF R v u->aF R' v u
 |.own id off len,u,g=>by simp only[aF]at g|-;obtain⟨i,e,r⟩:=g;exact⟨i,e,h _ _ r⟩
 |.ptr id i k,u,g=>by simp only[aF]at g|-;obtain⟨i,e,r⟩:=g;exact⟨i,e,h _ _ r⟩
 |.sl sz rows,u,g=>by simp only[aF]at g|-;obtain⟨i,e,r⟩:=g;exact⟨i,e,aS.mono h _ _ r⟩
 |.rp v,u,g=>by simp only[aF]at g|-;obtain⟨i,e,r⟩:=g;exact⟨i,e,aF.mono h _ _ r⟩
 |.fn f caps,u,g=>by simp only[aF]at g|-;obtain⟨i,e,r⟩:=g;exact⟨i,e,aS.mono h _ _ r⟩
 |.bm f caps,u,g=>by simp only[aF]at g|-;obtain⟨i,e,r⟩:=g;exact⟨i,e,aS.mono h _ _ r⟩
 |.iface t v,u,g=>by simp only[aF]at g|-;obtain⟨i,e,r⟩:=g;exact⟨i,e,aF.mono h _ _ r⟩
 |.agg c,u,g=>by simp only[aF]at g|-;obtain⟨i,e,r⟩:=g;exact⟨i,e,aS.mono h _ _ r⟩
 |.RB c,u,g=>by simp only[aF]at g|-;obtain⟨i,e,r⟩:=g;exact⟨i,e,aS.mono h _ _ r⟩
 |.undef,u,g=>by simpa[aF]using g
 |.int k n,u,g=>by simpa[aF]using g
 |.bool b,u,g=>by simpa[aF]using g
 |.str s,u,g=>by simpa[aF]using g
 |.aC,u,g=>by simpa[aF]using g
 |.Sc,u,g=>by simpa[aF]using g
 |.RQ,u,g=>by simpa[aF]using g
 |.Si,u,g=>by simpa[aF]using g
 |.raw v,u,g=>by simpa[aF]using g
 |.obj v,u,g=>by simpa[aF]using g
 |.gp v,u,g=>by simpa[aF]using g
 |.yl v,u,g=>by simp only[aF]at g|-;obtain⟨i,e,r⟩:=g;exact⟨i,e,h _ _ r⟩
 |.mp v,u,g=>by simpa[aF]using g
def aS.mono(h:∀a b,R a b->R' a b):∀(v u:List V),aS R v u->aS R' v u
 |[],u,g=>by simpa[aS]using g
 |v::vs,u,g=>by
  simp only[aS]at g|-;obtain⟨a,as1,e,r,rs⟩:=g;exact⟨a,as1,e,aF.mono h _ _ r,aS.mono h _ _ rs⟩
end
mutual
def eW:∀(v:V),v.eM=true->aF R v v
 |.own ..,g=>by simp[V.eM]at g
 |.ptr ..,g=>by simp[V.eM]at g
 |.sl sz rows,g=>by simp only[V.eM]at g;simp only[aF];exact⟨rows,rfl,fM rows g⟩
 |.rp v,g=>by simp only[V.eM]at g;simp only[aF];exact⟨v,rfl,eW v g⟩
 |.fn f caps,g=>by simp only[V.eM]at g;simp only[aF];exact⟨caps,rfl,fM caps g⟩
 |.bm f caps,g=>by simp only[V.eM]at g;simp only[aF];exact⟨caps,rfl,fM caps g⟩
 |.iface t v,g=>by simp only[V.eM]at g;simp only[aF];exact⟨v,rfl,eW v g⟩
 |.agg c,g=>by simp only[V.eM]at g;simp only[aF];exact⟨c,rfl,fM c g⟩
 |.RB c,g=>by simp only[V.eM]at g;simp only[aF];exact⟨c,rfl,fM c g⟩
 |.undef,_=>by simp[aF]
 |.int k n,_=>by simp[aF]
 |.bool b,_=>by simp[aF]
 |.str s,_=>by simp[aF]
 |.aC,_=>by simp[aF]
 |.Sc,_=>by simp[aF]
 |.RQ,_=>by simp[aF]
 |.Si,_=>by simp[aF]
 |.raw v,_=>by simp[aF]
 |.obj v,_=>by simp[aF]
 |.gp v,_=>by simp[aF]
 |.yl v,g=>by simp[V.eM]at g
 |.mp v,_=>by simp[aF]
def fM:∀(l:List V),gl l=true->aS R l l
 |[],_=>by simp[aS]
 |v::vs,g=>by
  simp only[gl,Ba]at g;simp only[aS];exact⟨v,vs,rfl,eW v g.1,fM vs g.2⟩
end
mutual
def ou:∀(v u:V),v.eM=true->aF R v u->u=v
 |.own ..,_,g,_=>by simp[V.eM]at g
 |.ptr ..,_,g,_=>by simp[V.eM]at g
 |.sl sz rows,u,g,h=>by simp only[V.eM]at g;simp only[aF]at h;obtain⟨r,rfl,h⟩:=h;rw[kX rows r g h]
 |.rp v,u,g,h=>by simp only[V.eM]at g;simp only[aF]at h;obtain⟨r,rfl,h⟩:=h;rw[ou v r g h]
 |.fn f caps,u,g,h=>by simp only[V.eM]at g;simp only[aF]at h;obtain⟨r,rfl,h⟩:=h;rw[kX caps r g h]
 |.bm f caps,u,g,h=>by simp only[V.eM]at g;simp only[aF]at h;obtain⟨r,rfl,h⟩:=h;rw[kX caps r g h]
 |.iface t v,u,g,h=>by simp only[V.eM]at g;simp only[aF]at h;obtain⟨r,rfl,h⟩:=h;rw[ou v r g h]
 |.agg c,u,g,h=>by simp only[V.eM]at g;simp only[aF]at h;obtain⟨r,rfl,h⟩:=h;rw[kX c r g h]
 |.RB c,u,g,h=>by simp only[V.eM]at g;simp only[aF]at h;obtain⟨r,rfl,h⟩:=h;rw[kX c r g h]
 |.undef,u,_,h=>by simpa[aF]using h
 |.int k n,u,_,h=>by simpa[aF]using h
 |.bool b,u,_,h=>by simpa[aF]using h
 |.str s,u,_,h=>by simpa[aF]using h
 |.aC,u,_,h=>by simpa[aF]using h
 |.Sc,u,_,h=>by simpa[aF]using h
 |.RQ,u,_,h=>by simpa[aF]using h
 |.Si,u,_,h=>by simpa[aF]using h
 |.raw v,u,_,h=>by simpa[aF]using h
 |.obj v,u,_,h=>by simpa[aF]using h
 |.gp v,u,_,h=>by simpa[aF]using h
 |.yl v,_,g,_=>by simp[V.eM]at g
 |.mp v,u,_,h=>by simpa[aF]using h
def kX:∀(l m:List V),gl l=true->aS R l m->m=l
 |[],m,_,h=>by simpa[aS]using h
 |v::vs,m,g,h=>by
  simp only[gl,Ba]at g;simp only[aS]at h;obtain⟨u,us,rfl,h1,h2⟩:=h;rw[ou v u g.1 h1,kX vs us g.2 h2]
end
def aS.iJ{l:List V}:aS R [] l↔l=[]:=by simp[aS]
def aS.cC{v:V}{vs l:List V}:aS R (v::vs) l↔∃u us,l=u::us/\aF R v u/\aS R vs us:=by simp[aS]
def aS.length:∀{l m:List V},aS R l m->m.length=l.length
 |[],_,h=>by rw[aS.iJ]at h;simp[h]
 |v::vs,_,h=>by obtain⟨u,us,rfl,_,h2⟩:=aS.cC.1 h;simp[h2.length]
def aS.get:∀{l m:List V},aS R l m->∀{i:Nat} {v:V},l[i]?=some v->∃u,m[i]?=some u/\aF R v u
 |[],_,_,i,v,hv=>by simp at hv
 |v::vs,_,h,i,x,hv=>by
  obtain⟨u,us,rfl,h1,h2⟩:=aS.cC.1 h;cases i with
  |zero=>simp at hv;subst hv;exact⟨u,by simp,h1⟩
  |succ i=>simp at hv;simpa using h2.get hv
def aS.append:∀{l m l' m':List V},aS R l m->aS R l' m'->aS R (l++l') (m++m')
 |[],_,_,_,h,h'=>by rw[aS.iJ]at h;subst h;simpa using h'
 |v::vs,_,_,_,h,h'=>by
  obtain⟨u,us,rfl,h1,h2⟩:=aS.cC.1 h;exact aS.cC.2 ⟨u,us++_,by simp,h1,h2.append h'⟩
def aS.take:∀{l m:List V},aS R l m->∀i,aS R (l.take i) (m.take i)
 |[],_,h,i=>by rw[aS.iJ]at h;subst h;simp[aS]
 |v::vs,_,h,i=>by
  obtain⟨u,us,rfl,h1,h2⟩:=aS.cC.1 h;cases i with
  |zero=>simp[aS]
  |succ i=>exact aS.cC.2 ⟨u,us.take i,by simp,h1,h2.take i⟩
def aS.drop:∀{l m:List V},aS R l m->∀i,aS R (l.drop i) (m.drop i)
 |[],_,h,i=>by rw[aS.iJ]at h;subst h;simp[aS]
 |v::vs,_,h,i=>by
  obtain⟨u,us,rfl,h1,h2⟩:=aS.cC.1 h;cases i with
  |zero=>exact aS.cC.2 ⟨u,us,by simp,h1,h2⟩
  |succ i=>simpa using h2.drop i
def aS.set:∀{l m:List V},aS R l m->∀(i:Nat) {v u:V},aF R v u->aS R (l.set i v) (m.set i u)
 |[],_,h,i,_,_,_=>by rw[aS.iJ]at h;subst h;simp[aS]
 |v::vs,_,h,i,x,y,hx=>by
  obtain⟨u,us,rfl,h1,h2⟩:=aS.cC.1 h;cases i with
  |zero=>exact aS.cC.2 ⟨y,us,by simp,hx,h2⟩
  |succ i=>exact aS.cC.2 ⟨u,us.set i y,by simp,h1,h2.set i hx⟩
def aS.replicate{v u:V}(h:aF R v u):∀n,aS R (List.replicate n v) (List.replicate n u)
 |0=>by simp[aS]
 |n+1=>aS.cC.2 ⟨u,List.replicate n u,by simp[List.replicate_succ],h,aS.replicate h n⟩
def aS.one{v u:V}(h:aF R v u):aS R [v] [u]:=aS.cC.2 ⟨u,[],rfl,h,by simp[aS]⟩
def aF.jZ{k:IntKind}{n:Int}{u:V}:aF R (.int k n) u↔u=.int k n:=by simp[aF]
def aF.mi{b:Bool}{u:V}:aF R (.bool b) u↔u=.bool b:=by simp[aF]
def aF.rX{b:List UInt8}{u:V}:aF R (.str b) u↔u=.str b:=by simp[aF]
def aF.oy{b:List V}{u:V}:aF R (.agg b) u↔∃c,u=.agg c/\aS R b c:=by simp[aF]
def aF.agg{l m:List V}(h:aS R l m):aF R (.agg l) (.agg m):=aF.oy.2 ⟨m,rfl,h⟩
def aF.rp{l m:V}(h:aF R l m):aF R (.rp l) (.rp m):=by simp only[aF];exact⟨m,rfl,h⟩
def aF.cells{v u:V}(h:aF R v u):aS R v.cells u.cells:=by
 cases v<;>simp only[aF]at h
 case agg c=>obtain⟨c',rfl,h⟩:=h;simpa[V.cells]using h
 all_goals first
  |(subst h;exact aS.one (by simp[aF]))
  |(obtain⟨c,rfl,h⟩:=h;exact aS.one (by simp only[aF];exact⟨_,rfl,h⟩))
def aF.stays{v u:V}(h:aF R v u):u.stays=v.stays:=by
 cases v<;>simp only[aF]at h<;>first
  |(subst h;rfl)
  |(obtain⟨c,rfl,h⟩:=h;rfl)
end
def Lv(R:Nat->Nat->Prop)(Zc U:ai):Prop:=∀c a o,R c a->Zc c=some o->∃Rz,U a=some ⟨o.elem,o.sz,Rz⟩/\aS R o.rows Rz
def Lv.sup{R:Nat->Nat->Prop}{Zc U Z1:ai}(h:Lv R Zc U)(hs:aa U Z1):Lv R Zc Z1:=λc a o hc ho=>by
 obtain⟨Rz,h1,h2⟩:=h c a o hc ho;exact⟨Rz,hs _ _ h1,h2⟩
structure nT(K:ai)(fl:Nat)(R:Nat->Nat->Prop)(Zc:ai)(SF:Nat)(U:ai):Prop where
 dom:∀c a,R c a->c<SF
 live:Lv R Zc U
 inj:∀c c' a o o',R c a->R c' a->Zc c=some o->Zc c'=some o'->c=c'
 fn:∀c a a',R c a->R c a'->a=a'
 mc:aa K U
 kfl:∀a o c oc,K a=some o->R c a->Zc c=some oc->c<fl
section
variable {R:Nat->Nat->Prop} {K Zc U:ai} {fl SF:Nat}
def nT.write(h:nT K fl R Zc SF U){c a:Nat}{o:Ob}(hc:R c a)(ho:Zc c=some o)(hf:fl<=c){rows Rz:List V}(hr:aS R rows Rz):
 nT K fl R (C' Zc c ⟨o.elem,o.sz,rows⟩) SF (C' U a ⟨o.elem,o.sz,Rz⟩):=by
 have UR:∀i x,C' Zc c ⟨o.elem,o.sz,rows⟩ i=some x->∃y,Zc i=some y:=λi x hx=>by
  by_cases e:i=c
  .rw[e];exact⟨o,ho⟩
  .rw[ab e]at hx;exact⟨x,hx⟩
 refine⟨h.dom,?_,?_,?_,?_,?_⟩
 .intro c1 a1 o1 h1 h2;by_cases e:c1=c
  .subst e;have:a1=a:=h.fn c1 a1 a h1 hc;subst this;rw[ag]at h2;simp only[Oi]at h2;subst h2;exact⟨Rz,ag,hr⟩
  .rw[ab e]at h2;have R6:a1≠a:=λe'=>by subst e';exact e (h.inj c1 c a1 o1 o h1 hc h2 ho)
   rw[ab R6];exact h.live c1 a1 o1 h1 h2
 .intro c1 c2 a1 o1 o2 h1 h2 h3 h4;obtain⟨y,hy⟩:=UR _ _ h3;obtain⟨z,hz⟩:=UR _ _ h4;exact h.inj c1 c2 a1 y z h1 h2 hy hz
 .exact h.fn
 .intro i x hx;have R6:i≠a:=λe=>by subst e;have:=h.kfl i x c o hx hc ho;omega
  rw[ab R6];exact h.mc i x hx
 .intro a1 o1 c1 oc h1 h2 h3;obtain⟨y,hy⟩:=UR _ _ h3;exact h.kfl a1 o1 c1 y h1 h2 hy
def nT.rem(h:nT K fl R Zc SF U){c a:Nat}{o:Ob}(hc:R c a)(ho:Zc c=some o)(hf:fl<=c):
 nT K fl R (del Zc c) SF (del U a):=by
 have UR:∀i x,del Zc c i=some x->i≠c/\Zc i=some x:=λi x hx=>by
  by_cases e:i=c
  .subst e;simp[Vc.del]at hx
  .rw[dK e]at hx;exact⟨e,hx⟩
 refine⟨h.dom,?_,?_,?_,?_,?_⟩
 .intro c1 a1 o1 h1 h2;obtain⟨e,h2⟩:=UR _ _ h2;have R6:a1≠a:=λe'=>by subst e';exact e (h.inj c1 c a1 o1 o h1 hc h2 ho)
  rw[dK R6];exact h.live c1 a1 o1 h1 h2
 .intro c1 c2 a1 o1 o2 h1 h2 h3 h4;exact h.inj c1 c2 a1 o1 o2 h1 h2 (UR _ _ h3).2 (UR _ _ h4).2
 .exact h.fn
 .intro i x hx;have R6:i≠a:=λe=>by subst e;have:=h.kfl i x c o hx hc ho;omega
  rw[dK R6];exact h.mc i x hx
 .intro a1 o1 c1 oc h1 h2 h3;exact h.kfl a1 o1 c1 oc h1 h2 (UR _ _ h3).2
def ext(R:Nat->Nat->Prop)(c a:Nat):Nat->Nat->Prop:=λx y=>R x y\/(x=c/\y=a)
def xH(c a:Nat):∀x y,R x y->ext R c a x y:=λ_ _ h=>.inl h
def nT.new(h:nT K fl R Zc SF U){i:Nat}(hi:U i=none){ob:Ob}{Rz:List V}(hr:aS R ob.rows Rz):
 nT K fl (ext R SF i) (C' Zc SF ob) (SF+1) (C' U i ⟨ob.elem,ob.sz,Rz⟩):=by
 have H':∀c a,R c a->c≠SF:=λc a hc=>by have:=h.dom c a hc;omega
 have hold:∀c a o,R c a->C' Zc SF ob c=some o->Zc c=some o/\a≠i:=λc a o hc ho=>by
  rw[ab (H' c a hc)]at ho;refine⟨ho,λe=>?_⟩;subst e;obtain⟨r,hr,_⟩:=h.live c a o hc ho;rw[hi]at hr;cases hr
 refine⟨?_,?_,?_,?_,h.mc.C' hi,?_⟩
 .rintro c a (hc|⟨rfl,rfl⟩)
  .have:=h.dom c a hc;omega
  .omega
 .rintro c a o (hc|⟨rfl,rfl⟩) ho
  .obtain⟨h1,h2⟩:=hold c a o hc ho;obtain⟨r,h3,h4⟩:=h.live c a o hc h1;rw[ab h2];exact⟨r,h3,aS.mono (xH SF i) _ _ h4⟩
  .rw[ag]at ho;simp only[Oi]at ho;subst ho;exact⟨Rz,ag,aS.mono (xH _ _) _ _ hr⟩
 .rintro c c' a o o' (hc|⟨rfl,rfl⟩) (YP|⟨rfl,e⟩) ho ho'
  .exact h.inj c c' a o o' hc YP (hold _ _ _ hc ho).1 (hold _ _ _ YP ho').1
  .exact absurd e (hold _ _ _ hc ho).2
  .exact absurd rfl (hold _ _ _ YP ho').2
  .rfl
 .rintro c a a' (hc|⟨rfl,rfl⟩) (YP|⟨e,rfl⟩)
  .exact h.fn c a a' hc YP
  .exact absurd e (H' _ _ hc)
  .exact absurd rfl (H' _ _ YP)
  .rfl
 .rintro a o c oc hk (hc|⟨rfl,rfl⟩) ho
  .exact h.kfl a o c oc hk hc (hold _ _ _ hc ho).1
  .have:=h.mc a o hk;rw[hi]at this;cases this
def okX:VX->Bool
 |.t _=>true
 |.c v=>v.eM
def pf(op:RO):Bool:=op.xs.all okX&&(match op with
 |.alloc _ _ z=>z.eM
 |.build zero _=>gl zero
 |.clear _ z _=>z.eM
 |.mk _ _ _ z _=>z.eM
 |.more (.tas _ _ z) _=>z.eM
 |_=>true)
def oq(i:aN):Bool:=pf i.op&&(match i.g with
 |some (x,_)=>okX x
 |none=>true)
def iF:bJ->Bool
 |.Sd _ l=>l.all oq
 |.seq a b=>iF a&&iF b
 |.cond c a b=>okX c&&(iF a&&iF b)
 |.block _ a=>iF a
 |.loop a=>iF a
 |_=>true
def Cf:VR->Bool
 |.tmp x=>okX x
 |.cell _ _ x=>okX x
 |.bad=>true
def Me(f:Ry):Bool:=iF f.code&&f.res.all Cf
variable {s s':Nat->V}
def fB(hs:∀i,aF R (s i) (s' i)){x:VX}(hx:okX x=true):aF R (x.ev s) (x.ev s'):=by
 cases x with
 |t n=>exact hs n
 |c v=>exact eW v hx
def mH(hs:∀i,aF R (s i) (s' i)):∀{xs:List VX},xs.all okX=true->aS R (xs.map (·.ev s)) (xs.map (·.ev s'))
 |[],_=>by simp[aS]
 |x::xs,h=>by
  simp only[List.all_cons,Ba]at h;exact aS.cC.2 ⟨_,_,rfl,fB hs h.1,mH hs h.2⟩
def xU{op:BinOp}{k:IntKind}{a b:Int}{v:V}(h:cU op k a b=some v):v.eM=true:=by
 unfold cU at h;split at h<;>first
  |(simp only[Oi]at h;subst h;rfl)
  |(split at h<;>first|(simp only[Oi]at h;subst h;rfl)|cases h)
  |cases h
def yK{op:BinOp}{a b:List UInt8}{v:V}(h:eo op a b=some v):v.eM=true:=by
 unfold eo at h;split at h<;>first
  |(simp only[Oi]at h;subst h;rfl)
  |cases h
def FO{op:BinOp}{a b a' b' v:V}(ha:aF R a a')(hb:aF R b b')(h:uA op a b=some v):a'=a/\b'=b/\v.eM=true:=by
 unfold uA at h;split at h
 .simp only[aF]at ha hb;split at h
  .exact⟨ha,hb,xU h⟩
  .cases h
 .simp only[aF]at ha hb;exact⟨ha,hb,yK h⟩
 .cases h
def EZ{b:Bool}{x x' v:V}(hx:aF R x x')(h:dy b x=some v):∃v',dy b x'=some v'/\aF R v v':=by
 unfold dy at h;split at h<;>simp only[Oi,reduceCtorEq]at h<;>simp only[aF]at hx<;>subst h
 .obtain⟨i,rfl,_⟩:=hx;exact⟨_,rfl,by simp[aF]⟩
 .obtain⟨i,rfl,hr⟩:=hx;exact⟨_,rfl,by simp[aF,hr.length]⟩
 .subst hx;exact⟨_,rfl,by simp[aF]⟩
 .subst hx;exact⟨_,rfl,by simp[aF]⟩
def jg{agg:Bool}{off sz:Nat}{vs us:List V}{v:V}(h:aS R vs us)(hv:bI agg off sz vs=some v):∃v',bI agg off sz us=some v'/\aF R v v':=by
 unfold bI at hv|-;cases agg
 .simpa using h.get hv
 .simp only[if_true,Oi]at hv|-;subst hv;exact⟨_,rfl,aF.agg ((h.drop off).take sz)⟩
def Gi{agg:Bool}{off sz:Nat}{x x' v:V}(hx:aF R x x')(h:jQ agg off sz x=some v):∃v',jQ agg off sz x'=some v'/\aF R v v':=by
 unfold jQ at h;split at h
 .obtain⟨c,rfl,hr⟩:=aF.oy.1 hx;exact jg hr h
 .cases h
def C4{agg:Bool}{off sz:Nat}{x x' v:V}(hx:aF R x x')(h:gx agg off sz x=some v):∃v',gx agg off sz x'=some v'/\aF R v v':=by
 unfold gx at h;split at h
 .simp only[aF]at hx;obtain⟨i,rfl,hr⟩:=hx;simp only[Oi]at h;subst h;exact⟨_,rfl,by simp only[aF];exact⟨i,rfl,hr⟩⟩
 .simp only[aF]at hx;obtain⟨u,rfl,hr⟩:=hx;simp only[Option.map_eq_some_iff]at h;obtain⟨w,hw,rfl⟩:=h;obtain⟨w',h1,h2⟩:=jg hr.cells hw;exact⟨.rp w',by simp[gx,h1],aF.rp h2⟩
 .cases h
def DS(hm:Lv R Zc U){SU:Nat}{x i x' i' v:V}(hx:aF R x x')(hi:aF R i i')(h:bQ Zc SU x i=some v):∃v',bQ U SU x' i'=some v'/\aF R v v':=by
 unfold bQ at h;split at h
 .simp only[aF]at hx hi;obtain⟨a,rfl,ha⟩:=hx;subst hi;split at h
  .rename_i ob Sw;obtain⟨Rz,h1,h2⟩:=hm _ _ _ ha Sw;split at h
   .rename_i hc;simp only[Oi]at h;subst h;refine⟨_,?_,by simp only[aF];exact⟨a,rfl,ha⟩⟩;simp only[bQ,h1];rw[if_pos hc]
   .cases h
  .cases h
 .simp only[aF]at hx hi;obtain⟨Rz,rfl,hr⟩:=hx;subst hi;split at h
  .rename_i hc;split at h
   .rename_i r hrr;simp only[Oi]at h;subst h;obtain⟨u,h1,h2⟩:=hr.get hrr;refine⟨.rp u,?_,aF.rp h2⟩;simp only[bQ,h1];rw[if_pos hc]
   .cases h
  .cases h
 .cases h
def BJ{agg:Bool}{n SU:Nat}{x i x' i' v:V}(hx:aF R x x')(hi:aF R i i')(h:dP agg n SU x i=some v):∃v',dP agg n SU x' i'=some v'/\aF R v v':=by
 unfold dP at h;split at h
 .simp only[aF]at hx hi;obtain⟨a,rfl,ha⟩:=hx;subst hi;split at h
  .rename_i hc;simp only[Oi]at h;subst h;exact⟨_,by simp only[dP];rw[if_pos hc],by simp only[aF];exact⟨a,rfl,ha⟩⟩
  .cases h
 .simp only[aF]at hx hi;obtain⟨u,rfl,hr⟩:=hx;subst hi;split at h
  .rename_i hc;simp only[Option.map_eq_some_iff]at h;obtain⟨w,hw,rfl⟩:=h;obtain⟨w',h1,h2⟩:=jg hr.cells hw;exact⟨.rp w',by simp only[dP];rw[if_pos hc,h1];rfl,aF.rp h2⟩
  .cases h
 .cases h
def DV{agg:Bool}{n SU:Nat}{x i x' i' v:V}(hx:aF R x x')(hi:aF R i i')(h:fH agg n SU x i=some v):∃v',fH agg n SU x' i'=some v'/\aF R v v':=by
 unfold fH at h;split at h
 .obtain⟨c,rfl,hr⟩:=aF.oy.1 hx;rw[aF.jZ]at hi;subst hi;split at h
  .rename_i hc;obtain⟨w',h1,h2⟩:=jg hr h;exact⟨w',by simp only[fH];rw[if_pos hc,h1],h2⟩
  .cases h
 .cases h
def C8{x i x' i' v:V}(hx:aF R x x')(hi:aF R i i')(h:fq x i=some v):∃v',fq x' i'=some v'/\aF R v v':=by
 have h0:=h;unfold fq at h;split at h
 .rw[aF.rX]at hx;rw[aF.jZ]at hi;subst hx hi;refine⟨v,h0,?_⟩;split at h
  .split at h
   .simp only[Oi]at h;subst h;simp[aF]
   .cases h
  .cases h
 .cases h
def vw(hm:Lv R Zc U){agg:Bool}{sz:Nat}{x x' v:V}(hx:aF R x x')(h:bT Zc agg sz x=some v):∃v',bT U agg sz x'=some v'/\aF R v v':=by
 unfold bT at h;split at h
 .simp only[aF]at hx;obtain⟨a,rfl,ha⟩:=hx;split at h
  .rename_i ob Sw;obtain⟨Rz,h1,h2⟩:=hm _ _ _ ha Sw;split at h
   .rename_i r hr;obtain⟨r',h3,h4⟩:=h2.get hr;have hl:=h4.cells.length;simp only[bT,h1,h3,hl];cases agg
    .simp only[Bool.false_eq_true,if_false]at h|-;exact h4.cells.get h
    .simp only[if_true]at h|-;split at h
     .rename_i hc;simp only[Oi]at h;subst h;exact⟨_,by rw[if_pos hc],aF.agg h4.cells⟩
     .split at h
      .rename_i hc YP;rw[if_neg hc,if_pos YP];simp only[Oi]at h;subst h;exact⟨_,rfl,aF.agg ((h4.cells.drop _).take _)⟩
      .cases h
   .cases h
  .cases h
 .simp only[aF]at hx;obtain⟨u,rfl,hr⟩:=hx;rename_i w;have hl:=hr.cells.length;cases agg
  .simp only[Bool.false_eq_true,if_false]at h;split at h
   .cases h
   .simp only[Oi]at h;subst h;rename_i hna;refine⟨u,?_,hr⟩;cases u<;>simp only[bT,Bool.false_eq_true,if_false];cases w<;>simp only[aF]at hr<;>simp at hr hna
  .simp only[if_true]at h;split at h
   .rename_i hc;simp only[Oi]at h;subst h;refine⟨_,?_,aF.agg hr.cells⟩;simp only[bT,hl,if_true];rw[if_pos hc]
   .cases h
 .cases h
def BE{d:Int}:∀{o o':Option V},(match o,o' with|none,none=>True|some x,some x'=>aF R x x'|_,_=>False)->∀{j:Int},bF d o=some j->bF d o'=some j
 |none,none,_,j,h=>h
 |some x,some x',hx,j,h=>by
  simp only at hx;cases x<;>simp only[bF]at h<;>first|cases h|skip
  rw[aF.jZ]at hx;subst hx;rfl
 |none,some _,hx,_,_=>hx.elim
 |some _,none,hx,_,_=>hx.elim
def Bj(hm:Lv R Zc U){SU:Nat}{x x' v:V}{lo hi mx lo' W5 mx':Option V}(hx:aF R x x')
 (h1:∀d j,bF d lo=some j->bF d lo'=some j)(h2:∀d j,bF d hi=some j->bF d W5=some j)(h3:∀d j,bF d mx=some j->bF d mx'=some j)
 (h:cL Zc SU x lo hi mx=some v):∃v',cL U SU x' lo' W5 mx'=some v'/\aF R v v':=by
 unfold cL at h;split at h
 .simp only[aF]at hx;obtain⟨a,rfl,ha⟩:=hx;split at h
  .rename_i l hh m e1 e2 e3;split at h
   .rename_i hc;simp only[Oi]at h;subst h;have TF:iP U a SU=true:=by
     have hz:=hc.2.2.2.2;unfold iP at hz|-;split at hz
     .rename_i ob Sw;obtain⟨Rz,g1,g2⟩:=hm _ _ _ ha Sw;rw[g1];exact hz
     .cases hz
    refine⟨_,?_,by simp only[aF];exact⟨a,rfl,ha⟩⟩;simp only[cL,h1 _ _ e1,h2 _ _ e2,h3 _ _ e3];rw[if_pos ⟨hc.1,hc.2.1,hc.2.2.1,hc.2.2.2.1,TF⟩]
   .cases h
  .cases h
 .simp only[aF]at hx;obtain⟨Rz,rfl,hr⟩:=hx;have hl:=hr.length;split at h
  .rename_i l hh m e1 e2 e3;split at h
   .rename_i hc;simp only[Oi]at h;subst h;refine⟨.sl _ ((Rz.drop l.toNat).take (hh.toNat-l.toNat)),?_,by simp only[aF];exact⟨_,rfl,(hr.drop _).take _⟩⟩;simp only[cL,h1 _ _ e1,hl,h2 _ _ e2,h3 _ _ e3];rw[if_pos hc]
   .cases h
  .cases h
 .simp only[aF]at hx;subst hx;split at h
  .rename_i l hh m e1 e2 e3;split at h
   .rename_i hc;simp only[Oi]at h;subst h;refine⟨.aC,?_,by simp[aF]⟩;simp only[cL,h1 _ _ e1,h2 _ _ e2,h3 _ _ e3];rw[if_pos hc]
   .cases h
  .cases h
 .cases h
def yM{x x' v:V}{lo hi lo' W5:Option V}(hx:aF R x x')
 (h1:∀d j,bF d lo=some j->bF d lo'=some j)(h2:∀d j,bF d hi=some j->bF d W5=some j)
 (h:cP x lo hi=some v):∃v',cP x' lo' W5=some v'/\aF R v v':=by
 unfold cP at h;split at h
 .rw[aF.rX]at hx;subst hx;split at h
  .rename_i l hh e1 e2;split at h
   .rename_i hc;simp only[Oi]at h;subst h;refine⟨_,?_,aF.rX.2 rfl⟩;simp only[cP,h1 _ _ e1,h2 _ _ e2];rw[if_pos hc]
   .cases h
  .cases h
 .cases h
def uF{x x' v:V}(hx:aF R x x')(h:bW x=some v):∃v',bW x'=some v'/\aF R v v':=by
 unfold bW at h;split at h<;>first|cases h|skip
 all_goals (have hx0:=hx;simp only[aF]at hx;obtain⟨i,rfl,_⟩:=hx;exact⟨_,rfl,hx0⟩)
def DO{neg:Bool}{x y x' y' v:V}(hx:aF R x x')(hy:aF R y y')(h:binBV neg x y=some v):∃v',binBV neg x' y'=some v'/\aF R v v':=by
 have h0:=h;unfold binBV at h;split at h
 .rw[aF.mi]at hx hy;subst hx hy;refine⟨v,h0,?_⟩;simp only[Oi]at h;subst h;simp[aF]
 .cases h
def Am{m:Bool}{x y x' y' v:V}(hx:aF R x x')(hy:aF R y y')(h:cZ m x y=some v):∃v',cZ m x' y'=some v'/\aF R v v':=by
 have h0:=h;unfold cZ at h;split at h
 .rw[aF.jZ]at hx hy;subst hx hy;refine⟨v,h0,?_⟩;split at h
  .simp only[Oi]at h;subst h;simp[aF]
  .cases h
 .cases h
def Bt{x y x' y':V}{b:Bool}(hx:aF R x x')(hy:aF R y y')(h:dc x y=some b):x'=x/\y'=y:=by
 unfold dc at h;split at h<;>first|cases h|skip
 all_goals simp only[aF]at hx hy
 all_goals exact⟨hx,hy⟩
def qU:∀{l m l' m':List V} {b:Bool},aS R l l'->aS R m m'->cd l m=some b->l'=l/\m'=m
 |[],[],_,_,_,h1,h2,_=>by rw[aS.iJ]at h1 h2;exact⟨h1,h2⟩
 |v::vs,u::us,_,_,b,h1,h2,h=>by
  obtain⟨v',vs',rfl,g1,g2⟩:=aS.cC.1 h1;obtain⟨u',us',rfl,g3,g4⟩:=aS.cC.1 h2;simp only[cd]at h;split at h
  .rename_i e1 e2;obtain⟨rfl,rfl⟩:=Bt g1 g3 e1;obtain⟨rfl,rfl⟩:=qU g2 g4 e2;exact⟨rfl,rfl⟩
  .cases h
 |[],_::_,_,_,_,_,_,h=>by simp[cd]at h
 |_::_,[],_,_,_,_,_,h=>by simp[cd]at h
def Gc{neg:Bool}{ks:List Nat}{x y x' y' v:V}(hx:aF R x x')(hy:aF R y y')(h:iO neg ks x y=some v):∃v',iO neg ks x' y'=some v'/\aF R v v':=by
 have h0:=h;unfold iO at h;split at h
 .obtain⟨c,rfl,g1⟩:=aF.oy.1 hx;obtain⟨d,rfl,g2⟩:=aF.oy.1 hy;split at h
  .split at h
   .rename_i e;obtain⟨rfl,rfl⟩:=qU g1 g2 e;refine⟨v,h0,?_⟩;simp only[Oi]at h;subst h;simp[aF]
   .cases h
  .cases h
 .cases h
def qv:∀{l m:List V} {b:List UInt8},aS R l m->bytesOf l=some b->m=l
 |[],_,_,h,_=>by rw[aS.iJ]at h;exact h
 |v::vs,_,b,h,hb=>by
  obtain⟨u,us,rfl,g1,g2⟩:=aS.cC.1 h;simp only[bytesOf]at hb;split at hb
  .rename_i e1 e2;rw[qv g2 e2];cases v<;>simp[byteOf]at e1;rw[aF.jZ]at g1;rw[g1]
  .cases hb
def A7(hm:Lv R Zc U){x x' v:V}(hx:aF R x x')(h:dp Zc x=some v):∃v',dp U x'=some v'/\aF R v v':=by
 unfold dp at h;split at h
 .simp only[aF]at hx;subst hx;simp only[Oi]at h;subst h;exact⟨_,rfl,by simp[aF]⟩
 .simp only[aF]at hx;obtain⟨a,rfl,ha⟩:=hx;split at h
  .rename_i ob Sw;obtain⟨Rz,h1,h2⟩:=hm _ _ _ ha Sw;split at h
   .rename_i hc;simp only[Option.map_eq_some_iff]at h;obtain⟨l,hl,rfl⟩:=h;have e:=qv ((h2.drop _).take _) hl;refine⟨_,?_,aF.rX.2 rfl⟩;simp only[dp,h1,h2.length,e,hl,Option.map_some];rw[if_pos hc]
   .cases h
  .cases h
 .cases h
def Fw{i:Nat}{x x' v:V}(hx:aF R x x')(h:jT i x=some v):∃v',jT i x'=some v'/\aF R v v':=by
 unfold jT at h;split at h
 .simp only[aF]at hx;obtain⟨c,rfl,hr⟩:=hx;exact hr.get h
 .cases h
def jw(R:Nat->Nat->Prop):List (Nat×Nat×V)->List (Nat×Nat×V)->Prop
 |[],l=>l=[]
 |p::ps,l=>∃u us,l=(p.1,p.2.1,u)::us/\aF R p.2.2 u/\jw R ps us
def sQ:∀{ps ps':List (Nat×Nat×V)} {z z' l:List V},aS R z z'->jw R ps ps'->dd z ps=some l->∃l',dd z' ps'=some l'/\aS R l l'
 |[],_,z,z',l,hz,hp,h=>by
  simp only[jw]at hp;subst hp;simp only[dd,Oi]at h;subst h;exact⟨_,rfl,hz⟩
 |(off,sz,x)::ps,_,z,z',l,hz,hp,h=>by
  simp only[jw]at hp;obtain⟨u,us,rfl,h1,h2⟩:=hp;simp only[dd]at h|-;split at h
  .rename_i hc;rw[if_pos ⟨by rw[h1.cells.length];exact hc.1,by rw[h1.stays];exact hc.2.1,by rw[hz.length];exact hc.2.2⟩];refine sQ ?_ h2 h;unfold cc;rw[h1.cells.length];exact((hz.take _).append h1.cells).append (hz.drop _)
  .cases h
def mu(hs:∀i,aF R (s i) (s' i)){lo:Option VX}(h:∀x∈lo.toList,okX x=true)(d j:Int):bF d (lo.map (·.ev s))=some j->bF d (lo.map (·.ev s'))=some j:=by
 refine BE (R:=R) ?_;cases lo with
 |none=>trivial
 |some x=>exact fB hs (h x (by simp))
def Dv(hm:Lv R Zc U)(hs:∀i,aF R (s i) (s' i)){op:RO}(RC:pf op=true){v:V}(hp:fg s op)(h:aL Zc s op=some v):
 fg s' op/\∃v',aL U s' op=some v'/\aF R v v':=by
 have hok':=RC;simp only[pf,Ba]at RC;have hx:=List.all_eq_true.1 RC.1;have E:∀x,x∈op.xs->aF R (x.ev s) (x.ev s'):=λx h=>fB hs (hx x h);cases op<;>simp only[RO.xs,List.mem_cons,List.not_mem_nil,or_false,forall_eq_or_imp,forall_eq,List.mem_append]at E<;>simp only[aL,fg,Oi,reduceCtorEq,true_and]at h hp|-
 case RJ=>subst h;exact⟨_,rfl,E⟩
 case pick c a b=>
  split at h
  .rename_i t ht;have:=E.1;rw[ht,aF.mi]at this;rw[this];simp only[Oi]at h|-;subst h;refine⟨_,rfl,?_⟩;cases t
   .exact E.2.2
   .exact E.2.1
  .cases h
 case bin op x y=>
  obtain⟨e1,e2,e3⟩:=FO E.1 E.2 h;rw[e1,e2];exact⟨hp,v,h,eW v e3⟩
 case not x=>
  split at h
  .rename_i b hb;rw[hb,aF.mi]at E;rw[E];simp only[Oi]at h|-;subst h;exact⟨_,rfl,by simp[aF]⟩
  .cases h
 case neg x=>
  split at h
  .rename_i k b hb;rw[hb]at hp;rw[hb,aF.jZ]at E;rw[E];simp only[Oi]at h|-;subst h;exact⟨hp,_,rfl,by simp[aF]⟩
  .cases h
 case len=>exact EZ E h
 case cap=>
  unfold kG at h;split at h
  .rename_i hn;rw[hn]at E;simp only[aF]at E;rw[E];simp only[Oi]at h;subst h;exact⟨_,rfl,by simp[aF]⟩
  .cases h
 case fld=>exact Gi E h
 case RU=>exact C4 E h
 case Us=>exact DS hm E.1 E.2 h
 case UE=>exact BJ E.1 E.2 h
 case Xs=>exact DV E.1 E.2 h
 case Zj=>exact C8 E.1 E.2 h
 case load=>exact vw hm E h
 case slice SU x lo hi mx=>
  have R9:=hx;simp only[RO.xs,List.mem_cons,List.mem_append]at R9;exact Bj hm E.1 (mu hs λy hy=>R9 y (.inr (.inl (.inl hy)))) (mu hs λy hy=>R9 y (.inr (.inl (.inr hy)))) (mu hs λy hy=>R9 y (.inr (.inr hy))) h
 case VW x lo hi=>
  have R9:=hx;simp only[RO.xs,List.mem_cons,List.mem_append]at R9;exact yM E.1 (mu hs λy hy=>R9 y (.inr (.inl hy))) (mu hs λy hy=>R9 y (.inr (.inr hy))) h
 case ext=>exact Fw E h
 case more m xs=>
  by_cases hb:∃f,m=.X7 f
  .obtain⟨f,rfl⟩:=hb;simp only[aL,Oi]at h|-;subst h;exact⟨_,rfl,by simp only[aF];exact⟨_,rfl,mH hs RC.1⟩⟩
  cases xs with
  |nil=>cases m<;>first|exact absurd ⟨_,rfl⟩ hb|simp[aL]at h
  |cons x xs=>
   have ex:=E x (by simp);cases xs with
   |cons y ys=>cases m<;>first|exact absurd ⟨_,rfl⟩ hb|simp[aL]at h
   |nil=>
    cases m
    case X7=>exact absurd ⟨_,rfl⟩ hb
    case Xr t=>
     simp only[Oi]at h|-;subst h;exact⟨_,rfl,by simp only[aF];exact⟨_,rfl,ex⟩⟩
    case tas t ok z=>
     have hz:z.eM=true:=RC.2;simp only[]at h|-;unfold GM at h|-;split at h
     .rename_i t' v' Vy;rw[Vy]at ex;simp only[aF]at ex;obtain⟨u,hu,hru⟩:=ex;rw[hu];simp only;split at h
      .rename_i e;rw[if_pos e];simp only[Oi]at h|-;subst h;refine⟨_,rfl,?_⟩;cases ok
       .exact hru
       .simp only[if_true,aF,aS];exact⟨_,rfl,_,_,rfl,hru,_,_,rfl,rfl,rfl⟩
      .rename_i e;rw[if_neg e];cases ok
       .simp at h
       .simp only[if_true,Oi]at h|-;subst h;refine⟨_,rfl,?_⟩;simp only[aF,aS];exact⟨_,rfl,_,_,rfl,eW z hz,_,_,rfl,rfl,rfl⟩
     .rename_i Vy;rw[Vy]at ex;simp only[aF]at ex;rw[ex];cases ok
      .simp at h
      .simp only[if_true,Oi]at h|-;subst h;refine⟨_,rfl,?_⟩;simp only[aF,aS];exact⟨_,rfl,_,_,rfl,eW z hz,_,_,rfl,rfl,rfl⟩
     .cases h
    case nilP neg=>
     simp only[]at h|-;unfold CN at h;split at h
     .rename_i Vy;rw[Vy]at ex;simp only[aF]at ex;rw[ex];exact⟨v,h,by simp only[Oi]at h;subst h;simp[aF]⟩
     .rename_i Vy;rw[Vy]at ex;simp only[aF]at ex;obtain⟨u,hu,_⟩:=ex;rw[hu];exact⟨v,h,by simp only[Oi]at h;subst h;simp[aF]⟩
     .rename_i Vy;rw[Vy]at ex;simp only[aF]at ex;obtain⟨u,hu,_⟩:=ex;rw[hu];exact⟨v,h,by simp only[Oi]at h;subst h;simp[aF]⟩
     .cases h
    all_goals simp[aL]at h
 case SE f xs=>
  subst h;exact⟨_,rfl,by simp only[aF];exact⟨_,rfl,mH hs RC.1⟩⟩
 case U9 k x=>
  split at h
  .rename_i k' b hb;rw[hb]at hp;rw[hb,aF.jZ]at E;rw[E];simp only[Oi]at h|-;subst h;exact⟨hp,_,rfl,by simp[aF]⟩
  .cases h
 case nilCheck=>exact uF E h
 case Ts=>exact DO E.1 E.2 h
 case Yj=>exact Gc E.1 E.2 h
 case RD=>exact Am E.1 E.2 h
 case Xt=>exact A7 hm E h
 case build zero parts=>
  simp only[Option.map_eq_some_iff]at h;obtain⟨l,hl,rfl⟩:=h;have ZC:∀ps:List (Nat×Nat×VX),(∀p∈ps,okX p.2.2=true)->jw R (ps.map λp=>(p.1,p.2.1,p.2.2.ev s)) (ps.map λp=>(p.1,p.2.1,p.2.2.ev s')):=by
   intro ps
   induction ps with
   |nil=>intro _;simp[jw]
   |cons p ps ih=>
    intro VS;simp only[List.map_cons,jw];exact⟨_,_,rfl,fB hs (VS p (by simp)),ih λq hq=>VS q (by simp[hq])⟩
  obtain⟨l',h1,h2⟩:=sQ (fM zero RC.2) (ZC parts λp hp=>hx _ (by simp only[RO.xs,List.mem_map];exact⟨p,hp,rfl⟩)) hl;exact⟨.agg l',by rw[h1];rfl,aF.agg h2⟩
end
variable {R:Nat->Nat->Prop} {K:ai} {fl:Nat} {P:Program} {n:Nat}
structure fP(K:ai)(fl:Nat)(R:Nat->Nat->Prop)(cs:CS)(st:St):Prop where
 slot:∀i,aF R (cs.sf i) (st.s i)
 mem:nT K fl R (U3 cs.U) cs.SF st.U
def DK{s s':Nat->V}(h:∀i,aF R (s i) (s' i)){d:Option Nat}{v u:V}(hv:aF R v u):∀i,aF R (aX s d v i) (aX s' d u i):=by
 intro i;cases d with
 |none=>exact h i
 |some d=>
  show aF R (if i=d then v else s i) (if i=d then u else s' i);split
  .exact hv
  .exact h i
def fP.put{cs:CS}{st:St}(h:fP K fl R cs st){d:Option Nat}{v u:V}(hv:aF R v u):fP K fl R (cs.put d v) ⟨aX st.s d u,st.U⟩:=by
 refine⟨?_,?_⟩
 .rw[K6];exact DK h.slot hv
 .rw[(GO cs d v).1,(GO cs d v).2];exact h.mem
def aF.Hw:aF R (.RB []) (.RB []):=by simp[aF,aS]
def K1(a b:Int):eqQ a b=decide (a=b):=by
 cases a<;>cases b<;>rw[Bool.eq_iff_iff]<;>simp[eqQ]<;>first|rfl|omega
def LH(a b:Int):leQ a b=decide (a<=b):=by
 cases a<;>cases b<;>rw[Bool.eq_iff_iff]<;>simp only[leQ,Nat.ble_eq,decide_eq_true_eq,Bool.false_eq_true,false_iff,true_iff,Int.ofNat_eq_natCast]<;>omega
def Hp(a b:Int):Ol a b=a+b:=by cases a<;>cases b<;>rfl
def Iw(a b:Int):KX a b=a-b:=by
 cases a<;>cases b<;>simp only[KX];rename_i m k;cases h:Nat.ble k m
 .have:¬k<=m:=by rw[<-Nat.ble_eq];simp[h]
  simp only[Nat.sub_eq,Int.ofNat_eq_natCast];omega
 .have:k<=m:=Nat.le_of_ble_eq_true h;simp only[Nat.sub_eq,Int.ofNat_eq_natCast];omega
def G0{a:Int}(h:J6 a=true):RM .i64 a:=by
 cases a<;>simp only[J6,Nat.ble_eq]at h
 .rw[Int.ofNat_eq_natCast];exact ao (by omega) (by omega)
 .exact ao (by omega) (by omega)
def G1{k:IntKind}{a:Int}(h:Mz k a=true):RM k a:=by
 unfold Mz at h;split at h
 .exact G0 h
 .simpa[RM]using h
def iY{α:Type}{b:Bool}{x y:α}:@Bool.casesOn (λ_=>α) b x y=if b then y else x:=by cases b<;>rfl
def DH{α:Type}{b:Bool}{x y:α}:@Bool.rec (λ_=>α) x y b=if b then y else x:=by cases b<;>rfl
def uZ{k:IntKind}{a:Int}{v:V}(h:gI k a=some v):v=.int k a/\RM k a:=by
 unfold gI at h;rw[iY]at h;split at h
 .rename_i hi;simp only[Oi]at h;exact⟨h.symm,G1 hi⟩
 .cases h
def By{op:BinOp}{k:IntKind}{a b:Int}{v:V}(h:(o5 op).f k a b=some v):eJ op k a b/\cU op k a b=some v:=by
 unfold o5 at h;split at h<;>simp only[]at h
 .obtain⟨rfl,h2⟩:=uZ h;rw[Hp]at*;exact⟨h2,rfl⟩
 .obtain⟨rfl,h2⟩:=uZ h;rw[Iw]at*;exact⟨h2,rfl⟩
 .obtain⟨rfl,h2⟩:=uZ h;exact⟨h2,rfl⟩
 .split at h
  .cases h
  .rename_i hb;obtain⟨rfl,h2⟩:=uZ h;exact⟨h2,by simp[cU,hb]⟩
 .split at h
  .cases h
  .rename_i hb;simp only[Oi]at h;subst h;exact⟨trivial,by simp[cU,hb]⟩
 all_goals first
  |exact⟨trivial,h⟩
  |(simp only[Oi]at h;subst h;refine⟨trivial,?_⟩;simp only[K1,LH,cU,Oi,V.bool.injEq];try (rw[Bool.eq_iff_iff];simp))
  |cases h
def AU{op:BinOp}{a b:List UInt8}{v:V}(h:wS op a b=some v):eN op a b/\eo op a b=some v:=by
 unfold wS at h;split at h
 .rw[iY]at h;split at h
  .rename_i hb;simp only[Oi]at h;subst h;exact⟨Nat.le_of_ble_eq_true hb,rfl⟩
  .cases h
 .exact⟨trivial,h⟩
 .exact⟨trivial,h⟩
 .cases h
def FF{k k':IntKind}(h:GF k k'=true):k=k':=by
 unfold GF at h;rw[iY]at h;cases k<;>cases k'<;>simp_all [Mr,eqK]
def Ht{op:BinOp}{x y v:V}(h:Hg op (o5 op).f y x=some v):nF op x y/\uA op x y=some v:=by
 unfold Hg at h;split at h
 .unfold Om at h;split at h
  .rw[iY]at h;split at h
   .rename_i hk;have:=FF hk;subst this;obtain⟨h1,h2⟩:=By h;exact⟨h1,by simp[uA,h2]⟩
   .cases h
  .cases h
 .unfold Nf at h;split at h
  .exact AU h
  .cases h
 .cases h
def Ir{U:Tr (Option Ob)}{SU:Nat}{x i v:V}(h:LN U SU x i=some v):bQ (U3 U) SU x i=some v:=by
 unfold LN at h;split at h
 .split at h
  .rename_i m hm;have hj:=hm;unfold ye at hm;split at hm
   .simp only[Oi]at hm;subst hm;split at h
    .rename_i ob Sw;rw[iY]at h;split at h
     .rename_i hc;simp only[Ba,Nat.beq_eq,Nat.blt_eq]at hc;have e:U3 U _=some ob:=Sw;simp only[bQ,e];rw[if_pos ⟨hc.1,by simp,by simpa using hc.2⟩];exact h
     .cases h
    .cases h
   .cases hm
  .cases h
 .split at h
  .rename_i m hm;unfold ye at hm;split at hm
   .simp only[Oi]at hm;subst hm;rw[iY]at h;split at h
    .rename_i hc;rw[Nat.beq_eq]at hc;simp only[bQ];rw[if_pos ⟨hc,by simp⟩];exact h
    .cases h
   .cases hm
  .cases h
 .cases h
def FD{x i v:V}(h:EB x i=some v):fq x i=some v:=by
 unfold EB at h;split at h
 .split at h
  .rename_i m hm;unfold ye at hm;split at hm
   .simp only[Oi]at hm;subst hm;simp only[fq];rw[if_pos (by simp)];exact h
   .cases hm
  .cases h
 .cases h
def FL{U:Tr (Option Ob)}{agg:Bool}{sz:Nat}{x v:V}(h:Fe U agg sz x=some v):bT (U3 U) agg sz x=some v:=by
 unfold Fe at h;split at h
 .split at h
  .rename_i ob Sw;have e:U3 U _=some ob:=Sw;split at h
   .rename_i r hr;simp only[bT,e,hr];split at h
    .rw[iY,iY]at h;simp only[if_true];split at h
     .rename_i hc;simp only[Ba,Nat.beq_eq]at hc;rw[if_pos hc];exact h
     .rename_i hc;split at h
      .rename_i YP;rw[if_neg (by simpa using hc),if_pos (show _+sz<=_ from Nat.le_of_ble_eq_true YP)];exact h
      .cases h
    .simpa using h
   .cases h
  .cases h
 .exact h
def vK{draw:Bool}{call:lI}{dst:Option Nat}{op:RO}{cs SV:CS}{st:St}(hk:bx op=0)(RC:pf op=true)(h:fP K fl R cs st)
 (hr:(jY draw dst op).f call fl cs=some SV):∃v',fg st.s op/\aL st.U st.s op=some v'/\fP K fl R SV ⟨aX st.s dst v',st.U⟩:=by
 have key:∃v,fg cs.sf op/\aL (U3 cs.U) cs.sf op=some v/\SV=cs.put dst v:=by
  have hp:∀(g:CS->Option V),(jD dst g).f call fl cs=some SV->∃v,g cs=some v/\SV=cs.put dst v:=by
   intro g hg;simp only[jD]at hg;split at hg
   .rename_i v hv;simp only[Oi]at hg;exact⟨v,hv,hg.symm⟩
   .cases hg
  cases op<;>simp only[bx,reduceCtorEq,Nat.reduceEqDiff]at hk<;>simp only[jY]at hr
  case RJ x=>
   simp only[Nh,Oi]at hr;exact⟨_,trivial,rfl,hr.symm⟩
  case bin op x y=>
   have hr':(jD dst λcs=>Hg op (o5 op).f (y.ev cs.sf) (x.ev cs.sf)).f call fl cs=some SV:=hr;obtain⟨v,h1,h2⟩:=hp _ hr';obtain⟨h3,h4⟩:=Ht h1;exact⟨v,h3,h4,h2⟩
  case pick c a b=>
   obtain⟨v,h1,h2⟩:=hp _ hr;refine⟨v,trivial,?_,h2⟩;simp only[aL];unfold I9 at h1;split at h1
   .rename_i t ht;rw[iY]at h1;rw[ht];exact h1
   .cases h1
  case not x=>
   obtain⟨v,h1,h2⟩:=hp _ hr;refine⟨v,trivial,?_,h2⟩;simp only[aL];unfold Nc at h1;split at h1
   .rename_i t ht;rw[ht];exact h1
   .cases h1
  case neg x=>
   obtain⟨v,h1,h2⟩:=hp _ hr;unfold NZ at h1;split at h1
   .rename_i k t ht;obtain⟨h3,h4⟩:=uZ h1;exact⟨v,by simp only[fg,ht];exact h4,by simp only[aL,ht,h3],h2⟩
   .cases h1
  case U9 k x=>
   obtain⟨v,h1,h2⟩:=hp _ hr;unfold IT at h1;split at h1
   .rename_i k t ht;obtain⟨h3,h4⟩:=uZ h1;exact⟨v,by simp only[fg,ht];exact h4,by simp only[aL,ht,h3],h2⟩
   .cases h1
  case Us=>obtain⟨v,h1,h2⟩:=hp _ hr;exact⟨v,trivial,Ir h1,h2⟩
  case Zj=>obtain⟨v,h1,h2⟩:=hp _ hr;exact⟨v,trivial,FD h1,h2⟩
  case load=>obtain⟨v,h1,h2⟩:=hp _ hr;exact⟨v,trivial,FL h1,h2⟩
  all_goals (obtain⟨v,h1,h2⟩:=hp _ hr;exact⟨v,trivial,h1,h2⟩)
 obtain⟨v,h1,h2,rfl⟩:=key;obtain⟨h3,v',h4,h5⟩:=Dv h.mem.live h.slot RC h1 h2;exact⟨v',h3,h4,h.put h5⟩
def zM{Zc U:ai}(hm:Lv R Zc U){sz:Nat}{x x':V}{l:List V}(hx:aF R x x')(h:bR Zc sz x=some l):∃l',bR U sz x'=some l'/\aS R l l':=by
 unfold bR at h;split at h
 .simp only[aF]at hx;obtain⟨a,rfl,ha⟩:=hx;split at h
  .rename_i ob Sw;obtain⟨Rz,h1,h2⟩:=hm _ _ _ ha Sw;split at h
   .rename_i hc;simp only[Oi]at h;subst h;refine⟨_,?_,(h2.drop _).take _⟩;simp only[bR,h1,h2.length];rw[if_pos hc]
   .cases h
  .cases h
 .simp only[aF]at hx;obtain⟨Rz,rfl,hr⟩:=hx;split at h
  .rename_i hc;simp only[Oi]at h;subst h;exact⟨Rz,by simp[bR,hc],hr⟩
  .cases h
 .simp only[aF]at hx;subst hx;simp only[Oi]at h;subst h;exact⟨[],rfl,by simp[aS]⟩
 .rename_i s;simp only[aF]at hx;subst hx;refine⟨l,h,?_⟩;split at h
  .simp only[Oi]at h;subst h
   induction s with
   |nil=>simp[aS]
   |cons b s ih=>simp only[List.map_cons,aS];exact⟨_,_,rfl,by simp[aF],ih⟩
  .cases h
 .cases h
def zF{Zc U:ai}(hm:Lv R Zc U){e sz:Nat}{x x':V}{l:List V}{d:Option Nat}(hx:aF R x x')(h:cg Zc e sz x=some (l,d)):
 ∃l' d',cg U e sz x'=some (l',d')/\aS R l l'/\(d=none/\d'=none\/∃c a o,d=some c/\d'=some a/\R c a/\Zc c=some o):=by
 unfold cg at h;split at h
 .simp only[aF]at hx;obtain⟨a,rfl,ha⟩:=hx;split at h
  .rename_i ob Sw;obtain⟨Rz,h1,h2⟩:=hm _ _ _ ha Sw;split at h
   .rename_i hc;simp only[Oi,Prod.mk.injEq]at h;obtain⟨rfl,rfl⟩:=h;refine⟨_,some a,?_,h2.take _,.inr ⟨_,a,ob,rfl,rfl,ha,Sw⟩⟩;simp only[cg,h1,h2.length];rw[if_pos hc]
   .cases h
  .cases h
 .simp only[aF]at hx;subst hx;simp only[Oi,Prod.mk.injEq]at h;obtain⟨rfl,rfl⟩:=h;exact⟨[],none,rfl,by simp[aS],.inl ⟨rfl,rfl⟩⟩
 .cases h
def jq{dst:Option Nat}{cs SV:CS}{st:St}(h:fP K fl R cs st){m:Mk}{Rz:List V}{d':Option Nat}(Se:aS R m.ob.rows Rz)
 (hd:m.gone=none/\d'=none\/∃c a o,m.gone=some c/\d'=some a/\R c a/\U3 cs.U c=some o)(hr:xu fl dst cs m=some SV){id:Nat}(M':st.U id=none):
 ∃R',(∀a b,R a b->R' a b)/\fP K fl R' SV ⟨aX st.s dst (if m.var then .ptr id 0 0 else .own id 0 m.len),C' (bK st.U d') id ⟨m.ob.elem,m.ob.sz,Rz⟩⟩:=by
 refine⟨ext R cs.SF id,xH _ _,?_⟩;have UN:aF (ext R cs.SF id) (@Bool.casesOn (λ_=>V) m.var (.own cs.SF 0 m.len) (.ptr cs.SF 0 0)) (if m.var then .ptr id 0 0 else .own id 0 m.len):=by
  cases m.var
  .simp only[aF,Bool.false_eq_true,if_false];exact⟨id,rfl,.inr ⟨rfl,rfl⟩⟩
  .simp only[aF,if_true];exact⟨id,rfl,.inr ⟨rfl,rfl⟩⟩
 have hslot:∀i,aF (ext R cs.SF id) (cs.sf i) (st.s i):=λi=>aF.mono (xH _ _) _ _ (h.slot i);unfold xu at hr;rcases hd with⟨e1,rfl⟩|⟨c,a,o,e1,rfl,hR,ho⟩
 .rw[e1]at hr;simp only[Oi]at hr;subst hr;have hm:=h.mem.new M' Se;have hS:fP K fl (ext R cs.SF id) ⟨cs.s,lX none (some m.ob) cs.SF cs.U,Nat.succ cs.SF⟩ ⟨st.s,C' st.U id ⟨m.ob.elem,m.ob.sz,Rz⟩⟩:=
   ⟨hslot,by simp only[rY];exact hm⟩
  exact hS.put UN
 .rw[e1]at hr;simp only[iY]at hr;split at hr
  .rename_i hf;simp only[Oi]at hr;subst hr;have h1:=h.mem.rem hR ho (Nat.le_of_ble_eq_true hf);have W4:del st.U a id=none:=by
    by_cases e:id=a
    .simp[del,e]
    .rw[dK e];exact M'
   have hm:=h1.new W4 Se;have hS:fP K fl (ext R cs.SF id) ⟨cs.s,lX none (some m.ob) cs.SF (lX none none c cs.U),Nat.succ cs.SF⟩ ⟨st.s,C' (del st.U a) id ⟨m.ob.elem,m.ob.sz,Rz⟩⟩:=
    ⟨hslot,by simp only[rY,HQ];exact hm⟩
   rw[iY]at UN;exact hS.put UN
  .cases hr
def yH{draw:Bool}{call:lI}{dst:Option Nat}{op:RO}{cs SV:CS}{st:St}(hk:bx op=3)(RC:pf op=true)(h:fP K fl R cs st)
 (hr:(jY draw dst op).f call fl cs=some SV):∃g',SG st.s st.U op=some g'/\∀id,st.U id=none->∃R',(∀a b,R a b->R' a b)/\
   fP K fl R' SV ⟨aX st.s dst (g' id).1,(g' id).2⟩:=by
 have hp:∀(g:CS->Option Mk),(BF dst g).f call fl cs=some SV->∃m,g cs=some m/\xu fl dst cs m=some SV:=by
  intro g hg;simp only[BF]at hg;split at hg
  .rename_i v hv;exact⟨v,hv,hg⟩
  .cases hg
 simp only[pf,Ba]at RC;have hx:=List.all_eq_true.1 RC.1;cases op<;>simp only[bx,reduceCtorEq,Nat.reduceEqDiff]at hk<;>simp only[jY]at hr
 case more m xs=>cases m<;>simp at hk
 case alloc e sz z=>
  obtain⟨m,h1,h2⟩:=hp _ hr;simp only[Oi]at h1;subst h1;refine⟨_,rfl,λid M'=>?_⟩;have:=jq (d':=none) h (aS.one (eW (R:=R) z RC.2)) (.inl ⟨rfl,rfl⟩) h2 M';simpa[bK]using this
 case box e sz x=>
  obtain⟨m,h1,h2⟩:=hp _ hr;have hv:=fB h.slot (hx x (by simp[RO.xs]));unfold N5 at h1;rw[iY]at h1;split at h1
  .rename_i hc;simp only[Ba,Nat.beq_eq]at hc;simp only[Oi]at h1;subst h1;refine⟨λid=>(.ptr id 0 0,C' st.U id ⟨e,sz,[x.ev st.s]⟩),?_,λid M'=>?_⟩
   .simp only[SG];rw[if_pos ⟨by rw[hv.cells.length];exact hc.1,by rw[hv.stays];exact hc.2⟩]
   .have:=jq (d':=none) h (aS.one hv) (.inl ⟨rfl,rfl⟩) h2 M';simpa[bK]using this
  .cases h1
 case Wr=>simp[jD,aL]at hr
 case mk e sz bytes z x=>
  obtain⟨m,h1,h2⟩:=hp _ hr;have hv:=fB h.slot (hx x (by simp[RO.xs]));unfold mkQ at h1;split at h1
  .rename_i kk mm YV;rw[YV]at hv;simp only[aF]at hv;split at h1
   .split at h1
    .rename_i j hj;rw[iY]at h1;split at h1
     .rename_i hc;simp only[Oi]at h1;subst h1;have hmj:mm=(j:Int):=by
       cases mm<;>simp only[ye,Oi,reduceCtorEq]at hj;subst hj;rfl
      subst hmj;refine⟨λid=>(.own id 0 j,C' st.U id ⟨e,sz,List.replicate j z⟩),?_,λid M'=>?_⟩
      .simp only[SG];rw[hv];have YP:j*(bytes+1)<=140737488355328:=Nat.le_of_ble_eq_true hc;simp only[Int.toNat_natCast];rw[if_pos ⟨by omega,YP⟩]
      .have:=jq (d':=none) h (aS.replicate (eW (R:=R) z RC.2) j) (.inl ⟨rfl,rfl⟩) h2 M';simpa[bK]using this
     .cases h1
    .cases h1
   .cases h1
  .cases h1
 case bp e sz xs=>
  obtain⟨m,h1,h2⟩:=hp _ hr;have hv:=mH h.slot RC.1;simp only[RO.xs]at hv;unfold BY at h1;rw[iY]at h1;split at h1
  .rename_i hc;simp only[Oi]at h1;subst h1;refine⟨λid=>(.own id 0 xs.length,C' st.U id ⟨e,sz,xs.map (·.ev st.s)⟩),?_,λid M'=>?_⟩
   .simp only[SG];rw[if_pos];rw[List.all_eq_true];intro y hy;rw[List.mem_map]at hy;obtain⟨x,hxx,rfl⟩:=hy;have hvx:=fB h.slot (hx x (by simp[RO.xs,hxx]));have:=List.all_eq_true.1 hc (x.ev cs.sf) (List.mem_map.2 ⟨x,hxx,rfl⟩);simp only[Ba,Nat.beq_eq]at this;simp[hvx.cells.length,hvx.stays,this]
   .have:=jq (d':=none) h hv (.inl ⟨rfl,rfl⟩) h2 M';simpa[bK]using this
  .cases h1
 case append e sz bytes xa xb=>
  obtain⟨m,h1,h2⟩:=hp _ hr;have ha:=fB h.slot (hx xa (by simp[RO.xs]));have hb:=fB h.slot (hx xb (by simp[RO.xs]));unfold CA at h1;split at h1
  .rename_i base RN src e1 e2;obtain⟨base',d',g1,g2,g3⟩:=zF h.mem.live ha e1;obtain⟨src',g4,g5⟩:=zM h.mem.live hb e2;rw[iY]at h1;split at h1
   .rename_i hc;simp only[Oi]at h1;subst h1;refine⟨λid=>(.own id 0 (base'.length+src'.length),C' (bK st.U d') id ⟨e,sz,base'++src'⟩),?_,λid M'=>?_⟩
    .simp only[SG,g1,g4];rw[if_pos (by rw[g2.length,g5.length];exact Nat.le_of_ble_eq_true hc)]
    .have:=jq h (g2.append g5) g3 h2 M';simpa[g2.length,g5.length]using this
   .cases h1
  .cases h1
def yU{r r' x x' q:V}{k sz:Nat}(hr:aF R r r')(hx:aF R x x')(h:cp r k sz x=some q):∃q',cp r' k sz x'=some q'/\aF R q q':=by
 unfold cp at h;split at h
 .rename_i hc;have YP:x'.cells.length=sz/\x'.stays=true:=⟨by rw[hx.cells.length];exact hc.1,by rw[hx.stays];exact hc.2⟩
  split at h
  .rename_i hd;simp only[Oi]at h;subst h;refine⟨x',?_,hx⟩;unfold cp;rw[if_pos YP,if_pos ⟨hd.1,by rw[hr.cells.length];exact hd.2⟩]
  .rename_i hd;split at h
   .rename_i he;simp only[Oi]at h;subst h;refine⟨_,?_,aF.agg (((hr.cells.take k).append hx.cells).append (hr.cells.drop (k+sz)))⟩;unfold cp;rw[if_pos YP,if_neg (by rw[hr.cells.length];exact hd),if_pos (by rw[hr.cells.length];exact he)]
   .cases h
 .cases h
def so{dst:Option Nat}{sz:Nat}{xa xv:VX}{call:lI}{cs SV:CS}{st:St}(RC:pf (.store sz xa xv)=true)(h:fP K fl R cs st)
 (hr:(BG dst sz xa xv).f call fl cs=some SV):∃Z',cQ st.U sz (xa.ev st.s) (xv.ev st.s)=some Z'/\fP K fl R SV ⟨aX st.s dst (.RB []),Z'⟩:=by
 simp only[pf,RO.xs,List.all_cons,List.all_nil,Bool.and_true,Ba]at RC;have ha:=fB h.slot RC.1;have hv:=fB h.slot RC.2;simp only[BG,Ca]at hr;split at hr
 .rename_i id i0 c hptr;rw[hptr]at ha;simp only[aF]at ha;obtain⟨a,V9,ha2⟩:=ha;rw[DH]at hr;split at hr
  .rename_i hf;split at hr
   .rename_i ob Sw;have hob':U3 cs.U id=some ob:=Sw;obtain⟨Rz,h1,h2⟩:=h.mem.live _ _ _ ha2 hob';split at hr
    .rename_i r hrr;obtain⟨r',h3,h4⟩:=h2.get hrr;split at hr
     .rename_i q hq;obtain⟨q',h5,h6⟩:=yU h4 hv hq;simp only[Oi]at hr;subst hr;refine⟨C' st.U a ⟨ob.elem,ob.sz,Rz.set i0 q'⟩,?_,?_⟩
      .simp only[cQ,V9,h1,h3,h5]
      .have hm:=h.mem.write ha2 hob' (Nat.le_of_ble_eq_true hf) (h2.set i0 h6);have hS:fP K fl R ⟨cs.s,lX none (some ⟨ob.elem,ob.sz,ob.rows.set i0 q⟩) id cs.U,cs.SF⟩ ⟨st.s,C' st.U a ⟨ob.elem,ob.sz,Rz.set i0 q'⟩⟩:=
        ⟨h.slot,by simp only[rY];exact hm⟩
       exact hS.put aF.Hw
     .cases hr
    .cases hr
   .cases hr
  .cases hr
 .cases hr
variable {P:Program} {n:Nat}
def Le(R R':Nat->Nat->Prop):Prop:=∀a b,R a b->R' a b
def Le.refl(R:Nat->Nat->Prop):Le R R:=λ_ _ h=>h
def Le.trans{R R' R'':Nat->Nat->Prop}(h:Le R R')(h':Le R' R''):Le R R'':=λa b g=>h' a b (h a b g)
def ub(P:Program)(call:lI):Prop:=∀g args Zc SF fl r,call g args Zc SF fl=some r->∀(K:ai) (R:Nat->Nat->Prop) (U:ai) (args':List V),
 nT K fl R (U3 Zc) SF U->aS R args args'->aD P g args' U λv Z'=>∃R',Le R R'/\aF R' r.v v/\nT K fl R' (U3 r.U) r.SF Z'
def aD.drop{f:FuncId}{args:List V}{U:ai}{Post UD:V->ai->Prop}(h:aD P f args U Post)
 (hp:∀r Z',Post r Z'->∃Z0,aa Z0 Z'/\UD r Z0):aD P f args U UD:=by
 refine⟨h.1,λI w RF hs hr=>(h.2 I w RF hs hr).mono ?_⟩;rintro e w' ⟨r,Z',Y',val,h1,h2,h3,h4,h5⟩;obtain⟨Z0,h6,h7⟩:=hp r Z' h2;exact⟨r,Z0,Y',val,h1,h7,h3,h4.drop h6,Wk.refl h6 r Y' _ _ _ val h4 h5⟩
section
variable {call:lI} {K:ai} {fl:Nat} {R:Nat->Nat->Prop} {cs SV:CS} {st:St} {Q:St->Prop} {k:List It}
def qS{draw:Bool}{i:aN}(RC:oq i=true)(h:fP K fl R cs st)(hr:(qJ draw i).f call fl cs=some SV):
 (bu st.s i.g=some true/\(jY draw i.dst i.op).f call fl cs=some SV)\/(bu st.s i.g=some false/\SV=cs.put i.dst (.RB [])):=by
 simp only[oq,Ba]at RC;unfold qJ at hr;split at hr
 .rename_i hg;exact .inl ⟨by simp[hg,bu],hr⟩
 .rename_i x b hg;have hx:=RC.2;simp only[hg]at hx;have hv:=fB h.slot hx;simp only[Fc]at hr;split at hr
  .rename_i c hc;rw[hc,aF.mi]at hv;rw[DH]at hr;split at hr
   .rename_i hcb;simp only[Oi]at hr;refine .inr ⟨?_,hr.symm⟩;simp only[hg,bu,hv];cases c<;>cases b<;>simp_all
   .rename_i hcb;refine .inl ⟨?_,hr⟩;simp only[hg,bu,hv];cases c<;>cases b<;>simp_all
  .rename_i hc;rw[hc]at hv;simp only[aF,aS]at hv;obtain⟨c',hv,rfl⟩:=hv;simp only[Oi]at hr;exact .inr ⟨by simp only[hg,bu,hv],hr.symm⟩
  .rename_i hc;rw[hc,aF.jZ]at hv;simp only[Oi]at hr;exact .inr ⟨by simp only[hg,bu,hv],hr.symm⟩
  .cases hr
def Co{draw:Bool}{dst:Option Nat}{op:RO}(h:op=.bad\/(∃b x,op=.Zk b x)\/(∃x,op=.nxtS x)\/∃m xs,op=.more m xs/\bx op=4)(hr:(jY draw dst op).f call fl cs=some SV):False:=by
 rcases h with rfl|⟨b,x,rfl⟩|⟨x,rfl⟩|⟨m,xs,rfl,hk⟩
 case inr.inr.inr=>cases m<;>simp[bx]at hk<;>simp[jY,jD,aL]at hr
 all_goals simp[jY,jD,aL]at hr
def qo(op:RO):bx op=0\/(∃fx xs,op=.call fx xs)\/(∃sz a x,op=.store sz a x)\/bx op=3\/(∃sz z x,op=.clear sz z x)\/(op=.bad\/(∃b x,op=.Zk b x)\/(∃x,op=.nxtS x)\/∃m xs,op=.more m xs/\bx op=4):=by
 cases op
 case more m xs=>cases m<;>simp[bx]
 all_goals simp[bx]
def HS(hc:ub P call){i:aN}{l:List aN}(RC:oq i=true)(h:fP K fl R cs st)(hr:(qJ false i).f call fl cs=some SV)
 (hk:∀R' Ug,Le R R'->fP K fl R' SV Ug->ad P n (.ops l::k) Ug Q):ad P n (.ops (i::l)::k) st Q:=by
 have RH:pf i.op=true:=by simp only[oq,Ba]at RC;exact RC.1
 rcases qS RC h hr with⟨hw,hr⟩|⟨hw,rfl⟩
 .rcases qo i.op with h0|⟨fx,xs,h0⟩|⟨sz,a,x,h0⟩|h0|⟨sz,z,x,h0⟩|h0
  .obtain⟨v',h1,h2,h3⟩:=vK h0 RH h hr;exact ad.pure hw h1 h2 (hk R _ (Le.refl R) h3)
  .rw[h0]at hr RH;simp only[jY,EV]at hr;simp only[pf,RO.xs,List.all_cons,Ba]at RH;split at hr
   .rename_i f caps hf;have hfx:=fB h.slot RH.1.1;rw[hf]at hfx;simp only[aF]at hfx;obtain⟨Vx,U1,hcaps⟩:=hfx;generalize SJ:call f (xs.map (·.ev cs.sf)++caps) cs.U cs.SF fl=r at hr;cases r with
    |none=>simp[A1]at hr
    |some r=>
     simp only[A1,Oi]at hr;refine ad.call hw h0 U1 (hc _ _ _ _ _ _ SJ K R st.U _ h.mem ((mH h.slot RH.1.2).append hcaps)) ?_;rintro v Z' ⟨R',hle,hv,hm⟩;have hS:fP K fl R' ⟨cs.s,r.U,r.SF⟩ ⟨st.s,Z'⟩:=⟨λj=>aF.mono hle _ _ (h.slot j),hm⟩
     exact hk R' _ hle (hr▸hS.put hv)
   .cases hr
  .rw[h0]at hr RH;obtain⟨Z',h1,h2⟩:=so RH h hr;exact ad.cQ hw h0 h1 (hk R _ (Le.refl R) h2)
  .obtain⟨g',h1,h2⟩:=yH h0 RH h hr;refine ad.SG hw h1 λid M'=>?_;obtain⟨R',h3,h4⟩:=h2 id M';exact hk R' _ h3 h4
  .rw[h0]at hr RH;simp only[jY,Bi,B1]at hr;simp only[pf,RO.xs,List.all_cons,List.all_nil,Bool.and_true,Ba]at RH;have hx:=fB h.slot RH.1;split at hr
   .rename_i id off len M';rw[M']at hx;simp only[aF]at hx;obtain⟨a,V9,ha2⟩:=hx;rw[DH]at hr;split at hr
    .rename_i hf;split at hr
     .rename_i ob Sw;have hob':U3 cs.U id=some ob:=Sw;obtain⟨Rz,g1,g2⟩:=h.mem.live _ _ _ ha2 hob';rw[DH]at hr;split at hr
      .rename_i Tf;simp only[Ba,Nat.beq_eq,Nat.ble_eq]at Tf;simp only[Oi]at hr;refine ad.clear hw h0 V9 g1 Tf.1 (by rw[g2.length];exact Tf.2) ?_;have hm:=h.mem.write ha2 hob' (Nat.le_of_ble_eq_true hf) (((g2.take off).append (aS.replicate (eW (R:=R) z RH.2) len)).append (g2.drop (off+len)));have hS:fP K fl R ⟨cs.s,lX none (some ⟨ob.elem,ob.sz,ob.rows.take off++List.replicate len z++ob.rows.drop (off+len)⟩) id cs.U,cs.SF⟩
        ⟨st.s,C' st.U a ⟨ob.elem,ob.sz,Rz.take off++List.replicate len z++Rz.drop (off+len)⟩⟩:=⟨h.slot,by simp only[rY];exact hm⟩
       exact hk R _ (Le.refl R) (hr▸hS.put aF.Hw)
      .cases hr
     .cases hr
    .cases hr
   .cases hr
  .exact(Co h0 hr).elim
 .exact ad.rJ hw (hk R _ (Le.refl R) (h.put aF.Hw))
def N7(hc:ub P call){i:aN}(RC:oq i=true)(h:fP K fl R cs st)(hr:(qJ true i).f call fl cs=some SV){K':St->Prop}
 (hk:∀R' Ug,Le R R'->fP K fl R' SV Ug->K' Ug):T P i st K':=by
 have RH:pf i.op=true:=by simp only[oq,Ba]at RC;exact RC.1
 rcases qS RC h hr with⟨hw,hr⟩|⟨hw,rfl⟩
 .refine nP hw ?_;rcases qo i.op with h0|⟨fx,xs,h0⟩|⟨sz,a,x,h0⟩|h0|⟨sz,z,x,h0⟩|h0
  .obtain⟨v',h1,h2,h3⟩:=vK h0 RH h hr;unfold TO;simp only[h0];exact⟨h1,v',h2,hk R _ (Le.refl R) h3⟩
  .rw[h0]at hr RH;rw[h0];simp only[jY,EV]at hr;simp only[pf,RO.xs,List.all_cons,Ba]at RH;split at hr
   .rename_i f caps hf;have hfx:=fB h.slot RH.1.1;rw[hf]at hfx;simp only[aF]at hfx;obtain⟨Vx,U1,hcaps⟩:=hfx;generalize SJ:call f (xs.map (·.ev cs.sf)++caps) cs.U cs.SF cs.SF=r at hr;cases r with
    |none=>simp[wC]at hr
    |some r=>
     simp only[wC,DH]at hr;split at hr
     .rename_i R7;simp only[Oi]at hr;refine⟨f,Vx,r.v,U1,λZ1 TI=>?_,hk R _ (Le.refl R) (hr▸h.put (eW r.v R7))⟩;have Wj:nT Z1 cs.SF R (U3 cs.U) cs.SF Z1:=⟨h.mem.dom,h.mem.live.sup TI,h.mem.inj,h.mem.fn,aa.refl _,λ_ _ c _ _ hcR _=>h.mem.dom c _ hcR⟩
      refine(hc _ _ _ _ _ _ SJ Z1 R Z1 _ Wj ((mH h.slot RH.1.2).append hcaps)).drop ?_;rintro v Z' ⟨R',hle,hv,hm⟩;exact⟨Z1,hm.mc,ou _ _ R7 hv,rfl⟩
     .cases hr
   .cases hr
  .rw[h0]at hr RH;rw[h0];obtain⟨Z',h1,h2⟩:=so RH h hr;exact⟨Z',h1,hk R _ (Le.refl R) h2⟩
  .obtain⟨g',h1,h2⟩:=yH h0 RH h hr;unfold TO;simp only[h0];refine⟨g',h1,λid M'=>?_⟩;obtain⟨R',h3,h4⟩:=h2 id M';exact hk R' _ h3 h4
  .rw[h0]at hr;simp[jY,Bi]at hr
  .exact(Co h0 hr).elim
 .exact rI hw (hk R _ (Le.refl R) (h.put aF.Hw))
def lS(draw:Bool)(m:Nat)(i:aN)(l:List aN):l4 draw call fl (m+1) (i::l) cs=match(qJ draw i).f call fl cs with
 |some SV=>l4 draw call fl m l SV
 |none=>.bad:=by
 show(@Option.casesOn CS (λ_=>Out) ((qJ draw i).f call fl cs) .bad (l4 draw call fl m l))=_;cases (qJ draw i).f call fl cs<;>rfl
def BS(hc:ub P call):∀(m:Nat) (l:List aN) (R:Nat->Nat->Prop) (cs:CS) (st:St),l4 false call fl m l cs=.nx SV->l.all oq=true->fP K fl R cs st->
 (∀R' Ug,Le R R'->fP K fl R' SV Ug->ad P n k Ug Q)->ad P n (.ops l::k) st Q
 |0,_,_,_,_,h,_,_,_=>by cases h
 |m+1,[],R,cs,st,h,_,hs,hk=>by
  have h':Out.nx cs=.nx SV:=h;simp only[Out.nx.injEq]at h';subst h';exact ad.Ct (hk R st (Le.refl R) hs)
 |m+1,i::l,R,cs,st,h,RC,hs,hk=>by
  rw[lS]at h;simp only[List.all_cons,Ba]at RC;split at h
  .rename_i Yi h1;refine HS hc RC.1 hs h1 λR' Ug hle RP=>?_;exact BS hc m l R' Yi Ug h RC.2 RP λR'' st'' hle' hs''=>hk R'' st'' (hle.trans hle') hs''
  .cases h
def IP(hc:ub P call){K':St->Prop}:∀(m:Nat) (l:List aN) (R:Nat->Nat->Prop) (cs:CS) (st:St),l4 true call fl m l cs=.nx SV->l.all oq=true->fP K fl R cs st->
 (∀R' Ug,Le R R'->fP K fl R' SV Ug->K' Ug)->gF P K' l st
 |0,_,_,_,_,h,_,_,_=>by cases h
 |m+1,[],R,cs,st,h,_,hs,hk=>by
  have h':Out.nx cs=.nx SV:=h;simp only[Out.nx.injEq]at h';subst h';exact hk R st (Le.refl R) hs
 |m+1,i::l,R,cs,st,h,RC,hs,hk=>by
  rw[lS]at h;simp only[List.all_cons,Ba]at RC;split at h
  .rename_i Yi h1;refine N7 hc RC.1 hs h1 λR' Ug hle RP=>?_;exact IP hc m l R' Yi Ug h RC.2 RP λR'' st'' hle' hs''=>hk R'' st'' (hle.trans hle') hs''
  .cases h
end
def Ed(P:Program)(n:Nat)(K:ai)(fl:Nat)(R:Nat->Nat->Prop)(k:List It)(Q:St->Prop):Out->Prop
 |.nx cs=>∀R' st,Le R R'->fP K fl R' cs st->ad P n k st Q
 |.ex id cs=>∃k',dY id k=some k'/\∀R' st,Le R R'->fP K fl R' cs st->ad P n k' st Q
 |.rt cs=>∀R' st,Le R R'->fP K fl R' cs st->Q st
 |.bad=>False
def Ed.le{K:ai}{fl:Nat}{R R':Nat->Nat->Prop}{k:List It}{Q:St->Prop}{o:Out}(h:Ed P n K fl R k Q o)(hle:Le R R'):Ed P n K fl R' k Q o:=by
 cases o
 case bad=>exact h
 case ex=>obtain⟨k',h1,h2⟩:=h;exact⟨k',h1,λR'' st h3 h4=>h2 R'' st (hle.trans h3) h4⟩
 all_goals exact λR'' st h3 h4=>h R'' st (hle.trans h3) h4
def tz(P:Program)(code:FuncId->Option Ry):Prop:=∀g vf,code g=some vf->eG P g=true/\Me vf=true/\∃fn,P.funcs[g]?=some fn/\cfn P fn=some vf
def LOk(P:Program)(code:FuncId->Option Ry)(fuel:Nat):Prop:=∀(n:Nat) (K:ai) (fl:Nat) (R:Nat->Nat->Prop) (c:bJ) (cs:CS) (st:St) (k:List It) (Q:St->Prop),
 iF c=true->fP K fl R cs st->Ed P n K fl R k Q (Wq code fuel fl c cs)->ad P n (.code c::k) st Q
def CO(i:Nat):∀(l:List V) (k:Nat) (t:Tr V),lF (.RB []) i (Tr.ofL l k t)=if k<=i/\i<k+l.length then l.getD (i-k) (.RB [])else lF (.RB []) i t
 |[],k,t=>by simp[Tr.ofL];intro h1 h2;omega
 |v::l,k,t=>by
  rw[Tr.ofL,CO i l (k+1),od];simp only[List.length_cons];by_cases h1:i=k
  .subst h1;rw[if_neg (by omega),if_pos rfl,if_pos (by omega)];simp
  .by_cases h2:k+1<=i/\i<k+1+l.length
   .rw[if_pos h2,if_pos (by omega),show i-k=(i-(k+1))+1 by omega];simp
   .rw[if_neg h2,if_neg h1,if_neg (by omega)]
def AS{K:ai}{fl:Nat}{R:Nat->Nat->Prop}{cs:CS}{st:St}(h:fP K fl R cs st){r:VR}(RC:Cf r=true){v:V}(hv:gJ ⟨cs.sf,U3 cs.U⟩ r=some v):
 ∃v',gJ st r=some v'/\aF R v v':=by
 cases r<;>simp only[gJ,reduceCtorEq,Oi]at hv|-
 case tmp x=>subst hv;exact⟨_,rfl,fB h.slot RC⟩
 case cell agg sz x=>exact vw h.mem.live (fB h.slot RC) hv
def si{K:ai}{fl:Nat}{R:Nat->Nat->Prop}{cs:CS}{st:St}(h:fP K fl R cs st):∀{l:List VR},l.all Cf=true->∀{vs:List V},eV ⟨cs.sf,U3 cs.U⟩ l=some vs->
 ∃vs',eV st l=some vs'/\aS R vs vs'
 |[],_,vs,hv=>by simp only[eV,Oi]at hv;subst hv;exact⟨[],rfl,by simp[aS]⟩
 |r::l,RC,vs,hv=>by
  simp only[List.all_cons,Ba]at RC;simp only[eV]at hv;split at hv
  .rename_i v h1;split at hv
   .rename_i us h2;simp only[Oi]at hv;subst hv;obtain⟨v',g1,g2⟩:=AS h RC.1 h1;obtain⟨us',g3,g4⟩:=si h RC.2 h2;exact⟨v'::us',by simp[eV,g1,g3],aS.cC.2 ⟨v',us',rfl,g2,g4⟩⟩
   .cases hv
  .cases hv
def EW{K:ai}{fl:Nat}{R:Nat->Nat->Prop}{cs:CS}{st:St}(h:fP K fl R cs st){l:List VR}(RC:l.all Cf=true){v:V}(hv:mW ⟨cs.sf,U3 cs.U⟩ l=some v):
 ∃v',mW st l=some v'/\aF R v v':=by
 unfold mW at hv;cases hr:eV ⟨cs.sf,U3 cs.U⟩ l with
 |none=>simp[hr]at hv
 |some vs=>
  obtain⟨vs',g1,g2⟩:=si h RC hr;rw[hr]at hv;unfold mW;rw[g1]
  match vs,hv,g2 with
  |[],hv,g2=>
   rw[aS.iJ]at g2;subst g2;simp only[Oi]at hv;subst hv;exact⟨_,rfl,by simp[aF,aS]⟩
  |[u],hv,g2=>
   obtain⟨x,xs,rfl,g3,g4⟩:=aS.cC.1 g2;rw[aS.iJ]at g4;subst g4;simp only[Oi]at hv;subst hv;exact⟨_,rfl,g3⟩
  |u1::u2::us,hv,g2=>
   obtain⟨x,xs,rfl,g3,g4⟩:=aS.cC.1 g2;obtain⟨y,ys,rfl,g5,g6⟩:=aS.cC.1 g4;simp only[Oi]at hv;subst hv;exact⟨_,rfl,by simp only[aF];exact⟨_,rfl,g2⟩⟩
def wM{code:FuncId->Option Ry}(Wc:tz P code){fuel:Nat}(ih:LOk P code fuel):ub P (evF (Wq code fuel) code):=by
 intro g args Zc SF fl r hr K R U args' hm Sp;unfold evF at hr;split at hr
 .cases hr
 .rename_i vf hvf;rw[iY]at hr;split at hr
  .rename_i hlen;obtain⟨SJ,RC,fn,hf,hcf⟩:=Wc g vf hvf;simp only[Me,Ba]at RC;have hlen':=Nat.le_of_ble_eq_true hlen;refine aD.kc hf hcf SJ (by rw[Sp.length];exact hlen') ?_;have hs:fP K fl R ⟨Tr.ofL args 0 .e,Zc,SF⟩ ⟨cz args',U⟩:=by
    refine⟨λi=>?_,hm⟩;show aF R (lF (.RB []) i (Tr.ofL args 0 .e)) (args'.getD i (.RB []));rw[CO,Ku];by_cases hi:i<args.length
    .rw[if_pos ⟨Nat.zero_le _,by omega⟩,Nat.sub_zero];obtain⟨u,h1,h2⟩:=Sp.get (List.getElem?_eq_getElem hi);simp only[List.getD_eq_getElem?_getD,h1,List.getElem?_eq_getElem hi,Option.getD_some];exact h2
    .rw[if_neg (by omega)];have:args'[i]?=none:=List.getElem?_eq_none (by rw[Sp.length];omega);simp only[List.getD_eq_getElem?_getD,this,Option.getD_none];simp[aF,aS]
   have SA:∀SV,G5 vf.res SV=some r->∀R' st,Le R R'->fP K fl R' SV st->VL vf.res st λv Z'=>∃R',Le R R'/\aF R' r.v v/\nT K fl R' (U3 r.U) r.SF Z':=by
    intro SV hq R' st hle RP;unfold G5 at hq;split at hq
    .rename_i v hv;simp only[Oi]at hq;subst hq;obtain⟨v',g1,g2⟩:=EW RP RC.2 hv;exact⟨v',v',st.U,g1,aa.refl _,Wk.refl (aa.refl _) _,R',hle,g2,RP.mem⟩
    .cases hq
   refine ih vf.n K fl R vf.code _ _ [] _ RC.1 hs ?_;generalize Wq code fuel fl vf.code ⟨Tr.ofL args 0 .e,Zc,SF⟩=o at hr;cases o<;>simp only[Np,reduceCtorEq]at hr
   .exact λR' st hle RP=>ad.nil (SA _ hr R' st hle RP)
   .exact λR' st hle RP=>SA _ hr R' st hle RP
  .cases hr
def zc(code:FuncId->Option Ry)(f fl:Nat)(c:bJ)(cs:CS):Wq code (f+1) fl c cs=match c with
 |.skip=>.nx cs
 |.Sd draw l=>Fv draw (evF (Wq code f) code) fl l cs
 |.seq a b=>DX (Wq code f fl a cs) λSV=>Wq code f fl b SV
 |.cond c a b=>onB (c.ev cs.sf) (Wq code f fl a cs) (Wq code f fl b cs)
 |.block id a=>KS id (Wq code f fl a cs)
 |.loop a=>DX (Wq code f fl a cs) λSV=>Wq code f fl (.loop a) SV
 |.exit id=>.ex id cs
 |.ret=>.rt cs
 |.cX ..=>.bad
 |.SO ..=>.bad
 |.pH ..=>.bad
 |.bad=>.bad:=rfl
def zU{draw:Bool}{call:lI}{fl:Nat}:∀(m:Nat) (l:List aN) (cs:CS),(∃SV,l4 draw call fl m l cs=.nx SV)\/l4 draw call fl m l cs=.bad
 |0,_,_=>.inr rfl
 |m+1,[],cs=>.inl ⟨cs,rfl⟩
 |m+1,i::l,cs=>by
  rw[lS];split
  .exact zU m l _
  .exact .inr rfl
def Lx{code:FuncId->Option Ry}(Wc:tz P code):∀fuel,LOk P code fuel:=by
 intro fuel
 induction fuel using Nat.strongRecOn with
 |_ fuel ih=>
  intro n K fl R c cs st k Q RC hs RW;cases fuel with
  |zero=>exact RW.elim
  |succ f=>
   have ihf:=ih f (by omega);rw[zc]at RW;cases c with
   |skip=>exact ad.skip (RW R st (Le.refl R) hs)
   |Sd draw l=>
    simp only[iF]at RC;simp only[Fv]at RW;rcases zU (draw:=draw) (call:=evF (Wq code f) code) (fl:=fl) 1000 l cs with⟨SV,he⟩|he
    .rw[he]at RW;cases draw
     .exact ad.region (BS (wM Wc ihf) 1000 l R cs st he RC hs RW)
     .exact ad.B3 (IP (wM Wc ihf) 1000 l R cs st he RC hs RW)
    .rw[he]at RW;exact RW.elim
   |seq a b=>
    simp only[iF,Ba]at RC;refine ad.seq (ihf n K fl R a cs st _ Q RC.1 hs ?_);simp only[DX]at RW;generalize Wq code f fl a cs=o at RW;cases o with
    |nx Yi=>exact λR1 ZQ WB TI=>ihf n K fl R1 b Yi ZQ k Q RC.2 TI (RW.le WB)
    |ex id Yi=>exact RW
    |rt Yi=>exact RW
    |bad=>exact RW
   |cond c a b=>
    simp only[iF,Ba]at RC;have hv:=fB hs.slot RC.1;have RW:Ed P n K fl R k Q (onB (c.ev cs.sf) (Wq code f fl a cs) (Wq code f fl b cs)):=RW;unfold onB at RW;split at RW
    .rename_i t ht;rw[ht,aF.mi]at hv;refine ad.cond hv (λe=>?_) (λe=>?_)
     .subst e;exact ihf n K fl R a cs st k Q RC.2.1 hs RW
     .subst e;exact ihf n K fl R b cs st k Q RC.2.2 hs RW
    .exact RW.elim
   |block id a=>
    simp only[iF]at RC;refine ad.block (ihf n K fl R a cs st _ Q RC hs ?_);simp only[KS]at RW;generalize Wq code f fl a cs=o at RW;cases o with
    |nx Yi=>exact λR1 ZQ WB TI=>ad.inBlock (RW R1 ZQ WB TI)
    |ex j Yi=>
     simp only[DH]at RW;by_cases hj:j=id
     .subst hj;rw[if_pos (by rw[Nat.beq_eq])]at RW;exact⟨k,by simp[dY],RW⟩
     .rw[if_neg (by rw[Nat.beq_eq];exact hj)]at RW;obtain⟨k',h1,h2⟩:=RW;exact⟨k',by simp[dY,hj,h1],h2⟩
    |rt Yi=>exact RW
    |bad=>exact RW
   |loop a=>
    have hok':=RC;simp only[iF]at RC;have Un:Ed P n K fl R k Q (Wq code (f+1) fl (.loop a) cs):=RW;generalize ho:Wq code (f+1) fl (.loop a) cs=o at Un;refine ad.loop (λm st=>m<=f+1/\∃R1 Yi,Le R R1/\fP K fl R1 Yi st/\Wq code m fl (.loop a) Yi=o) (f+1) ⟨Nat.le_refl _,R,cs,Le.refl R,hs,ho⟩ ?_;rintro m ZQ ⟨hm,R1,Yi,WB,TI,Zi⟩;cases m with
    |zero=>
     have:o=.bad:=Zi.symm;rw[this]at Un;exact Un.elim
    |succ m=>
     have ihm:=ih m (by omega);rw[zc]at Zi;refine ihm n K fl R1 a Yi ZQ _ Q RC TI ?_;simp only[DX]at Zi;generalize Wq code m fl a Yi=o1 at Zi;cases o1 with
     |nx cs2=>exact λR2 UA XB Uh=>ad.stop ⟨m,by omega,by omega,R2,cs2,WB.trans XB,Uh,Zi⟩
     |ex id cs2=>
      have Zi:Out.ex id cs2=o:=Zi;rw[<-Zi]at Un;obtain⟨k',h1,h2⟩:=Un;exact⟨k',by simpa[dY]using h1,λR2 UA XB Uh=>h2 R2 UA (WB.trans XB) Uh⟩
     |rt cs2=>
      have Zi:Out.rt cs2=o:=Zi;rw[<-Zi]at Un;exact λR2 UA XB Uh=>Un R2 UA (WB.trans XB) Uh
     |bad=>
      have Zi:Out.bad=o:=Zi;rw[<-Zi]at Un;exact Un.elim
   |exit id=>
    obtain⟨k',h1,h2⟩:=RW;exact ad.exit h1 (h2 R st (Le.refl R) hs)
   |ret=>exact ad.ret (RW R st (Le.refl R) hs)
   |cX g ps a b=>exact RW.elim
   |SO l RS=>exact RW.elim
   |pH l e=>exact RW.elim
   |bad=>exact RW.elim
def xg(g:V->V->Bool):List V->List V->Bool
 |[],[]=>true
 |v::vs,u::us=>g v u&&xg g vs us
 |_,_=>false
def fzB:Nat->Tr (Option Ob)->V->V->Bool
 |0,_,_,_=>false
 |f+1,U,v,u=>match v with
  |.own id off len=>match u with
   |.sl sz rows=>match lF none id U with
    |some ob=>Nat.beq ob.sz sz&&(Nat.ble (off+len) ob.rows.length&&xg (fzB f U) ((ob.rows.drop off).take len) rows)
    |none=>false
   |_=>false
  |.aC=>match u with
   |.sl _ rows=>rows.isEmpty
   |.aC=>true
   |_=>false
  |.sl sz rows=>match u with
   |.sl UC Rz=>Nat.beq sz UC&&xg (fzB f U) rows Rz
   |_=>false
  |.agg cs=>match u with
   |.agg ds=>xg (fzB f U) cs ds
   |_=>false
  |.RB cs=>match u with
   |.RB ds=>xg (fzB f U) cs ds
   |_=>false
  |.int k n=>match u with
   |.int k' n'=>eqK k k'&&eqQ n n'
   |_=>false
  |.bool b=>match u with
   |.bool b'=>b==b'
   |_=>false
  |.str b=>match u with
   |.str b'=>decide (b=b')
   |_=>false
  |.Sc=>match u with
   |.Sc=>true
   |_=>false
  |_=>false
def Ia{a b:Int}(h:eqQ a b=true):a=b:=by
 cases a<;>cases b<;>simp only[eqQ,Bool.false_eq_true]at h
 .rw[Nat.eq_of_beq_eq_true h]
 .rw[Nat.eq_of_beq_eq_true h]
def FA{R:Nat->Nat->Prop}{Zt:Tr (Option Ob)}{U:ai}(hm:Lv R (U3 Zt) U):∀(f:Nat) (v u v':V),fzB f Zt v v'=true->aF R v u->Fz U (λa=>∃c o,R c a/\U3 Zt c=some o) u v'
 |0,_,_,_,h,_=>by simp[fzB]at h
 |f+1,v,u,v',h,hr=>by
  have hL:∀(vs us out:List V),xg (fzB f Zt) vs out=true->aS R vs us->TK U (λa=>∃c o,R c a/\U3 Zt c=some o) us out:=by
   intro vs
   induction vs with
   |nil=>
    intro us out h1 h2;rw[aS.iJ]at h2;subst h2;cases out with
    |nil=>exact .nil
    |cons a b=>simp[xg]at h1
   |cons a vs ih=>
    intro us out h1 h2;obtain⟨b,bs,rfl,h3,h4⟩:=aS.cC.1 h2;cases out with
    |nil=>simp[xg]at h1
    |cons c cs=>
     simp only[xg,Ba]at h1;exact .cons _ _ _ _ (FA hm f _ _ _ h1.1 h3) (ih _ _ h1.2 h4)
  have R7:v.eM=true->v'=v->Fz U (λa=>∃c o,R c a/\U3 Zt c=some o) u v':=λh1 h2=>by
   have:=ou v u h1 hr;rw[this,h2];exact .same v h1
  simp only[fzB]at h;cases v<;>simp only[Bool.false_eq_true]at h
  case own id off len=>
   split at h
   .split at h
    .rename_i ob Sw;simp only[Ba]at h;obtain⟨h1,h2,h3⟩:=h;simp only[aF]at hr;obtain⟨Tx,rfl,hR⟩:=hr;obtain⟨Rz,g1,g2⟩:=hm _ Tx ob hR Sw;have:=hL _ _ _ h3 ((g2.drop _).take _);rw[<-Nat.eq_of_beq_eq_true h1];exact .own Tx _ _ ⟨ob.elem,ob.sz,Rz⟩ _ g1 ⟨_,ob,hR,Sw⟩ (by rw[g2.length];exact Nat.le_of_ble_eq_true h2) this
    .cases h
   .cases h
  case aC=>
   split at h
   .rename_i sz rows;simp only[aF]at hr;subst hr;have:rows=[]:=by simpa using h
    subst this;exact .nil _
   .exact R7 rfl rfl
   .cases h
  case sl sz rows=>
   split at h
   .simp only[Ba]at h;simp only[aF]at hr;obtain⟨Rz,rfl,hr⟩:=hr;rw[<-Nat.eq_of_beq_eq_true h.1];exact .sl _ _ _ (hL _ _ _ h.2 hr)
   .cases h
  case agg cs=>
   split at h
   .simp only[aF]at hr;obtain⟨es,rfl,hr⟩:=hr;exact .agg _ _ (hL _ _ _ h hr)
   .cases h
  case RB cs=>
   split at h
   .simp only[aF]at hr;obtain⟨es,rfl,hr⟩:=hr;exact .RB _ _ (hL _ _ _ h hr)
   .cases h
  case int k n=>
   split at h
   .simp only[Ba]at h;refine R7 rfl ?_;rw[Ia h.2,of_decide_eq_true h.1]
   .cases h
  case bool b=>
   split at h
   .refine R7 rfl ?_;rw[eq_of_beq h]
   .cases h
  case str b=>
   split at h
   .refine R7 rfl ?_;rw[of_decide_eq_true h]
   .cases h
  case Sc=>
   split at h
   .exact R7 rfl rfl
   .cases h
def Gp(code:FuncId->Option Ry)(fuel:Nat)(f:FuncId)(args:List V)(v:V):Bool:=match evF (Wq code fuel) code f args .e 0 0 with
 |some r=>fzB 10 r.U r.v v
 |none=>false
def aV.sC{P:Program}{code:FuncId->Option Ry}(Wc:tz P code){fuel:Nat}{f:FuncId}{args:List V}{v:V}(ha:gl args=true)
 (h:Gp code fuel f args v=true):aV P f args v:=by
 intro U;unfold Gp at h;split at h
 .rename_i r hr;have hm:nT U 0 (λ_ _=>False) (U3 .e) 0 U:=⟨λ_ _ h=>h.elim,λ_ _ _ h=>h.elim,λ_ _ _ _ _ h=>h.elim,λ_ _ _ h=>h.elim,aa.refl U,λ_ _ _ _ _ h=>h.elim⟩
  refine(wM Wc (Lx Wc fuel) f args .e 0 0 r hr U _ U args hm (fM args ha)).GX ?_;rintro u Z' ⟨R',_,h1,h2⟩;refine⟨v,U,h2.mc,(FA h2.live 10 r.v u v h h1).wk h2.mc ?_,rfl,rfl⟩;rintro a ⟨c,o,hc,ho⟩;cases hk:U a with
  |none=>rfl
  |some x=>have:=h2.kfl a x c o hk hc ho;omega
 .cases h
open Go.Proofs Go.Proofs.Tryz
def cdF(P:Program)(l:List Nat)(f:FuncId):Option Ry:=
 if l.contains f then(P.funcs[f]?).bind λfn=>(cfn P fn).bind λvf=>if eG P f&&Me vf then some vf else none else none
def LQ(P:Program)(l:List Nat):tz P (cdF P l):=by
 intro g vf h;unfold cdF at h;split at h
 .simp only[Option.bind_eq_some_iff]at h;obtain⟨fn,h1,Vo,h2,h3⟩:=h;split at h3
  .rename_i h4;simp only[Ba]at h4;simp only[Oi]at h3;subst h3;exact⟨h4.1,h4.2,fn,h1,h2⟩
  .cases h3
 .cases h
def Oh:List Nat:=[20,38,39,77,78,79,80,81,136,137,138,139,192,193,194,195,196,245]
noncomputable def PC:FuncId->Option Ry:=cdF prog Oh
def ot:tz prog PC:=LQ _ _
open Go.Proofs Go.Proofs.Tryz
def NN:SW:=⟨0,0,0,0,0,0,0,0,0,0,0,0⟩
def EH(n:Int):Nd:=⟨1,n,⟨0,0,0,0,0,1,1,0,0,0,0,0⟩,0,0,[],0,0,0⟩
def E0(ws:List Int):Nd:=⟨2,1,NN,10,0,ws,0,0,0⟩
def wV:List Nd:=[EH 2,E0 [5,5,5]]
def NH:List Nd:=[EH 2,E0 [5,5,5],⟨3,1,NN,0,0,[],0,3,4⟩]
def Nj:List Nd:=[EH 2,E0 [5,5,6]]
def NI:List Nd:=[EH 2,E0 [5,6,5]]
def Nr:List Nd:=[EH 2,E0 [5,5,5,5]]
set_option maxRecDepth 1000000
def Oj:aV prog 20 [.str [91,111,49,119,49,32,40,49,48,32,48,32,53,32,53,32,53,41,93]] (.RB [aK wV,vI 0,vI 0]):=aV.sC (fuel:=3000) ot rfl (by kernel_rfl)
def NJ:aV prog 20 [.str [91,111,49,119,49,32,40,49,48,32,48,32,53,32,53,32,53,41,93,123,51,32,52,125]] (.RB [aK NH,vI 0,vI 0]):=aV.sC (fuel:=3000) ot rfl (by kernel_rfl)
def Nn:aV prog 20 [.str [91,111,49,119,49,32,40,49,48,32,48,32,53,32,53,32,54,41,93]] (.RB [aK Nj,vI 0,vI 0]):=aV.sC (fuel:=3000) ot rfl (by kernel_rfl)
def NL:aV prog 20 [.str [91,111,49,119,49,32,40,49,48,32,48,32,53,32,54,32,53,41,93]] (.RB [aK NI,vI 0,vI 0]):=aV.sC (fuel:=3000) ot rfl (by kernel_rfl)
def N3:aV prog 20 [.str [91,111,49,119,49,32,40,49,48,32,48,32,53,32,53,32,53,32,53,41,93]] (.RB [aK Nr,vI 0,vI 0]):=aV.sC (fuel:=3000) ot rfl (by kernel_rfl)
open Go.Proofs Go.Proofs.Tryz
def uf(s:List UInt8)(l:List Nd)(x y:V)(SS:aV prog 20 [.str s] (.RB [aK l,x,y])):aV prog 67 [.str s] (aK l):=λU=>by
 refine e67.r (by simp[c67]) ?_;refine ad.mix 6 ?_;apply sR;simp only[go_sem,seval,c67];refine ad.aB rfl rfl rfl (SS _) ?_;apply sR;simp only[go_sem,seval];exact ay.same rfl
def oT(a:aV prog 67 [.str [91,111,49,119,49,32,40,49,48,32,48,32,53,32,53,32,53,41,93]] (aK wV))(s:List UInt8)(l:List Nd)(hl:dH l)(k:aV prog 67 [.str s] (aK l))(n:Int)
 (h1:ez wV l 8 20=0)(h2:(fD (bc wV 8 20) (bc l 8 20):Int)=n):aV prog 33 [.str s,vI n] (.bool true):=λU=>by
 refine e33.r (by simp[c33]) ?_;have hc:=mV wV l ⟨by decide,by decide⟩ hl 8 20;rw[if_pos h1,h1]at hc;have q:(((fD (bc wV 8 20) (bc l 8 20):Nat):Int)=n)=True:=eq_true h2;generalize fD (bc wV 8 20) (bc l 8 20)=M at*;generalize wV=D at*;refine ad.mix 7 ?_;apply sR;simp only[go_sem,seval,c33];refine ad.aB rfl rfl rfl (a _) ?_;apply sR;simp only[go_sem,seval];refine ad.aB rfl rfl rfl (k _) ?_;apply sR;simp only[go_sem,seval];refine ad.aB rfl rfl rfl (hc _) ?_;apply sR;simp only[go_sem,seval,q];exact ay.same rfl
def L7:aV prog 17 [] (.bool true):=λU=>by
 refine e17.r (by simp[c17]) ?_;have a:=uf _ _ _ _ Oj;have k1:=oT a _ wV ⟨by decide,by decide⟩ a 2 (by kernel_rfl) (by kernel_rfl);have k2:=oT a _ NH ⟨by decide,by decide⟩ (uf _ _ _ _ NJ) 1 (by kernel_rfl) (by kernel_rfl);have k3:=oT a _ Nj ⟨by decide,by decide⟩ (uf _ _ _ _ Nn) 0 (by kernel_rfl) (by kernel_rfl);have k4:=oT a _ NI ⟨by decide,by decide⟩ (uf _ _ _ _ NL) 0 (by kernel_rfl) (by kernel_rfl);have k5:=oT a _ Nr ⟨by decide,by decide⟩ (uf _ _ _ _ N3) 1 (by kernel_rfl) (by kernel_rfl);clear a;refine ad.mix 1 ?_;apply sR;simp only[go_sem,seval,c17];refine ad.aB rfl rfl rfl (k1 _) ?_;apply sR;simp only[go_sem,seval];refine ad.aB rfl rfl rfl (k2 _) ?_;apply sR;simp only[go_sem,seval];refine ad.aB rfl rfl rfl (k3 _) ?_;apply sR;simp only[go_sem,seval];refine ad.aB rfl rfl rfl (k4 _) ?_;apply sR;simp only[go_sem,seval];refine ad.aB rfl rfl rfl (k5 _) ?_;apply sR;simp only[go_sem,seval];exact ay.same rfl
def qc:∀(U:ai) (i:Nat) (h:i<([]:List UB).length),bQ U 5 .aC (.int .i64 i)=some (.rp (cE ([]:List UB)[i])):=λ_ i h=>absurd h (by simp)
def Fs{a b c:List Nd}(ha:dH a)(hb:dH b)(hc:dH c)(w h:Int):
 (ez a b w h=0↔ez b a w h=0)/\
 (if ez a b w h=0 then fD (bc a w h) (bc b w h)else 0)=(if ez b a w h=0 then fD (bc b w h) (bc a w h)else 0)/\ec a w h=ez a a w h/\
 (if ez a a w h=0 then fD (bc a w h) (bc a w h)else 0)=(if ec a w h=0 then(lT (bc a w h)).length else 0)/\
 (ez a b w h=0->ez b c w h=0->ez a c w h=0->min (fD (bc a w h) (bc b w h)) (fD (bc b w h) (bc c w h))<=fD (bc a w h) (bc c w h)):=by
 have key:∀x y:List Nd,ez x y w h=0↔ec x w h=0/\ec y w h=0:=λx y=>by
  unfold ez;by_cases g:ec x w h=0
  .rw[if_neg (λk=>k g)];simp[g]
  .rw[if_pos g];simp[g]
 have haa:ec a w h=ez a a w h:=by
  unfold ez;split<;>rfl
 refine⟨by rw[key,key];exact And.comm,?_,haa,?_,λh1 h2 h3=>?_⟩
 .by_cases g:ec a w h=0/\ec b w h=0
  .rw[if_pos ((key _ _).2 g),if_pos ((key _ _).2 g.symm),Dp ha hb g.1 g.2]
  .rw[if_neg λk=>g ((key _ _).1 k),if_neg λk=>g ((key _ _).1 k).symm]
 .rw[<-haa];by_cases g:ec a w h=0
  .rw[if_pos g,if_pos g,FE ha g]
  .rw[if_neg g,if_neg g]
 .exact AV ha hb ((key _ _).1 h1).1 ((key _ _).1 h1).2
open Go.Proofs Go.Proofs.Tryz
def EU(l:List Nd):Prop:=l.length<=1000000000000/\∀x∈l,x.words.length<=200000000000000
def AX(aw:aV prog 17 [] (.bool true))(a b c:List Nd)(ha:EU a)(hb:EU b)(hc:EU c)(w h:Int)(hh:wG h):
 aV prog 5 [aK a,aK b,aK c,vI w,vI h] (.bool true):=λU=>by
 refine e5.r (by simp[c5]) ?_;have va:=λU=>sE a ha.1 ha.2 h hh .aC [] rfl qc (by simp) (λp hp=>by cases hp) U;have vb:=λU=>sE b hb.1 hb.2 h hh .aC [] rfl qc (by simp) (λp hp=>by cases hp) U;have vc:=λU=>sE c hc.1 hc.2 h hh .aC [] rfl qc (by simp) (λp hp=>by cases hp) U;refine ad.mix 23 ?_;apply sR;simp only[go_sem,seval,c5];refine ad.call rfl rfl rfl (va _) ?_;rintro r Z' ⟨⟨x,rfl,hx⟩,rfl⟩;cases x with
 |true=>
  apply sR;simp only[go_sem,seval];refine ad.aB rfl rfl rfl (aw _) ?_;apply sR;simp only[go_sem,seval];exact ay.same rfl
 |false=>
  apply sR;simp only[go_sem,seval];refine ad.call rfl rfl rfl (vb _) ?_;rintro r Z2 ⟨⟨y,rfl,hy⟩,rfl⟩;cases y with
  |true=>
   apply sR;simp only[go_sem,seval];refine ad.aB rfl rfl rfl (aw _) ?_;apply sR;simp only[go_sem,seval];exact ay.same rfl
  |false=>
   apply sR;simp only[go_sem,seval];refine ad.call rfl rfl rfl (vc _) ?_;rintro r Z3 ⟨⟨z,rfl,hz⟩,rfl⟩;cases z with
   |true=>
    apply sR;simp only[go_sem,seval];refine ad.aB rfl rfl rfl (aw _) ?_;apply sR;simp only[go_sem,seval];exact ay.same rfl
   |false=>
    have fa:dH a:=⟨by have:=(hx rfl).1;omega,ha.2⟩
    have fb:dH b:=⟨by have:=(hy rfl).1;omega,hb.2⟩
    have fc:dH c:=⟨by have:=(hz rfl).1;omega,hc.2⟩
    obtain⟨k1,k2,k3,k4,k5⟩:=Fs fa fb fc w h;have s1:=mV a b fa fb w h;have s2:=mV b a fb fa w h;have s3:=mV a a fa fa w h;have s4:=mV b c fb fc w h;have s5:=mV a c fa fc w h;have pg:=DL a fa w h;rw[<-k2]at s2;rw[k4]at s3;rw[<-k3]at s3;have hlP:=F9 (lT (bc a w h));have kk:(if ez a b w h=0 then(0:Int)=0 else True):=by split<;>trivial
    clear k2 k3 k4 va vb vc hx hy hz;generalize lT (bc a w h)=PG at*;generalize ez a b w h=e1 at*;generalize ez b a w h=e2 at*;generalize ez b c w h=e4 at*;generalize ez a c w h=e5 at*;generalize ec a w h=e3 at*;generalize fD (bc a w h) (bc b w h)=m1 at*;generalize fD (bc b w h) (bc c w h)=m4 at*;generalize fD (bc a w h) (bc c w h)=m5 at*;apply sR;simp only[go_sem,seval];refine ad.aB rfl rfl rfl (s1 _) ?_;apply sR;simp only[go_sem,seval];refine ad.aB rfl rfl rfl (s2 _) ?_;apply sR;simp only[go_sem,seval];refine ad.aB rfl rfl rfl (pg _) ?_;generalize hX:(if e1=0 then m1 else 0)=X at*;generalize hZ:(if e3=0 then PG.length else 0)=Z at*;have qX:((X:Int)≠X)=False:=eq_false (λh=>h rfl);have q12:((decide (e1=0)==decide (e2=0))=true):=by
     by_cases g:e1=0
     .rw[decide_eq_true g,decide_eq_true (k1.1 g)];rfl
     .rw[decide_eq_false g,decide_eq_false λk=>g (k1.2 k)];rfl
    have q3:(e3≠e3)=False:=eq_false (λh=>h rfl);have qq:∃vv,(if e3=0 then V.RB [mC PG,vI 0]else .RB [.aC,vI e3])=.RB [vv,vI e3]/\dy false vv=some (.int .i64 Z):=by
     by_cases g:e3=0
     .rw[if_pos g,<-hZ,if_pos g,g];exact⟨_,rfl,hlP⟩
     .rw[if_neg g,<-hZ,if_neg g];exact⟨_,rfl,rfl⟩
    obtain⟨vv,hvv,hlv⟩:=qq;rw[hvv];have qZ:((Z:Int)≠Z)=False:=eq_false (λh=>h rfl);have Sr:∀x:Bool,(x==x)=true:=λx=>by cases x<;>rfl
    have k1':decide (e2=0)=decide (e1=0):=decide_eq_decide.2 k1.symm;apply sR;simp only[go_sem,seval];refine ad.aB rfl rfl rfl (s3 _) ?_;by_cases g1:e1=0
    .have g2:=k1.1 g1;have w1:(e1=0)=True:=eq_true g1;have w2:(e2=0)=True:=eq_true g2;have w1n:(e1≠0)=False:=eq_false (λh=>h g1);apply sR;simp only[go_sem,seval,w1,w2,qX,q3,qZ,hlv,Sr];refine ad.aB rfl rfl rfl (s4 _) ?_;apply sR;simp only[go_sem,seval];refine ad.aB rfl rfl rfl (s5 _) ?_;by_cases g4:e4=0
     .have w4n:(e4≠0)=False:=eq_false (λh=>h g4);by_cases g5:e5=0
      .have w5n:(e5≠0)=False:=eq_false (λh=>h g5);have hk:=k5 g1 g4 g5;rw[if_pos g4,if_pos g5];rw[if_pos g1]at hX;subst hX;have hmin:(if(m4:Int)<m1 then(m4:Int)else m1)=((min m1 m4:Nat):Int):=by split<;>omega
       have w6:((m5:Int)>=((min m1 m4:Nat):Int))=True:=eq_true (by omega);apply sR;simp only[go_sem,seval,w1n,w4n,w5n,hmin,w6];refine ad.aB rfl rfl rfl (aw _) ?_;apply sR;simp only[go_sem,seval];exact ay.same rfl
      .have w5n:(e5≠0)=True:=eq_true g5;apply sR;simp only[go_sem,seval,w1n,w4n,w5n];refine ad.aB rfl rfl rfl (aw _) ?_;apply sR;simp only[go_sem,seval];exact ay.same rfl
     .have w4n:(e4≠0)=True:=eq_true g4;apply sR;simp only[go_sem,seval,w1n,w4n];refine ad.aB rfl rfl rfl (aw _) ?_;apply sR;simp only[go_sem,seval];exact ay.same rfl
    .have g2:=λk=>g1 (k1.2 k);have w1:(e1=0)=False:=eq_false g1;have w2:(e2=0)=False:=eq_false g2;have w1n:(e1≠0)=True:=eq_true g1;apply sR;simp only[go_sem,seval,w1,w2,qX,q3,qZ,hlv,Sr];refine ad.aB rfl rfl rfl (s4 _) ?_;apply sR;simp only[go_sem,seval];refine ad.aB rfl rfl rfl (s5 _) ?_;apply sR;simp only[go_sem,seval,w1n];refine ad.aB rfl rfl rfl (aw _) ?_;apply sR;simp only[go_sem,seval];exact ay.same rfl
end Go.Vc
