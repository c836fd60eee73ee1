import Derived.Test.YtompjkkmfibkiaaGreatW12
import Derived.Test.YtompjkkmfibkiaaGreatProg
import Derived.KernelRfl
set_option linter.all false
set_option maxHeartbeats 8000000
open Go.Proofs.Tryz
namespace Go.Vc
inductive Tr(α:Type) where
 |e
 |n (l:Tr α) (v:α) (r:Tr α)
def B3:Nat->Nat->List Bool
 |0,_=>[]
 |_+1,0=>[]
 |f+1,k+1=>Nat.beq (Nat.mod k 2) 0::B3 f (Nat.div k 2)
def pathOf(k:Nat):List Bool:=B3 (Nat.succ k) k
def Pv{α:Type}(d:α)(f:Nat):List Bool->Tr α->α:=
 @Nat.rec (λ_=>List Bool->Tr α->α) (λ_ _=>d)
  (λ_ ih p t=>@List.casesOn Bool (λ_=>α) p (@Tr.casesOn α (λ_=>α) t d (λ_ v _=>v))
    (λb p'=>@Tr.casesOn α (λ_=>α) t d (λl _ r=>ih p' (@Bool.casesOn (λ_=>Tr α) b r l)))) f
def nS{α:Type}(d:α)(k:Nat)(t:Tr α):α:=Pv d (Nat.succ k) (pathOf k) t
def Q9{α:Type}(d v:α)(f:Nat):List Bool->Tr α->Tr α:=
 @Nat.rec (λ_=>List Bool->Tr α->Tr α) (λ_ t=>t)
  (λ_ ih p t=>@List.casesOn Bool (λ_=>Tr α) p (@Tr.casesOn α (λ_=>Tr α) t (.n .e v .e) (λl _ r=>.n l v r))
    (λb p'=>@Tr.casesOn α (λ_=>Tr α) t (@Bool.casesOn (λ_=>Tr α) b (.n .e d (ih p' .e)) (.n (ih p' .e) d .e))
      (λl u r=>@Bool.casesOn (λ_=>Tr α) b (.n l u (ih p' r)) (.n (ih p' l) u r)))) f
def pk{α:Type}(d v:α)(k:Nat)(t:Tr α):Tr α:=Q9 d v (Nat.succ k) (pathOf k) t
structure CS where
 s:Tr V
 U:Tr (Option Ob)
 Ym:Nat
def CS.sf(cs:CS):Nat->V:=λi=>nS (.WC []) i cs.s
def stF(U:Tr (Option Ob)):ad:=λi=>nS none i U
def Wt(cs:CS)(d:Nat)(v:V):CS:=⟨pk (.WC []) v d cs.s,cs.U,cs.Ym⟩
def CS.put(cs:CS)(d:Option Nat)(v:V):CS:=@Option.casesOn Nat (λ_=>CS) d cs (λd=>Wt cs d v)
def eqQ:Int->Int->Bool
 |.ofNat m,.ofNat n=>Nat.beq m n
 |.negSucc m,.negSucc n=>Nat.beq m n
 |_,_=>false
def leQ:Int->Int->Bool
 |.ofNat m,.ofNat n=>Nat.ble m n
 |.negSucc _,.ofNat _=>true
 |.negSucc m,.negSucc n=>Nat.ble n m
 |.ofNat _,.negSucc _=>false
def S1:Int->Int->Int
 |.ofNat m,.ofNat n=>.ofNat (Nat.add m n)
 |a,b=>a+b
def Nt:Int->Int->Int
 |.ofNat m,.ofNat n=>@Bool.casesOn (λ_=>Int) (Nat.ble n m) (.negSucc (Nat.sub (Nat.sub n m) 1)) (.ofNat (Nat.sub m n))
 |a,b=>a-b
def NL:Int->Bool
 |.ofNat m=>Nat.ble m 9223372036854775807
 |.negSucc m=>Nat.ble m 9223372036854775807
def Ol(k:IntKind)(n:Int):Bool:=match k with
 |.i64=>NL n
 |k=>decide (k.wrap n=n)
def gI(k:IntKind)(n:Int):Option V:=@Bool.casesOn (λ_=>Option V) (Ol k n) none (some (.int k n))
def eqK(k k':IntKind):Bool:=decide (k=k')
def NT:IntKind->Bool
 |.i64=>true
 |_=>false
structure FI where
 f:IntKind->Int->Int->Option V
def qH(op:BinOp):FI:=
 match op with
 |.add=>⟨λk a b=>gI k (S1 a b)⟩
 |.sub=>⟨λk a b=>gI k (Nt a b)⟩
 |.mul=>⟨λk a b=>gI k (a*b)⟩
 |.quo=>⟨λk a b=>if b=0 then none else gI k (a.tdiv b)⟩
 |.rem=>⟨λk a b=>if b=0 then none else some (.int k (a.tmod b))⟩
 |.eql=>⟨λ_ a b=>some (.bool (eqQ a b))⟩
 |.neq=>⟨λ_ a b=>some (.bool (not (eqQ a b)))⟩
 |.lss=>⟨λ_ a b=>some (.bool (not (leQ b a)))⟩
 |.leq=>⟨λ_ a b=>some (.bool (leQ a b))⟩
 |.gtr=>⟨λ_ a b=>some (.bool (not (leQ a b)))⟩
 |.geq=>⟨λ_ a b=>some (.bool (leQ b a))⟩
 |.and=>⟨λk a b=>dT .and k a b⟩
 |.or=>⟨λk a b=>dT .or k a b⟩
 |.shl=>⟨λk a b=>dT .shl k a b⟩
 |.shr=>⟨λk a b=>dT .shr k a b⟩
 |_=>⟨λ_ _ _=>none⟩
def zT(op:BinOp)(a b:List UInt8):Option V:=
 match op with
 |.add=>@Bool.casesOn (λ_=>Option V) (Nat.ble (a.length+b.length) 9223372036854775807) none (some (.str (a++b)))
 |.eql=>some (.bool (decide (a=b)))
 |.neq=>some (.bool (decide (a≠b)))
 |_=>none
def G9(k k':IntKind):Bool:=@Bool.casesOn (λ_=>Bool) (NT k) (eqK k k') (NT k')
def PH(k:IntKind)(a:Int)(g:IntKind->Int->Int->Option V):V->Option V
 |.int k' b=>@Bool.casesOn (λ_=>Option V) (G9 k k') none (g k a b)
 |_=>none
def P9(op:BinOp)(a:List UInt8):V->Option V
 |.str b=>zT op a b
 |_=>none
def KW(op:BinOp)(g:IntKind->Int->Int->Option V)(y:V):V->Option V
 |.int k a=>PH k a g y
 |.str a=>P9 op a y
 |_=>none
def Sv:V->Option V
 |.int k a=>gI k (0-a)
 |_=>none
def MK(k:IntKind):V->Option V
 |.int _ a=>gI k a
 |_=>none
def QG:V->Option V
 |.bool b=>some (.bool (!b))
 |_=>none
def MD(a b:V):V->Option V
 |.bool t=>some (@Bool.casesOn (λ_=>V) t b a)
 |_=>none
def Bv:Int->Option Nat
 |.ofNat m=>some m
 |_=>none
def NR(U:Tr (Option Ob))(YY:Nat)(x i:V):Option V:=
 match x,i with
 |.own id off len,.int _ j=>match Bv j with
  |some m=>match nS none id U with
   |some ob=>@Bool.casesOn (λ_=>Option V) (Nat.beq ob.sz YY&&Nat.blt m len) none (some (.ptr id (Nat.add off m) 0))
   |none=>none
  |none=>none
 |.sl sz rows,.int _ j=>match Bv j with
  |some m=>@Bool.casesOn (λ_=>Option V) (Nat.beq sz YY) none (match rows[m]? with
   |some r=>some (.rp r)
   |none=>none)
  |none=>none
 |_,_=>none
def JX(U:Tr (Option Ob))(agg:Bool)(sz:Nat)(x:V):Option V:=
 match x with
 |.ptr id i k=>match nS none id U with
  |some ob=>match ob.rows[i]? with
   |some r=>match agg with
    |true=>@Bool.casesOn (λ_=>Option V) (Nat.beq k 0&&Nat.beq r.cells.length sz)
       (@Bool.casesOn (λ_=>Option V) (Nat.ble (Nat.add k sz) r.cells.length) none (some (.agg ((r.cells.drop k).take sz)))) (some (.agg r.cells))
    |false=>r.cells[k]?
   |none=>none
  |none=>none
 |x=>bO (stF U) agg sz x
def IC:V->V->Option V
 |.str s,.int _ j=>match Bv j with
  |some m=>match s[m]? with
   |some b=>some (.int .u8 (Int.ofNat b.toNat))
   |none=>none
  |none=>none
 |_,_=>none
structure Mk where
 var:Bool
 len:Nat
 gone:Option Nat
 ob:Ob
def R6(e sz:Nat)(x:V):Option Mk:=@Bool.casesOn (λ_=>Option Mk) (Nat.beq x.cells.length sz&&x.stays) none (some ⟨true,0,none,⟨e,sz,[x]⟩⟩)
def Eu(e sz:Nat)(xs:List V):Option Mk:=@Bool.casesOn (λ_=>Option Mk) (xs.all λx=>Nat.beq x.cells.length sz&&x.stays) none (some ⟨false,xs.length,none,⟨e,sz,xs⟩⟩)
def mkQ(e sz bytes:Nat)(z:V):V->Option Mk
 |.int k m=>match k with
  |.i64=>match Bv m with
   |some j=>@Bool.casesOn (λ_=>Option Mk) (Nat.ble (j*(bytes+1)) 140737488355328) none (some ⟨false,j,none,⟨e,sz,List.replicate j z⟩⟩)
   |none=>none
  |_=>none
 |_=>none
def Ew(U:Tr (Option Ob))(e sz bytes:Nat)(a b:V):Option Mk:=match bC (stF U) e sz a,bc (stF U) sz b with
 |some (base,idA),some src=>@Bool.casesOn (λ_=>Option Mk) (Nat.ble ((base.length+src.length)*(bytes+1)) 140737488355328) none (some ⟨false,base.length+src.length,idA,⟨e,sz,base++src⟩⟩)
 |_,_=>none
def zB(fl:Nat)(dst:Option Nat)(cs:CS)(m:Mk):Option CS:=
 match m.gone with
 |none=>some (CS.put ⟨cs.s,pk none (some m.ob) cs.Ym cs.U,Nat.succ cs.Ym⟩ dst (@Bool.casesOn (λ_=>V) m.var (.own cs.Ym 0 m.len) (.ptr cs.Ym 0 0)))
 |some d=>@Bool.casesOn (λ_=>Option CS) (Nat.ble fl d) none
    (some (CS.put ⟨cs.s,pk none (some m.ob) cs.Ym (pk none none d cs.U),Nat.succ cs.Ym⟩ dst (@Bool.casesOn (λ_=>V) m.var (.own cs.Ym 0 m.len) (.ptr cs.Ym 0 0))))
inductive Out where
 |nx (cs:CS)
 |ex (id:Nat) (cs:CS)
 |rt (cs:CS)
 |bad
structure Rs where
 v:V
 U:Tr (Option Ob)
 Ym:Nat
def mV:=FuncId->List V->Tr (Option Ob)->Nat->Nat->Option Rs
structure BI where
 f:mV->Nat->CS->Option CS
def kK(dst:Option Nat)(g:CS->Option V):BI:=⟨λ_ _ cs=>match g cs with
 |some v=>some (cs.put dst v)
 |none=>none⟩
def P5(dst:Option Nat)(x:VX):BI:=⟨λ_ _ cs=>some (cs.put dst (x.ev cs.sf))⟩
def CT(dst:Option Nat)(g:CS->Option Mk):BI:=⟨λ_ fl cs=>match g cs with
 |some m=>zB fl dst cs m
 |none=>none⟩
def De(dst:Option Nat)(cs:CS):Option Rs->Option CS
 |some r=>some (CS.put ⟨cs.s,r.U,r.Ym⟩ dst r.v)
 |none=>none
def zb(dst:Option Nat)(cs:CS):Option Rs->Option CS
 |some r=>@Bool.casesOn (λ_=>Option CS) r.v.fw none (some (cs.put dst r.v))
 |none=>none
def JS(draw:Bool)(dst:Option Nat)(fx:VX)(xs:List VX):BI:=match draw with
 |true=>⟨λcall _ cs=>match fx.ev cs.sf with
  |.fn f caps=>zb dst cs (call f (xs.map (·.ev cs.sf)++caps) cs.U cs.Ym cs.Ym)
  |_=>none⟩
 |false=>⟨λcall fl cs=>match fx.ev cs.sf with
  |.fn f caps=>De dst cs (call f (xs.map (·.ev cs.sf)++caps) cs.U cs.Ym fl)
  |_=>none⟩
def E3(dst:Option Nat)(fl sz:Nat)(xv:V)(cs:CS):V->Option CS
 |.ptr id i0 c=>@Bool.casesOn (λ_=>Option CS) (Nat.ble fl id) none (match nS none id cs.U with
  |some ob=>match ob.rows[i0]? with
   |some r=>match fo r c sz xv with
    |some r'=>some (CS.put ⟨cs.s,pk none (some ⟨ob.elem,ob.sz,ob.rows.set i0 r'⟩) id cs.U,cs.Ym⟩ dst (.WC []))
    |none=>none
   |none=>none
  |none=>none)
 |_=>none
def C6(dst:Option Nat)(sz:Nat)(xa xv:VX):BI:=⟨λ_ fl cs=>E3 dst fl sz (xv.ev cs.sf) cs (xa.ev cs.sf)⟩
def Dr(draw:Bool)(dst:Option Nat)(sz:Nat)(z:V)(xv:VX):BI:=⟨λ_ _ _=>none⟩
def lx(draw:Bool)(dst:Option Nat)(op:Xd):BI:=match op with
 |.mov x=>P5 dst x
 |.pick c a b=>kK dst λcs=>MD (a.ev cs.sf) (b.ev cs.sf) (c.ev cs.sf)
 |.bin op x y=>@FI.casesOn (λ_=>BI) (qH op) λg=>kK dst λcs=>KW op g (y.ev cs.sf) (x.ev cs.sf)
 |.not x=>kK dst λcs=>QG (x.ev cs.sf)
 |.neg x=>kK dst λcs=>Sv (x.ev cs.sf)
 |.convI k x=>kK dst λcs=>MK k (x.ev cs.sf)
 |.idxA YY x i=>kK dst λcs=>NR cs.U YY (x.ev cs.sf) (i.ev cs.sf)
 |.idxS x i=>kK dst λcs=>IC (x.ev cs.sf) (i.ev cs.sf)
 |.load agg sz x=>kK dst λcs=>JX cs.U agg sz (x.ev cs.sf)
 |.box e sz x=>CT dst λcs=>R6 e sz (x.ev cs.sf)
 |.alloc e sz z=>CT dst λ_=>some ⟨true,0,none,⟨e,sz,[z]⟩⟩
 |.gq e sz xs=>CT dst λcs=>Eu e sz (xs.map (·.ev cs.sf))
 |.mk e sz bytes z x=>CT dst λcs=>mkQ e sz bytes z (x.ev cs.sf)
 |.append e sz bytes a b=>CT dst λcs=>Ew cs.U e sz bytes (a.ev cs.sf) (b.ev cs.sf)
 |.call f xs=>JS draw dst f xs
 |.store sz a x=>C6 dst sz a x
 |.clear sz z x=>Dr draw dst sz z x
 |op=>kK dst λcs=>aD (stF cs.U) cs.sf op
def Jj(dst:Option Nat)(b:Bool)(B:BI)(call:mV)(fl:Nat)(cs:CS):V->Option CS
 |.bool c=>@Bool.casesOn (λ_=>Option CS) (Bool.xor c b) (B.f call fl cs) (some (cs.put dst (.WC [])))
 |.WC []=>some (cs.put dst (.WC []))
 |.int _ _=>some (cs.put dst (.WC []))
 |_=>none
def tE(draw:Bool)(i:aC):BI:=match i.g with
 |none=>lx draw i.dst i.op
 |some (x,b)=>⟨λcall fl cs=>Jj i.dst b (lx draw i.dst i.op) call fl cs (x.ev cs.sf)⟩
def nB(draw:Bool)(call:mV)(fl m:Nat):List aC->CS->Out:=
 @Nat.rec (λ_=>List aC->CS->Out) (λ_ _=>.bad)
  (λ_ ih l cs=>@List.casesOn aC (λ_=>Out) l (.nx cs)
    (λi l'=>@BI.casesOn (λ_=>Out) (tE draw i) λf=>@Option.casesOn CS (λ_=>Out) (f call fl cs) .bad (ih l'))) m
def G7(draw:Bool)(call:mV)(fl:Nat)(l:List aC)(cs:CS):Out:=nB draw call fl 1000 l cs
def Tr.ofL:List V->Nat->Tr V->Tr V
 |[],_,t=>t
 |v::l,k,t=>Tr.ofL l (Nat.succ k) (pk (.WC []) v k t)
def LL(res:List VR)(cs:CS):Option Rs:=match oT ⟨cs.sf,stF cs.U⟩ res with
 |some v=>some ⟨v,cs.U,cs.Ym⟩
 |none=>none
def QE(res:List VR):Out->Option Rs
 |.nx cs=>LL res cs
 |.rt cs=>LL res cs
 |_=>none
def evF(run:Nat->bN->CS->Out)(code:FuncId->Option P'):mV:=λf args U Ym fl=>match code f with
 |none=>none
 |some vf=>@Bool.casesOn (λ_=>Option Rs) (Nat.ble args.length vf.n) none (QE vf.res (run fl vf.code ⟨Tr.ofL args 0 .e,U,Ym⟩))
def Gw(o:Out)(k:CS->Out):Out:=@Out.casesOn (λ_=>Out) o k (λid cs=>.ex id cs) (λcs=>.rt cs) .bad
def Nj(id:Nat)(o:Out):Out:=@Out.casesOn (λ_=>Out) o (λcs=>.nx cs) (λj cs=>@Bool.casesOn (λ_=>Out) (Nat.beq j id) (.ex j cs) (.nx cs)) (λcs=>.rt cs) .bad
def onB(v:V)(a b:Out):Out:=match v with
 |.bool c=>@Bool.casesOn (λ_=>Out) c b a
 |_=>.bad
def evL(code:FuncId->Option P')(fuel:Nat):Nat->bN->CS->Out:=
 @Nat.rec (λ_=>Nat->bN->CS->Out) (λ_ _ _=>.bad)
  (λ_ ih fl c cs=>match c with
    |.skip=>.nx cs
    |.reg draw l=>G7 draw (evF ih code) fl l cs
    |.seq a b=>Gw (ih fl a cs) λYu=>ih fl b Yu
    |.cond c a b=>onB (c.ev cs.sf) (ih fl a cs) (ih fl b cs)
    |.block id a=>Nj id (ih fl a cs)
    |.loop a=>Gw (ih fl a cs) λYu=>ih fl (.loop a) Yu
    |.exit id=>.ex id cs
    |.ret=>.rt cs
    |.eN ..=>.bad
    |.regA ..=>.bad
    |.ua ..=>.bad
    |.bad=>.bad) fuel
def gL{α:Type}(d:α):List Bool->Tr α->α
 |_,.e=>d
 |[],.n _ v _=>v
 |b::p,.n l _ r=>gL d p (if b then l else r)
def sL{α:Type}(d v:α):List Bool->Tr α->Tr α
 |[],.e=>.n .e v .e
 |[],.n l _ r=>.n l v r
 |b::p,.e=>if b then .n (sL d v p .e) d .e else .n .e d (sL d v p .e)
 |b::p,.n l u r=>if b then .n (sL d v p l) u r else .n l u (sL d v p r)
def ui{α:Type}(d:α):∀(f:Nat) (p:List Bool) (t:Tr α),p.length<f->Pv d f p t=gL d p t
 |0,_,_,h=>by omega
 |f+1,[],t,_=>by cases t<;>rfl
 |f+1,b::p,t,h=>by
  cases t with
  |e=>rfl
  |n l u r=>
   have ih:=ui d f p (if b then l else r) (by simpa using h);cases b<;>exact ih
def Ai{α:Type}(d v:α):∀(f:Nat) (p:List Bool) (t:Tr α),p.length<f->Q9 d v f p t=sL d v p t
 |0,_,_,h=>by omega
 |f+1,[],t,_=>by cases t<;>rfl
 |f+1,b::p,t,h=>by
  have h':p.length<f:=by simpa using h
  cases t with
  |e=>cases b<;>simp only[sL,fO,if_false,if_true]<;>rw[<-Ai d v f p _ h']<;>rfl
  |n l u r=>cases b<;>simp only[sL,fO,if_false,if_true]<;>rw[<-Ai d v f p _ h']<;>rfl
def OK{α:Type}(d:α)(p:List Bool):gL d p .e=d:=by cases p<;>rfl
def ER{α:Type}(d v:α):∀(p q:List Bool) (t:Tr α),gL d q (sL d v p t)=if q=p then v else gL d q t
 |[],[],t=>by cases t<;>simp[sL,gL]
 |[],b::q,t=>by cases t<;>simp[sL,gL,OK]
 |a::p,[],t=>by cases t<;>cases a<;>simp[sL,gL]
 |a::p,b::q,t=>by
  cases t with
  |e=>
   have ih:=ER d v p q .e;cases a<;>cases b<;>simp[sL,gL,OK,ih]
  |n l u r=>
   have ihl:=ER d v p q l;have ihr:=ER d v p q r;cases a<;>cases b<;>simp[sL,gL,ihl,ihr]
def zW:List Bool->Nat
 |[]=>0
 |b::p=>2*zW p+(if b then 1 else 2)
def od:∀(f k:Nat),k<f->zW (B3 f k)=k
 |0,_,h=>by omega
 |f+1,0,_=>rfl
 |f+1,k+1,h=>by
  have ih:=od f (k/2) (by omega);have ih':zW (B3 f (k.div 2))=k/2:=ih;simp only[B3,zW,ih'];have h1:Nat.mod k 2=k%2:=rfl;by_cases hk:k%2=0
  .have:Nat.beq (Nat.mod k 2) 0=true:=by rw[h1,hk];rfl
   simp only[this,if_true];omega
  .have X6:k%2=1:=by omega
   have:Nat.beq (Nat.mod k 2) 0=false:=by rw[h1,X6];rfl
   simp only[this,fO,if_false];omega
def RX:∀p:List Bool,p.length<=zW p
 |[]=>Xc _
 |b::p=>by have:=RX p;simp only[YI,zW];split<;>omega
def mn(k:Nat):(pathOf k).length<k.succ:=by
 have h1:=RX (pathOf k);have h2:zW (pathOf k)=k:=od (k+1) k (by omega);omega
def DU{i k:Nat}(h:pathOf i=pathOf k):i=k:=by
 have h1:zW (pathOf i)=i:=od (i+1) i (by omega);have h2:zW (pathOf k)=k:=od (k+1) k (by omega);rw[<-h1,<-h2,h]
def qf{α:Type}(d v:α)(i k:Nat)(t:Tr α):nS d i (pk d v k t)=if i=k then v else nS d i t:=by
 unfold nS pk;rw[ui _ _ _ _ (mn i),ui _ _ _ _ (mn i),Ai _ _ _ _ _ (mn k),ER];by_cases h:i=k
 .simp[h]
 .rw[au h,au (λe=>h (DU e))]
def No{α:Type}(d:α)(i:Nat):nS d i .e=d:=by
 unfold nS;rw[ui _ _ _ _ (mn i),OK]
def Ok(cs:CS)(d:Option Nat)(v:V):(cs.put d v).sf=aO cs.sf d v:=by
 funext i;cases d with
 |none=>rfl
 |some d=>show nS _ i (pk _ v d cs.s)=_;rw[qf];rfl
def I6(cs:CS)(d:Option Nat)(v:V):(cs.put d v).U=cs.U/\(cs.put d v).Ym=cs.Ym:=by cases d<;>exact⟨rfl,rfl⟩
def zX(U:Tr (Option Ob))(k:Nat)(o:Ob):stF (pk none (some o) k U)=C' (stF U) k o:=by
 funext i;show nS none i _=_;rw[qf];rfl
def KF(U:Tr (Option Ob))(k:Nat):stF (pk none none k U)=del (stF U) k:=by
 funext i;show nS none i _=_;rw[qf];rfl
mutual
def aH(R:Nat->Nat->Prop):V->V->Prop
 |.own id off len,u=>∃YT,u=.own YT off len/\R id YT
 |.ptr id i k,u=>∃YT,u=.ptr YT i k/\R id YT
 |.sl sz rows,u=>∃WH,u=.sl sz WH/\aM R rows WH
 |.rp v,u=>∃v',u=.rp v'/\aH R v v'
 |.fn f caps,u=>∃caps',u=.fn f caps'/\aM R caps caps'
 |.bm f caps,u=>∃caps',u=.bm f caps'/\aM R caps caps'
 |.iface t v,u=>∃v',u=.iface t v'/\aH R v v'
 |.agg c,u=>∃c',u=.agg c'/\aM R c c'
 |.WC c,u=>∃c',u=.WC c'/\aM R c c'
 |.undef,u=>u=.undef
 |.int k n,u=>u=.int k n
 |.bool b,u=>u=.bool b
 |.str s,u=>u=.str s
 |.aB,u=>u=.aB
 |.nilp,u=>u=.nilp
 |.Ya,u=>u=.Ya
 |.XC,u=>u=.XC
 |.raw v,u=>u=.raw v
 |.obj v,u=>u=.obj v
 |.gp v,u=>u=.gp v
 |.yl v,u=>∃YT,u=.yl YT/\R v YT
 |.mp v,u=>u=.mp v
def aM(R:Nat->Nat->Prop):List V->List V->Prop
 |[],l=>l=[]
 |v::vs,l=>∃u us,l=u::us/\aH R v u/\aM R vs us
end
section
variable {R R':Nat->Nat->Prop}
mutual
def aH.mono(h:∀a b,R a b->R' a b):∀(v u:V),aH R v u->aH R' v u
 |.own id off len,u,g=>by simp only[aH]at g|-;obtain⟨i,e,r⟩:=g;exact⟨i,e,h _ _ r⟩
 |.ptr id i k,u,g=>by simp only[aH]at g|-;obtain⟨i,e,r⟩:=g;exact⟨i,e,h _ _ r⟩
 |.sl sz rows,u,g=>by simp only[aH]at g|-;obtain⟨i,e,r⟩:=g;exact⟨i,e,aM.mono h _ _ r⟩
 |.rp v,u,g=>by simp only[aH]at g|-;obtain⟨i,e,r⟩:=g;exact⟨i,e,aH.mono h _ _ r⟩
 |.fn f caps,u,g=>by simp only[aH]at g|-;obtain⟨i,e,r⟩:=g;exact⟨i,e,aM.mono h _ _ r⟩
 |.bm f caps,u,g=>by simp only[aH]at g|-;obtain⟨i,e,r⟩:=g;exact⟨i,e,aM.mono h _ _ r⟩
 |.iface t v,u,g=>by simp only[aH]at g|-;obtain⟨i,e,r⟩:=g;exact⟨i,e,aH.mono h _ _ r⟩
 |.agg c,u,g=>by simp only[aH]at g|-;obtain⟨i,e,r⟩:=g;exact⟨i,e,aM.mono h _ _ r⟩
 |.WC c,u,g=>by simp only[aH]at g|-;obtain⟨i,e,r⟩:=g;exact⟨i,e,aM.mono h _ _ r⟩
 |.undef,u,g=>by simpa[aH]using g
 |.int k n,u,g=>by simpa[aH]using g
 |.bool b,u,g=>by simpa[aH]using g
 |.str s,u,g=>by simpa[aH]using g
 |.aB,u,g=>by simpa[aH]using g
 |.nilp,u,g=>by simpa[aH]using g
 |.Ya,u,g=>by simpa[aH]using g
 |.XC,u,g=>by simpa[aH]using g
 |.raw v,u,g=>by simpa[aH]using g
 |.obj v,u,g=>by simpa[aH]using g
 |.gp v,u,g=>by simpa[aH]using g
 |.yl v,u,g=>by simp only[aH]at g|-;obtain⟨i,e,r⟩:=g;exact⟨i,e,h _ _ r⟩
 |.mp v,u,g=>by simpa[aH]using g
def aM.mono(h:∀a b,R a b->R' a b):∀(v u:List V),aM R v u->aM R' v u
 |[],u,g=>by simpa[aM]using g
 |v::vs,u,g=>by
  simp only[aM]at g|-;obtain⟨a,as1,e,r,rs⟩:=g;exact⟨a,as1,e,aH.mono h _ _ r,aM.mono h _ _ rs⟩
end
mutual
def iI:∀(v:V),v.fw=true->aH R v v
 |.own ..,g=>by simp[V.fw]at g
 |.ptr ..,g=>by simp[V.fw]at g
 |.sl sz rows,g=>by simp only[V.fw]at g;simp only[aH];exact⟨rows,rfl,gy rows g⟩
 |.rp v,g=>by simp only[V.fw]at g;simp only[aH];exact⟨v,rfl,iI v g⟩
 |.fn f caps,g=>by simp only[V.fw]at g;simp only[aH];exact⟨caps,rfl,gy caps g⟩
 |.bm f caps,g=>by simp only[V.fw]at g;simp only[aH];exact⟨caps,rfl,gy caps g⟩
 |.iface t v,g=>by simp only[V.fw]at g;simp only[aH];exact⟨v,rfl,iI v g⟩
 |.agg c,g=>by simp only[V.fw]at g;simp only[aH];exact⟨c,rfl,gy c g⟩
 |.WC c,g=>by simp only[V.fw]at g;simp only[aH];exact⟨c,rfl,gy c g⟩
 |.undef,_=>by simp[aH]
 |.int k n,_=>by simp[aH]
 |.bool b,_=>by simp[aH]
 |.str s,_=>by simp[aH]
 |.aB,_=>by simp[aH]
 |.nilp,_=>by simp[aH]
 |.Ya,_=>by simp[aH]
 |.XC,_=>by simp[aH]
 |.raw v,_=>by simp[aH]
 |.obj v,_=>by simp[aH]
 |.gp v,_=>by simp[aH]
 |.yl v,g=>by simp[V.fw]at g
 |.mp v,_=>by simp[aH]
def gy:∀(l:List V),gU l=true->aM R l l
 |[],_=>by simp[aM]
 |v::vs,g=>by
  simp only[gU,Ba]at g;simp only[aM];exact⟨v,vs,rfl,iI v g.1,gy vs g.2⟩
end
mutual
def ql:∀(v u:V),v.fw=true->aH R v u->u=v
 |.own ..,_,g,_=>by simp[V.fw]at g
 |.ptr ..,_,g,_=>by simp[V.fw]at g
 |.sl sz rows,u,g,h=>by simp only[V.fw]at g;simp only[aH]at h;obtain⟨r,rfl,h⟩:=h;rw[lT rows r g h]
 |.rp v,u,g,h=>by simp only[V.fw]at g;simp only[aH]at h;obtain⟨r,rfl,h⟩:=h;rw[ql v r g h]
 |.fn f caps,u,g,h=>by simp only[V.fw]at g;simp only[aH]at h;obtain⟨r,rfl,h⟩:=h;rw[lT caps r g h]
 |.bm f caps,u,g,h=>by simp only[V.fw]at g;simp only[aH]at h;obtain⟨r,rfl,h⟩:=h;rw[lT caps r g h]
 |.iface t v,u,g,h=>by simp only[V.fw]at g;simp only[aH]at h;obtain⟨r,rfl,h⟩:=h;rw[ql v r g h]
 |.agg c,u,g,h=>by simp only[V.fw]at g;simp only[aH]at h;obtain⟨r,rfl,h⟩:=h;rw[lT c r g h]
 |.WC c,u,g,h=>by simp only[V.fw]at g;simp only[aH]at h;obtain⟨r,rfl,h⟩:=h;rw[lT c r g h]
 |.undef,u,_,h=>by simpa[aH]using h
 |.int k n,u,_,h=>by simpa[aH]using h
 |.bool b,u,_,h=>by simpa[aH]using h
 |.str s,u,_,h=>by simpa[aH]using h
 |.aB,u,_,h=>by simpa[aH]using h
 |.nilp,u,_,h=>by simpa[aH]using h
 |.Ya,u,_,h=>by simpa[aH]using h
 |.XC,u,_,h=>by simpa[aH]using h
 |.raw v,u,_,h=>by simpa[aH]using h
 |.obj v,u,_,h=>by simpa[aH]using h
 |.gp v,u,_,h=>by simpa[aH]using h
 |.yl v,_,g,_=>by simp[V.fw]at g
 |.mp v,u,_,h=>by simpa[aH]using h
def lT:∀(l m:List V),gU l=true->aM R l m->m=l
 |[],m,_,h=>by simpa[aM]using h
 |v::vs,m,g,h=>by
  simp only[gU,Ba]at g;simp only[aM]at h;obtain⟨u,us,rfl,h1,h2⟩:=h;rw[ql v u g.1 h1,lT vs us g.2 h2]
end
def aM.j7{l:List V}:aM R [] l↔l=[]:=by simp[aM]
def aM.cZ{v:V}{vs l:List V}:aM R (v::vs) l↔∃u us,l=u::us/\aH R v u/\aM R vs us:=by simp[aM]
def aM.length:∀{l m:List V},aM R l m->m.length=l.length
 |[],_,h=>by rw[aM.j7]at h;simp[h]
 |v::vs,_,h=>by obtain⟨u,us,rfl,_,h2⟩:=aM.cZ.1 h;simp[h2.length]
def aM.get:∀{l m:List V},aM R l m->∀{i:Nat} {v:V},l[i]?=some v->∃u,m[i]?=some u/\aH R v u
 |[],_,_,i,v,hv=>by simp at hv
 |v::vs,_,h,i,x,hv=>by
  obtain⟨u,us,rfl,h1,h2⟩:=aM.cZ.1 h;cases i with
  |zero=>simp at hv;subst hv;exact⟨u,by simp,h1⟩
  |succ i=>simp at hv;simpa using h2.get hv
def aM.append:∀{l m l' m':List V},aM R l m->aM R l' m'->aM R (l++l') (m++m')
 |[],_,_,_,h,h'=>by rw[aM.j7]at h;subst h;simpa using h'
 |v::vs,_,_,_,h,h'=>by
  obtain⟨u,us,rfl,h1,h2⟩:=aM.cZ.1 h;exact aM.cZ.2 ⟨u,us++_,by simp,h1,h2.append h'⟩
def aM.take:∀{l m:List V},aM R l m->∀i,aM R (l.take i) (m.take i)
 |[],_,h,i=>by rw[aM.j7]at h;subst h;simp[aM]
 |v::vs,_,h,i=>by
  obtain⟨u,us,rfl,h1,h2⟩:=aM.cZ.1 h;cases i with
  |zero=>simp[aM]
  |succ i=>exact aM.cZ.2 ⟨u,us.take i,by simp,h1,h2.take i⟩
def aM.drop:∀{l m:List V},aM R l m->∀i,aM R (l.drop i) (m.drop i)
 |[],_,h,i=>by rw[aM.j7]at h;subst h;simp[aM]
 |v::vs,_,h,i=>by
  obtain⟨u,us,rfl,h1,h2⟩:=aM.cZ.1 h;cases i with
  |zero=>exact aM.cZ.2 ⟨u,us,by simp,h1,h2⟩
  |succ i=>simpa using h2.drop i
def aM.set:∀{l m:List V},aM R l m->∀(i:Nat) {v u:V},aH R v u->aM R (l.set i v) (m.set i u)
 |[],_,h,i,_,_,_=>by rw[aM.j7]at h;subst h;simp[aM]
 |v::vs,_,h,i,x,y,hx=>by
  obtain⟨u,us,rfl,h1,h2⟩:=aM.cZ.1 h;cases i with
  |zero=>exact aM.cZ.2 ⟨y,us,by simp,hx,h2⟩
  |succ i=>exact aM.cZ.2 ⟨u,us.set i y,by simp,h1,h2.set i hx⟩
def aM.replicate{v u:V}(h:aH R v u):∀n,aM R (List.replicate n v) (List.replicate n u)
 |0=>by simp[aM]
 |n+1=>aM.cZ.2 ⟨u,List.replicate n u,by simp[List.replicate_succ],h,aM.replicate h n⟩
def aM.one{v u:V}(h:aH R v u):aM R [v] [u]:=aM.cZ.2 ⟨u,[],rfl,h,by simp[aM]⟩
def aH.qo{k:IntKind}{n:Int}{u:V}:aH R (.int k n) u↔u=.int k n:=by simp[aH]
def aH.qE{b:Bool}{u:V}:aH R (.bool b) u↔u=.bool b:=by simp[aH]
def aH.DY{b:List UInt8}{u:V}:aH R (.str b) u↔u=.str b:=by simp[aH]
def aH.Ld{b:List V}{u:V}:aH R (.agg b) u↔∃c,u=.agg c/\aM R b c:=by simp[aH]
def aH.agg{l m:List V}(h:aM R l m):aH R (.agg l) (.agg m):=aH.Ld.2 ⟨m,rfl,h⟩
def aH.rp{l m:V}(h:aH R l m):aH R (.rp l) (.rp m):=by simp only[aH];exact⟨m,rfl,h⟩
def aH.cells{v u:V}(h:aH R v u):aM R v.cells u.cells:=by
 cases v<;>simp only[aH]at h
 case agg c=>obtain⟨c',rfl,h⟩:=h;simpa[V.cells]using h
 all_goals first
  |(subst h;exact aM.one (by simp[aH]))
  |(obtain⟨c,rfl,h⟩:=h;exact aM.one (by simp only[aH];exact⟨_,rfl,h⟩))
def aH.stays{v u:V}(h:aH R v u):u.stays=v.stays:=by
 cases v<;>simp only[aH]at h<;>first
  |(subst h;rfl)
  |(obtain⟨c,rfl,h⟩:=h;rfl)
end
def Lv(R:Nat->Nat->Prop)(Zc U:ad):Prop:=∀c a o,R c a->Zc c=some o->∃WH,U a=some ⟨o.elem,o.sz,WH⟩/\aM R o.rows WH
def Lv.sup{R:Nat->Nat->Prop}{Zc U Z1:ad}(h:Lv R Zc U)(hs:aa U Z1):Lv R Zc Z1:=λc a o hc ho=>by
 obtain⟨WH,h1,h2⟩:=h c a o hc ho;exact⟨WH,hs _ _ h1,h2⟩
structure pG(K:ad)(fl:Nat)(R:Nat->Nat->Prop)(Zc:ad)(Ym:Nat)(U:ad):Prop where
 dom:∀c a,R c a->c<Ym
 live:Lv R Zc U
 inj:∀c c' a o o',R c a->R c' a->Zc c=some o->Zc c'=some o'->c=c'
 fn:∀c a a',R c a->R c a'->a=a'
 nv:aa K U
 kfl:∀a o c oc,K a=some o->R c a->Zc c=some oc->c<fl
section
variable {R:Nat->Nat->Prop} {K Zc U:ad} {fl Ym:Nat}
def pG.write(h:pG K fl R Zc Ym U){c a:Nat}{o:Ob}(hc:R c a)(ho:Zc c=some o)(hf:fl<=c){rows WH:List V}(hr:aM R rows WH):
 pG K fl R (C' Zc c ⟨o.elem,o.sz,rows⟩) Ym (C' U a ⟨o.elem,o.sz,WH⟩):=by
 have hlive:∀i x,C' Zc c ⟨o.elem,o.sz,rows⟩ i=some x->∃y,Zc i=some y:=λi x hx=>by
  by_cases e:i=c
  .rw[e];exact⟨o,ho⟩
  .rw[ab e]at hx;exact⟨x,hx⟩
 refine⟨h.dom,?_,?_,?_,?_,?_⟩
 .intro c1 a1 o1 h1 h2;by_cases e:c1=c
  .subst e;have:a1=a:=h.fn c1 a1 a h1 hc;subst this;rw[af]at h2;simp only[aI]at h2;subst h2;exact⟨WH,af,hr⟩
  .rw[ab e]at h2;have WZ:a1≠a:=λe'=>by subst e';exact e (h.inj c1 c a1 o1 o h1 hc h2 ho)
   rw[ab WZ];exact h.live c1 a1 o1 h1 h2
 .intro c1 c2 a1 o1 o2 h1 h2 h3 h4;obtain⟨y,hy⟩:=hlive _ _ h3;obtain⟨z,hz⟩:=hlive _ _ h4;exact h.inj c1 c2 a1 y z h1 h2 hy hz
 .exact h.fn
 .intro i x hx;have WZ:i≠a:=λe=>by subst e;have:=h.kfl i x c o hx hc ho;omega
  rw[ab WZ];exact h.nv i x hx
 .intro a1 o1 c1 oc h1 h2 h3;obtain⟨y,hy⟩:=hlive _ _ h3;exact h.kfl a1 o1 c1 y h1 h2 hy
def pG.rem(h:pG K fl R Zc Ym U){c a:Nat}{o:Ob}(hc:R c a)(ho:Zc c=some o)(hf:fl<=c):
 pG K fl R (del Zc c) Ym (del U a):=by
 have hlive:∀i x,del Zc c i=some x->i≠c/\Zc i=some x:=λi x hx=>by
  by_cases e:i=c
  .subst e;simp[Vc.del]at hx
  .rw[cA e]at hx;exact⟨e,hx⟩
 refine⟨h.dom,?_,?_,?_,?_,?_⟩
 .intro c1 a1 o1 h1 h2;obtain⟨e,h2⟩:=hlive _ _ h2;have WZ:a1≠a:=λe'=>by subst e';exact e (h.inj c1 c a1 o1 o h1 hc h2 ho)
  rw[cA WZ];exact h.live c1 a1 o1 h1 h2
 .intro c1 c2 a1 o1 o2 h1 h2 h3 h4;exact h.inj c1 c2 a1 o1 o2 h1 h2 (hlive _ _ h3).2 (hlive _ _ h4).2
 .exact h.fn
 .intro i x hx;have WZ:i≠a:=λe=>by subst e;have:=h.kfl i x c o hx hc ho;omega
  rw[cA WZ];exact h.nv i x hx
 .intro a1 o1 c1 oc h1 h2 h3;exact h.kfl a1 o1 c1 oc h1 h2 (hlive _ _ h3).2
def ext(R:Nat->Nat->Prop)(c a:Nat):Nat->Nat->Prop:=λx y=>R x y\/(x=c/\y=a)
def zp(c a:Nat):∀x y,R x y->ext R c a x y:=λ_ _ h=>.inl h
def pG.new(h:pG K fl R Zc Ym U){i:Nat}(hi:U i=none){ob:Ob}{WH:List V}(hr:aM R ob.rows WH):
 pG K fl (ext R Ym i) (C' Zc Ym ob) (Ym+1) (C' U i ⟨ob.elem,ob.sz,WH⟩):=by
 have B':∀c a,R c a->c≠Ym:=λc a hc=>by have:=h.dom c a hc;omega
 have hold:∀c a o,R c a->C' Zc Ym ob c=some o->Zc c=some o/\a≠i:=λc a o hc ho=>by
  rw[ab (B' c a hc)]at ho;refine⟨ho,λe=>?_⟩;subst e;obtain⟨r,hr,_⟩:=h.live c a o hc ho;rw[hi]at hr;cases hr
 refine⟨?_,?_,?_,?_,h.nv.C' hi,?_⟩
 .rintro c a (hc|⟨rfl,rfl⟩)
  .have:=h.dom c a hc;omega
  .omega
 .rintro c a o (hc|⟨rfl,rfl⟩) ho
  .obtain⟨h1,h2⟩:=hold c a o hc ho;obtain⟨r,h3,h4⟩:=h.live c a o hc h1;rw[ab h2];exact⟨r,h3,aM.mono (zp Ym i) _ _ h4⟩
  .rw[af]at ho;simp only[aI]at ho;subst ho;exact⟨WH,af,aM.mono (zp _ _) _ _ hr⟩
 .rintro c c' a o o' (hc|⟨rfl,rfl⟩) (hc'|⟨rfl,e⟩) ho ho'
  .exact h.inj c c' a o o' hc hc' (hold _ _ _ hc ho).1 (hold _ _ _ hc' ho').1
  .exact absurd e (hold _ _ _ hc ho).2
  .exact absurd rfl (hold _ _ _ hc' ho').2
  .rfl
 .rintro c a a' (hc|⟨rfl,rfl⟩) (hc'|⟨e,rfl⟩)
  .exact h.fn c a a' hc hc'
  .exact absurd e (B' _ _ hc)
  .exact absurd rfl (B' _ _ hc')
  .rfl
 .rintro a o c oc hk (hc|⟨rfl,rfl⟩) ho
  .exact h.kfl a o c oc hk hc (hold _ _ _ hc ho).1
  .have:=h.nv a o hk;rw[hi]at this;cases this
def okX:VX->Bool
 |.t _=>true
 |.c v=>v.fw
def tR(op:Xd):Bool:=op.xs.all okX&&(match op with
 |.alloc _ _ z=>z.fw
 |.build zero _=>gU zero
 |.clear _ z _=>z.fw
 |.mk _ _ _ z _=>z.fw
 |.more _ _|.neg _|.cap _|.fld _ _ _ _|.idxAA _ _ _ _ _|.idxV _ _ _ _ _|.slice _ _ _ _ _|.sliceS _ _ _|.mkfn _ _|.nilCheck _|.binB _ _ _|.eqS _ _ _ _=>false
 |_=>true)
def qm(i:aC):Bool:=tR i.op&&(match i.g with
 |some (x,_)=>okX x
 |none=>true)
def jt:bN->Bool
 |.reg _ l=>l.all qm
 |.seq a b=>jt a&&jt b
 |.cond c a b=>okX c&&(jt a&&jt b)
 |.block _ a=>jt a
 |.loop a=>jt a
 |_=>true
def Ey:VR->Bool
 |.tmp x=>okX x
 |.cell _ _ x=>okX x
 |.bad=>true
def Ou(f:P'):Bool:=jt f.code&&f.res.all Ey
variable {s s':Nat->V}
def gV(hs:∀i,aH R (s i) (s' i)){x:VX}(hx:okX x=true):aH R (x.ev s) (x.ev s'):=by
 cases x with
 |t n=>exact hs n
 |c v=>exact iI v hx
def uG(hs:∀i,aH R (s i) (s' i)):∀{xs:List VX},xs.all okX=true->aM R (xs.map (·.ev s)) (xs.map (·.ev s'))
 |[],_=>by simp[aM]
 |x::xs,h=>by
  simp only[oS,Ba]at h;exact aM.cZ.2 ⟨_,_,rfl,gV hs h.1,uG hs h.2⟩
def Ck{op:BinOp}{k:IntKind}{a b:Int}{v:V}(h:dT op k a b=some v):v.fw=true:=by
 unfold dT at h;split at h<;>first
  |(simp only[aI]at h;subst h;rfl)
  |(split at h<;>first|(simp only[aI]at h;subst h;rfl)|cases h)
  |cases h
def CE{op:BinOp}{a b:List UInt8}{v:V}(h:p7 op a b=some v):v.fw=true:=by
 unfold p7 at h;split at h<;>first
  |(simp only[aI]at h;subst h;rfl)
  |cases h
def HP{op:BinOp}{a b a' b' v:V}(ha:aH R a a')(hb:aH R b b')(h:xP op a b=some v):a'=a/\b'=b/\v.fw=true:=by
 unfold xP at h;split at h
 .simp only[aH]at ha hb;split at h
  .exact⟨ha,hb,Ck h⟩
  .cases h
 .simp only[aH]at ha hb;exact⟨ha,hb,CE h⟩
 .cases h
def JR{b:Bool}{x x' v:V}(hx:aH R x x')(h:dv b x=some v):∃v',dv b x'=some v'/\aH R v v':=by
 unfold dv at h;split at h<;>simp only[aI,reduceCtorEq]at h<;>simp only[aH]at hx<;>subst h
 .obtain⟨i,rfl,_⟩:=hx;exact⟨_,rfl,by simp[aH]⟩
 .obtain⟨i,rfl,hr⟩:=hx;exact⟨_,rfl,by simp[aH,hr.length]⟩
 .subst hx;exact⟨_,rfl,by simp[aH]⟩
 .subst hx;exact⟨_,rfl,by simp[aH]⟩
def yY{agg:Bool}{off sz:Nat}{vs us:List V}{v:V}(h:aM R vs us)(hv:cP agg off sz vs=some v):∃v',cP agg off sz us=some v'/\aH R v v':=by
 unfold cP at hv|-;cases agg
 .simpa using h.get hv
 .simp only[if_true,aI]at hv|-;subst hv;exact⟨_,rfl,aH.agg ((h.drop off).take sz)⟩
def FW{agg:Bool}{off sz:Nat}{x x' v:V}(hx:aH R x x')(h:jg agg off sz x=some v):∃v',jg agg off sz x'=some v'/\aH R v v':=by
 unfold jg at h;split at h
 .simp only[aH]at hx;obtain⟨i,rfl,hr⟩:=hx;simp only[aI]at h;subst h;exact⟨_,rfl,by simp only[aH];exact⟨i,rfl,hr⟩⟩
 .simp only[aH]at hx;obtain⟨u,rfl,hr⟩:=hx;simp only[Zq8]at h;obtain⟨w,hw,rfl⟩:=h;obtain⟨w',h1,h2⟩:=yY hr.cells hw;exact⟨.rp w',by simp[jg,h1],aH.rp h2⟩
 .cases h
def Fq(hm:Lv R Zc U){YY:Nat}{x i x' i' v:V}(hx:aH R x x')(hi:aH R i i')(h:bp Zc YY x i=some v):∃v',bp U YY x' i'=some v'/\aH R v v':=by
 unfold bp at h;split at h
 .simp only[aH]at hx hi;obtain⟨a,rfl,ha⟩:=hx;subst hi;split at h
  .rename_i ob XL;obtain⟨WH,h1,h2⟩:=hm _ _ _ ha XL;split at h
   .rename_i hc;simp only[aI]at h;subst h;refine⟨_,?_,by simp only[aH];exact⟨a,rfl,ha⟩⟩;simp only[bp,h1];rw[ak hc]
   .cases h
  .cases h
 .simp only[aH]at hx hi;obtain⟨WH,rfl,hr⟩:=hx;subst hi;split at h
  .rename_i hc;split at h
   .rename_i r hrr;simp only[aI]at h;subst h;obtain⟨u,h1,h2⟩:=hr.get hrr;refine⟨.rp u,?_,aH.rp h2⟩;simp only[bp,h1];rw[ak hc]
   .cases h
  .cases h
 .cases h
def FD{x i x' i' v:V}(hx:aH R x x')(hi:aH R i i')(h:l7 x i=some v):∃v',l7 x' i'=some v'/\aH R v v':=by
 have h0:=h;unfold l7 at h;split at h
 .rw[aH.DY]at hx;rw[aH.qo]at hi;subst hx hi;refine⟨v,h0,?_⟩;split at h
  .split at h
   .simp only[aI]at h;subst h;simp[aH]
   .cases h
  .cases h
 .cases h
def yy(hm:Lv R Zc U){agg:Bool}{sz:Nat}{x x' v:V}(hx:aH R x x')(h:bO Zc agg sz x=some v):∃v',bO U agg sz x'=some v'/\aH R v v':=by
 unfold bO at h;split at h
 .simp only[aH]at hx;obtain⟨a,rfl,ha⟩:=hx;split at h
  .rename_i ob XL;obtain⟨WH,h1,h2⟩:=hm _ _ _ ha XL;split at h
   .rename_i r hr;obtain⟨r',h3,h4⟩:=h2.get hr;have hl:=h4.cells.length;simp only[bO,h1,h3,hl];cases agg
    .simp only[fO,if_false]at h|-;exact h4.cells.get h
    .simp only[if_true]at h|-;split at h
     .rename_i hc;simp only[aI]at h;subst h;exact⟨_,by rw[ak hc],aH.agg h4.cells⟩
     .split at h
      .rename_i hc hc';rw[au hc,ak hc'];simp only[aI]at h;subst h;exact⟨_,rfl,aH.agg ((h4.cells.drop _).take _)⟩
      .cases h
   .cases h
  .cases h
 .simp only[aH]at hx;obtain⟨u,rfl,hr⟩:=hx;rename_i w;have hl:=hr.cells.length;cases agg
  .simp only[fO,if_false]at h;split at h
   .cases h
   .simp only[aI]at h;subst h;rename_i hna;refine⟨u,?_,hr⟩;cases u<;>simp only[bO,fO,if_false];cases w<;>simp only[aH]at hr<;>simp at hr hna
  .simp only[if_true]at h;split at h
   .rename_i hc;simp only[aI]at h;subst h;refine⟨_,?_,aH.agg hr.cells⟩;simp only[bO,hl,if_true];rw[ak hc]
   .cases h
 .cases h
def Be{m:Bool}{x y x' y' v:V}(hx:aH R x x')(hy:aH R y y')(h:mz m x y=some v):∃v',mz m x' y'=some v'/\aH R v v':=by
 have h0:=h;unfold mz at h;split at h
 .rw[aH.qo]at hx hy;subst hx hy;refine⟨v,h0,?_⟩;split at h
  .simp only[aI]at h;subst h;simp[aH]
  .cases h
 .cases h
def tc:∀{l m:List V} {b:List UInt8},aM R l m->bytesOf l=some b->m=l
 |[],_,_,h,_=>by rw[aM.j7]at h;exact h
 |v::vs,_,b,h,hb=>by
  obtain⟨u,us,rfl,g1,g2⟩:=aM.cZ.1 h;simp only[bytesOf]at hb;split at hb
  .rename_i e1 e2;rw[tc g2 e2];cases v<;>simp[byteOf]at e1;rw[aH.qo]at g1;rw[g1]
  .cases hb
def DS(hm:Lv R Zc U){x x' v:V}(hx:aH R x x')(h:kJ Zc x=some v):∃v',kJ U x'=some v'/\aH R v v':=by
 unfold kJ at h;split at h
 .simp only[aH]at hx;subst hx;simp only[aI]at h;subst h;exact⟨_,rfl,by simp[aH]⟩
 .simp only[aH]at hx;obtain⟨a,rfl,ha⟩:=hx;split at h
  .rename_i ob XL;obtain⟨WH,h1,h2⟩:=hm _ _ _ ha XL;split at h
   .rename_i hc;simp only[Zq8]at h;obtain⟨l,hl,rfl⟩:=h;have e:=tc ((h2.drop _).take _) hl;refine⟨_,?_,aH.DY.2 rfl⟩;simp only[kJ,h1,h2.length,e,hl,Option.map_some];rw[ak hc]
   .cases h
  .cases h
 .cases h
def Ih{i:Nat}{x x' v:V}(hx:aH R x x')(h:FU i x=some v):∃v',FU i x'=some v'/\aH R v v':=by
 unfold FU at h;split at h
 .simp only[aH]at hx;obtain⟨c,rfl,hr⟩:=hx;exact hr.get h
 .cases h
def kG(R:Nat->Nat->Prop):List (Nat×Nat×V)->List (Nat×Nat×V)->Prop
 |[],l=>l=[]
 |p::ps,l=>∃u us,l=(p.1,p.2.1,u)::us/\aH R p.2.2 u/\kG R ps us
def xj:∀{ps ps':List (Nat×Nat×V)} {z z' l:List V},aM R z z'->kG R ps ps'->j1 z ps=some l->∃l',j1 z' ps'=some l'/\aM R l l'
 |[],_,z,z',l,hz,hp,h=>by
  simp only[kG]at hp;subst hp;simp only[j1,aI]at h;subst h;exact⟨_,rfl,hz⟩
 |(off,sz,x)::ps,_,z,z',l,hz,hp,h=>by
  simp only[kG]at hp;obtain⟨u,us,rfl,h1,h2⟩:=hp;simp only[j1]at h|-;split at h
  .rename_i hc;rw[ak ⟨by rw[h1.cells.length];exact hc.1,by rw[h1.stays];exact hc.2.1,by rw[hz.length];exact hc.2.2⟩];refine xj ?_ h2 h;unfold eP;rw[h1.cells.length];exact((hz.take _).append h1.cells).append (hz.drop _)
  .cases h
def Fw(hm:Lv R Zc U)(hs:∀i,aH R (s i) (s' i)){op:Xd}(WB:tR op=true){v:V}(hp:eD s op)(h:aD Zc s op=some v):
 eD s' op/\∃v',aD U s' op=some v'/\aH R v v':=by
 have hok':=WB;simp only[tR,Ba]at WB;have hx:=fC.1 WB.1;have E:∀x,x∈op.xs->aH R (x.ev s) (x.ev s'):=λx h=>gV hs (hx x h);cases op<;>simp only[Xd.xs,dJ,List.not_mem_nil,or_false,forall_eq_or_imp,forall_eq,dH]at E<;>simp only[aD,eD,aI,reduceCtorEq,true_and]at h hp|-
 case mov=>subst h;exact⟨_,rfl,E⟩
 case pick c a b=>
  split at h
  .rename_i t ht;have:=E.1;rw[ht,aH.qE]at this;rw[this];simp only[aI]at h|-;subst h;refine⟨_,rfl,?_⟩;cases t
   .exact E.2.2
   .exact E.2.1
  .cases h
 case bin op x y=>
  obtain⟨e1,e2,e3⟩:=HP E.1 E.2 h;rw[e1,e2];exact⟨hp,v,h,iI v e3⟩
 case not x=>
  split at h
  .rename_i b hb;rw[hb,aH.qE]at E;rw[E];simp only[aI]at h|-;subst h;exact⟨_,rfl,by simp[aH]⟩
  .cases h
 case len=>exact JR E h
 case fldA=>exact FW E h
 case idxA=>exact Fq hm E.1 E.2 h
 case idxS=>exact FD E.1 E.2 h
 case load=>exact yy hm E h
 case ext=>exact Ih E h
 case convI k x=>
  split at h
  .rename_i k' b hb;rw[hb]at hp;rw[hb,aH.qo]at E;rw[E];simp only[aI]at h|-;subst h;exact⟨hp,_,rfl,by simp[aH]⟩
  .cases h
 case minmax=>exact Be E.1 E.2 h
 case bstr=>exact DS hm E h
 case build zero parts=>
  simp only[Zq8]at h;obtain⟨l,hl,rfl⟩:=h;have hpr:∀ps:List (Nat×Nat×VX),(∀p∈ps,okX p.2.2=true)->kG R (ps.map λp=>(p.1,p.2.1,p.2.2.ev s)) (ps.map λp=>(p.1,p.2.1,p.2.2.ev s')):=by
   intro ps
   induction ps with
   |nil=>intro _;simp[kG]
   |cons p ps ih=>
    intro hps;simp only[eV,kG];exact⟨_,_,rfl,gV hs (hps p (by simp)),ih λq hq=>hps q (by simp[hq])⟩
  obtain⟨l',h1,h2⟩:=xj (gy zero WB.2) (hpr parts λp hp=>hx _ (by simp only[Xd.xs,gb];exact⟨p,hp,rfl⟩)) hl;exact⟨.agg l',by rw[h1];rfl,aH.agg h2⟩
 all_goals exact absurd WB.2 Bool.false_ne_true
end
variable {R:Nat->Nat->Prop} {K:ad} {fl:Nat} {P:Program} {n:Nat}
structure gK(K:ad)(fl:Nat)(R:Nat->Nat->Prop)(cs:CS)(st:St):Prop where
 slot:∀i,aH R (cs.sf i) (st.s i)
 mem:pG K fl R (stF cs.U) cs.Ym st.U
def FX{s s':Nat->V}(h:∀i,aH R (s i) (s' i)){d:Option Nat}{v u:V}(hv:aH R v u):∀i,aH R (aO s d v i) (aO s' d u i):=by
 intro i;cases d with
 |none=>exact h i
 |some d=>
  show aH R (if i=d then v else s i) (if i=d then u else s' i);split
  .exact hv
  .exact h i
def gK.put{cs:CS}{st:St}(h:gK K fl R cs st){d:Option Nat}{v u:V}(hv:aH R v u):gK K fl R (cs.put d v) ⟨aO st.s d u,st.U⟩:=by
 refine⟨?_,?_⟩
 .rw[Ok];exact FX h.slot hv
 .rw[(I6 cs d v).1,(I6 cs d v).2];exact h.mem
def aH.M8:aH R (.WC []) (.WC []):=by simp[aH,aM]
def M7(a b:Int):eqQ a b=decide (a=b):=by
 cases a<;>cases b<;>rw[Bool.eq_iff_iff]<;>simp[eqQ]<;>first|rfl|omega
def NK(a b:Int):leQ a b=decide (a<=b):=by
 cases a<;>cases b<;>rw[Bool.eq_iff_iff]<;>simp only[leQ,Nat.ble_eq,YX,fO,false_iff,true_iff,Int.ofNat_eq_natCast]<;>omega
def Lu(a b:Int):S1 a b=a+b:=by cases a<;>cases b<;>rfl
def LG(a b:Int):Nt a b=a-b:=by
 cases a<;>cases b<;>simp only[Nt];rename_i m k;cases h:Nat.ble k m
 .have:¬k<=m:=by rw[<-Nat.ble_eq];simp[h]
  simp only[Nat.sub_eq,Int.ofNat_eq_natCast];omega
 .have:k<=m:=zx h;simp only[Nat.sub_eq,Int.ofNat_eq_natCast];omega
def Ke{a:Int}(h:NL a=true):WI .i64 a:=by
 cases a<;>simp only[NL,Nat.ble_eq]at h
 .rw[Int.ofNat_eq_natCast];exact ae
 .exact ae
def LD{k:IntKind}{a:Int}(h:Ol k a=true):WI k a:=by
 unfold Ol at h;split at h
 .exact Ke h
 .simpa[WI]using h
def j4{α:Type}{b:Bool}{x y:α}:@Bool.casesOn (λ_=>α) b x y=if b then y else x:=by cases b<;>rfl
def L6{α:Type}{b:Bool}{x y:α}:@Bool.rec (λ_=>α) x y b=if b then y else x:=by cases b<;>rfl
def yz{k:IntKind}{a:Int}{v:V}(h:gI k a=some v):v=.int k a/\WI k a:=by
 unfold gI at h;rw[j4]at h;split at h
 .rename_i hi;simp only[aI]at h;exact⟨h.symm,LD hi⟩
 .cases h
def Di{op:BinOp}{k:IntKind}{a b:Int}{v:V}(h:(qH op).f k a b=some v):gW op k a b/\dT op k a b=some v:=by
 unfold qH at h;split at h<;>simp only[]at h
 .obtain⟨rfl,h2⟩:=yz h;rw[Lu]at*;exact⟨h2,rfl⟩
 .obtain⟨rfl,h2⟩:=yz h;rw[LG]at*;exact⟨h2,rfl⟩
 .obtain⟨rfl,h2⟩:=yz h;exact⟨h2,rfl⟩
 .split at h
  .cases h
  .rename_i hb;obtain⟨rfl,h2⟩:=yz h;exact⟨h2,by simp[dT,hb]⟩
 .split at h
  .cases h
  .rename_i hb;simp only[aI]at h;subst h;exact⟨trivial,by simp[dT,hb]⟩
 all_goals first
  |exact⟨trivial,h⟩
  |(simp only[aI]at h;subst h;refine⟨trivial,?_⟩;simp only[M7,NK,dT,aI,V.bool.injEq];try (rw[Bool.eq_iff_iff];simp))
  |cases h
def DL{op:BinOp}{a b:List UInt8}{v:V}(h:zT op a b=some v):vq op a b/\p7 op a b=some v:=by
 unfold zT at h;split at h
 .rw[j4]at h;split at h
  .rename_i hb;simp only[aI]at h;subst h;exact⟨zx hb,rfl⟩
  .cases h
 .exact⟨trivial,h⟩
 .exact⟨trivial,h⟩
 .cases h
def IM{k k':IntKind}(h:G9 k k'=true):k=k':=by
 unfold G9 at h;rw[j4]at h;cases k<;>cases k'<;>simp_all [NT,eqK]
def KK{op:BinOp}{x y v:V}(h:KW op (qH op).f y x=some v):pQ op x y/\xP op x y=some v:=by
 unfold KW at h;split at h
 .unfold PH at h;split at h
  .rw[j4]at h;split at h
   .rename_i hk;have:=IM hk;subst this;obtain⟨h1,h2⟩:=Di h;exact⟨h1,by simp[xP,h2]⟩
   .cases h
  .cases h
 .unfold P9 at h;split at h
  .exact DL h
  .cases h
 .cases h
def JZ{U:Tr (Option Ob)}{YY:Nat}{x i v:V}(h:NR U YY x i=some v):bp (stF U) YY x i=some v:=by
 unfold NR at h;split at h
 .split at h
  .rename_i m hm;have hj:=hm;unfold Bv at hm;split at hm
   .simp only[aI]at hm;subst hm;split at h
    .rename_i ob XL;rw[j4]at h;split at h
     .rename_i hc;simp only[Ba,Nat.beq_eq,Nat.blt_eq]at hc;have e:stF U _=some ob:=XL;simp only[bp,e];rw[ak ⟨hc.1,by simp,by simpa using hc.2⟩];exact h
     .cases h
    .cases h
   .cases hm
  .cases h
 .split at h
  .rename_i m hm;unfold Bv at hm;split at hm
   .simp only[aI]at hm;subst hm;rw[j4]at h;split at h
    .rename_i hc;rw[Nat.beq_eq]at hc;simp only[bp];rw[ak ⟨hc,by simp⟩];exact h
    .cases h
   .cases hm
  .cases h
 .cases h
def Je{x i v:V}(h:IC x i=some v):l7 x i=some v:=by
 unfold IC at h;split at h
 .split at h
  .rename_i m hm;unfold Bv at hm;split at hm
   .simp only[aI]at hm;subst hm;simp only[l7];rw[ak (by simp)];exact h
   .cases hm
  .cases h
 .cases h
def JU{U:Tr (Option Ob)}{agg:Bool}{sz:Nat}{x v:V}(h:JX U agg sz x=some v):bO (stF U) agg sz x=some v:=by
 unfold JX at h;split at h
 .split at h
  .rename_i ob XL;have e:stF U _=some ob:=XL;split at h
   .rename_i r hr;simp only[bO,e,hr];split at h
    .rw[j4,j4]at h;simp only[if_true];split at h
     .rename_i hc;simp only[Ba,Nat.beq_eq]at hc;rw[ak hc];exact h
     .rename_i hc;split at h
      .rename_i hc';rw[au (by simpa using hc),ak (show _+sz<=_ from zx hc')];exact h
      .cases h
    .simpa using h
   .cases h
  .cases h
 .exact h
def yC{draw:Bool}{call:mV}{dst:Option Nat}{op:Xd}{cs Yu:CS}{st:St}(hk:aZ op=0)(WB:tR op=true)(h:gK K fl R cs st)
 (hr:(lx draw dst op).f call fl cs=some Yu):∃v',eD st.s op/\aD st.U st.s op=some v'/\gK K fl R Yu ⟨aO st.s dst v',st.U⟩:=by
 have key:∃v,eD cs.sf op/\aD (stF cs.U) cs.sf op=some v/\Yu=cs.put dst v:=by
  have hp:∀(g:CS->Option V),(kK dst g).f call fl cs=some Yu->∃v,g cs=some v/\Yu=cs.put dst v:=by
   intro g hg;simp only[kK]at hg;split at hg
   .rename_i v hv;simp only[aI]at hg;exact⟨v,hv,hg.symm⟩
   .cases hg
  cases op<;>simp only[aZ,reduceCtorEq,Nat.reduceEqDiff]at hk<;>simp only[lx]at hr
  case mov x=>
   simp only[P5,aI]at hr;exact⟨_,trivial,rfl,hr.symm⟩
  case bin op x y=>
   have hr':(kK dst λcs=>KW op (qH op).f (y.ev cs.sf) (x.ev cs.sf)).f call fl cs=some Yu:=hr;obtain⟨v,h1,h2⟩:=hp _ hr';obtain⟨h3,h4⟩:=KK h1;exact⟨v,h3,h4,h2⟩
  case pick c a b=>
   obtain⟨v,h1,h2⟩:=hp _ hr;refine⟨v,trivial,?_,h2⟩;simp only[aD];unfold MD at h1;split at h1
   .rename_i t ht;rw[j4]at h1;rw[ht];exact h1
   .cases h1
  case not x=>
   obtain⟨v,h1,h2⟩:=hp _ hr;refine⟨v,trivial,?_,h2⟩;simp only[aD];unfold QG at h1;split at h1
   .rename_i t ht;rw[ht];exact h1
   .cases h1
  case neg x=>
   obtain⟨v,h1,h2⟩:=hp _ hr;unfold Sv at h1;split at h1
   .rename_i k t ht;obtain⟨h3,h4⟩:=yz h1;exact⟨v,by simp only[eD,ht];exact h4,by simp only[aD,ht,h3],h2⟩
   .cases h1
  case convI k x=>
   obtain⟨v,h1,h2⟩:=hp _ hr;unfold MK at h1;split at h1
   .rename_i k t ht;obtain⟨h3,h4⟩:=yz h1;exact⟨v,by simp only[eD,ht];exact h4,by simp only[aD,ht,h3],h2⟩
   .cases h1
  case idxA=>obtain⟨v,h1,h2⟩:=hp _ hr;exact⟨v,trivial,JZ h1,h2⟩
  case idxS=>obtain⟨v,h1,h2⟩:=hp _ hr;exact⟨v,trivial,Je h1,h2⟩
  case load=>obtain⟨v,h1,h2⟩:=hp _ hr;exact⟨v,trivial,JU h1,h2⟩
  all_goals (obtain⟨v,h1,h2⟩:=hp _ hr;exact⟨v,trivial,h1,h2⟩)
 obtain⟨v,h1,h2,rfl⟩:=key;obtain⟨h3,v',h4,h5⟩:=Fw h.mem.live h.slot WB h1 h2;exact⟨v',h3,h4,h.put h5⟩
def AK{Zc U:ad}(hm:Lv R Zc U){sz:Nat}{x x':V}{l:List V}(hx:aH R x x')(h:bc Zc sz x=some l):∃l',bc U sz x'=some l'/\aM R l l':=by
 unfold bc at h;split at h
 .simp only[aH]at hx;obtain⟨a,rfl,ha⟩:=hx;split at h
  .rename_i ob XL;obtain⟨WH,h1,h2⟩:=hm _ _ _ ha XL;split at h
   .rename_i hc;simp only[aI]at h;subst h;refine⟨_,?_,(h2.drop _).take _⟩;simp only[bc,h1,h2.length];rw[ak hc]
   .cases h
  .cases h
 .simp only[aH]at hx;obtain⟨WH,rfl,hr⟩:=hx;split at h
  .rename_i hc;simp only[aI]at h;subst h;exact⟨WH,by simp[bc,hc],hr⟩
  .cases h
 .simp only[aH]at hx;subst hx;simp only[aI]at h;subst h;exact⟨[],rfl,by simp[aM]⟩
 .rename_i s;simp only[aH]at hx;subst hx;refine⟨l,h,?_⟩;split at h
  .simp only[aI]at h;subst h
   induction s with
   |nil=>simp[aM]
   |cons b s ih=>simp only[eV,aM];exact⟨_,_,rfl,by simp[aH],ih⟩
  .cases h
 .cases h
def CI{Zc U:ad}(hm:Lv R Zc U){e sz:Nat}{x x':V}{l:List V}{d:Option Nat}(hx:aH R x x')(h:bC Zc e sz x=some (l,d)):
 ∃l' d',bC U e sz x'=some (l',d')/\aM R l l'/\(d=none/\d'=none\/∃c a o,d=some c/\d'=some a/\R c a/\Zc c=some o):=by
 unfold bC at h;split at h
 .simp only[aH]at hx;obtain⟨a,rfl,ha⟩:=hx;split at h
  .rename_i ob XL;obtain⟨WH,h1,h2⟩:=hm _ _ _ ha XL;split at h
   .rename_i hc;simp only[aI,Prod.mk.injEq]at h;obtain⟨rfl,rfl⟩:=h;refine⟨_,some a,?_,h2.take _,.inr ⟨_,a,ob,rfl,rfl,ha,XL⟩⟩;simp only[bC,h1,h2.length];rw[ak hc]
   .cases h
  .cases h
 .simp only[aH]at hx;subst hx;simp only[aI,Prod.mk.injEq]at h;obtain⟨rfl,rfl⟩:=h;exact⟨[],none,rfl,by simp[aM],.inl ⟨rfl,rfl⟩⟩
 .cases h
def kI{dst:Option Nat}{cs Yu:CS}{st:St}(h:gK K fl R cs st){m:Mk}{WH:List V}{d':Option Nat}(W8:aM R m.ob.rows WH)
 (hd:m.gone=none/\d'=none\/∃c a o,m.gone=some c/\d'=some a/\R c a/\stF cs.U c=some o)(hr:zB fl dst cs m=some Yu){id:Nat}(M':st.U id=none):
 ∃R',(∀a b,R a b->R' a b)/\gK K fl R' Yu ⟨aO st.s dst (if m.var then .ptr id 0 0 else .own id 0 m.len),C' (bz st.U d') id ⟨m.ob.elem,m.ob.sz,WH⟩⟩:=by
 refine⟨ext R cs.Ym id,zp _ _,?_⟩;have hval:aH (ext R cs.Ym id) (@Bool.casesOn (λ_=>V) m.var (.own cs.Ym 0 m.len) (.ptr cs.Ym 0 0)) (if m.var then .ptr id 0 0 else .own id 0 m.len):=by
  cases m.var
  .simp only[aH,fO,if_false];exact⟨id,rfl,.inr ⟨rfl,rfl⟩⟩
  .simp only[aH,if_true];exact⟨id,rfl,.inr ⟨rfl,rfl⟩⟩
 have hslot:∀i,aH (ext R cs.Ym id) (cs.sf i) (st.s i):=λi=>aH.mono (zp _ _) _ _ (h.slot i);unfold zB at hr;rcases hd with⟨e1,rfl⟩|⟨c,a,o,e1,rfl,hR,ho⟩
 .rw[e1]at hr;simp only[aI]at hr;subst hr;have hm:=h.mem.new M' W8;have hS:gK K fl (ext R cs.Ym id) ⟨cs.s,pk none (some m.ob) cs.Ym cs.U,Nat.succ cs.Ym⟩ ⟨st.s,C' st.U id ⟨m.ob.elem,m.ob.sz,WH⟩⟩:=
   ⟨hslot,by simp only[zX];exact hm⟩
  exact hS.put hval
 .rw[e1]at hr;simp only[j4]at hr;split at hr
  .rename_i hf;simp only[aI]at hr;subst hr;have h1:=h.mem.rem hR ho (zx hf);have hid':del st.U a id=none:=by
    by_cases e:id=a
    .simp[del,e]
    .rw[cA e];exact M'
   have hm:=h1.new hid' W8;have hS:gK K fl (ext R cs.Ym id) ⟨cs.s,pk none (some m.ob) cs.Ym (pk none none c cs.U),Nat.succ cs.Ym⟩ ⟨st.s,C' (del st.U a) id ⟨m.ob.elem,m.ob.sz,WH⟩⟩:=
    ⟨hslot,by simp only[zX,KF];exact hm⟩
   rw[j4]at hval;exact hS.put hval
  .cases hr
def CG{draw:Bool}{call:mV}{dst:Option Nat}{op:Xd}{cs Yu:CS}{st:St}(hk:aZ op=3)(WB:tR op=true)(h:gK K fl R cs st)
 (hr:(lx draw dst op).f call fl cs=some Yu):∃g',YV st.s st.U op=some g'/\∀id,st.U id=none->∃R',(∀a b,R a b->R' a b)/\
   gK K fl R' Yu ⟨aO st.s dst (g' id).1,(g' id).2⟩:=by
 have hp:∀(g:CS->Option Mk),(CT dst g).f call fl cs=some Yu->∃m,g cs=some m/\zB fl dst cs m=some Yu:=by
  intro g hg;simp only[CT]at hg;split at hg
  .rename_i v hv;exact⟨v,hv,hg⟩
  .cases hg
 simp only[tR,Ba]at WB;have hx:=fC.1 WB.1;cases op<;>simp only[aZ,reduceCtorEq,Nat.reduceEqDiff]at hk<;>simp only[lx]at hr
 case more m xs=>cases m<;>simp at hk
 case alloc e sz z=>
  obtain⟨m,h1,h2⟩:=hp _ hr;simp only[aI]at h1;subst h1;refine⟨_,rfl,λid M'=>?_⟩;have:=kI (d':=none) h (aM.one (iI (R:=R) z WB.2)) (.inl ⟨rfl,rfl⟩) h2 M';simpa[bz]using this
 case box e sz x=>
  obtain⟨m,h1,h2⟩:=hp _ hr;have hv:=gV h.slot (hx x (by simp[Xd.xs]));unfold R6 at h1;rw[j4]at h1;split at h1
  .rename_i hc;simp only[Ba,Nat.beq_eq]at hc;simp only[aI]at h1;subst h1;refine⟨λid=>(.ptr id 0 0,C' st.U id ⟨e,sz,[x.ev st.s]⟩),?_,λid M'=>?_⟩
   .simp only[YV];rw[ak ⟨by rw[hv.cells.length];exact hc.1,by rw[hv.stays];exact hc.2⟩]
   .have:=kI (d':=none) h (aM.one hv) (.inl ⟨rfl,rfl⟩) h2 M';simpa[bz]using this
  .cases h1
 case appz=>simp[kK,aD]at hr
 case mk e sz bytes z x=>
  obtain⟨m,h1,h2⟩:=hp _ hr;have hv:=gV h.slot (hx x (by simp[Xd.xs]));unfold mkQ at h1;split at h1
  .rename_i kk mm hxe;rw[hxe]at hv;simp only[aH]at hv;split at h1
   .split at h1
    .rename_i j hj;rw[j4]at h1;split at h1
     .rename_i hc;simp only[aI]at h1;subst h1;have hmj:mm=(j:Int):=by
       cases mm<;>simp only[Bv,aI,reduceCtorEq]at hj;subst hj;rfl
      subst hmj;refine⟨λid=>(.own id 0 j,C' st.U id ⟨e,sz,List.replicate j z⟩),?_,λid M'=>?_⟩
      .simp only[YV];rw[hv];have hc':j*(bytes+1)<=140737488355328:=zx hc;simp only[eU];rw[ak ⟨by omega,hc'⟩]
      .have:=kI (d':=none) h (aM.replicate (iI (R:=R) z WB.2) j) (.inl ⟨rfl,rfl⟩) h2 M';simpa[bz]using this
     .cases h1
    .cases h1
   .cases h1
  .cases h1
 case gq e sz xs=>
  obtain⟨m,h1,h2⟩:=hp _ hr;have hv:=uG h.slot WB.1;simp only[Xd.xs]at hv;unfold Eu at h1;rw[j4]at h1;split at h1
  .rename_i hc;simp only[aI]at h1;subst h1;refine⟨λid=>(.own id 0 xs.length,C' st.U id ⟨e,sz,xs.map (·.ev st.s)⟩),?_,λid M'=>?_⟩
   .simp only[YV];rw[ak];rw[fC];intro y hy;rw[gb]at hy;obtain⟨x,hxx,rfl⟩:=hy;have hvx:=gV h.slot (hx x (by simp[Xd.xs,hxx]));have:=fC.1 hc (x.ev cs.sf) (gb.2 ⟨x,hxx,rfl⟩);simp only[Ba,Nat.beq_eq]at this;simp[hvx.cells.length,hvx.stays,this]
   .have:=kI (d':=none) h hv (.inl ⟨rfl,rfl⟩) h2 M';simpa[bz]using this
  .cases h1
 case append e sz bytes xa xb=>
  obtain⟨m,h1,h2⟩:=hp _ hr;have ha:=gV h.slot (hx xa (by simp[Xd.xs]));have hb:=gV h.slot (hx xb (by simp[Xd.xs]));unfold Ew at h1;split at h1
  .rename_i base idA src e1 e2;obtain⟨base',d',g1,g2,g3⟩:=CI h.mem.live ha e1;obtain⟨src',g4,g5⟩:=AK h.mem.live hb e2;rw[j4]at h1;split at h1
   .rename_i hc;simp only[aI]at h1;subst h1;refine⟨λid=>(.own id 0 (base'.length+src'.length),C' (bz st.U d') id ⟨e,sz,base'++src'⟩),?_,λid M'=>?_⟩
    .simp only[YV,g1,g4];rw[ak (by rw[g2.length,g5.length];exact zx hc)]
    .have:=kI h (g2.append g5) g3 h2 M';simpa[g2.length,g5.length]using this
   .cases h1
  .cases h1
def Ar{r r' x x' q:V}{k sz:Nat}(hr:aH R r r')(hx:aH R x x')(h:fo r k sz x=some q):∃q',fo r' k sz x'=some q'/\aH R q q':=by
 unfold fo at h;split at h
 .rename_i hc;have hc':x'.cells.length=sz/\x'.stays=true:=⟨by rw[hx.cells.length];exact hc.1,by rw[hx.stays];exact hc.2⟩
  split at h
  .rename_i hd;simp only[aI]at h;subst h;refine⟨x',?_,hx⟩;unfold fo;rw[ak hc',ak ⟨hd.1,by rw[hr.cells.length];exact hd.2⟩]
  .rename_i hd;split at h
   .rename_i he;simp only[aI]at h;subst h;refine⟨_,?_,aH.agg (((hr.cells.take k).append hx.cells).append (hr.cells.drop (k+sz)))⟩;unfold fo;rw[ak hc',au (by rw[hr.cells.length];exact hd),ak (by rw[hr.cells.length];exact he)]
   .cases h
 .cases h
def uJ{dst:Option Nat}{sz:Nat}{xa xv:VX}{call:mV}{cs Yu:CS}{st:St}(WB:tR (.store sz xa xv)=true)(h:gK K fl R cs st)
 (hr:(C6 dst sz xa xv).f call fl cs=some Yu):∃Z',gd st.U sz (xa.ev st.s) (xv.ev st.s)=some Z'/\gK K fl R Yu ⟨aO st.s dst (.WC []),Z'⟩:=by
 simp only[tR,Xd.xs,oS,List.all_nil,Bool.and_true,Ba]at WB;have ha:=gV h.slot WB.1;have hv:=gV h.slot WB.2;simp only[C6,E3]at hr;split at hr
 .rename_i id i0 c hptr;rw[hptr]at ha;simp only[aH]at ha;obtain⟨a,ha1,ha2⟩:=ha;rw[L6]at hr;split at hr
  .rename_i hf;split at hr
   .rename_i ob XL;have hob':stF cs.U id=some ob:=XL;obtain⟨WH,h1,h2⟩:=h.mem.live _ _ _ ha2 hob';split at hr
    .rename_i r hrr;obtain⟨r',h3,h4⟩:=h2.get hrr;split at hr
     .rename_i q hq;obtain⟨q',h5,h6⟩:=Ar h4 hv hq;simp only[aI]at hr;subst hr;refine⟨C' st.U a ⟨ob.elem,ob.sz,WH.set i0 q'⟩,?_,?_⟩
      .simp only[gd,ha1,h1,h3,h5]
      .have hm:=h.mem.write ha2 hob' (zx hf) (h2.set i0 h6);have hS:gK K fl R ⟨cs.s,pk none (some ⟨ob.elem,ob.sz,ob.rows.set i0 q⟩) id cs.U,cs.Ym⟩ ⟨st.s,C' st.U a ⟨ob.elem,ob.sz,WH.set i0 q'⟩⟩:=
        ⟨h.slot,by simp only[zX];exact hm⟩
       exact hS.put aH.M8
     .cases hr
    .cases hr
   .cases hr
  .cases hr
 .cases hr
variable {P:Program} {n:Nat}
def Le(R R':Nat->Nat->Prop):Prop:=∀a b,R a b->R' a b
def Le.refl(R:Nat->Nat->Prop):Le R R:=λ_ _ h=>h
def Le.trans{R R' R'':Nat->Nat->Prop}(h:Le R R')(h':Le R' R''):Le R R'':=λa b g=>h' a b (h a b g)
def uY(P:Program)(call:mV):Prop:=∀g args Zc Ym fl r,call g args Zc Ym fl=some r->∀(K:ad) (R:Nat->Nat->Prop) (U:ad) (args':List V),
 pG K fl R (stF Zc) Ym U->aM R args args'->av P g args' U λv Z'=>∃R',Le R R'/\aH R' r.v v/\pG K fl R' (stF r.U) r.Ym Z'
def av.drop{f:FuncId}{args:List V}{U:ad}{Post Post':V->ad->Prop}(h:av P f args U Post)
 (hp:∀r Z',Post r Z'->∃Z0,aa Z0 Z'/\Post' r Z0):av P f args U Post':=by
 refine⟨h.1,λI w WL hs hr=>(h.2 I w WL hs hr).mono ?_⟩;rintro e w' ⟨r,Z',Y',val,h1,h2,h3,h4,h5⟩;obtain⟨Z0,h6,h7⟩:=hp r Z' h2;exact⟨r,Z0,Y',val,h1,h7,h3,h4.drop h6,Wk.refl h6 r Y' _ _ _ val h4 h5⟩
section
variable {call:mV} {K:ad} {fl:Nat} {R:Nat->Nat->Prop} {cs Yu:CS} {st:St} {Q:St->Prop} {k:List It}
def tL{draw:Bool}{i:aC}(WB:qm i=true)(h:gK K fl R cs st)(hr:(tE draw i).f call fl cs=some Yu):
 (bg st.s i.g=some true/\(lx draw i.dst i.op).f call fl cs=some Yu)\/(bg st.s i.g=some false/\Yu=cs.put i.dst (.WC [])):=by
 simp only[qm,Ba]at WB;unfold tE at hr;split at hr
 .rename_i hg;exact .inl ⟨by simp[hg,bg],hr⟩
 .rename_i x b hg;have hx:=WB.2;simp only[hg]at hx;have hv:=gV h.slot hx;simp only[Jj]at hr;split at hr
  .rename_i c hc;rw[hc,aH.qE]at hv;rw[L6]at hr;split at hr
   .rename_i hcb;simp only[aI]at hr;refine .inr ⟨?_,hr.symm⟩;simp only[hg,bg,hv];cases c<;>cases b<;>simp_all
   .rename_i hcb;refine .inl ⟨?_,hr⟩;simp only[hg,bg,hv];cases c<;>cases b<;>simp_all
  .rename_i hc;rw[hc]at hv;simp only[aH,aM]at hv;obtain⟨c',hv,rfl⟩:=hv;simp only[aI]at hr;exact .inr ⟨by simp only[hg,bg,hv],hr.symm⟩
  .rename_i hc;rw[hc,aH.qo]at hv;simp only[aI]at hr;exact .inr ⟨by simp only[hg,bg,hv],hr.symm⟩
  .cases hr
def Ef{draw:Bool}{dst:Option Nat}{op:Xd}(h:op=.bad\/(∃b x,op=.rngS b x)\/(∃x,op=.nxtS x)\/∃m xs,op=.more m xs/\aZ op=4)(hr:(lx draw dst op).f call fl cs=some Yu):False:=by
 rcases h with rfl|⟨b,x,rfl⟩|⟨x,rfl⟩|⟨m,xs,rfl,hk⟩
 case inr.inr.inr=>cases m<;>simp[aZ]at hk<;>simp[lx,kK,aD]at hr
 all_goals simp[lx,kK,aD]at hr
def tm(op:Xd):aZ op=0\/(∃fx xs,op=.call fx xs)\/(∃sz a x,op=.store sz a x)\/aZ op=3\/(∃sz z x,op=.clear sz z x)\/(op=.bad\/(∃b x,op=.rngS b x)\/(∃x,op=.nxtS x)\/∃m xs,op=.more m xs/\aZ op=4):=by
 cases op
 case more m xs=>cases m<;>simp[aZ]
 all_goals simp[aZ]
def L4(hc:uY P call){i:aC}{l:List aC}(WB:qm i=true)(h:gK K fl R cs st)(hr:(tE false i).f call fl cs=some Yu)
 (hk:∀R' Zf,Le R R'->gK K fl R' Yu Zf->ag P n (.ops l::k) Zf Q):ag P n (.ops (i::l)::k) st Q:=by
 have WO:tR i.op=true:=by simp only[qm,Ba]at WB;exact WB.1
 rcases tL WB h hr with⟨hw,hr⟩|⟨hw,rfl⟩
 .rcases tm i.op with h0|⟨fx,xs,h0⟩|⟨sz,a,x,h0⟩|h0|⟨sz,z,x,h0⟩|h0
  .obtain⟨v',h1,h2,h3⟩:=yC h0 WO h hr;exact ag.pure hw h1 h2 (hk R _ (Le.refl R) h3)
  .rw[h0]at hr WO;simp only[lx,JS]at hr;simp only[tR,Xd.xs,oS,Ba]at WO;split at hr
   .rename_i f caps hf;have hfx:=gV h.slot WO.1.1;rw[hf]at hfx;simp only[aH]at hfx;obtain⟨caps',hf',hcaps⟩:=hfx;generalize Yj:call f (xs.map (·.ev cs.sf)++caps) cs.U cs.Ym fl=r at hr;cases r with
    |none=>simp[De]at hr
    |some r=>
     simp only[De,aI]at hr;refine ag.call hw h0 hf' (hc _ _ _ _ _ _ Yj K R st.U _ h.mem ((uG h.slot WO.1.2).append hcaps)) ?_;rintro v Z' ⟨R',hle,hv,hm⟩;have hS:gK K fl R' ⟨cs.s,r.U,r.Ym⟩ ⟨st.s,Z'⟩:=⟨λj=>aH.mono hle _ _ (h.slot j),hm⟩
     exact hk R' _ hle (hr▸hS.put hv)
   .cases hr
  .rw[h0]at hr WO;obtain⟨Z',h1,h2⟩:=uJ WO h hr;exact ag.gd hw h0 h1 (hk R _ (Le.refl R) h2)
  .obtain⟨g',h1,h2⟩:=CG h0 WO h hr;refine ag.YV hw h1 λid M'=>?_;obtain⟨R',h3,h4⟩:=h2 id M';exact hk R' _ h3 h4
  .rw[h0]at hr;simp[lx,Dr]at hr
  .exact(Ef h0 hr).elim
 .exact ag.uz hw (hk R _ (Le.refl R) (h.put aH.M8))
def Qd(hc:uY P call){i:aC}(WB:qm i=true)(h:gK K fl R cs st)(hr:(tE true i).f call fl cs=some Yu){K':St->Prop}
 (hk:∀R' Zf,Le R R'->gK K fl R' Yu Zf->K' Zf):T P i st K':=by
 have WO:tR i.op=true:=by simp only[qm,Ba]at WB;exact WB.1
 rcases tL WB h hr with⟨hw,hr⟩|⟨hw,rfl⟩
 .refine pU hw ?_;rcases tm i.op with h0|⟨fx,xs,h0⟩|⟨sz,a,x,h0⟩|h0|⟨sz,z,x,h0⟩|h0
  .obtain⟨v',h1,h2,h3⟩:=yC h0 WO h hr;unfold TO;simp only[h0];exact⟨h1,v',h2,hk R _ (Le.refl R) h3⟩
  .rw[h0]at hr WO;rw[h0];simp only[lx,JS]at hr;simp only[tR,Xd.xs,oS,Ba]at WO;split at hr
   .rename_i f caps hf;have hfx:=gV h.slot WO.1.1;rw[hf]at hfx;simp only[aH]at hfx;obtain⟨caps',hf',hcaps⟩:=hfx;generalize Yj:call f (xs.map (·.ev cs.sf)++caps) cs.U cs.Ym cs.Ym=r at hr;cases r with
    |none=>simp[zb]at hr
    |some r=>
     simp only[zb,L6]at hr;split at hr
     .rename_i Xa;simp only[aI]at hr;refine⟨f,caps',r.v,hf',λZ1 X7=>?_,hk R _ (Le.refl R) (hr▸h.put (iI r.v Xa))⟩;have hm0:pG Z1 cs.Ym R (stF cs.U) cs.Ym Z1:=⟨h.mem.dom,h.mem.live.sup X7,h.mem.inj,h.mem.fn,aa.refl _,λ_ _ c _ _ hcR _=>h.mem.dom c _ hcR⟩
      refine(hc _ _ _ _ _ _ Yj Z1 R Z1 _ hm0 ((uG h.slot WO.1.2).append hcaps)).drop ?_;rintro v Z' ⟨R',hle,hv,hm⟩;exact⟨Z1,hm.nv,ql _ _ Xa hv,rfl⟩
     .cases hr
   .cases hr
  .rw[h0]at hr WO;rw[h0];obtain⟨Z',h1,h2⟩:=uJ WO h hr;exact⟨Z',h1,hk R _ (Le.refl R) h2⟩
  .obtain⟨g',h1,h2⟩:=CG h0 WO h hr;unfold TO;simp only[h0];refine⟨g',h1,λid M'=>?_⟩;obtain⟨R',h3,h4⟩:=h2 id M';exact hk R' _ h3 h4
  .rw[h0]at hr;simp[lx,Dr]at hr
  .exact(Ef h0 hr).elim
 .exact uv hw (hk R _ (Le.refl R) (h.put aH.M8))
def nH(draw:Bool)(m:Nat)(i:aC)(l:List aC):nB draw call fl (m+1) (i::l) cs=match(tE draw i).f call fl cs with
 |some Yu=>nB draw call fl m l Yu
 |none=>.bad:=by
 show(@Option.casesOn CS (λ_=>Out) ((tE draw i).f call fl cs) .bad (nB draw call fl m l))=_;cases (tE draw i).f call fl cs<;>rfl
def EO(hc:uY P call):∀(m:Nat) (l:List aC) (R:Nat->Nat->Prop) (cs:CS) (st:St),nB false call fl m l cs=.nx Yu->l.all qm=true->gK K fl R cs st->
 (∀R' Zf,Le R R'->gK K fl R' Yu Zf->ag P n k Zf Q)->ag P n (.ops l::k) st Q
 |0,_,_,_,_,h,_,_,_=>by cases h
 |m+1,[],R,cs,st,h,_,hs,hk=>by
  have h':Out.nx cs=.nx Yu:=h;simp only[Out.nx.injEq]at h';subst h';exact ag.EL (hk R st (Le.refl R) hs)
 |m+1,i::l,R,cs,st,h,WB,hs,hk=>by
  rw[nH]at h;simp only[oS,Ba]at WB;split at h
  .rename_i cs1 h1;refine L4 hc WB.1 hs h1 λR' Zf hle W2=>?_;exact EO hc m l R' cs1 Zf h WB.2 W2 λR'' st'' hle' hs''=>hk R'' st'' (hle.trans hle') hs''
  .cases h
def Mx(hc:uY P call){K':St->Prop}:∀(m:Nat) (l:List aC) (R:Nat->Nat->Prop) (cs:CS) (st:St),nB true call fl m l cs=.nx Yu->l.all qm=true->gK K fl R cs st->
 (∀R' Zf,Le R R'->gK K fl R' Yu Zf->K' Zf)->iD P K' l st
 |0,_,_,_,_,h,_,_,_=>by cases h
 |m+1,[],R,cs,st,h,_,hs,hk=>by
  have h':Out.nx cs=.nx Yu:=h;simp only[Out.nx.injEq]at h';subst h';exact hk R st (Le.refl R) hs
 |m+1,i::l,R,cs,st,h,WB,hs,hk=>by
  rw[nH]at h;simp only[oS,Ba]at WB;split at h
  .rename_i cs1 h1;refine Qd hc WB.1 hs h1 λR' Zf hle W2=>?_;exact Mx hc m l R' cs1 Zf h WB.2 W2 λR'' st'' hle' hs''=>hk R'' st'' (hle.trans hle') hs''
  .cases h
end
def Gy(P:Program)(n:Nat)(K:ad)(fl:Nat)(R:Nat->Nat->Prop)(k:List It)(Q:St->Prop):Out->Prop
 |.nx cs=>∀R' st,Le R R'->gK K fl R' cs st->ag P n k st Q
 |.ex id cs=>∃k',jj id k=some k'/\∀R' st,Le R R'->gK K fl R' cs st->ag P n k' st Q
 |.rt cs=>∀R' st,Le R R'->gK K fl R' cs st->Q st
 |.bad=>False
def Gy.le{K:ad}{fl:Nat}{R R':Nat->Nat->Prop}{k:List It}{Q:St->Prop}{o:Out}(h:Gy P n K fl R k Q o)(hle:Le R R'):Gy P n K fl R' k Q o:=by
 cases o
 case bad=>exact h
 case ex=>obtain⟨k',h1,h2⟩:=h;exact⟨k',h1,λR'' st h3 h4=>h2 R'' st (hle.trans h3) h4⟩
 all_goals exact λR'' st h3 h4=>h R'' st (hle.trans h3) h4
def vD(P:Program)(code:FuncId->Option P'):Prop:=∀g vf,code g=some vf->fE P g=true/\Ou vf=true/\∃fn,P.funcs[g]?=some fn/\cfn P fn=some vf
def LOk(P:Program)(code:FuncId->Option P')(fuel:Nat):Prop:=∀(n:Nat) (K:ad) (fl:Nat) (R:Nat->Nat->Prop) (c:bN) (cs:CS) (st:St) (k:List It) (Q:St->Prop),
 jt c=true->gK K fl R cs st->Gy P n K fl R k Q (evL code fuel fl c cs)->ag P n (.code c::k) st Q
def Et(i:Nat):∀(l:List V) (k:Nat) (t:Tr V),nS (.WC []) i (Tr.ofL l k t)=if k<=i/\i<k+l.length then l.getD (i-k) (.WC [])else nS (.WC []) i t
 |[],k,t=>by simp[Tr.ofL];intro h1 h2;omega
 |v::l,k,t=>by
  rw[Tr.ofL,Et i l (k+1),qf];simp only[YI];by_cases h1:i=k
  .subst h1;rw[au (by omega),ak rfl,ak (by omega)];simp
  .by_cases h2:k+1<=i/\i<k+1+l.length
   .rw[ak h2,ak (by omega),show i-k=(i-(k+1))+1 by omega];simp
   .rw[au h2,au h1,au (by omega)]
def C9{K:ad}{fl:Nat}{R:Nat->Nat->Prop}{cs:CS}{st:St}(h:gK K fl R cs st){r:VR}(WB:Ey r=true){v:V}(hv:iy ⟨cs.sf,stF cs.U⟩ r=some v):
 ∃v',iy st r=some v'/\aH R v v':=by
 cases r<;>simp only[iy,reduceCtorEq,aI]at hv|-
 case tmp x=>subst hv;exact⟨_,rfl,gV h.slot WB⟩
 case cell agg sz x=>exact yy h.mem.live (gV h.slot WB) hv
def wh{K:ad}{fl:Nat}{R:Nat->Nat->Prop}{cs:CS}{st:St}(h:gK K fl R cs st):∀{l:List VR},l.all Ey=true->∀{vs:List V},fq ⟨cs.sf,stF cs.U⟩ l=some vs->
 ∃vs',fq st l=some vs'/\aM R vs vs'
 |[],_,vs,hv=>by simp only[fq,aI]at hv;subst hv;exact⟨[],rfl,by simp[aM]⟩
 |r::l,WB,vs,hv=>by
  simp only[oS,Ba]at WB;simp only[fq]at hv;split at hv
  .rename_i v h1;split at hv
   .rename_i us h2;simp only[aI]at hv;subst hv;obtain⟨v',g1,g2⟩:=C9 h WB.1 h1;obtain⟨us',g3,g4⟩:=wh h WB.2 h2;exact⟨v'::us',by simp[fq,g1,g3],aM.cZ.2 ⟨v',us',rfl,g2,g4⟩⟩
   .cases hv
  .cases hv
def Jk{K:ad}{fl:Nat}{R:Nat->Nat->Prop}{cs:CS}{st:St}(h:gK K fl R cs st){l:List VR}(WB:l.all Ey=true){v:V}(hv:oT ⟨cs.sf,stF cs.U⟩ l=some v):
 ∃v',oT st l=some v'/\aH R v v':=by
 unfold oT at hv;cases hr:fq ⟨cs.sf,stF cs.U⟩ l with
 |none=>simp[hr]at hv
 |some vs=>
  obtain⟨vs',g1,g2⟩:=wh h WB hr;rw[hr]at hv;unfold oT;rw[g1]
  match vs,hv,g2 with
  |[],hv,g2=>
   rw[aM.j7]at g2;subst g2;simp only[aI]at hv;subst hv;exact⟨_,rfl,by simp[aH,aM]⟩
  |[u],hv,g2=>
   obtain⟨x,xs,rfl,g3,g4⟩:=aM.cZ.1 g2;rw[aM.j7]at g4;subst g4;simp only[aI]at hv;subst hv;exact⟨_,rfl,g3⟩
  |u1::u2::us,hv,g2=>
   obtain⟨x,xs,rfl,g3,g4⟩:=aM.cZ.1 g2;obtain⟨y,ys,rfl,g5,g6⟩:=aM.cZ.1 g4;simp only[aI]at hv;subst hv;exact⟨_,rfl,by simp only[aH];exact⟨_,rfl,g2⟩⟩
def zi{code:FuncId->Option P'}(hcode:vD P code){fuel:Nat}(ih:LOk P code fuel):uY P (evF (evL code fuel) code):=by
 intro g args Zc Ym fl r hr K R U args' hm XE;unfold evF at hr;split at hr
 .cases hr
 .rename_i vf YF;rw[j4]at hr;split at hr
  .rename_i hlen;obtain⟨Yj,WB,fn,hf,hcf⟩:=hcode g vf YF;simp only[Ou,Ba]at WB;have hlen':=zx hlen;refine av.mf hf hcf Yj (by rw[XE.length];exact hlen') ?_;have hs:gK K fl R ⟨Tr.ofL args 0 .e,Zc,Ym⟩ ⟨fW args',U⟩:=by
    refine⟨λi=>?_,hm⟩;show aH R (nS (.WC []) i (Tr.ofL args 0 .e)) (args'.getD i (.WC []));rw[Et,No];by_cases hi:i<args.length
    .rw[ak ⟨Nat.zero_le _,by omega⟩,Nat.sub_zero];obtain⟨u,h1,h2⟩:=XE.get (Zq6 hi);simp only[sc,h1,Zq6 hi,Option.getD_some];exact h2
    .rw[au (by omega)];have:args'[i]?=none:=xi (by rw[XE.length];omega);simp only[sc,this,Option.getD_none];simp[aH,aM]
   have XV:∀Yu,LL vf.res Yu=some r->∀R' st,Le R R'->gK K fl R' Yu st->Ret vf.res st λv Z'=>∃R',Le R R'/\aH R' r.v v/\pG K fl R' (stF r.U) r.Ym Z':=by
    intro Yu hq R' st hle W2;unfold LL at hq;split at hq
    .rename_i v hv;simp only[aI]at hq;subst hq;obtain⟨v',g1,g2⟩:=Jk W2 WB.2 hv;exact⟨v',v',st.U,g1,aa.refl _,Wk.refl (aa.refl _) _,R',hle,g2,W2.mem⟩
    .cases hq
   refine ih vf.n K fl R vf.code _ _ [] _ WB.1 hs ?_;generalize evL code fuel fl vf.code ⟨Tr.ofL args 0 .e,Zc,Ym⟩=o at hr;cases o<;>simp only[QE,reduceCtorEq]at hr
   .exact λR' st hle W2=>ag.nil (XV _ hr R' st hle W2)
   .exact λR' st hle W2=>XV _ hr R' st hle W2
  .cases hr
def Cd(code:FuncId->Option P')(f fl:Nat)(c:bN)(cs:CS):evL code (f+1) fl c cs=match c with
 |.skip=>.nx cs
 |.reg draw l=>G7 draw (evF (evL code f) code) fl l cs
 |.seq a b=>Gw (evL code f fl a cs) λYu=>evL code f fl b Yu
 |.cond c a b=>onB (c.ev cs.sf) (evL code f fl a cs) (evL code f fl b cs)
 |.block id a=>Nj id (evL code f fl a cs)
 |.loop a=>Gw (evL code f fl a cs) λYu=>evL code f fl (.loop a) Yu
 |.exit id=>.ex id cs
 |.ret=>.rt cs
 |.eN ..=>.bad
 |.regA ..=>.bad
 |.ua ..=>.bad
 |.bad=>.bad:=rfl
def BO{draw:Bool}{call:mV}{fl:Nat}:∀(m:Nat) (l:List aC) (cs:CS),(∃Yu,nB draw call fl m l cs=.nx Yu)\/nB draw call fl m l cs=.bad
 |0,_,_=>.inr rfl
 |m+1,[],cs=>.inl ⟨cs,rfl⟩
 |m+1,i::l,cs=>by
  rw[nH];split
  .exact BO m l _
  .exact .inr rfl
def N2{code:FuncId->Option P'}(hcode:vD P code):∀fuel,LOk P code fuel:=by
 intro fuel
 induction fuel using Nat.strongRecOn with
 |_ fuel ih=>
  intro n K fl R c cs st k Q WB hs Xi;cases fuel with
  |zero=>exact Xi.elim
  |succ f=>
   have ihf:=ih f (by omega);rw[Cd]at Xi;cases c with
   |skip=>exact ag.skip (Xi R st (Le.refl R) hs)
   |reg draw l=>
    simp only[jt]at WB;simp only[G7]at Xi;rcases BO (draw:=draw) (call:=evF (evL code f) code) (fl:=fl) 1000 l cs with⟨Yu,he⟩|he
    .rw[he]at Xi;cases draw
     .exact ag.region (EO (zi hcode ihf) 1000 l R cs st he WB hs Xi)
     .exact ag.D0 (Mx (zi hcode ihf) 1000 l R cs st he WB hs Xi)
    .rw[he]at Xi;exact Xi.elim
   |seq a b=>
    simp only[jt,Ba]at WB;refine ag.seq (ihf n K fl R a cs st _ Q WB.1 hs ?_);simp only[Gw]at Xi;generalize evL code f fl a cs=o at Xi;cases o with
    |nx cs1=>exact λR1 st1 hle1 X7=>ihf n K fl R1 b cs1 st1 k Q WB.2 X7 (Xi.le hle1)
    |ex id cs1=>exact Xi
    |rt cs1=>exact Xi
    |bad=>exact Xi
   |cond c a b=>
    simp only[jt,Ba]at WB;have hv:=gV hs.slot WB.1;have Xi:Gy P n K fl R k Q (onB (c.ev cs.sf) (evL code f fl a cs) (evL code f fl b cs)):=Xi;unfold onB at Xi;split at Xi
    .rename_i t ht;rw[ht,aH.qE]at hv;refine ag.cond hv (λe=>?_) (λe=>?_)
     .subst e;exact ihf n K fl R a cs st k Q WB.2.1 hs Xi
     .subst e;exact ihf n K fl R b cs st k Q WB.2.2 hs Xi
    .exact Xi.elim
   |block id a=>
    simp only[jt]at WB;refine ag.block (ihf n K fl R a cs st _ Q WB hs ?_);simp only[Nj]at Xi;generalize evL code f fl a cs=o at Xi;cases o with
    |nx cs1=>exact λR1 st1 hle1 X7=>ag.inBlock (Xi R1 st1 hle1 X7)
    |ex j cs1=>
     simp only[L6]at Xi;by_cases hj:j=id
     .subst hj;rw[ak (by rw[Nat.beq_eq])]at Xi;exact⟨k,by simp[jj],Xi⟩
     .rw[au (by rw[Nat.beq_eq];exact hj)]at Xi;obtain⟨k',h1,h2⟩:=Xi;exact⟨k',by simp[jj,hj,h1],h2⟩
    |rt cs1=>exact Xi
    |bad=>exact Xi
   |loop a=>
    have hok':=WB;simp only[jt]at WB;have ZU:Gy P n K fl R k Q (evL code (f+1) fl (.loop a) cs):=Xi;generalize ho:evL code (f+1) fl (.loop a) cs=o at ZU;refine ag.loop (λm st=>m<=f+1/\∃R1 cs1,Le R R1/\gK K fl R1 cs1 st/\evL code m fl (.loop a) cs1=o) (f+1) ⟨Xc _,R,cs,Le.refl R,hs,ho⟩ ?_;rintro m st1 ⟨hm,R1,cs1,hle1,X7,ho1⟩;cases m with
    |zero=>
     have:o=.bad:=ho1.symm;rw[this]at ZU;exact ZU.elim
    |succ m=>
     have ihm:=ih m (by omega);rw[Cd]at ho1;refine ihm n K fl R1 a cs1 st1 _ Q WB X7 ?_;simp only[Gw]at ho1;generalize evL code m fl a cs1=o1 at ho1;cases o1 with
     |nx cs2=>exact λR2 st2 hle2 Zm=>ag.stop ⟨m,by omega,by omega,R2,cs2,hle1.trans hle2,Zm,ho1⟩
     |ex id cs2=>
      have ho1:Out.ex id cs2=o:=ho1;rw[<-ho1]at ZU;obtain⟨k',h1,h2⟩:=ZU;exact⟨k',by simpa[jj]using h1,λR2 st2 hle2 Zm=>h2 R2 st2 (hle1.trans hle2) Zm⟩
     |rt cs2=>
      have ho1:Out.rt cs2=o:=ho1;rw[<-ho1]at ZU;exact λR2 st2 hle2 Zm=>ZU R2 st2 (hle1.trans hle2) Zm
     |bad=>
      have ho1:Out.bad=o:=ho1;rw[<-ho1]at ZU;exact ZU.elim
   |exit id=>
    obtain⟨k',h1,h2⟩:=Xi;exact ag.exit h1 (h2 R st (Le.refl R) hs)
   |ret=>exact ag.ret (Xi R st (Le.refl R) hs)
   |eN g ps a b=>exact Xi.elim
   |regA l W9=>exact Xi.elim
   |ua l e=>exact Xi.elim
   |bad=>exact Xi.elim
def zI(g:V->V->Bool):List V->List V->Bool
 |[],[]=>true
 |v::vs,u::us=>g v u&&zI g vs us
 |_,_=>false
def fzB:Nat->Tr (Option Ob)->V->V->Bool
 |0,_,_,_=>false
 |f+1,U,v,u=>match v with
  |.own id off len=>match u with
   |.sl sz rows=>match nS none id U with
    |some ob=>Nat.beq ob.sz sz&&(Nat.ble (off+len) ob.rows.length&&zI (fzB f U) ((ob.rows.drop off).take len) rows)
    |none=>false
   |_=>false
  |.aB=>match u with
   |.sl _ rows=>rows.isEmpty
   |.aB=>true
   |_=>false
  |.sl sz rows=>match u with
   |.sl sz' WH=>Nat.beq sz sz'&&zI (fzB f U) rows WH
   |_=>false
  |.agg cs=>match u with
   |.agg ds=>zI (fzB f U) cs ds
   |_=>false
  |.WC cs=>match u with
   |.WC ds=>zI (fzB f U) cs ds
   |_=>false
  |.int k n=>match u with
   |.int k' n'=>eqK k k'&&eqQ n n'
   |_=>false
  |.bool b=>match u with
   |.bool b'=>b==b'
   |_=>false
  |.str b=>match u with
   |.str b'=>decide (b=b')
   |_=>false
  |.nilp=>match u with
   |.nilp=>true
   |_=>false
  |_=>false
def Mb{a b:Int}(h:eqQ a b=true):a=b:=by
 cases a<;>cases b<;>simp only[eqQ,fO]at h
 .rw[Ll h]
 .rw[Ll h]
def Hv{R:Nat->Nat->Prop}{Zt:Tr (Option Ob)}{U:ad}(hm:Lv R (stF Zt) U):∀(f:Nat) (v u v':V),fzB f Zt v v'=true->aH R v u->Fz U (λa=>∃c o,R c a/\stF Zt c=some o) u v'
 |0,_,_,_,h,_=>by simp[fzB]at h
 |f+1,v,u,v',h,hr=>by
  have hL:∀(vs us out:List V),zI (fzB f Zt) vs out=true->aM R vs us->Za U (λa=>∃c o,R c a/\stF Zt c=some o) us out:=by
   intro vs
   induction vs with
   |nil=>
    intro us out h1 h2;rw[aM.j7]at h2;subst h2;cases out with
    |nil=>exact .nil
    |cons a b=>simp[zI]at h1
   |cons a vs ih=>
    intro us out h1 h2;obtain⟨b,bs,rfl,h3,h4⟩:=aM.cZ.1 h2;cases out with
    |nil=>simp[zI]at h1
    |cons c cs=>
     simp only[zI,Ba]at h1;exact .cons _ _ _ _ (Hv hm f _ _ _ h1.1 h3) (ih _ _ h1.2 h4)
  have Xa:v.fw=true->v'=v->Fz U (λa=>∃c o,R c a/\stF Zt c=some o) u v':=λh1 h2=>by
   have:=ql v u h1 hr;rw[this,h2];exact .same v h1
  simp only[fzB]at h;cases v<;>simp only[fO]at h
  case own id off len=>
   split at h
   .split at h
    .rename_i ob XL;simp only[Ba]at h;obtain⟨h1,h2,h3⟩:=h;simp only[aH]at hr;obtain⟨YT,rfl,hR⟩:=hr;obtain⟨WH,g1,g2⟩:=hm _ YT ob hR XL;have:=hL _ _ _ h3 ((g2.drop _).take _);rw[<-Ll h1];exact .own YT _ _ ⟨ob.elem,ob.sz,WH⟩ _ g1 ⟨_,ob,hR,XL⟩ (by rw[g2.length];exact zx h2) this
    .cases h
   .cases h
  case aB=>
   split at h
   .rename_i sz rows;simp only[aH]at hr;subst hr;have:rows=[]:=by simpa using h
    subst this;exact .nil _
   .exact Xa rfl rfl
   .cases h
  case sl sz rows=>
   split at h
   .simp only[Ba]at h;simp only[aH]at hr;obtain⟨WH,rfl,hr⟩:=hr;rw[<-Ll h.1];exact .sl _ _ _ (hL _ _ _ h.2 hr)
   .cases h
  case agg cs=>
   split at h
   .simp only[aH]at hr;obtain⟨es,rfl,hr⟩:=hr;exact .agg _ _ (hL _ _ _ h hr)
   .cases h
  case WC cs=>
   split at h
   .simp only[aH]at hr;obtain⟨es,rfl,hr⟩:=hr;exact .WC _ _ (hL _ _ _ h hr)
   .cases h
  case int k n=>
   split at h
   .simp only[Ba]at h;refine Xa rfl ?_;rw[Mb h.2,of_decide_eq_true h.1]
   .cases h
  case bool b=>
   split at h
   .refine Xa rfl ?_;rw[eq_of_beq h]
   .cases h
  case str b=>
   split at h
   .refine Xa rfl ?_;rw[of_decide_eq_true h]
   .cases h
  case nilp=>
   split at h
   .exact Xa rfl rfl
   .cases h
def Hk(code:FuncId->Option P')(fuel:Nat)(f:FuncId)(args:List V)(v:V):Bool:=match evF (evL code fuel) code f args .e 0 0 with
 |some r=>fzB 10 r.U r.v v
 |none=>false
def aE.wA{P:Program}{code:FuncId->Option P'}(hcode:vD P code){fuel:Nat}{f:FuncId}{args:List V}{v:V}(ha:gU args=true)
 (h:Hk code fuel f args v=true):aE P f args v:=by
 intro U;unfold Hk at h;split at h
 .rename_i r hr;have hm:pG U 0 (λ_ _=>False) (stF .e) 0 U:=⟨λ_ _ h=>h.elim,λ_ _ _ h=>h.elim,λ_ _ _ _ _ h=>h.elim,λ_ _ _ h=>h.elim,aa.refl U,λ_ _ _ _ _ h=>h.elim⟩
  refine(zi hcode (N2 hcode fuel) f args .e 0 0 r hr U _ U args hm (gy args ha)).GW ?_;rintro u Z' ⟨R',_,h1,h2⟩;refine⟨v,U,h2.nv,(Hv h2.live 10 r.v u v h h1).wk h2.nv ?_,rfl,rfl⟩;rintro a ⟨c,o,hc,ho⟩;cases hk:U a with
  |none=>rfl
  |some x=>have:=h2.kfl a x c o hk hc ho;omega
 .cases h
open Go.Proofs
def cdF(P:Program)(l:List Nat)(f:FuncId):Option P':=
 if l.contains f then(P.funcs[f]?).bind λfn=>(cfn P fn).bind λvf=>if fE P f&&Ou vf then some vf else none else none
def NQ(P:Program)(l:List Nat):vD P (cdF P l):=by
 intro g vf h;unfold cdF at h;split at h
 .simp only[JA]at h;obtain⟨fn,h1,vf',h2,h3⟩:=h;split at h3
  .rename_i h4;simp only[Ba]at h4;simp only[aI]at h3;subst h3;exact⟨h4.1,h4.2,fn,h1,h2⟩
  .cases h3
 .cases h
def R9:List Nat:=[73,114,115,162,163,164,165,166,218,219,220,221,256,257,258,259,260,283]
noncomputable def UY:FuncId->Option P':=cdF prog R9
def qs:vD prog UY:=NQ _ _
end Go.Vc
