import Derived.Test.YtompjkkmfibkiaaGreatW12
import Derived.Test.YtompjkkmfibkiaaGreatProg
import Derived.KernelRfl
set_option linter.all false
set_option maxHeartbeats 8000000
set_option maxRecDepth 1000000
open Go.Proofs.Tryz
namespace Go.Vc
inductive Tr(α:Type) where
 |e
 |n (l:Tr α) (v:α) (r:Tr α)
def As:Nat->Nat->List Bool
 |0,_=>[]
 |_+1,0=>[]
 |f+1,k+1=>Nat.beq (Nat.mod k 2) 0::As f (Nat.div k 2)
def pathOf(k:Nat):List Bool:=As (Nat.succ k) k
def OW{α:Type}(d:α)(f:Nat):List Bool->Tr α->α:=
 @Nat.rec (λ_=>List Bool->Tr α->α) (λ_ _=>d)
  (λ_ ih p t=>@List.casesOn Bool (λ_=>α) p (@Tr.casesOn α (λ_=>α) t d (λ_ v _=>v))
    (λb p'=>@Tr.casesOn α (λ_=>α) t d (λl _ r=>ih p' (@Bool.casesOn (λ_=>Tr α) b r l)))) f
def nD{α:Type}(d:α)(k:Nat)(t:Tr α):α:=OW d (Nat.succ k) (pathOf k) t
def QF{α:Type}(d v:α)(f:Nat):List Bool->Tr α->Tr α:=
 @Nat.rec (λ_=>List Bool->Tr α->Tr α) (λ_ t=>t)
  (λ_ ih p t=>@List.casesOn Bool (λ_=>Tr α) p (@Tr.casesOn α (λ_=>Tr α) t (.n .e v .e) (λl _ r=>.n l v r))
    (λb p'=>@Tr.casesOn α (λ_=>Tr α) t (@Bool.casesOn (λ_=>Tr α) b (.n .e d (ih p' .e)) (.n (ih p' .e) d .e))
      (λl u r=>@Bool.casesOn (λ_=>Tr α) b (.n l u (ih p' r)) (.n (ih p' l) u r)))) f
def pQ{α:Type}(d v:α)(k:Nat)(t:Tr α):Tr α:=QF d v (Nat.succ k) (pathOf k) t
structure CS where
 s:Tr V
 U:Tr (Option Ob)
 Xq:Nat
def CS.sf(cs:CS):Nat->V:=λi=>nD (.VG []) i cs.s
def stF(U:Tr (Option Ob)):ad:=λi=>nD none i U
def Uk(cs:CS)(d:Nat)(v:V):CS:=⟨pQ (.VG []) v d cs.s,cs.U,cs.Xq⟩
def CS.put(cs:CS)(d:Option Nat)(v:V):CS:=@Option.casesOn Nat (λ_=>CS) d cs (λd=>Uk cs d v)
def eqQ:Int->Int->Bool
 |.ofNat m,.ofNat n=>Nat.beq m n
 |.negSucc m,.negSucc n=>Nat.beq m n
 |_,_=>false
def leQ:Int->Int->Bool
 |.ofNat m,.ofNat n=>Nat.ble m n
 |.negSucc _,.ofNat _=>true
 |.negSucc m,.negSucc n=>Nat.ble n m
 |.ofNat _,.negSucc _=>false
def Oe:Int->Int->Int
 |.ofNat m,.ofNat n=>.ofNat (Nat.add m n)
 |a,b=>a+b
def MM:Int->Int->Int
 |.ofNat m,.ofNat n=>@Bool.casesOn (λ_=>Int) (Nat.ble n m) (.negSucc (Nat.sub (Nat.sub n m) 1)) (.ofNat (Nat.sub m n))
 |a,b=>a-b
def N5:Int->Bool
 |.ofNat m=>Nat.ble m 9223372036854775807
 |.negSucc m=>Nat.ble m 9223372036854775807
def NR(k:IntKind)(n:Int):Bool:=match k with
 |.i64=>N5 n
 |k=>decide (k.wrap n=n)
def gI(k:IntKind)(n:Int):Option V:=@Bool.casesOn (λ_=>Option V) (NR k n) none (some (.int k n))
def eqK(k k':IntKind):Bool:=decide (k=k')
def M8:IntKind->Bool
 |.i64=>true
 |_=>false
structure FI where
 f:IntKind->Int->Int->Option V
def rj(op:BinOp):FI:=
 match op with
 |.add=>⟨λk a b=>gI k (Oe a b)⟩
 |.sub=>⟨λk a b=>gI k (MM a b)⟩
 |.mul=>⟨λk a b=>gI k (a*b)⟩
 |.quo=>⟨λk a b=>if b=0 then none else gI k (a.tdiv b)⟩
 |.rem=>⟨λk a b=>if b=0 then none else some (.int k (a.tmod b))⟩
 |.eql=>⟨λ_ a b=>some (.bool (eqQ a b))⟩
 |.neq=>⟨λ_ a b=>some (.bool (not (eqQ a b)))⟩
 |.lss=>⟨λ_ a b=>some (.bool (not (leQ b a)))⟩
 |.leq=>⟨λ_ a b=>some (.bool (leQ a b))⟩
 |.gtr=>⟨λ_ a b=>some (.bool (not (leQ a b)))⟩
 |.geq=>⟨λ_ a b=>some (.bool (leQ b a))⟩
 |.and=>⟨λk a b=>cY .and k a b⟩
 |.or=>⟨λk a b=>cY .or k a b⟩
 |.shl=>⟨λk a b=>cY .shl k a b⟩
 |.shr=>⟨λk a b=>cY .shr k a b⟩
 |_=>⟨λ_ _ _=>none⟩
def zr(op:BinOp)(a b:List UInt8):Option V:=
 match op with
 |.add=>@Bool.casesOn (λ_=>Option V) (Nat.ble (a.length+b.length) 9223372036854775807) none (some (.str (a++b)))
 |.eql=>some (.bool (decide (a=b)))
 |.neq=>some (.bool (decide (a≠b)))
 |_=>none
def H9(k k':IntKind):Bool:=@Bool.casesOn (λ_=>Bool) (M8 k) (eqK k k') (M8 k')
def Qn(k:IntKind)(a:Int)(g:IntKind->Int->Int->Option V):V->Option V
 |.int k' b=>@Bool.casesOn (λ_=>Option V) (H9 k k') none (g k a b)
 |_=>none
def QT(op:BinOp)(a:List UInt8):V->Option V
 |.str b=>zr op a b
 |_=>none
def J6(op:BinOp)(g:IntKind->Int->Int->Option V)(y:V):V->Option V
 |.int k a=>Qn k a g y
 |.str a=>QT op a y
 |_=>none
def Rx:V->Option V
 |.int k a=>gI k (0-a)
 |_=>none
def LW(k:IntKind):V->Option V
 |.int _ a=>gI k a
 |_=>none
def Ro:V->Option V
 |.bool b=>some (.bool (!b))
 |_=>none
def L3(a b:V):V->Option V
 |.bool t=>some (@Bool.casesOn (λ_=>V) t b a)
 |_=>none
def Az:Int->Option Nat
 |.ofNat m=>some m
 |_=>none
def Nk(U:Tr (Option Ob))(X8:Nat)(x i:V):Option V:=
 match x,i with
 |.own id off len,.int _ j=>match Az j with
  |some m=>match nD none id U with
   |some ob=>@Bool.casesOn (λ_=>Option V) (Nat.beq ob.sz X8&&Nat.blt m len) none (some (.ptr id (Nat.add off m) 0))
   |none=>none
  |none=>none
 |.sl sz rows,.int _ j=>match Az j with
  |some m=>@Bool.casesOn (λ_=>Option V) (Nat.beq sz X8) none (match rows[m]? with
   |some r=>some (.rp r)
   |none=>none)
  |none=>none
 |_,_=>none
def GB(U:Tr (Option Ob))(agg:Bool)(sz:Nat)(x:V):Option V:=
 match x with
 |.ptr id i k=>match nD none id U with
  |some ob=>match ob.rows[i]? with
   |some r=>match agg with
    |true=>@Bool.casesOn (λ_=>Option V) (Nat.beq k 0&&Nat.beq r.cells.length sz)
       (@Bool.casesOn (λ_=>Option V) (Nat.ble (Nat.add k sz) r.cells.length) none (some (.agg ((r.cells.drop k).take sz)))) (some (.agg r.cells))
    |false=>r.cells[k]?
   |none=>none
  |none=>none
 |x=>cj (stF U) agg sz x
def Hi:V->V->Option V
 |.str s,.int _ j=>match Az j with
  |some m=>match s[m]? with
   |some b=>some (.int .u8 (Int.ofNat b.toNat))
   |none=>none
  |none=>none
 |_,_=>none
structure Mk where
 var:Bool
 len:Nat
 gone:Option Nat
 ob:Ob
def Sb(e sz:Nat)(x:V):Option Mk:=@Bool.casesOn (λ_=>Option Mk) (Nat.beq x.cells.length sz&&x.stays) none (some ⟨true,0,none,⟨e,sz,[x]⟩⟩)
def DJ(e sz:Nat)(xs:List V):Option Mk:=@Bool.casesOn (λ_=>Option Mk) (xs.all λx=>Nat.beq x.cells.length sz&&x.stays) none (some ⟨false,xs.length,none,⟨e,sz,xs⟩⟩)
def mkQ(e sz bytes:Nat)(z:V):V->Option Mk
 |.int k m=>match k with
  |.i64=>match Az m with
   |some j=>@Bool.casesOn (λ_=>Option Mk) (Nat.ble (j*(bytes+1)) 140737488355328) none (some ⟨false,j,none,⟨e,sz,List.replicate j z⟩⟩)
   |none=>none
  |_=>none
 |_=>none
def En(U:Tr (Option Ob))(e sz bytes:Nat)(a b:V):Option Mk:=match bL (stF U) e sz a,bM (stF U) sz b with
 |some (base,idA),some src=>@Bool.casesOn (λ_=>Option Mk) (Nat.ble ((base.length+src.length)*(bytes+1)) 140737488355328) none (some ⟨false,base.length+src.length,idA,⟨e,sz,base++src⟩⟩)
 |_,_=>none
def y6(fl:Nat)(dst:Option Nat)(cs:CS)(m:Mk):Option CS:=
 match m.gone with
 |none=>some (CS.put ⟨cs.s,pQ none (some m.ob) cs.Xq cs.U,Nat.succ cs.Xq⟩ dst (@Bool.casesOn (λ_=>V) m.var (.own cs.Xq 0 m.len) (.ptr cs.Xq 0 0)))
 |some d=>@Bool.casesOn (λ_=>Option CS) (Nat.ble fl d) none
    (some (CS.put ⟨cs.s,pQ none (some m.ob) cs.Xq (pQ none none d cs.U),Nat.succ cs.Xq⟩ dst (@Bool.casesOn (λ_=>V) m.var (.own cs.Xq 0 m.len) (.ptr cs.Xq 0 0))))
inductive Out where
 |nx (cs:CS)
 |ex (id:Nat) (cs:CS)
 |rt (cs:CS)
 |bad
structure Rs where
 v:V
 U:Tr (Option Ob)
 Xq:Nat
def nb:=FuncId->List V->Tr (Option Ob)->Nat->Nat->Option Rs
structure BI where
 f:nb->Nat->CS->Option CS
def kT(dst:Option Nat)(g:CS->Option V):BI:=⟨λ_ _ cs=>match g cs with
 |some v=>some (cs.put dst v)
 |none=>none⟩
def Qr(dst:Option Nat)(x:VX):BI:=⟨λ_ _ cs=>some (cs.put dst (x.ev cs.sf))⟩
def Dh(dst:Option Nat)(g:CS->Option Mk):BI:=⟨λ_ fl cs=>match g cs with
 |some m=>y6 fl dst cs m
 |none=>none⟩
def Cq(dst:Option Nat)(cs:CS):Option Rs->Option CS
 |some r=>some (CS.put ⟨cs.s,r.U,r.Xq⟩ dst r.v)
 |none=>none
def zp(dst:Option Nat)(cs:CS):Option Rs->Option CS
 |some r=>@Bool.casesOn (λ_=>Option CS) r.v.gx none (some (cs.put dst r.v))
 |none=>none
def HT(draw:Bool)(dst:Option Nat)(fx:VX)(xs:List VX):BI:=match draw with
 |true=>⟨λcall _ cs=>match fx.ev cs.sf with
  |.fn f caps=>zp dst cs (call f (xs.map (·.ev cs.sf)++caps) cs.U cs.Xq cs.Xq)
  |_=>none⟩
 |false=>⟨λcall fl cs=>match fx.ev cs.sf with
  |.fn f caps=>Cq dst cs (call f (xs.map (·.ev cs.sf)++caps) cs.U cs.Xq fl)
  |_=>none⟩
def ED(dst:Option Nat)(fl sz:Nat)(xv:V)(cs:CS):V->Option CS
 |.ptr id i0 c=>@Bool.casesOn (λ_=>Option CS) (Nat.ble fl id) none (match nD none id cs.U with
  |some ob=>match ob.rows[i0]? with
   |some r=>match cF r c sz xv with
    |some r'=>some (CS.put ⟨cs.s,pQ none (some ⟨ob.elem,ob.sz,ob.rows.set i0 r'⟩) id cs.U,cs.Xq⟩ dst (.VG []))
    |none=>none
   |none=>none
  |none=>none)
 |_=>none
def CW(dst:Option Nat)(sz:Nat)(xa xv:VX):BI:=⟨λ_ fl cs=>ED dst fl sz (xv.ev cs.sf) cs (xa.ev cs.sf)⟩
def CG(draw:Bool)(dst:Option Nat)(sz:Nat)(z:V)(xv:VX):BI:=⟨λ_ _ _=>none⟩
def lx(draw:Bool)(dst:Option Nat)(op:Wd):BI:=match op with
 |.mov x=>Qr dst x
 |.pick c a b=>kT dst λcs=>L3 (a.ev cs.sf) (b.ev cs.sf) (c.ev cs.sf)
 |.bin op x y=>@FI.casesOn (λ_=>BI) (rj op) λg=>kT dst λcs=>J6 op g (y.ev cs.sf) (x.ev cs.sf)
 |.not x=>kT dst λcs=>Ro (x.ev cs.sf)
 |.neg x=>kT dst λcs=>Rx (x.ev cs.sf)
 |.convI k x=>kT dst λcs=>LW k (x.ev cs.sf)
 |.idxA X8 x i=>kT dst λcs=>Nk cs.U X8 (x.ev cs.sf) (i.ev cs.sf)
 |.idxS x i=>kT dst λcs=>Hi (x.ev cs.sf) (i.ev cs.sf)
 |.load agg sz x=>kT dst λcs=>GB cs.U agg sz (x.ev cs.sf)
 |.box e sz x=>Dh dst λcs=>Sb e sz (x.ev cs.sf)
 |.alloc e sz z=>Dh dst λ_=>some ⟨true,0,none,⟨e,sz,[z]⟩⟩
 |.gW e sz xs=>Dh dst λcs=>DJ e sz (xs.map (·.ev cs.sf))
 |.mk e sz bytes z x=>Dh dst λcs=>mkQ e sz bytes z (x.ev cs.sf)
 |.append e sz bytes a b=>Dh dst λcs=>En cs.U e sz bytes (a.ev cs.sf) (b.ev cs.sf)
 |.call f xs=>HT draw dst f xs
 |.store sz a x=>CW dst sz a x
 |.clear sz z x=>CG draw dst sz z x
 |op=>kT dst λcs=>aJ (stF cs.U) cs.sf op
def HK(dst:Option Nat)(b:Bool)(B:BI)(call:nb)(fl:Nat)(cs:CS):V->Option CS
 |.bool c=>@Bool.casesOn (λ_=>Option CS) (Bool.xor c b) (B.f call fl cs) (some (cs.put dst (.VG [])))
 |.VG []=>some (cs.put dst (.VG []))
 |.int _ _=>some (cs.put dst (.VG []))
 |_=>none
def tc(draw:Bool)(i:aK):BI:=match i.g with
 |none=>lx draw i.dst i.op
 |some (x,b)=>⟨λcall fl cs=>HK i.dst b (lx draw i.dst i.op) call fl cs (x.ev cs.sf)⟩
def nR(draw:Bool)(call:nb)(fl m:Nat):List aK->CS->Out:=
 @Nat.rec (λ_=>List aK->CS->Out) (λ_ _=>.bad)
  (λ_ ih l cs=>@List.casesOn aK (λ_=>Out) l (.nx cs)
    (λi l'=>@BI.casesOn (λ_=>Out) (tc draw i) λf=>@Option.casesOn CS (λ_=>Out) (f call fl cs) .bad (ih l'))) m
def Il(draw:Bool)(call:nb)(fl:Nat)(l:List aK)(cs:CS):Out:=nR draw call fl 1000 l cs
def Tr.ofL:List V->Nat->Tr V->Tr V
 |[],_,t=>t
 |v::l,k,t=>Tr.ofL l (Nat.succ k) (pQ (.VG []) v k t)
def Ke(res:List VR)(cs:CS):Option Rs:=match oL ⟨cs.sf,stF cs.U⟩ res with
 |some v=>some ⟨v,cs.U,cs.Xq⟩
 |none=>none
def Q2(res:List VR):Out->Option Rs
 |.nx cs=>Ke res cs
 |.rt cs=>Ke res cs
 |_=>none
def evF(run:Nat->bW->CS->Out)(code:FuncId->Option U'):nb:=λf args U Xq fl=>match code f with
 |none=>none
 |some vf=>@Bool.casesOn (λ_=>Option Rs) (Nat.ble args.length vf.n) none (Q2 vf.res (run fl vf.code ⟨Tr.ofL args 0 .e,U,Xq⟩))
def EU(o:Out)(k:CS->Out):Out:=@Out.casesOn (λ_=>Out) o k (λid cs=>.ex id cs) (λcs=>.rt cs) .bad
def Nr(id:Nat)(o:Out):Out:=@Out.casesOn (λ_=>Out) o (λcs=>.nx cs) (λj cs=>@Bool.casesOn (λ_=>Out) (Nat.beq j id) (.ex j cs) (.nx cs)) (λcs=>.rt cs) .bad
def onB(v:V)(a b:Out):Out:=match v with
 |.bool c=>@Bool.casesOn (λ_=>Out) c b a
 |_=>.bad
def evL(code:FuncId->Option U')(fuel:Nat):Nat->bW->CS->Out:=
 @Nat.rec (λ_=>Nat->bW->CS->Out) (λ_ _ _=>.bad)
  (λ_ ih fl c cs=>match c with
    |.skip=>.nx cs
    |.reg draw l=>Il draw (evF ih code) fl l cs
    |.seq a b=>EU (ih fl a cs) λXw=>ih fl b Xw
    |.cond c a b=>onB (c.ev cs.sf) (ih fl a cs) (ih fl b cs)
    |.block id a=>Nr id (ih fl a cs)
    |.loop a=>EU (ih fl a cs) λXw=>ih fl (.loop a) Xw
    |.exit id=>.ex id cs
    |.ret=>.rt cs
    |.fk ..=>.bad
    |.regA ..=>.bad
    |.tV ..=>.bad
    |.bad=>.bad) fuel
def gL{α:Type}(d:α):List Bool->Tr α->α
 |_,.e=>d
 |[],.n _ v _=>v
 |b::p,.n l _ r=>gL d p (if b then l else r)
def sL{α:Type}(d v:α):List Bool->Tr α->Tr α
 |[],.e=>.n .e v .e
 |[],.n l _ r=>.n l v r
 |b::p,.e=>if b then .n (sL d v p .e) d .e else .n .e d (sL d v p .e)
 |b::p,.n l u r=>if b then .n (sL d v p l) u r else .n l u (sL d v p r)
def uy{α:Type}(d:α):∀(f:Nat) (p:List Bool) (t:Tr α),p.length<f->OW d f p t=gL d p t
 |0,_,_,h=>by omega
 |f+1,[],t,_=>by cases t<;>rfl
 |f+1,b::p,t,h=>by
  cases t with
  |e=>rfl
  |n l u r=>
   have ih:=uy d f p (if b then l else r) (by simpa using h);cases b<;>exact ih
def zl{α:Type}(d v:α):∀(f:Nat) (p:List Bool) (t:Tr α),p.length<f->QF d v f p t=sL d v p t
 |0,_,_,h=>by omega
 |f+1,[],t,_=>by cases t<;>rfl
 |f+1,b::p,t,h=>by
  have h':p.length<f:=by simpa using h
  cases t with
  |e=>cases b<;>simp only[sL,gi,if_false,if_true]<;>rw[<-zl d v f p _ h']<;>rfl
  |n l u r=>cases b<;>simp only[sL,gi,if_false,if_true]<;>rw[<-zl d v f p _ h']<;>rfl
def NQ{α:Type}(d:α)(p:List Bool):gL d p .e=d:=by cases p<;>rfl
def EB{α:Type}(d v:α):∀(p q:List Bool) (t:Tr α),gL d q (sL d v p t)=if q=p then v else gL d q t
 |[],[],t=>by cases t<;>simp[sL,gL]
 |[],b::q,t=>by cases t<;>simp[sL,gL,NQ]
 |a::p,[],t=>by cases t<;>cases a<;>simp[sL,gL]
 |a::p,b::q,t=>by
  cases t with
  |e=>
   have ih:=EB d v p q .e;cases a<;>cases b<;>simp[sL,gL,NQ,ih]
  |n l u r=>
   have ihl:=EB d v p q l;have ihr:=EB d v p q r;cases a<;>cases b<;>simp[sL,gL,ihl,ihr]
def zS:List Bool->Nat
 |[]=>0
 |b::p=>2*zS p+(if b then 1 else 2)
def oF:∀(f k:Nat),k<f->zS (As f k)=k
 |0,_,h=>by omega
 |f+1,0,_=>rfl
 |f+1,k+1,h=>by
  have ih:=oF f (k/2) (by omega);have ih':zS (As f (k.div 2))=k/2:=ih;simp only[As,zS,ih'];have h1:Nat.mod k 2=k%2:=rfl;by_cases hk:k%2=0
  .have:Nat.beq (Nat.mod k 2) 0=true:=by rw[h1,hk];rfl
   simp only[this,if_true];omega
  .have W4:k%2=1:=by omega
   have:Nat.beq (Nat.mod k 2) 0=false:=by rw[h1,W4];rfl
   simp only[this,gi,if_false];omega
def Qu:∀p:List Bool,p.length<=zS p
 |[]=>Wa _
 |b::p=>by have:=Qu p;simp only[XU,zS];split<;>omega
def mu(k:Nat):(pathOf k).length<k.succ:=by
 have h1:=Qu (pathOf k);have h2:zS (pathOf k)=k:=oF (k+1) k (by omega);omega
def CN{i k:Nat}(h:pathOf i=pathOf k):i=k:=by
 have h1:zS (pathOf i)=i:=oF (i+1) i (by omega);have h2:zS (pathOf k)=k:=oF (k+1) k (by omega);rw[<-h1,<-h2,h]
def qq{α:Type}(d v:α)(i k:Nat)(t:Tr α):nD d i (pQ d v k t)=if i=k then v else nD d i t:=by
 unfold nD pQ;rw[uy _ _ _ _ (mu i),uy _ _ _ _ (mu i),zl _ _ _ _ _ (mu k),EB];by_cases h:i=k
 .simp[h]
 .rw[aD h,aD (λe=>h (CN e))]
def No{α:Type}(d:α)(i:Nat):nD d i .e=d:=by
 unfold nD;rw[uy _ _ _ _ (mu i),NQ]
def Nc(cs:CS)(d:Option Nat)(v:V):(cs.put d v).sf=bc cs.sf d v:=by
 funext i;cases d with
 |none=>rfl
 |some d=>show nD _ i (pQ _ v d cs.s)=_;rw[qq];rfl
def GO(cs:CS)(d:Option Nat)(v:V):(cs.put d v).U=cs.U/\(cs.put d v).Xq=cs.Xq:=by cases d<;>exact⟨rfl,rfl⟩
def yY(U:Tr (Option Ob))(k:Nat)(o:Ob):stF (pQ none (some o) k U)=C' (stF U) k o:=by
 funext i;show nD none i _=_;rw[qq];rfl
def Jt(U:Tr (Option Ob))(k:Nat):stF (pQ none none k U)=del (stF U) k:=by
 funext i;show nD none i _=_;rw[qq];rfl
mutual
def aN(R:Nat->Nat->Prop):V->V->Prop
 |.own id off len,u=>∃Xn,u=.own Xn off len/\R id Xn
 |.ptr id i k,u=>∃Xn,u=.ptr Xn i k/\R id Xn
 |.sl sz rows,u=>∃rows',u=.sl sz rows'/\aW R rows rows'
 |.rp v,u=>∃v',u=.rp v'/\aN R v v'
 |.fn f caps,u=>∃caps',u=.fn f caps'/\aW R caps caps'
 |.bm f caps,u=>∃caps',u=.bm f caps'/\aW R caps caps'
 |.iface t v,u=>∃v',u=.iface t v'/\aN R v v'
 |.agg c,u=>∃c',u=.agg c'/\aW R c c'
 |.VG c,u=>∃c',u=.VG c'/\aW R c c'
 |.undef,u=>u=.undef
 |.int k n,u=>u=.int k n
 |.bool b,u=>u=.bool b
 |.str s,u=>u=.str s
 |.aO,u=>u=.aO
 |.YD,u=>u=.YD
 |.WT,u=>u=.WT
 |.Wt,u=>u=.Wt
 |.raw v,u=>u=.raw v
 |.obj v,u=>u=.obj v
 |.gp v,u=>u=.gp v
 |.yl v,u=>∃Xn,u=.yl Xn/\R v Xn
 |.mp v,u=>u=.mp v
def aW(R:Nat->Nat->Prop):List V->List V->Prop
 |[],l=>l=[]
 |v::vs,l=>∃u us,l=u::us/\aN R v u/\aW R vs us
end
section
variable {R R':Nat->Nat->Prop}
mutual
def aN.mono(h:∀a b,R a b->R' a b):∀(v u:V),aN R v u->aN R' v u
 |.own id off len,u,g=>by simp only[aN]at g|-;obtain⟨i,e,r⟩:=g;exact⟨i,e,h _ _ r⟩
 |.ptr id i k,u,g=>by simp only[aN]at g|-;obtain⟨i,e,r⟩:=g;exact⟨i,e,h _ _ r⟩
 |.sl sz rows,u,g=>by simp only[aN]at g|-;obtain⟨i,e,r⟩:=g;exact⟨i,e,aW.mono h _ _ r⟩
 |.rp v,u,g=>by simp only[aN]at g|-;obtain⟨i,e,r⟩:=g;exact⟨i,e,aN.mono h _ _ r⟩
 |.fn f caps,u,g=>by simp only[aN]at g|-;obtain⟨i,e,r⟩:=g;exact⟨i,e,aW.mono h _ _ r⟩
 |.bm f caps,u,g=>by simp only[aN]at g|-;obtain⟨i,e,r⟩:=g;exact⟨i,e,aW.mono h _ _ r⟩
 |.iface t v,u,g=>by simp only[aN]at g|-;obtain⟨i,e,r⟩:=g;exact⟨i,e,aN.mono h _ _ r⟩
 |.agg c,u,g=>by simp only[aN]at g|-;obtain⟨i,e,r⟩:=g;exact⟨i,e,aW.mono h _ _ r⟩
 |.VG c,u,g=>by simp only[aN]at g|-;obtain⟨i,e,r⟩:=g;exact⟨i,e,aW.mono h _ _ r⟩
 |.undef,u,g=>by simpa[aN]using g
 |.int k n,u,g=>by simpa[aN]using g
 |.bool b,u,g=>by simpa[aN]using g
 |.str s,u,g=>by simpa[aN]using g
 |.aO,u,g=>by simpa[aN]using g
 |.YD,u,g=>by simpa[aN]using g
 |.WT,u,g=>by simpa[aN]using g
 |.Wt,u,g=>by simpa[aN]using g
 |.raw v,u,g=>by simpa[aN]using g
 |.obj v,u,g=>by simpa[aN]using g
 |.gp v,u,g=>by simpa[aN]using g
 |.yl v,u,g=>by simp only[aN]at g|-;obtain⟨i,e,r⟩:=g;exact⟨i,e,h _ _ r⟩
 |.mp v,u,g=>by simpa[aN]using g
def aW.mono(h:∀a b,R a b->R' a b):∀(v u:List V),aW R v u->aW R' v u
 |[],u,g=>by simpa[aW]using g
 |v::vs,u,g=>by
  simp only[aW]at g|-;obtain⟨a,as1,e,r,rs⟩:=g;exact⟨a,as1,e,aN.mono h _ _ r,aW.mono h _ _ rs⟩
end
mutual
def ja:∀(v:V),v.gx=true->aN R v v
 |.own ..,g=>by simp[V.gx]at g
 |.ptr ..,g=>by simp[V.gx]at g
 |.sl sz rows,g=>by simp only[V.gx]at g;simp only[aN];exact⟨rows,rfl,gK rows g⟩
 |.rp v,g=>by simp only[V.gx]at g;simp only[aN];exact⟨v,rfl,ja v g⟩
 |.fn f caps,g=>by simp only[V.gx]at g;simp only[aN];exact⟨caps,rfl,gK caps g⟩
 |.bm f caps,g=>by simp only[V.gx]at g;simp only[aN];exact⟨caps,rfl,gK caps g⟩
 |.iface t v,g=>by simp only[V.gx]at g;simp only[aN];exact⟨v,rfl,ja v g⟩
 |.agg c,g=>by simp only[V.gx]at g;simp only[aN];exact⟨c,rfl,gK c g⟩
 |.VG c,g=>by simp only[V.gx]at g;simp only[aN];exact⟨c,rfl,gK c g⟩
 |.undef,_=>by simp[aN]
 |.int k n,_=>by simp[aN]
 |.bool b,_=>by simp[aN]
 |.str s,_=>by simp[aN]
 |.aO,_=>by simp[aN]
 |.YD,_=>by simp[aN]
 |.WT,_=>by simp[aN]
 |.Wt,_=>by simp[aN]
 |.raw v,_=>by simp[aN]
 |.obj v,_=>by simp[aN]
 |.gp v,_=>by simp[aN]
 |.yl v,g=>by simp[V.gx]at g
 |.mp v,_=>by simp[aN]
def gK:∀(l:List V),jx l=true->aW R l l
 |[],_=>by simp[aW]
 |v::vs,g=>by
  simp only[jx,Ba]at g;simp only[aW];exact⟨v,vs,rfl,ja v g.1,gK vs g.2⟩
end
mutual
def ql:∀(v u:V),v.gx=true->aN R v u->u=v
 |.own ..,_,g,_=>by simp[V.gx]at g
 |.ptr ..,_,g,_=>by simp[V.gx]at g
 |.sl sz rows,u,g,h=>by simp only[V.gx]at g;simp only[aN]at h;obtain⟨r,rfl,h⟩:=h;rw[me rows r g h]
 |.rp v,u,g,h=>by simp only[V.gx]at g;simp only[aN]at h;obtain⟨r,rfl,h⟩:=h;rw[ql v r g h]
 |.fn f caps,u,g,h=>by simp only[V.gx]at g;simp only[aN]at h;obtain⟨r,rfl,h⟩:=h;rw[me caps r g h]
 |.bm f caps,u,g,h=>by simp only[V.gx]at g;simp only[aN]at h;obtain⟨r,rfl,h⟩:=h;rw[me caps r g h]
 |.iface t v,u,g,h=>by simp only[V.gx]at g;simp only[aN]at h;obtain⟨r,rfl,h⟩:=h;rw[ql v r g h]
 |.agg c,u,g,h=>by simp only[V.gx]at g;simp only[aN]at h;obtain⟨r,rfl,h⟩:=h;rw[me c r g h]
 |.VG c,u,g,h=>by simp only[V.gx]at g;simp only[aN]at h;obtain⟨r,rfl,h⟩:=h;rw[me c r g h]
 |.undef,u,_,h=>by simpa[aN]using h
 |.int k n,u,_,h=>by simpa[aN]using h
 |.bool b,u,_,h=>by simpa[aN]using h
 |.str s,u,_,h=>by simpa[aN]using h
 |.aO,u,_,h=>by simpa[aN]using h
 |.YD,u,_,h=>by simpa[aN]using h
 |.WT,u,_,h=>by simpa[aN]using h
 |.Wt,u,_,h=>by simpa[aN]using h
 |.raw v,u,_,h=>by simpa[aN]using h
 |.obj v,u,_,h=>by simpa[aN]using h
 |.gp v,u,_,h=>by simpa[aN]using h
 |.yl v,_,g,_=>by simp[V.gx]at g
 |.mp v,u,_,h=>by simpa[aN]using h
def me:∀(l m:List V),jx l=true->aW R l m->m=l
 |[],m,_,h=>by simpa[aW]using h
 |v::vs,m,g,h=>by
  simp only[jx,Ba]at g;simp only[aW]at h;obtain⟨u,us,rfl,h1,h2⟩:=h;rw[ql v u g.1 h1,me vs us g.2 h2]
end
def aW.kA{l:List V}:aW R [] l↔l=[]:=by simp[aW]
def aW.dj{v:V}{vs l:List V}:aW R (v::vs) l↔∃u us,l=u::us/\aN R v u/\aW R vs us:=by simp[aW]
def aW.length:∀{l m:List V},aW R l m->m.length=l.length
 |[],_,h=>by rw[aW.kA]at h;simp[h]
 |v::vs,_,h=>by obtain⟨u,us,rfl,_,h2⟩:=aW.dj.1 h;simp[h2.length]
def aW.get:∀{l m:List V},aW R l m->∀{i:Nat} {v:V},l[i]?=some v->∃u,m[i]?=some u/\aN R v u
 |[],_,_,i,v,hv=>by simp at hv
 |v::vs,_,h,i,x,hv=>by
  obtain⟨u,us,rfl,h1,h2⟩:=aW.dj.1 h;cases i with
  |zero=>simp at hv;subst hv;exact⟨u,by simp,h1⟩
  |succ i=>simp at hv;simpa using h2.get hv
def aW.append:∀{l m l' m':List V},aW R l m->aW R l' m'->aW R (l++l') (m++m')
 |[],_,_,_,h,h'=>by rw[aW.kA]at h;subst h;simpa using h'
 |v::vs,_,_,_,h,h'=>by
  obtain⟨u,us,rfl,h1,h2⟩:=aW.dj.1 h;exact aW.dj.2 ⟨u,us++_,by simp,h1,h2.append h'⟩
def aW.take:∀{l m:List V},aW R l m->∀i,aW R (l.take i) (m.take i)
 |[],_,h,i=>by rw[aW.kA]at h;subst h;simp[aW]
 |v::vs,_,h,i=>by
  obtain⟨u,us,rfl,h1,h2⟩:=aW.dj.1 h;cases i with
  |zero=>simp[aW]
  |succ i=>exact aW.dj.2 ⟨u,us.take i,by simp,h1,h2.take i⟩
def aW.drop:∀{l m:List V},aW R l m->∀i,aW R (l.drop i) (m.drop i)
 |[],_,h,i=>by rw[aW.kA]at h;subst h;simp[aW]
 |v::vs,_,h,i=>by
  obtain⟨u,us,rfl,h1,h2⟩:=aW.dj.1 h;cases i with
  |zero=>exact aW.dj.2 ⟨u,us,by simp,h1,h2⟩
  |succ i=>simpa using h2.drop i
def aW.set:∀{l m:List V},aW R l m->∀(i:Nat) {v u:V},aN R v u->aW R (l.set i v) (m.set i u)
 |[],_,h,i,_,_,_=>by rw[aW.kA]at h;subst h;simp[aW]
 |v::vs,_,h,i,x,y,hx=>by
  obtain⟨u,us,rfl,h1,h2⟩:=aW.dj.1 h;cases i with
  |zero=>exact aW.dj.2 ⟨y,us,by simp,hx,h2⟩
  |succ i=>exact aW.dj.2 ⟨u,us.set i y,by simp,h1,h2.set i hx⟩
def aW.replicate{v u:V}(h:aN R v u):∀n,aW R (List.replicate n v) (List.replicate n u)
 |0=>by simp[aW]
 |n+1=>aW.dj.2 ⟨u,List.replicate n u,by simp[List.replicate_succ],h,aW.replicate h n⟩
def aW.one{v u:V}(h:aN R v u):aW R [v] [u]:=aW.dj.2 ⟨u,[],rfl,h,by simp[aW]⟩
def aN.qn{k:IntKind}{n:Int}{u:V}:aN R (.int k n) u↔u=.int k n:=by simp[aN]
def aN.qu{b:Bool}{u:V}:aN R (.bool b) u↔u=.bool b:=by simp[aN]
def aN.El{b:List UInt8}{u:V}:aN R (.str b) u↔u=.str b:=by simp[aN]
def aN.KD{b:List V}{u:V}:aN R (.agg b) u↔∃c,u=.agg c/\aW R b c:=by simp[aN]
def aN.agg{l m:List V}(h:aW R l m):aN R (.agg l) (.agg m):=aN.KD.2 ⟨m,rfl,h⟩
def aN.rp{l m:V}(h:aN R l m):aN R (.rp l) (.rp m):=by simp only[aN];exact⟨m,rfl,h⟩
def aN.cells{v u:V}(h:aN R v u):aW R v.cells u.cells:=by
 cases v<;>simp only[aN]at h
 case agg c=>obtain⟨c',rfl,h⟩:=h;simpa[V.cells]using h
 all_goals first
  |(subst h;exact aW.one (by simp[aN]))
  |(obtain⟨c,rfl,h⟩:=h;exact aW.one (by simp only[aN];exact⟨_,rfl,h⟩))
def aN.stays{v u:V}(h:aN R v u):u.stays=v.stays:=by
 cases v<;>simp only[aN]at h<;>first
  |(subst h;rfl)
  |(obtain⟨c,rfl,h⟩:=h;rfl)
end
def Lv(R:Nat->Nat->Prop)(Zc U:ad):Prop:=∀c a o,R c a->Zc c=some o->∃rows',U a=some ⟨o.elem,o.sz,rows'⟩/\aW R o.rows rows'
def Lv.sup{R:Nat->Nat->Prop}{Zc U Z1:ad}(h:Lv R Zc U)(hs:aa U Z1):Lv R Zc Z1:=λc a o hc ho=>by
 obtain⟨rows',h1,h2⟩:=h c a o hc ho;exact⟨rows',hs _ _ h1,h2⟩
structure pK(K:ad)(fl:Nat)(R:Nat->Nat->Prop)(Zc:ad)(Xq:Nat)(U:ad):Prop where
 dom:∀c a,R c a->c<Xq
 live:Lv R Zc U
 inj:∀c c' a o o',R c a->R c' a->Zc c=some o->Zc c'=some o'->c=c'
 fn:∀c a a',R c a->R c a'->a=a'
 mR:aa K U
 kfl:∀a o c oc,K a=some o->R c a->Zc c=some oc->c<fl
section
variable {R:Nat->Nat->Prop} {K Zc U:ad} {fl Xq:Nat}
def pK.write(h:pK K fl R Zc Xq U){c a:Nat}{o:Ob}(hc:R c a)(ho:Zc c=some o)(hf:fl<=c){rows rows':List V}(hr:aW R rows rows'):
 pK K fl R (C' Zc c ⟨o.elem,o.sz,rows⟩) Xq (C' U a ⟨o.elem,o.sz,rows'⟩):=by
 have ZM:∀i x,C' Zc c ⟨o.elem,o.sz,rows⟩ i=some x->∃y,Zc i=some y:=λi x hx=>by
  by_cases e:i=c
  .rw[e];exact⟨o,ho⟩
  .rw[ab e]at hx;exact⟨x,hx⟩
 refine⟨h.dom,?_,?_,?_,?_,?_⟩
 .intro c1 a1 o1 h1 h2;by_cases e:c1=c
  .subst e;have:a1=a:=h.fn c1 a1 a h1 hc;subst this;rw[ag]at h2;simp only[aS]at h2;subst h2;exact⟨rows',ag,hr⟩
  .rw[ab e]at h2;have V2:a1≠a:=λe'=>by subst e';exact e (h.inj c1 c a1 o1 o h1 hc h2 ho)
   rw[ab V2];exact h.live c1 a1 o1 h1 h2
 .intro c1 c2 a1 o1 o2 h1 h2 h3 h4;obtain⟨y,hy⟩:=ZM _ _ h3;obtain⟨z,hz⟩:=ZM _ _ h4;exact h.inj c1 c2 a1 y z h1 h2 hy hz
 .exact h.fn
 .intro i x hx;have V2:i≠a:=λe=>by subst e;have:=h.kfl i x c o hx hc ho;omega
  rw[ab V2];exact h.mR i x hx
 .intro a1 o1 c1 oc h1 h2 h3;obtain⟨y,hy⟩:=ZM _ _ h3;exact h.kfl a1 o1 c1 y h1 h2 hy
def pK.rem(h:pK K fl R Zc Xq U){c a:Nat}{o:Ob}(hc:R c a)(ho:Zc c=some o)(hf:fl<=c):
 pK K fl R (del Zc c) Xq (del U a):=by
 have ZM:∀i x,del Zc c i=some x->i≠c/\Zc i=some x:=λi x hx=>by
  by_cases e:i=c
  .subst e;simp[Vc.del]at hx
  .rw[cc e]at hx;exact⟨e,hx⟩
 refine⟨h.dom,?_,?_,?_,?_,?_⟩
 .intro c1 a1 o1 h1 h2;obtain⟨e,h2⟩:=ZM _ _ h2;have V2:a1≠a:=λe'=>by subst e';exact e (h.inj c1 c a1 o1 o h1 hc h2 ho)
  rw[cc V2];exact h.live c1 a1 o1 h1 h2
 .intro c1 c2 a1 o1 o2 h1 h2 h3 h4;exact h.inj c1 c2 a1 o1 o2 h1 h2 (ZM _ _ h3).2 (ZM _ _ h4).2
 .exact h.fn
 .intro i x hx;have V2:i≠a:=λe=>by subst e;have:=h.kfl i x c o hx hc ho;omega
  rw[cc V2];exact h.mR i x hx
 .intro a1 o1 c1 oc h1 h2 h3;exact h.kfl a1 o1 c1 oc h1 h2 (ZM _ _ h3).2
def ext(R:Nat->Nat->Prop)(c a:Nat):Nat->Nat->Prop:=λx y=>R x y\/(x=c/\y=a)
def yP(c a:Nat):∀x y,R x y->ext R c a x y:=λ_ _ h=>.inl h
def pK.new(h:pK K fl R Zc Xq U){i:Nat}(hi:U i=none){ob:Ob}{rows':List V}(hr:aW R ob.rows rows'):
 pK K fl (ext R Xq i) (C' Zc Xq ob) (Xq+1) (C' U i ⟨ob.elem,ob.sz,rows'⟩):=by
 have B':∀c a,R c a->c≠Xq:=λc a hc=>by have:=h.dom c a hc;omega
 have hold:∀c a o,R c a->C' Zc Xq ob c=some o->Zc c=some o/\a≠i:=λc a o hc ho=>by
  rw[ab (B' c a hc)]at ho;refine⟨ho,λe=>?_⟩;subst e;obtain⟨r,hr,_⟩:=h.live c a o hc ho;rw[hi]at hr;cases hr
 refine⟨?_,?_,?_,?_,h.mR.C' hi,?_⟩
 .rintro c a (hc|⟨rfl,rfl⟩)
  .have:=h.dom c a hc;omega
  .omega
 .rintro c a o (hc|⟨rfl,rfl⟩) ho
  .obtain⟨h1,h2⟩:=hold c a o hc ho;obtain⟨r,h3,h4⟩:=h.live c a o hc h1;rw[ab h2];exact⟨r,h3,aW.mono (yP Xq i) _ _ h4⟩
  .rw[ag]at ho;simp only[aS]at ho;subst ho;exact⟨rows',ag,aW.mono (yP _ _) _ _ hr⟩
 .rintro c c' a o o' (hc|⟨rfl,rfl⟩) (hc'|⟨rfl,e⟩) ho ho'
  .exact h.inj c c' a o o' hc hc' (hold _ _ _ hc ho).1 (hold _ _ _ hc' ho').1
  .exact absurd e (hold _ _ _ hc ho).2
  .exact absurd rfl (hold _ _ _ hc' ho').2
  .rfl
 .rintro c a a' (hc|⟨rfl,rfl⟩) (hc'|⟨e,rfl⟩)
  .exact h.fn c a a' hc hc'
  .exact absurd e (B' _ _ hc)
  .exact absurd rfl (B' _ _ hc')
  .rfl
 .rintro a o c oc hk (hc|⟨rfl,rfl⟩) ho
  .exact h.kfl a o c oc hk hc (hold _ _ _ hc ho).1
  .have:=h.mR a o hk;rw[hi]at this;cases this
def okX:VX->Bool
 |.t _=>true
 |.c v=>v.gx
def ub(op:Wd):Bool:=op.xs.all okX&&(match op with
 |.alloc _ _ z=>z.gx
 |.build zero _=>jx zero
 |.clear _ z _=>z.gx
 |.mk _ _ _ z _=>z.gx
 |.more _ _|.neg _|.cap _|.fld _ _ _ _|.idxAA _ _ _ _ _|.idxV _ _ _ _ _|.slice _ _ _ _ _|.sliceS _ _ _|.mkfn _ _|.nilCheck _|.Zk _ _ _|.eqS _ _ _ _=>false
 |_=>true)
def rh(i:aK):Bool:=ub i.op&&(match i.g with
 |some (x,_)=>okX x
 |none=>true)
def jQ:bW->Bool
 |.reg _ l=>l.all rh
 |.seq a b=>jQ a&&jQ b
 |.cond c a b=>okX c&&(jQ a&&jQ b)
 |.block _ a=>jQ a
 |.loop a=>jQ a
 |_=>true
def Ec:VR->Bool
 |.tmp x=>okX x
 |.cell _ _ x=>okX x
 |.bad=>true
def MK(f:U'):Bool:=jQ f.code&&f.res.all Ec
variable {s s':Nat->V}
def iE(hs:∀i,aN R (s i) (s' i)){x:VX}(hx:okX x=true):aN R (x.ev s) (x.ev s'):=by
 cases x with
 |t n=>exact hs n
 |c v=>exact ja v hx
def uI(hs:∀i,aN R (s i) (s' i)):∀{xs:List VX},xs.all okX=true->aW R (xs.map (·.ev s)) (xs.map (·.ev s'))
 |[],_=>by simp[aW]
 |x::xs,h=>by
  simp only[mV,Ba]at h;exact aW.dj.2 ⟨_,_,rfl,iE hs h.1,uI hs h.2⟩
def BH{op:BinOp}{k:IntKind}{a b:Int}{v:V}(h:cY op k a b=some v):v.gx=true:=by
 unfold cY at h;split at h<;>first
  |(simp only[aS]at h;subst h;rfl)
  |(split at h<;>first|(simp only[aS]at h;subst h;rfl)|cases h)
  |cases h
def Ax{op:BinOp}{a b:List UInt8}{v:V}(h:fm op a b=some v):v.gx=true:=by
 unfold fm at h;split at h<;>first
  |(simp only[aS]at h;subst h;rfl)
  |cases h
def HB{op:BinOp}{a b a' b' v:V}(ha:aN R a a')(hb:aN R b b')(h:xr op a b=some v):a'=a/\b'=b/\v.gx=true:=by
 unfold xr at h;split at h
 .simp only[aN]at ha hb;split at h
  .exact⟨ha,hb,BH h⟩
  .cases h
 .simp only[aN]at ha hb;exact⟨ha,hb,Ax h⟩
 .cases h
def Hu{b:Bool}{x x' v:V}(hx:aN R x x')(h:dX b x=some v):∃v',dX b x'=some v'/\aN R v v':=by
 unfold dX at h;split at h<;>simp only[aS,reduceCtorEq]at h<;>simp only[aN]at hx<;>subst h
 .obtain⟨i,rfl,_⟩:=hx;exact⟨_,rfl,by simp[aN]⟩
 .obtain⟨i,rfl,hr⟩:=hx;exact⟨_,rfl,by simp[aN,hr.length]⟩
 .subst hx;exact⟨_,rfl,by simp[aN]⟩
 .subst hx;exact⟨_,rfl,by simp[aN]⟩
def zF{agg:Bool}{off sz:Nat}{vs us:List V}{v:V}(h:aW R vs us)(hv:bP agg off sz vs=some v):∃v',bP agg off sz us=some v'/\aN R v v':=by
 unfold bP at hv|-;cases agg
 .simpa using h.get hv
 .simp only[if_true,aS]at hv|-;subst hv;exact⟨_,rfl,aN.agg ((h.drop off).take sz)⟩
def ES{agg:Bool}{off sz:Nat}{x x' v:V}(hx:aN R x x')(h:gn agg off sz x=some v):∃v',gn agg off sz x'=some v'/\aN R v v':=by
 unfold gn at h;split at h
 .simp only[aN]at hx;obtain⟨i,rfl,hr⟩:=hx;simp only[aS]at h;subst h;exact⟨_,rfl,by simp only[aN];exact⟨i,rfl,hr⟩⟩
 .simp only[aN]at hx;obtain⟨u,rfl,hr⟩:=hx;simp only[Zq8]at h;obtain⟨w,hw,rfl⟩:=h;obtain⟨w',h1,h2⟩:=zF hr.cells hw;exact⟨.rp w',by simp[gn,h1],aN.rp h2⟩
 .cases h
def E2(hm:Lv R Zc U){X8:Nat}{x i x' i' v:V}(hx:aN R x x')(hi:aN R i i')(h:bO Zc X8 x i=some v):∃v',bO U X8 x' i'=some v'/\aN R v v':=by
 unfold bO at h;split at h
 .simp only[aN]at hx hi;obtain⟨a,rfl,ha⟩:=hx;subst hi;split at h
  .rename_i ob WO;obtain⟨rows',h1,h2⟩:=hm _ _ _ ha WO;split at h
   .rename_i hc;simp only[aS]at h;subst h;refine⟨_,?_,by simp only[aN];exact⟨a,rfl,ha⟩⟩;simp only[bO,h1];rw[av hc]
   .cases h
  .cases h
 .simp only[aN]at hx hi;obtain⟨rows',rfl,hr⟩:=hx;subst hi;split at h
  .rename_i hc;split at h
   .rename_i r hrr;simp only[aS]at h;subst h;obtain⟨u,h1,h2⟩:=hr.get hrr;refine⟨.rp u,?_,aN.rp h2⟩;simp only[bO,h1];rw[av hc]
   .cases h
  .cases h
 .cases h
def Gk{x i x' i' v:V}(hx:aN R x x')(hi:aN R i i')(h:gV x i=some v):∃v',gV x' i'=some v'/\aN R v v':=by
 have h0:=h;unfold gV at h;split at h
 .rw[aN.El]at hx;rw[aN.qn]at hi;subst hx hi;refine⟨v,h0,?_⟩;split at h
  .split at h
   .simp only[aS]at h;subst h;simp[aN]
   .cases h
  .cases h
 .cases h
def xK(hm:Lv R Zc U){agg:Bool}{sz:Nat}{x x' v:V}(hx:aN R x x')(h:cj Zc agg sz x=some v):∃v',cj U agg sz x'=some v'/\aN R v v':=by
 unfold cj at h;split at h
 .simp only[aN]at hx;obtain⟨a,rfl,ha⟩:=hx;split at h
  .rename_i ob WO;obtain⟨rows',h1,h2⟩:=hm _ _ _ ha WO;split at h
   .rename_i r hr;obtain⟨r',h3,h4⟩:=h2.get hr;have hl:=h4.cells.length;simp only[cj,h1,h3,hl];cases agg
    .simp only[gi,if_false]at h|-;exact h4.cells.get h
    .simp only[if_true]at h|-;split at h
     .rename_i hc;simp only[aS]at h;subst h;exact⟨_,by rw[av hc],aN.agg h4.cells⟩
     .split at h
      .rename_i hc hc';rw[aD hc,av hc'];simp only[aS]at h;subst h;exact⟨_,rfl,aN.agg ((h4.cells.drop _).take _)⟩
      .cases h
   .cases h
  .cases h
 .simp only[aN]at hx;obtain⟨u,rfl,hr⟩:=hx;rename_i w;have hl:=hr.cells.length;cases agg
  .simp only[gi,if_false]at h;split at h
   .cases h
   .simp only[aS]at h;subst h;rename_i hna;refine⟨u,?_,hr⟩;cases u<;>simp only[cj,gi,if_false];cases w<;>simp only[aN]at hr<;>simp at hr hna
  .simp only[if_true]at h;split at h
   .rename_i hc;simp only[aS]at h;subst h;refine⟨_,?_,aN.agg hr.cells⟩;simp only[cj,hl,if_true];rw[av hc]
   .cases h
 .cases h
def Bb{m:Bool}{x y x' y' v:V}(hx:aN R x x')(hy:aN R y y')(h:dP m x y=some v):∃v',dP m x' y'=some v'/\aN R v v':=by
 have h0:=h;unfold dP at h;split at h
 .rw[aN.qn]at hx hy;subst hx hy;refine⟨v,h0,?_⟩;split at h
  .simp only[aS]at h;subst h;simp[aN]
  .cases h
 .cases h
def tv:∀{l m:List V} {b:List UInt8},aW R l m->bytesOf l=some b->m=l
 |[],_,_,h,_=>by rw[aW.kA]at h;exact h
 |v::vs,_,b,h,hb=>by
  obtain⟨u,us,rfl,g1,g2⟩:=aW.dj.1 h;simp only[bytesOf]at hb;split at hb
  .rename_i e1 e2;rw[tv g2 e2];cases v<;>simp[byteOf]at e1;rw[aN.qn]at g1;rw[g1]
  .cases hb
def CM(hm:Lv R Zc U){x x' v:V}(hx:aN R x x')(h:ei Zc x=some v):∃v',ei U x'=some v'/\aN R v v':=by
 unfold ei at h;split at h
 .simp only[aN]at hx;subst hx;simp only[aS]at h;subst h;exact⟨_,rfl,by simp[aN]⟩
 .simp only[aN]at hx;obtain⟨a,rfl,ha⟩:=hx;split at h
  .rename_i ob WO;obtain⟨rows',h1,h2⟩:=hm _ _ _ ha WO;split at h
   .rename_i hc;simp only[Zq8]at h;obtain⟨l,hl,rfl⟩:=h;have e:=tv ((h2.drop _).take _) hl;refine⟨_,?_,aN.El.2 rfl⟩;simp only[ei,h1,h2.length,e,hl,Option.map_some];rw[av hc]
   .cases h
  .cases h
 .cases h
def Ip{i:Nat}{x x' v:V}(hx:aN R x x')(h:mj i x=some v):∃v',mj i x'=some v'/\aN R v v':=by
 unfold mj at h;split at h
 .simp only[aN]at hx;obtain⟨c,rfl,hr⟩:=hx;exact hr.get h
 .cases h
def lf(R:Nat->Nat->Prop):List (Nat×Nat×V)->List (Nat×Nat×V)->Prop
 |[],l=>l=[]
 |p::ps,l=>∃u us,l=(p.1,p.2.1,u)::us/\aN R p.2.2 u/\lf R ps us
def wX:∀{ps ps':List (Nat×Nat×V)} {z z' l:List V},aW R z z'->lf R ps ps'->dT z ps=some l->∃l',dT z' ps'=some l'/\aW R l l'
 |[],_,z,z',l,hz,hp,h=>by
  simp only[lf]at hp;subst hp;simp only[dT,aS]at h;subst h;exact⟨_,rfl,hz⟩
 |(off,sz,x)::ps,_,z,z',l,hz,hp,h=>by
  simp only[lf]at hp;obtain⟨u,us,rfl,h1,h2⟩:=hp;simp only[dT]at h|-;split at h
  .rename_i hc;rw[av ⟨by rw[h1.cells.length];exact hc.1,by rw[h1.stays];exact hc.2.1,by rw[hz.length];exact hc.2.2⟩];refine wX ?_ h2 h;unfold cE;rw[h1.cells.length];exact((hz.take _).append h1.cells).append (hz.drop _)
  .cases h
def E1(hm:Lv R Zc U)(hs:∀i,aN R (s i) (s' i)){op:Wd}(VE:ub op=true){v:V}(hp:eL s op)(h:aJ Zc s op=some v):
 eL s' op/\∃v',aJ U s' op=some v'/\aN R v v':=by
 have hok':=VE;simp only[ub,Ba]at VE;have hx:=fM.1 VE.1;have E:∀x,x∈op.xs->aN R (x.ev s) (x.ev s'):=λx h=>iE hs (hx x h);cases op<;>simp only[Wd.xs,et,List.not_mem_nil,or_false,forall_eq_or_imp,forall_eq,ec]at E<;>simp only[aJ,eL,aS,reduceCtorEq,true_and]at h hp|-
 case mov=>subst h;exact⟨_,rfl,E⟩
 case pick c a b=>
  split at h
  .rename_i t ht;have:=E.1;rw[ht,aN.qu]at this;rw[this];simp only[aS]at h|-;subst h;refine⟨_,rfl,?_⟩;cases t
   .exact E.2.2
   .exact E.2.1
  .cases h
 case bin op x y=>
  obtain⟨e1,e2,e3⟩:=HB E.1 E.2 h;rw[e1,e2];exact⟨hp,v,h,ja v e3⟩
 case not x=>
  split at h
  .rename_i b hb;rw[hb,aN.qu]at E;rw[E];simp only[aS]at h|-;subst h;exact⟨_,rfl,by simp[aN]⟩
  .cases h
 case len=>exact Hu E h
 case fldA=>exact ES E h
 case idxA=>exact E2 hm E.1 E.2 h
 case idxS=>exact Gk E.1 E.2 h
 case load=>exact xK hm E h
 case ext=>exact Ip E h
 case convI k x=>
  split at h
  .rename_i k' b hb;rw[hb]at hp;rw[hb,aN.qn]at E;rw[E];simp only[aS]at h|-;subst h;exact⟨hp,_,rfl,by simp[aN]⟩
  .cases h
 case minmax=>exact Bb E.1 E.2 h
 case bstr=>exact CM hm E h
 case build zero parts=>
  simp only[Zq8]at h;obtain⟨l,hl,rfl⟩:=h;have hpr:∀ps:List (Nat×Nat×VX),(∀p∈ps,okX p.2.2=true)->lf R (ps.map λp=>(p.1,p.2.1,p.2.2.ev s)) (ps.map λp=>(p.1,p.2.1,p.2.2.ev s')):=by
   intro ps
   induction ps with
   |nil=>intro _;simp[lf]
   |cons p ps ih=>
    intro hps;simp only[fF,lf];exact⟨_,_,rfl,iE hs (hps p (by simp)),ih λq hq=>hps q (by simp[hq])⟩
  obtain⟨l',h1,h2⟩:=wX (gK zero VE.2) (hpr parts λp hp=>hx _ (by simp only[Wd.xs,gM];exact⟨p,hp,rfl⟩)) hl;exact⟨.agg l',by rw[h1];rfl,aN.agg h2⟩
 all_goals exact absurd VE.2 Bool.false_ne_true
end
variable {R:Nat->Nat->Prop} {K:ad} {fl:Nat} {P:Program} {n:Nat}
structure ij(K:ad)(fl:Nat)(R:Nat->Nat->Prop)(cs:CS)(st:St):Prop where
 slot:∀i,aN R (cs.sf i) (st.s i)
 mem:pK K fl R (stF cs.U) cs.Xq st.U
def E9{s s':Nat->V}(h:∀i,aN R (s i) (s' i)){d:Option Nat}{v u:V}(hv:aN R v u):∀i,aN R (bc s d v i) (bc s' d u i):=by
 intro i;cases d with
 |none=>exact h i
 |some d=>
  show aN R (if i=d then v else s i) (if i=d then u else s' i);split
  .exact hv
  .exact h i
def ij.put{cs:CS}{st:St}(h:ij K fl R cs st){d:Option Nat}{v u:V}(hv:aN R v u):ij K fl R (cs.put d v) ⟨bc st.s d u,st.U⟩:=by
 refine⟨?_,?_⟩
 .rw[Nc];exact E9 h.slot hv
 .rw[(GO cs d v).1,(GO cs d v).2];exact h.mem
def aN.M1:aN R (.VG []) (.VG []):=by simp[aN,aW]
def M7(a b:Int):eqQ a b=decide (a=b):=by
 cases a<;>cases b<;>rw[Bool.eq_iff_iff]<;>simp[eqQ]<;>first|rfl|omega
def Nh(a b:Int):leQ a b=decide (a<=b):=by
 cases a<;>cases b<;>rw[Bool.eq_iff_iff]<;>simp only[leQ,Nat.ble_eq,X7,gi,false_iff,true_iff,Int.ofNat_eq_natCast]<;>omega
def Lj(a b:Int):Oe a b=a+b:=by cases a<;>cases b<;>rfl
def KE(a b:Int):MM a b=a-b:=by
 cases a<;>cases b<;>simp only[MM];rename_i m k;cases h:Nat.ble k m
 .have:¬k<=m:=by rw[<-Nat.ble_eq];simp[h]
  simp only[Nat.sub_eq,Int.ofNat_eq_natCast];omega
 .have:k<=m:=zw h;simp only[Nat.sub_eq,Int.ofNat_eq_natCast];omega
def Lx{a:Int}(h:N5 a=true):VO .i64 a:=by
 cases a<;>simp only[N5,Nat.ble_eq]at h
 .rw[Int.ofNat_eq_natCast];exact ae
 .exact ae
def Ld{k:IntKind}{a:Int}(h:NR k a=true):VO k a:=by
 unfold NR at h;split at h
 .exact Lx h
 .simpa[VO]using h
def kj{α:Type}{b:Bool}{x y:α}:@Bool.casesOn (λ_=>α) b x y=if b then y else x:=by cases b<;>rfl
def Jy{α:Type}{b:Bool}{x y:α}:@Bool.rec (λ_=>α) x y b=if b then y else x:=by cases b<;>rfl
def x5{k:IntKind}{a:Int}{v:V}(h:gI k a=some v):v=.int k a/\VO k a:=by
 unfold gI at h;rw[kj]at h;split at h
 .rename_i hi;simp only[aS]at h;exact⟨h.symm,Ld hi⟩
 .cases h
def C7{op:BinOp}{k:IntKind}{a b:Int}{v:V}(h:(rj op).f k a b=some v):eN op k a b/\cY op k a b=some v:=by
 unfold rj at h;split at h<;>simp only[]at h
 .obtain⟨rfl,h2⟩:=x5 h;rw[Lj]at*;exact⟨h2,rfl⟩
 .obtain⟨rfl,h2⟩:=x5 h;rw[KE]at*;exact⟨h2,rfl⟩
 .obtain⟨rfl,h2⟩:=x5 h;exact⟨h2,rfl⟩
 .split at h
  .cases h
  .rename_i hb;obtain⟨rfl,h2⟩:=x5 h;exact⟨h2,by simp[cY,hb]⟩
 .split at h
  .cases h
  .rename_i hb;simp only[aS]at h;subst h;exact⟨trivial,by simp[cY,hb]⟩
 all_goals first
  |exact⟨trivial,h⟩
  |(simp only[aS]at h;subst h;refine⟨trivial,?_⟩;simp only[M7,Nh,cY,aS,V.bool.injEq];try (rw[Bool.eq_iff_iff];simp))
  |cases h
def Cp{op:BinOp}{a b:List UInt8}{v:V}(h:zr op a b=some v):gk op a b/\fm op a b=some v:=by
 unfold zr at h;split at h
 .rw[kj]at h;split at h
  .rename_i hb;simp only[aS]at h;subst h;exact⟨zw hb,rfl⟩
  .cases h
 .exact⟨trivial,h⟩
 .exact⟨trivial,h⟩
 .cases h
def Gu{k k':IntKind}(h:H9 k k'=true):k=k':=by
 unfold H9 at h;rw[kj]at h;cases k<;>cases k'<;>simp_all [M8,eqK]
def K5{op:BinOp}{x y v:V}(h:J6 op (rj op).f y x=some v):qc op x y/\xr op x y=some v:=by
 unfold J6 at h;split at h
 .unfold Qn at h;split at h
  .rw[kj]at h;split at h
   .rename_i hk;have:=Gu hk;subst this;obtain⟨h1,h2⟩:=C7 h;exact⟨h1,by simp[xr,h2]⟩
   .cases h
  .cases h
 .unfold QT at h;split at h
  .exact Cp h
  .cases h
 .cases h
def Lo{U:Tr (Option Ob)}{X8:Nat}{x i v:V}(h:Nk U X8 x i=some v):bO (stF U) X8 x i=some v:=by
 unfold Nk at h;split at h
 .split at h
  .rename_i m hm;have hj:=hm;unfold Az at hm;split at hm
   .simp only[aS]at hm;subst hm;split at h
    .rename_i ob WO;rw[kj]at h;split at h
     .rename_i hc;simp only[Ba,Nat.beq_eq,Nat.blt_eq]at hc;have e:stF U _=some ob:=WO;simp only[bO,e];rw[av ⟨hc.1,by simp,by simpa using hc.2⟩];exact h
     .cases h
    .cases h
   .cases hm
  .cases h
 .split at h
  .rename_i m hm;unfold Az at hm;split at hm
   .simp only[aS]at hm;subst hm;rw[kj]at h;split at h
    .rename_i hc;rw[Nat.beq_eq]at hc;simp only[bO];rw[av ⟨hc,by simp⟩];exact h
    .cases h
   .cases hm
  .cases h
 .cases h
def HA{x i v:V}(h:Hi x i=some v):gV x i=some v:=by
 unfold Hi at h;split at h
 .split at h
  .rename_i m hm;unfold Az at hm;split at hm
   .simp only[aS]at hm;subst hm;simp only[gV];rw[av (by simp)];exact h
   .cases hm
  .cases h
 .cases h
def Je{U:Tr (Option Ob)}{agg:Bool}{sz:Nat}{x v:V}(h:GB U agg sz x=some v):cj (stF U) agg sz x=some v:=by
 unfold GB at h;split at h
 .split at h
  .rename_i ob WO;have e:stF U _=some ob:=WO;split at h
   .rename_i r hr;simp only[cj,e,hr];split at h
    .rw[kj,kj]at h;simp only[if_true];split at h
     .rename_i hc;simp only[Ba,Nat.beq_eq]at hc;rw[av hc];exact h
     .rename_i hc;split at h
      .rename_i hc';rw[aD (by simpa using hc),av (show _+sz<=_ from zw hc')];exact h
      .cases h
    .simpa using h
   .cases h
  .cases h
 .exact h
def xT{draw:Bool}{call:nb}{dst:Option Nat}{op:Wd}{cs Xw:CS}{st:St}(hk:br op=0)(VE:ub op=true)(h:ij K fl R cs st)
 (hr:(lx draw dst op).f call fl cs=some Xw):∃v',eL st.s op/\aJ st.U st.s op=some v'/\ij K fl R Xw ⟨bc st.s dst v',st.U⟩:=by
 have key:∃v,eL cs.sf op/\aJ (stF cs.U) cs.sf op=some v/\Xw=cs.put dst v:=by
  have hp:∀(g:CS->Option V),(kT dst g).f call fl cs=some Xw->∃v,g cs=some v/\Xw=cs.put dst v:=by
   intro g hg;simp only[kT]at hg;split at hg
   .rename_i v hv;simp only[aS]at hg;exact⟨v,hv,hg.symm⟩
   .cases hg
  cases op<;>simp only[br,reduceCtorEq,Nat.reduceEqDiff]at hk<;>simp only[lx]at hr
  case mov x=>
   simp only[Qr,aS]at hr;exact⟨_,trivial,rfl,hr.symm⟩
  case bin op x y=>
   have hr':(kT dst λcs=>J6 op (rj op).f (y.ev cs.sf) (x.ev cs.sf)).f call fl cs=some Xw:=hr;obtain⟨v,h1,h2⟩:=hp _ hr';obtain⟨h3,h4⟩:=K5 h1;exact⟨v,h3,h4,h2⟩
  case pick c a b=>
   obtain⟨v,h1,h2⟩:=hp _ hr;refine⟨v,trivial,?_,h2⟩;simp only[aJ];unfold L3 at h1;split at h1
   .rename_i t ht;rw[kj]at h1;rw[ht];exact h1
   .cases h1
  case not x=>
   obtain⟨v,h1,h2⟩:=hp _ hr;refine⟨v,trivial,?_,h2⟩;simp only[aJ];unfold Ro at h1;split at h1
   .rename_i t ht;rw[ht];exact h1
   .cases h1
  case neg x=>
   obtain⟨v,h1,h2⟩:=hp _ hr;unfold Rx at h1;split at h1
   .rename_i k t ht;obtain⟨h3,h4⟩:=x5 h1;exact⟨v,by simp only[eL,ht];exact h4,by simp only[aJ,ht,h3],h2⟩
   .cases h1
  case convI k x=>
   obtain⟨v,h1,h2⟩:=hp _ hr;unfold LW at h1;split at h1
   .rename_i k t ht;obtain⟨h3,h4⟩:=x5 h1;exact⟨v,by simp only[eL,ht];exact h4,by simp only[aJ,ht,h3],h2⟩
   .cases h1
  case idxA=>obtain⟨v,h1,h2⟩:=hp _ hr;exact⟨v,trivial,Lo h1,h2⟩
  case idxS=>obtain⟨v,h1,h2⟩:=hp _ hr;exact⟨v,trivial,HA h1,h2⟩
  case load=>obtain⟨v,h1,h2⟩:=hp _ hr;exact⟨v,trivial,Je h1,h2⟩
  all_goals (obtain⟨v,h1,h2⟩:=hp _ hr;exact⟨v,trivial,h1,h2⟩)
 obtain⟨v,h1,h2,rfl⟩:=key;obtain⟨h3,v',h4,h5⟩:=E1 h.mem.live h.slot VE h1 h2;exact⟨v',h3,h4,h.put h5⟩
def BT{Zc U:ad}(hm:Lv R Zc U){sz:Nat}{x x':V}{l:List V}(hx:aN R x x')(h:bM Zc sz x=some l):∃l',bM U sz x'=some l'/\aW R l l':=by
 unfold bM at h;split at h
 .simp only[aN]at hx;obtain⟨a,rfl,ha⟩:=hx;split at h
  .rename_i ob WO;obtain⟨rows',h1,h2⟩:=hm _ _ _ ha WO;split at h
   .rename_i hc;simp only[aS]at h;subst h;refine⟨_,?_,(h2.drop _).take _⟩;simp only[bM,h1,h2.length];rw[av hc]
   .cases h
  .cases h
 .simp only[aN]at hx;obtain⟨rows',rfl,hr⟩:=hx;split at h
  .rename_i hc;simp only[aS]at h;subst h;exact⟨rows',by simp[bM,hc],hr⟩
  .cases h
 .simp only[aN]at hx;subst hx;simp only[aS]at h;subst h;exact⟨[],rfl,by simp[aW]⟩
 .rename_i s;simp only[aN]at hx;subst hx;refine⟨l,h,?_⟩;split at h
  .simp only[aS]at h;subst h
   induction s with
   |nil=>simp[aW]
   |cons b s ih=>simp only[fF,aW];exact⟨_,_,rfl,by simp[aN],ih⟩
  .cases h
 .cases h
def BS{Zc U:ad}(hm:Lv R Zc U){e sz:Nat}{x x':V}{l:List V}{d:Option Nat}(hx:aN R x x')(h:bL Zc e sz x=some (l,d)):
 ∃l' d',bL U e sz x'=some (l',d')/\aW R l l'/\(d=none/\d'=none\/∃c a o,d=some c/\d'=some a/\R c a/\Zc c=some o):=by
 unfold bL at h;split at h
 .simp only[aN]at hx;obtain⟨a,rfl,ha⟩:=hx;split at h
  .rename_i ob WO;obtain⟨rows',h1,h2⟩:=hm _ _ _ ha WO;split at h
   .rename_i hc;simp only[aS,Prod.mk.injEq]at h;obtain⟨rfl,rfl⟩:=h;refine⟨_,some a,?_,h2.take _,.inr ⟨_,a,ob,rfl,rfl,ha,WO⟩⟩;simp only[bL,h1,h2.length];rw[av hc]
   .cases h
  .cases h
 .simp only[aN]at hx;subst hx;simp only[aS,Prod.mk.injEq]at h;obtain⟨rfl,rfl⟩:=h;exact⟨[],none,rfl,by simp[aW],.inl ⟨rfl,rfl⟩⟩
 .cases h
def kU{dst:Option Nat}{cs Xw:CS}{st:St}(h:ij K fl R cs st){m:Mk}{rows':List V}{d':Option Nat}(V8:aW R m.ob.rows rows')
 (hd:m.gone=none/\d'=none\/∃c a o,m.gone=some c/\d'=some a/\R c a/\stF cs.U c=some o)(hr:y6 fl dst cs m=some Xw){id:Nat}(M':st.U id=none):
 ∃R',(∀a b,R a b->R' a b)/\ij K fl R' Xw ⟨bc st.s dst (if m.var then .ptr id 0 0 else .own id 0 m.len),C' (bN st.U d') id ⟨m.ob.elem,m.ob.sz,rows'⟩⟩:=by
 refine⟨ext R cs.Xq id,yP _ _,?_⟩;have ZD:aN (ext R cs.Xq id) (@Bool.casesOn (λ_=>V) m.var (.own cs.Xq 0 m.len) (.ptr cs.Xq 0 0)) (if m.var then .ptr id 0 0 else .own id 0 m.len):=by
  cases m.var
  .simp only[aN,gi,if_false];exact⟨id,rfl,.inr ⟨rfl,rfl⟩⟩
  .simp only[aN,if_true];exact⟨id,rfl,.inr ⟨rfl,rfl⟩⟩
 have hslot:∀i,aN (ext R cs.Xq id) (cs.sf i) (st.s i):=λi=>aN.mono (yP _ _) _ _ (h.slot i);unfold y6 at hr;rcases hd with⟨e1,rfl⟩|⟨c,a,o,e1,rfl,hR,ho⟩
 .rw[e1]at hr;simp only[aS]at hr;subst hr;have hm:=h.mem.new M' V8;have hS:ij K fl (ext R cs.Xq id) ⟨cs.s,pQ none (some m.ob) cs.Xq cs.U,Nat.succ cs.Xq⟩ ⟨st.s,C' st.U id ⟨m.ob.elem,m.ob.sz,rows'⟩⟩:=
   ⟨hslot,by simp only[yY];exact hm⟩
  exact hS.put ZD
 .rw[e1]at hr;simp only[kj]at hr;split at hr
  .rename_i hf;simp only[aS]at hr;subst hr;have h1:=h.mem.rem hR ho (zw hf);have hid':del st.U a id=none:=by
    by_cases e:id=a
    .simp[del,e]
    .rw[cc e];exact M'
   have hm:=h1.new hid' V8;have hS:ij K fl (ext R cs.Xq id) ⟨cs.s,pQ none (some m.ob) cs.Xq (pQ none none c cs.U),Nat.succ cs.Xq⟩ ⟨st.s,C' (del st.U a) id ⟨m.ob.elem,m.ob.sz,rows'⟩⟩:=
    ⟨hslot,by simp only[yY,Jt];exact hm⟩
   rw[kj]at ZD;exact hS.put ZD
  .cases hr
def AK{draw:Bool}{call:nb}{dst:Option Nat}{op:Wd}{cs Xw:CS}{st:St}(hk:br op=3)(VE:ub op=true)(h:ij K fl R cs st)
 (hr:(lx draw dst op).f call fl cs=some Xw):∃g',Xl st.s st.U op=some g'/\∀id,st.U id=none->∃R',(∀a b,R a b->R' a b)/\
   ij K fl R' Xw ⟨bc st.s dst (g' id).1,(g' id).2⟩:=by
 have hp:∀(g:CS->Option Mk),(Dh dst g).f call fl cs=some Xw->∃m,g cs=some m/\y6 fl dst cs m=some Xw:=by
  intro g hg;simp only[Dh]at hg;split at hg
  .rename_i v hv;exact⟨v,hv,hg⟩
  .cases hg
 simp only[ub,Ba]at VE;have hx:=fM.1 VE.1;cases op<;>simp only[br,reduceCtorEq,Nat.reduceEqDiff]at hk<;>simp only[lx]at hr
 case more m xs=>cases m<;>simp at hk
 case alloc e sz z=>
  obtain⟨m,h1,h2⟩:=hp _ hr;simp only[aS]at h1;subst h1;refine⟨_,rfl,λid M'=>?_⟩;have:=kU (d':=none) h (aW.one (ja (R:=R) z VE.2)) (.inl ⟨rfl,rfl⟩) h2 M';simpa[bN]using this
 case box e sz x=>
  obtain⟨m,h1,h2⟩:=hp _ hr;have hv:=iE h.slot (hx x (by simp[Wd.xs]));unfold Sb at h1;rw[kj]at h1;split at h1
  .rename_i hc;simp only[Ba,Nat.beq_eq]at hc;simp only[aS]at h1;subst h1;refine⟨λid=>(.ptr id 0 0,C' st.U id ⟨e,sz,[x.ev st.s]⟩),?_,λid M'=>?_⟩
   .simp only[Xl];rw[av ⟨by rw[hv.cells.length];exact hc.1,by rw[hv.stays];exact hc.2⟩]
   .have:=kU (d':=none) h (aW.one hv) (.inl ⟨rfl,rfl⟩) h2 M';simpa[bN]using this
  .cases h1
 case appz=>simp[kT,aJ]at hr
 case mk e sz bytes z x=>
  obtain⟨m,h1,h2⟩:=hp _ hr;have hv:=iE h.slot (hx x (by simp[Wd.xs]));unfold mkQ at h1;split at h1
  .rename_i kk mm hxe;rw[hxe]at hv;simp only[aN]at hv;split at h1
   .split at h1
    .rename_i j hj;rw[kj]at h1;split at h1
     .rename_i hc;simp only[aS]at h1;subst h1;have hmj:mm=(j:Int):=by
       cases mm<;>simp only[Az,aS,reduceCtorEq]at hj;subst hj;rfl
      subst hmj;refine⟨λid=>(.own id 0 j,C' st.U id ⟨e,sz,List.replicate j z⟩),?_,λid M'=>?_⟩
      .simp only[Xl];rw[hv];have hc':j*(bytes+1)<=140737488355328:=zw hc;simp only[fp];rw[av ⟨by omega,hc'⟩]
      .have:=kU (d':=none) h (aW.replicate (ja (R:=R) z VE.2) j) (.inl ⟨rfl,rfl⟩) h2 M';simpa[bN]using this
     .cases h1
    .cases h1
   .cases h1
  .cases h1
 case gW e sz xs=>
  obtain⟨m,h1,h2⟩:=hp _ hr;have hv:=uI h.slot VE.1;simp only[Wd.xs]at hv;unfold DJ at h1;rw[kj]at h1;split at h1
  .rename_i hc;simp only[aS]at h1;subst h1;refine⟨λid=>(.own id 0 xs.length,C' st.U id ⟨e,sz,xs.map (·.ev st.s)⟩),?_,λid M'=>?_⟩
   .simp only[Xl];rw[av];rw[fM];intro y hy;rw[gM]at hy;obtain⟨x,hxx,rfl⟩:=hy;have hvx:=iE h.slot (hx x (by simp[Wd.xs,hxx]));have:=fM.1 hc (x.ev cs.sf) (gM.2 ⟨x,hxx,rfl⟩);simp only[Ba,Nat.beq_eq]at this;simp[hvx.cells.length,hvx.stays,this]
   .have:=kU (d':=none) h hv (.inl ⟨rfl,rfl⟩) h2 M';simpa[bN]using this
  .cases h1
 case append e sz bytes xa xb=>
  obtain⟨m,h1,h2⟩:=hp _ hr;have ha:=iE h.slot (hx xa (by simp[Wd.xs]));have hb:=iE h.slot (hx xb (by simp[Wd.xs]));unfold En at h1;split at h1
  .rename_i base idA src e1 e2;obtain⟨base',d',g1,g2,g3⟩:=BS h.mem.live ha e1;obtain⟨src',g4,g5⟩:=BT h.mem.live hb e2;rw[kj]at h1;split at h1
   .rename_i hc;simp only[aS]at h1;subst h1;refine⟨λid=>(.own id 0 (base'.length+src'.length),C' (bN st.U d') id ⟨e,sz,base'++src'⟩),?_,λid M'=>?_⟩
    .simp only[Xl,g1,g4];rw[av (by rw[g2.length,g5.length];exact zw hc)]
    .have:=kU h (g2.append g5) g3 h2 M';simpa[g2.length,g5.length]using this
   .cases h1
  .cases h1
def Ck{r r' x x' q:V}{k sz:Nat}(hr:aN R r r')(hx:aN R x x')(h:cF r k sz x=some q):∃q',cF r' k sz x'=some q'/\aN R q q':=by
 unfold cF at h;split at h
 .rename_i hc;have hc':x'.cells.length=sz/\x'.stays=true:=⟨by rw[hx.cells.length];exact hc.1,by rw[hx.stays];exact hc.2⟩
  split at h
  .rename_i hd;simp only[aS]at h;subst h;refine⟨x',?_,hx⟩;unfold cF;rw[av hc',av ⟨hd.1,by rw[hr.cells.length];exact hd.2⟩]
  .rename_i hd;split at h
   .rename_i he;simp only[aS]at h;subst h;refine⟨_,?_,aN.agg (((hr.cells.take k).append hx.cells).append (hr.cells.drop (k+sz)))⟩;unfold cF;rw[av hc',aD (by rw[hr.cells.length];exact hd),av (by rw[hr.cells.length];exact he)]
   .cases h
 .cases h
def v8{dst:Option Nat}{sz:Nat}{xa xv:VX}{call:nb}{cs Xw:CS}{st:St}(VE:ub (.store sz xa xv)=true)(h:ij K fl R cs st)
 (hr:(CW dst sz xa xv).f call fl cs=some Xw):∃Z',dn st.U sz (xa.ev st.s) (xv.ev st.s)=some Z'/\ij K fl R Xw ⟨bc st.s dst (.VG []),Z'⟩:=by
 simp only[ub,Wd.xs,mV,List.all_nil,Bool.and_true,Ba]at VE;have ha:=iE h.slot VE.1;have hv:=iE h.slot VE.2;simp only[CW,ED]at hr;split at hr
 .rename_i id i0 c hptr;rw[hptr]at ha;simp only[aN]at ha;obtain⟨a,ha1,ha2⟩:=ha;rw[Jy]at hr;split at hr
  .rename_i hf;split at hr
   .rename_i ob WO;have hob':stF cs.U id=some ob:=WO;obtain⟨rows',h1,h2⟩:=h.mem.live _ _ _ ha2 hob';split at hr
    .rename_i r hrr;obtain⟨r',h3,h4⟩:=h2.get hrr;split at hr
     .rename_i q hq;obtain⟨q',h5,h6⟩:=Ck h4 hv hq;simp only[aS]at hr;subst hr;refine⟨C' st.U a ⟨ob.elem,ob.sz,rows'.set i0 q'⟩,?_,?_⟩
      .simp only[dn,ha1,h1,h3,h5]
      .have hm:=h.mem.write ha2 hob' (zw hf) (h2.set i0 h6);have hS:ij K fl R ⟨cs.s,pQ none (some ⟨ob.elem,ob.sz,ob.rows.set i0 q⟩) id cs.U,cs.Xq⟩ ⟨st.s,C' st.U a ⟨ob.elem,ob.sz,rows'.set i0 q'⟩⟩:=
        ⟨h.slot,by simp only[yY];exact hm⟩
       exact hS.put aN.M1
     .cases hr
    .cases hr
   .cases hr
  .cases hr
 .cases hr
variable {P:Program} {n:Nat}
def Le(R R':Nat->Nat->Prop):Prop:=∀a b,R a b->R' a b
def Le.refl(R:Nat->Nat->Prop):Le R R:=λ_ _ h=>h
def Le.trans{R R' R'':Nat->Nat->Prop}(h:Le R R')(h':Le R' R''):Le R R'':=λa b g=>h' a b (h a b g)
def uX(P:Program)(call:nb):Prop:=∀g args Zc Xq fl r,call g args Zc Xq fl=some r->∀(K:ad) (R:Nat->Nat->Prop) (U:ad) (args':List V),
 pK K fl R (stF Zc) Xq U->aW R args args'->au P g args' U λv Z'=>∃R',Le R R'/\aN R' r.v v/\pK K fl R' (stF r.U) r.Xq Z'
def au.drop{f:FuncId}{args:List V}{U:ad}{Post Zj:V->ad->Prop}(h:au P f args U Post)
 (hp:∀r Z',Post r Z'->∃Z0,aa Z0 Z'/\Zj r Z0):au P f args U Zj:=by
 refine⟨h.1,λI w VI hs hr=>(h.2 I w VI hs hr).mono ?_⟩;rintro e w' ⟨r,Z',Y',val,h1,h2,h3,h4,h5⟩;obtain⟨Z0,h6,h7⟩:=hp r Z' h2;exact⟨r,Z0,Y',val,h1,h7,h3,h4.drop h6,Wk.refl h6 r Y' _ _ _ val h4 h5⟩
section
variable {call:nb} {K:ad} {fl:Nat} {R:Nat->Nat->Prop} {cs Xw:CS} {st:St} {Q:St->Prop} {k:List It}
def sF{draw:Bool}{i:aK}(VE:rh i=true)(h:ij K fl R cs st)(hr:(tc draw i).f call fl cs=some Xw):
 (bz st.s i.g=some true/\(lx draw i.dst i.op).f call fl cs=some Xw)\/(bz st.s i.g=some false/\Xw=cs.put i.dst (.VG [])):=by
 simp only[rh,Ba]at VE;unfold tc at hr;split at hr
 .rename_i hg;exact .inl ⟨by simp[hg,bz],hr⟩
 .rename_i x b hg;have hx:=VE.2;simp only[hg]at hx;have hv:=iE h.slot hx;simp only[HK]at hr;split at hr
  .rename_i c hc;rw[hc,aN.qu]at hv;rw[Jy]at hr;split at hr
   .rename_i hcb;simp only[aS]at hr;refine .inr ⟨?_,hr.symm⟩;simp only[hg,bz,hv];cases c<;>cases b<;>simp_all
   .rename_i hcb;refine .inl ⟨?_,hr⟩;simp only[hg,bz,hv];cases c<;>cases b<;>simp_all
  .rename_i hc;rw[hc]at hv;simp only[aN,aW]at hv;obtain⟨c',hv,rfl⟩:=hv;simp only[aS]at hr;exact .inr ⟨by simp only[hg,bz,hv],hr.symm⟩
  .rename_i hc;rw[hc,aN.qn]at hv;simp only[aS]at hr;exact .inr ⟨by simp only[hg,bz,hv],hr.symm⟩
  .cases hr
def Dy{draw:Bool}{dst:Option Nat}{op:Wd}(h:op=.bad\/(∃b x,op=.rngS b x)\/(∃x,op=.nxtS x)\/∃m xs,op=.more m xs/\br op=4)(hr:(lx draw dst op).f call fl cs=some Xw):False:=by
 rcases h with rfl|⟨b,x,rfl⟩|⟨x,rfl⟩|⟨m,xs,rfl,hk⟩
 case inr.inr.inr=>cases m<;>simp[br]at hk<;>simp[lx,kT,aJ]at hr
 all_goals simp[lx,kT,aJ]at hr
def tt(op:Wd):br op=0\/(∃fx xs,op=.call fx xs)\/(∃sz a x,op=.store sz a x)\/br op=3\/(∃sz z x,op=.clear sz z x)\/(op=.bad\/(∃b x,op=.rngS b x)\/(∃x,op=.nxtS x)\/∃m xs,op=.more m xs/\br op=4):=by
 cases op
 case more m xs=>cases m<;>simp[br]
 all_goals simp[br]
def KH(hc:uX P call){i:aK}{l:List aK}(VE:rh i=true)(h:ij K fl R cs st)(hr:(tc false i).f call fl cs=some Xw)
 (hk:∀R' Ye,Le R R'->ij K fl R' Xw Ye->ai P n (.ops l::k) Ye Q):ai P n (.ops (i::l)::k) st Q:=by
 have VS:ub i.op=true:=by simp only[rh,Ba]at VE;exact VE.1
 rcases sF VE h hr with⟨hw,hr⟩|⟨hw,rfl⟩
 .rcases tt i.op with h0|⟨fx,xs,h0⟩|⟨sz,a,x,h0⟩|h0|⟨sz,z,x,h0⟩|h0
  .obtain⟨v',h1,h2,h3⟩:=xT h0 VS h hr;exact ai.pure hw h1 h2 (hk R _ (Le.refl R) h3)
  .rw[h0]at hr VS;simp only[lx,HT]at hr;simp only[ub,Wd.xs,mV,Ba]at VS;split at hr
   .rename_i f caps hf;have hfx:=iE h.slot VS.1.1;rw[hf]at hfx;simp only[aN]at hfx;obtain⟨caps',hf',hcaps⟩:=hfx;generalize Xg:call f (xs.map (·.ev cs.sf)++caps) cs.U cs.Xq fl=r at hr;cases r with
    |none=>simp[Cq]at hr
    |some r=>
     simp only[Cq,aS]at hr;refine ai.call hw h0 hf' (hc _ _ _ _ _ _ Xg K R st.U _ h.mem ((uI h.slot VS.1.2).append hcaps)) ?_;rintro v Z' ⟨R',hle,hv,hm⟩;have hS:ij K fl R' ⟨cs.s,r.U,r.Xq⟩ ⟨st.s,Z'⟩:=⟨λj=>aN.mono hle _ _ (h.slot j),hm⟩
     exact hk R' _ hle (hr▸hS.put hv)
   .cases hr
  .rw[h0]at hr VS;obtain⟨Z',h1,h2⟩:=v8 VS h hr;exact ai.dn hw h0 h1 (hk R _ (Le.refl R) h2)
  .obtain⟨g',h1,h2⟩:=AK h0 VS h hr;refine ai.Xl hw h1 λid M'=>?_;obtain⟨R',h3,h4⟩:=h2 id M';exact hk R' _ h3 h4
  .rw[h0]at hr;simp[lx,CG]at hr
  .exact(Dy h0 hr).elim
 .exact ai.uF hw (hk R _ (Le.refl R) (h.put aN.M1))
def PI(hc:uX P call){i:aK}(VE:rh i=true)(h:ij K fl R cs st)(hr:(tc true i).f call fl cs=some Xw){K':St->Prop}
 (hk:∀R' Ye,Le R R'->ij K fl R' Xw Ye->K' Ye):T P i st K':=by
 have VS:ub i.op=true:=by simp only[rh,Ba]at VE;exact VE.1
 rcases sF VE h hr with⟨hw,hr⟩|⟨hw,rfl⟩
 .refine pL hw ?_;rcases tt i.op with h0|⟨fx,xs,h0⟩|⟨sz,a,x,h0⟩|h0|⟨sz,z,x,h0⟩|h0
  .obtain⟨v',h1,h2,h3⟩:=xT h0 VS h hr;unfold TO;simp only[h0];exact⟨h1,v',h2,hk R _ (Le.refl R) h3⟩
  .rw[h0]at hr VS;rw[h0];simp only[lx,HT]at hr;simp only[ub,Wd.xs,mV,Ba]at VS;split at hr
   .rename_i f caps hf;have hfx:=iE h.slot VS.1.1;rw[hf]at hfx;simp only[aN]at hfx;obtain⟨caps',hf',hcaps⟩:=hfx;generalize Xg:call f (xs.map (·.ev cs.sf)++caps) cs.U cs.Xq cs.Xq=r at hr;cases r with
    |none=>simp[zp]at hr
    |some r=>
     simp only[zp,Jy]at hr;split at hr
     .rename_i Wb;simp only[aS]at hr;refine⟨f,caps',r.v,hf',λZ1 W9=>?_,hk R _ (Le.refl R) (hr▸h.put (ja r.v Wb))⟩;have hm0:pK Z1 cs.Xq R (stF cs.U) cs.Xq Z1:=⟨h.mem.dom,h.mem.live.sup W9,h.mem.inj,h.mem.fn,aa.refl _,λ_ _ c _ _ hcR _=>h.mem.dom c _ hcR⟩
      refine(hc _ _ _ _ _ _ Xg Z1 R Z1 _ hm0 ((uI h.slot VS.1.2).append hcaps)).drop ?_;rintro v Z' ⟨R',hle,hv,hm⟩;exact⟨Z1,hm.mR,ql _ _ Wb hv,rfl⟩
     .cases hr
   .cases hr
  .rw[h0]at hr VS;rw[h0];obtain⟨Z',h1,h2⟩:=v8 VS h hr;exact⟨Z',h1,hk R _ (Le.refl R) h2⟩
  .obtain⟨g',h1,h2⟩:=AK h0 VS h hr;unfold TO;simp only[h0];refine⟨g',h1,λid M'=>?_⟩;obtain⟨R',h3,h4⟩:=h2 id M';exact hk R' _ h3 h4
  .rw[h0]at hr;simp[lx,CG]at hr
  .exact(Dy h0 hr).elim
 .exact uC hw (hk R _ (Le.refl R) (h.put aN.M1))
def nr(draw:Bool)(m:Nat)(i:aK)(l:List aK):nR draw call fl (m+1) (i::l) cs=match(tc draw i).f call fl cs with
 |some Xw=>nR draw call fl m l Xw
 |none=>.bad:=by
 show(@Option.casesOn CS (λ_=>Out) ((tc draw i).f call fl cs) .bad (nR draw call fl m l))=_;cases (tc draw i).f call fl cs<;>rfl
def EC(hc:uX P call):∀(m:Nat) (l:List aK) (R:Nat->Nat->Prop) (cs:CS) (st:St),nR false call fl m l cs=.nx Xw->l.all rh=true->ij K fl R cs st->
 (∀R' Ye,Le R R'->ij K fl R' Xw Ye->ai P n k Ye Q)->ai P n (.ops l::k) st Q
 |0,_,_,_,_,h,_,_,_=>by cases h
 |m+1,[],R,cs,st,h,_,hs,hk=>by
  have h':Out.nx cs=.nx Xw:=h;simp only[Out.nx.injEq]at h';subst h';exact ai.DD (hk R st (Le.refl R) hs)
 |m+1,i::l,R,cs,st,h,VE,hs,hk=>by
  rw[nr]at h;simp only[mV,Ba]at VE;split at h
  .rename_i cs1 h1;refine KH hc VE.1 hs h1 λR' Ye hle VW=>?_;exact EC hc m l R' cs1 Ye h VE.2 VW λR'' st'' hle' hs''=>hk R'' st'' (hle.trans hle') hs''
  .cases h
def LS(hc:uX P call){K':St->Prop}:∀(m:Nat) (l:List aK) (R:Nat->Nat->Prop) (cs:CS) (st:St),nR true call fl m l cs=.nx Xw->l.all rh=true->ij K fl R cs st->
 (∀R' Ye,Le R R'->ij K fl R' Xw Ye->K' Ye)->iW P K' l st
 |0,_,_,_,_,h,_,_,_=>by cases h
 |m+1,[],R,cs,st,h,_,hs,hk=>by
  have h':Out.nx cs=.nx Xw:=h;simp only[Out.nx.injEq]at h';subst h';exact hk R st (Le.refl R) hs
 |m+1,i::l,R,cs,st,h,VE,hs,hk=>by
  rw[nr]at h;simp only[mV,Ba]at VE;split at h
  .rename_i cs1 h1;refine PI hc VE.1 hs h1 λR' Ye hle VW=>?_;exact LS hc m l R' cs1 Ye h VE.2 VW λR'' st'' hle' hs''=>hk R'' st'' (hle.trans hle') hs''
  .cases h
end
def FY(P:Program)(n:Nat)(K:ad)(fl:Nat)(R:Nat->Nat->Prop)(k:List It)(Q:St->Prop):Out->Prop
 |.nx cs=>∀R' st,Le R R'->ij K fl R' cs st->ai P n k st Q
 |.ex id cs=>∃k',eP id k=some k'/\∀R' st,Le R R'->ij K fl R' cs st->ai P n k' st Q
 |.rt cs=>∀R' st,Le R R'->ij K fl R' cs st->Q st
 |.bad=>False
def FY.le{K:ad}{fl:Nat}{R R':Nat->Nat->Prop}{k:List It}{Q:St->Prop}{o:Out}(h:FY P n K fl R k Q o)(hle:Le R R'):FY P n K fl R' k Q o:=by
 cases o
 case bad=>exact h
 case ex=>obtain⟨k',h1,h2⟩:=h;exact⟨k',h1,λR'' st h3 h4=>h2 R'' st (hle.trans h3) h4⟩
 all_goals exact λR'' st h3 h4=>h R'' st (hle.trans h3) h4
def wb(P:Program)(code:FuncId->Option U'):Prop:=∀g vf,code g=some vf->fK P g=true/\MK vf=true/\∃fn,P.funcs[g]?=some fn/\cfn P fn=some vf
def LOk(P:Program)(code:FuncId->Option U')(fuel:Nat):Prop:=∀(n:Nat) (K:ad) (fl:Nat) (R:Nat->Nat->Prop) (c:bW) (cs:CS) (st:St) (k:List It) (Q:St->Prop),
 jQ c=true->ij K fl R cs st->FY P n K fl R k Q (evL code fuel fl c cs)->ai P n (.code c::k) st Q
def Ez(i:Nat):∀(l:List V) (k:Nat) (t:Tr V),nD (.VG []) i (Tr.ofL l k t)=if k<=i/\i<k+l.length then l.getD (i-k) (.VG [])else nD (.VG []) i t
 |[],k,t=>by simp[Tr.ofL];intro h1 h2;omega
 |v::l,k,t=>by
  rw[Tr.ofL,Ez i l (k+1),qq];simp only[XU];by_cases h1:i=k
  .subst h1;rw[aD (by omega),av rfl,av (by omega)];simp
  .by_cases h2:k+1<=i/\i<k+1+l.length
   .rw[av h2,av (by omega),show i-k=(i-(k+1))+1 by omega];simp
   .rw[aD h2,aD h1,aD (by omega)]
def C2{K:ad}{fl:Nat}{R:Nat->Nat->Prop}{cs:CS}{st:St}(h:ij K fl R cs st){r:VR}(VE:Ec r=true){v:V}(hv:iV ⟨cs.sf,stF cs.U⟩ r=some v):
 ∃v',iV st r=some v'/\aN R v v':=by
 cases r<;>simp only[iV,reduceCtorEq,aS]at hv|-
 case tmp x=>subst hv;exact⟨_,rfl,iE h.slot VE⟩
 case cell agg sz x=>exact xK h.mem.live (iE h.slot VE) hv
def vP{K:ad}{fl:Nat}{R:Nat->Nat->Prop}{cs:CS}{st:St}(h:ij K fl R cs st):∀{l:List VR},l.all Ec=true->∀{vs:List V},fL ⟨cs.sf,stF cs.U⟩ l=some vs->
 ∃vs',fL st l=some vs'/\aW R vs vs'
 |[],_,vs,hv=>by simp only[fL,aS]at hv;subst hv;exact⟨[],rfl,by simp[aW]⟩
 |r::l,VE,vs,hv=>by
  simp only[mV,Ba]at VE;simp only[fL]at hv;split at hv
  .rename_i v h1;split at hv
   .rename_i us h2;simp only[aS]at hv;subst hv;obtain⟨v',g1,g2⟩:=C2 h VE.1 h1;obtain⟨us',g3,g4⟩:=vP h VE.2 h2;exact⟨v'::us',by simp[fL,g1,g3],aW.dj.2 ⟨v',us',rfl,g2,g4⟩⟩
   .cases hv
  .cases hv
def GM{K:ad}{fl:Nat}{R:Nat->Nat->Prop}{cs:CS}{st:St}(h:ij K fl R cs st){l:List VR}(VE:l.all Ec=true){v:V}(hv:oL ⟨cs.sf,stF cs.U⟩ l=some v):
 ∃v',oL st l=some v'/\aN R v v':=by
 unfold oL at hv;cases hr:fL ⟨cs.sf,stF cs.U⟩ l with
 |none=>simp[hr]at hv
 |some vs=>
  obtain⟨vs',g1,g2⟩:=vP h VE hr;rw[hr]at hv;unfold oL;rw[g1]
  match vs,hv,g2 with
  |[],hv,g2=>
   rw[aW.kA]at g2;subst g2;simp only[aS]at hv;subst hv;exact⟨_,rfl,by simp[aN,aW]⟩
  |[u],hv,g2=>
   obtain⟨x,xs,rfl,g3,g4⟩:=aW.dj.1 g2;rw[aW.kA]at g4;subst g4;simp only[aS]at hv;subst hv;exact⟨_,rfl,g3⟩
  |u1::u2::us,hv,g2=>
   obtain⟨x,xs,rfl,g3,g4⟩:=aW.dj.1 g2;obtain⟨y,ys,rfl,g5,g6⟩:=aW.dj.1 g4;simp only[aS]at hv;subst hv;exact⟨_,rfl,by simp only[aN];exact⟨_,rfl,g2⟩⟩
def yQ{code:FuncId->Option U'}(hcode:wb P code){fuel:Nat}(ih:LOk P code fuel):uX P (evF (evL code fuel) code):=by
 intro g args Zc Xq fl r hr K R U args' hm WK;unfold evF at hr;split at hr
 .cases hr
 .rename_i vf XN;rw[kj]at hr;split at hr
  .rename_i hlen;obtain⟨Xg,VE,fn,hf,hcf⟩:=hcode g vf XN;simp only[MK,Ba]at VE;have hlen':=zw hlen;refine au.mC hf hcf Xg (by rw[WK.length];exact hlen') ?_;have hs:ij K fl R ⟨Tr.ofL args 0 .e,Zc,Xq⟩ ⟨cS args',U⟩:=by
    refine⟨λi=>?_,hm⟩;show aN R (nD (.VG []) i (Tr.ofL args 0 .e)) (args'.getD i (.VG []));rw[Ez,No];by_cases hi:i<args.length
    .rw[av ⟨Nat.zero_le _,by omega⟩,Nat.sub_zero];obtain⟨u,h1,h2⟩:=WK.get (Zq6 hi);simp only[xA,h1,Zq6 hi,Option.getD_some];exact h2
    .rw[aD (by omega)];have:args'[i]?=none:=wW (by rw[WK.length];omega);simp only[xA,this,Option.getD_none];simp[aN,aW]
   have Xj:∀Xw,Ke vf.res Xw=some r->∀R' st,Le R R'->ij K fl R' Xw st->Ret vf.res st λv Z'=>∃R',Le R R'/\aN R' r.v v/\pK K fl R' (stF r.U) r.Xq Z':=by
    intro Xw hq R' st hle VW;unfold Ke at hq;split at hq
    .rename_i v hv;simp only[aS]at hq;subst hq;obtain⟨v',g1,g2⟩:=GM VW VE.2 hv;exact⟨v',v',st.U,g1,aa.refl _,Wk.refl (aa.refl _) _,R',hle,g2,VW.mem⟩
    .cases hq
   refine ih vf.n K fl R vf.code _ _ [] _ VE.1 hs ?_;generalize evL code fuel fl vf.code ⟨Tr.ofL args 0 .e,Zc,Xq⟩=o at hr;cases o<;>simp only[Q2,reduceCtorEq]at hr
   .exact λR' st hle VW=>ai.nil (Xj _ hr R' st hle VW)
   .exact λR' st hle VW=>Xj _ hr R' st hle VW
  .cases hr
def BO(code:FuncId->Option U')(f fl:Nat)(c:bW)(cs:CS):evL code (f+1) fl c cs=match c with
 |.skip=>.nx cs
 |.reg draw l=>Il draw (evF (evL code f) code) fl l cs
 |.seq a b=>EU (evL code f fl a cs) λXw=>evL code f fl b Xw
 |.cond c a b=>onB (c.ev cs.sf) (evL code f fl a cs) (evL code f fl b cs)
 |.block id a=>Nr id (evL code f fl a cs)
 |.loop a=>EU (evL code f fl a cs) λXw=>evL code f fl (.loop a) Xw
 |.exit id=>.ex id cs
 |.ret=>.rt cs
 |.fk ..=>.bad
 |.regA ..=>.bad
 |.tV ..=>.bad
 |.bad=>.bad:=rfl
def zW{draw:Bool}{call:nb}{fl:Nat}:∀(m:Nat) (l:List aK) (cs:CS),(∃Xw,nR draw call fl m l cs=.nx Xw)\/nR draw call fl m l cs=.bad
 |0,_,_=>.inr rfl
 |m+1,[],cs=>.inl ⟨cs,rfl⟩
 |m+1,i::l,cs=>by
  rw[nr];split
  .exact zW m l _
  .exact .inr rfl
def MZ{code:FuncId->Option U'}(hcode:wb P code):∀fuel,LOk P code fuel:=by
 intro fuel
 induction fuel using Nat.strongRecOn with
 |_ fuel ih=>
  intro n K fl R c cs st k Q VE hs We;cases fuel with
  |zero=>exact We.elim
  |succ f=>
   have ihf:=ih f (by omega);rw[BO]at We;cases c with
   |skip=>exact ai.skip (We R st (Le.refl R) hs)
   |reg draw l=>
    simp only[jQ]at VE;simp only[Il]at We;rcases zW (draw:=draw) (call:=evF (evL code f) code) (fl:=fl) 1000 l cs with⟨Xw,he⟩|he
    .rw[he]at We;cases draw
     .exact ai.region (EC (yQ hcode ihf) 1000 l R cs st he VE hs We)
     .exact ai.Ei (LS (yQ hcode ihf) 1000 l R cs st he VE hs We)
    .rw[he]at We;exact We.elim
   |seq a b=>
    simp only[jQ,Ba]at VE;refine ai.seq (ihf n K fl R a cs st _ Q VE.1 hs ?_);simp only[EU]at We;generalize evL code f fl a cs=o at We;cases o with
    |nx cs1=>exact λR1 st1 hle1 W9=>ihf n K fl R1 b cs1 st1 k Q VE.2 W9 (We.le hle1)
    |ex id cs1=>exact We
    |rt cs1=>exact We
    |bad=>exact We
   |cond c a b=>
    simp only[jQ,Ba]at VE;have hv:=iE hs.slot VE.1;have We:FY P n K fl R k Q (onB (c.ev cs.sf) (evL code f fl a cs) (evL code f fl b cs)):=We;unfold onB at We;split at We
    .rename_i t ht;rw[ht,aN.qu]at hv;refine ai.cond hv (λe=>?_) (λe=>?_)
     .subst e;exact ihf n K fl R a cs st k Q VE.2.1 hs We
     .subst e;exact ihf n K fl R b cs st k Q VE.2.2 hs We
    .exact We.elim
   |block id a=>
    simp only[jQ]at VE;refine ai.block (ihf n K fl R a cs st _ Q VE hs ?_);simp only[Nr]at We;generalize evL code f fl a cs=o at We;cases o with
    |nx cs1=>exact λR1 st1 hle1 W9=>ai.inBlock (We R1 st1 hle1 W9)
    |ex j cs1=>
     simp only[Jy]at We;by_cases hj:j=id
     .subst hj;rw[av (by rw[Nat.beq_eq])]at We;exact⟨k,by simp[eP],We⟩
     .rw[aD (by rw[Nat.beq_eq];exact hj)]at We;obtain⟨k',h1,h2⟩:=We;exact⟨k',by simp[eP,hj,h1],h2⟩
    |rt cs1=>exact We
    |bad=>exact We
   |loop a=>
    have hok':=VE;simp only[jQ]at VE;have YS:FY P n K fl R k Q (evL code (f+1) fl (.loop a) cs):=We;generalize ho:evL code (f+1) fl (.loop a) cs=o at YS;refine ai.loop (λm st=>m<=f+1/\∃R1 cs1,Le R R1/\ij K fl R1 cs1 st/\evL code m fl (.loop a) cs1=o) (f+1) ⟨Wa _,R,cs,Le.refl R,hs,ho⟩ ?_;rintro m st1 ⟨hm,R1,cs1,hle1,W9,ho1⟩;cases m with
    |zero=>
     have:o=.bad:=ho1.symm;rw[this]at YS;exact YS.elim
    |succ m=>
     have ihm:=ih m (by omega);rw[BO]at ho1;refine ihm n K fl R1 a cs1 st1 _ Q VE W9 ?_;simp only[EU]at ho1;generalize evL code m fl a cs1=o1 at ho1;cases o1 with
     |nx cs2=>exact λR2 Ze hle2 Yr=>ai.stop ⟨m,by omega,by omega,R2,cs2,hle1.trans hle2,Yr,ho1⟩
     |ex id cs2=>
      have ho1:Out.ex id cs2=o:=ho1;rw[<-ho1]at YS;obtain⟨k',h1,h2⟩:=YS;exact⟨k',by simpa[eP]using h1,λR2 Ze hle2 Yr=>h2 R2 Ze (hle1.trans hle2) Yr⟩
     |rt cs2=>
      have ho1:Out.rt cs2=o:=ho1;rw[<-ho1]at YS;exact λR2 Ze hle2 Yr=>YS R2 Ze (hle1.trans hle2) Yr
     |bad=>
      have ho1:Out.bad=o:=ho1;rw[<-ho1]at YS;exact YS.elim
   |exit id=>
    obtain⟨k',h1,h2⟩:=We;exact ai.exit h1 (h2 R st (Le.refl R) hs)
   |ret=>exact ai.ret (We R st (Le.refl R) hs)
   |fk g ps a b=>exact We.elim
   |regA l V'=>exact We.elim
   |tV l e=>exact We.elim
   |bad=>exact We.elim
def y4(g:V->V->Bool):List V->List V->Bool
 |[],[]=>true
 |v::vs,u::us=>g v u&&y4 g vs us
 |_,_=>false
def fzB:Nat->Tr (Option Ob)->V->V->Bool
 |0,_,_,_=>false
 |f+1,U,v,u=>match v with
  |.own id off len=>match u with
   |.sl sz rows=>match nD none id U with
    |some ob=>Nat.beq ob.sz sz&&(Nat.ble (off+len) ob.rows.length&&y4 (fzB f U) ((ob.rows.drop off).take len) rows)
    |none=>false
   |_=>false
  |.aO=>match u with
   |.sl _ rows=>rows.isEmpty
   |.aO=>true
   |_=>false
  |.sl sz rows=>match u with
   |.sl XP rows'=>Nat.beq sz XP&&y4 (fzB f U) rows rows'
   |_=>false
  |.agg cs=>match u with
   |.agg ds=>y4 (fzB f U) cs ds
   |_=>false
  |.VG cs=>match u with
   |.VG ds=>y4 (fzB f U) cs ds
   |_=>false
  |.int k n=>match u with
   |.int k' n'=>eqK k k'&&eqQ n n'
   |_=>false
  |.bool b=>match u with
   |.bool b'=>b==b'
   |_=>false
  |.str b=>match u with
   |.str b'=>decide (b=b')
   |_=>false
  |.YD=>match u with
   |.YD=>true
   |_=>false
  |_=>false
def KP{a b:Int}(h:eqQ a b=true):a=b:=by
 cases a<;>cases b<;>simp only[eqQ,gi]at h
 .rw[KM h]
 .rw[KM h]
def GI{R:Nat->Nat->Prop}{Zt:Tr (Option Ob)}{U:ad}(hm:Lv R (stF Zt) U):∀(f:Nat) (v u v':V),fzB f Zt v v'=true->aN R v u->Fz U (λa=>∃c o,R c a/\stF Zt c=some o) u v'
 |0,_,_,_,h,_=>by simp[fzB]at h
 |f+1,v,u,v',h,hr=>by
  have hL:∀(vs us out:List V),y4 (fzB f Zt) vs out=true->aW R vs us->XK U (λa=>∃c o,R c a/\stF Zt c=some o) us out:=by
   intro vs
   induction vs with
   |nil=>
    intro us out h1 h2;rw[aW.kA]at h2;subst h2;cases out with
    |nil=>exact .nil
    |cons a b=>simp[y4]at h1
   |cons a vs ih=>
    intro us out h1 h2;obtain⟨b,bs,rfl,h3,h4⟩:=aW.dj.1 h2;cases out with
    |nil=>simp[y4]at h1
    |cons c cs=>
     simp only[y4,Ba]at h1;exact .cons _ _ _ _ (GI hm f _ _ _ h1.1 h3) (ih _ _ h1.2 h4)
  have Wb:v.gx=true->v'=v->Fz U (λa=>∃c o,R c a/\stF Zt c=some o) u v':=λh1 h2=>by
   have:=ql v u h1 hr;rw[this,h2];exact .same v h1
  simp only[fzB]at h;cases v<;>simp only[gi]at h
  case own id off len=>
   split at h
   .split at h
    .rename_i ob WO;simp only[Ba]at h;obtain⟨h1,h2,h3⟩:=h;simp only[aN]at hr;obtain⟨Xn,rfl,hR⟩:=hr;obtain⟨rows',g1,g2⟩:=hm _ Xn ob hR WO;have:=hL _ _ _ h3 ((g2.drop _).take _);rw[<-KM h1];exact .own Xn _ _ ⟨ob.elem,ob.sz,rows'⟩ _ g1 ⟨_,ob,hR,WO⟩ (by rw[g2.length];exact zw h2) this
    .cases h
   .cases h
  case aO=>
   split at h
   .rename_i sz rows;simp only[aN]at hr;subst hr;have:rows=[]:=by simpa using h
    subst this;exact .nil _
   .exact Wb rfl rfl
   .cases h
  case sl sz rows=>
   split at h
   .simp only[Ba]at h;simp only[aN]at hr;obtain⟨rows',rfl,hr⟩:=hr;rw[<-KM h.1];exact .sl _ _ _ (hL _ _ _ h.2 hr)
   .cases h
  case agg cs=>
   split at h
   .simp only[aN]at hr;obtain⟨es,rfl,hr⟩:=hr;exact .agg _ _ (hL _ _ _ h hr)
   .cases h
  case VG cs=>
   split at h
   .simp only[aN]at hr;obtain⟨es,rfl,hr⟩:=hr;exact .VG _ _ (hL _ _ _ h hr)
   .cases h
  case int k n=>
   split at h
   .simp only[Ba]at h;refine Wb rfl ?_;rw[KP h.2,of_decide_eq_true h.1]
   .cases h
  case bool b=>
   split at h
   .refine Wb rfl ?_;rw[eq_of_beq h]
   .cases h
  case str b=>
   split at h
   .refine Wb rfl ?_;rw[of_decide_eq_true h]
   .cases h
  case YD=>
   split at h
   .exact Wb rfl rfl
   .cases h
def IP(code:FuncId->Option U')(fuel:Nat)(f:FuncId)(args:List V)(v:V):Bool:=match evF (evL code fuel) code f args .e 0 0 with
 |some r=>fzB 10 r.U r.v v
 |none=>false
def aL.NM{P:Program}{code:FuncId->Option U'}(hcode:wb P code){fuel:Nat}{f:FuncId}{args:List V}{v:V}(ha:jx args=true)
 (h:IP code fuel f args v=true):aL P f args v:=by
 intro U;unfold IP at h;split at h
 .rename_i r hr;have hm:pK U 0 (λ_ _=>False) (stF .e) 0 U:=⟨λ_ _ h=>h.elim,λ_ _ _ h=>h.elim,λ_ _ _ _ _ h=>h.elim,λ_ _ _ h=>h.elim,aa.refl U,λ_ _ _ _ _ h=>h.elim⟩
  refine(yQ hcode (MZ hcode fuel) f args .e 0 0 r hr U _ U args hm (gK args ha)).Da ?_;rintro u Z' ⟨R',_,h1,h2⟩;refine⟨v,U,h2.mR,(GI h2.live 10 r.v u v h h1).wk h2.mR ?_,rfl,rfl⟩;rintro a ⟨c,o,hc,ho⟩;cases hk:U a with
  |none=>rfl
  |some x=>have:=h2.kfl a x c o hk hc ho;omega
 .cases h
open Go.Proofs
def cdF(P:Program)(l:List Nat)(f:FuncId):Option U':=
 if l.contains f then(P.funcs[f]?).bind λfn=>(cfn P fn).bind λvf=>if fK P f&&MK vf then some vf else none else none
def Ni(P:Program)(l:List Nat):wb P (cdF P l):=by
 intro g vf h;unfold cdF at h;split at h
 .simp only[Gp]at h;obtain⟨fn,h1,vf',h2,h3⟩:=h;split at h3
  .rename_i h4;simp only[Ba]at h4;simp only[aS]at h3;subst h3;exact⟨h4.1,h4.2,fn,h1,h2⟩
  .cases h3
 .cases h
def Q3:List Nat:=[73,114,115,162,163,164,165,166,218,219,220,221,256,257,258,259,260,283]
noncomputable def Vo:FuncId->Option U':=cdF prog Q3
def JR:wb prog Vo:=Ni _ _
open Go.Proofs
def l25:List Nd:=[⟨1,2,⟨0,0,0,0,0,1,1,0,0,0,0,0⟩,0,0,[],0,0,0⟩,⟨2,1,⟨0,0,0,0,0,0,0,0,0,0,0,0⟩,10,0,[5,5,5],0,0,0⟩]
def SG:aL prog 73 [.str [91,111,49,119,49,32,40,49,48,32,48,32,53,32,53,32,53,41,93]] (.VG [aF l25,vI 0,vI 0]):=aL.NM (fuel:=3000) JR rfl (by kernel_rfl)
open Go.Proofs
def Qd(b:Bk)(s:XY)(n high atom done:Int):Bool:=!decide (ic b s)&&decide ((dK b s).1.kind=1)&&decide (((dK b s).1.fs.length:Int)=n)&&decide (n>0)&&((dK b s).1.fs.all λf=>decide (f.h=high\/f.fr≠s.s.done\/f.atom≠s.s.atom))&&decide ((dK b s).2.s.atom=atom)&&decide ((dK b s).2.s.done=done)
def y8(h:Int)(he:gz l25 8 h=0):aL prog 27 [vI h] (.VG [.rp (bu (gY l25 8 h)),.bool true]):=λU=>by
 refine e27.q ?_;have hs:=aa.refl U;have hn:=Qs l25 ⟨by decide,by decide⟩ 8 h;rw[vU,av he,he]at hn;generalize gY l25 8 h=b at*;have Wr:=SG;generalize l25=l at*;refine mS 9 ?_;simp only[go_sem,seval,c27];refine pS rfl (Wr _) ?_;simp only[go_sem,seval];refine pS rfl (hn _) ?_;simp only[go_sem,seval,tj];exact ak.pure hs rfl
def qN(b:Bk)(hb:jF b)(s:XY)(n high atom done:Int)(h:Qd b s n high atom done=true):aL prog 28 [.rp (bu b),bl s,vI n,vI high,vI atom,vI done] (.VG [bl (dK b s).2,.bool true]):=λU=>by
 unfold Qd at h;simp only[Ba,Bool.not_eq_true',X7,decide_eq_false_iff_not]at h;obtain⟨⟨⟨⟨⟨⟨he,h1⟩,h2⟩,h3⟩,h4⟩,h5⟩,h6⟩:=h;have Xz:jP b s:=Decidable.byContradiction λh=>he (.inl h);have hpg:=Er b hb.toBkFull hb.fh s (vJ hb.toBkOk Xz);rw[aD he]at hpg;have hg:=yC hb he;refine e28.q ?_;have hs:=aa.refl U;generalize dK b s=X at*;obtain⟨p,t⟩:=X;simp only at h1 h2 h4 h5 h6 hpg hg;obtain⟨-,g1,g2,-⟩:=hg.cut h1;obtain⟨f,r,hf⟩:∃f r,p.fs=f::r:=by
  cases hc:p.fs with
  |nil=>rw[hc]at g1;simp at g1
  |cons f r=>exact⟨f,r,rfl⟩
 have hi0:∀U,bO U 7 (bQ p.fs) (.int .i64 0)=some (.rp (aP f)):=λU=>by rw[hf];simp[bQ,bO,aP]
 obtain⟨g3,g4⟩:=g2 f (by rw[hf];rfl);have hfh:f.h=high:=by
  rw[hf,mV,Ba]at h4;have:=of_decide_eq_true h4.1;rcases this with h|h|h
  .exact h
  .exact absurd g4 h
  .exact absurd g3 h
 have XF:∀x:XY,(bl x).cells=[vI x.s.atom,vI x.s.done,.bool x.s.free,aC x.bw]:=λ_=>rfl;have hss:∀x:XY,(bl x).stays=true:=λ_=>rfl;have hpc:(ew p).cells=[vI p.no,vI p.kind,bQ p.hs,bQ p.fs,bQ p.ls]:=rfl;have hpp:(ew p).stays=true:=rfl;have Zi:∀l:List XR,(bQ l).cells=[bQ l]:=λ_=>rfl;have YE:∀l:List XR,(bQ l).stays=true:=λ_=>rfl;have hfr:(aP f).cells=[vI f.node,vI f.atom,vI f.fr,vI f.x,vI f.y,vI f.w,vI f.h]:=rfl;have hlf:=JZ p.fs;have q1:(p.kind=1)=True:=L' h1;have q2:((p.fs.length:Int)=n)=True:=L' h2;have q3:(n>0)=True:=L' h3;have q4:(f.h=high)=True:=L' hfh;have q5:(t.s.atom=atom)=True:=L' h5;have q6:(t.s.done=done)=True:=L' h6;refine mS 17 ?_;simp only[go_sem,seval,c28,XF,hss];refine ar hs λi7 Z7 s7 a7 f7 _ hs=>?_;simp only[go_sem,seval];refine ar hs λi12 Y12 s12 a12 f12 z12 hs=>?_;obtain⟨n712,a7⟩:=VB a7 f12 s12;simp only[go_sem,seval,a7,XF];refine pS rfl (hpg _) ?_;simp only[go_sem,seval];refine ar hs λi14 Z14 s14 Yf f14 z14 hs=>?_;obtain⟨n1214,a12⟩:=VB a12 f14 s14;obtain⟨n714,a7⟩:=VB a7 f14 s14;simp only[go_sem,seval];refine ar hs λi15 Z15 Yu WN f15 z15 hs=>?_;obtain⟨n1215,a12⟩:=VB a12 f15 Yu;obtain⟨n1415,Yf⟩:=VB Yf f15 Yu;obtain⟨n715,a7⟩:=VB a7 f15 Yu;simp only[go_sem,seval,Yf,WN,hpc,hpp,XF,hss,ab n1415.symm,cp];generalize hq14:C' _ i14 _=Y14;replace Yf:=WC hq14;replace a12:=VN hq14 n1214 a12;replace WN:=VN hq14 n1415.symm WN;replace a7:=VN hq14 n714 a7;replace hs:=WD hq14 hs z14;generalize XM:C' _ i15 _=Y15;replace WN:=WC XM;replace a12:=VN XM n1215 a12;replace Yf:=VN XM n1415 Yf;replace a7:=VN XM n715 a7;replace hs:=WD XM hs z15;refine ai.rY (by kernel_rfl) [0,1,2,3,4,5,6,7,8,9,10,11,12,13,14,15,16,17,18,19,20,21,22,23,24,25,26,27,28,29,30,31,32,33,34,35,36,37,38,39,40,41,42,43] [[],[],[1],[1,2],[1,2,3],[1,2,3,4],[1,2,3,4,5],[1,2,3,4,5,6],[1,2,3,4,5,6,7],[1,2,3,4,5,6,7,8],[1,2,3,4,5,6,7,8,9],[1,2,3,4,5,6,7,8,9,10],[1,2,3,4,5,6,7,8],[1,2,3,4,5,6,7,8,9,10,11,12],[1,2,3,4,5,6,7,8,9,10,11,12,13],[1,2,3,4,5,6,7,8,9,10,11,12,13,14],[1,2,3,4,5,6,7,8,9,10,11,12,13,14,15],[1,2,3,4,5,6,7,8,9,10,11,12,13,14,15,16],[1,2,3,4,5,6,7,8,9,10,11,12,13,14,15,16,17],[1,2,3,4,5,6,7,8,9,10,11,12,13,14,15,16,17,18],[1,2,3,4,5,6,7,8,9,10,11,12,13,14,15,16,17,18,19],[1,2,3,4,5,6,7,8,9,10,11,12,13,14,15,16,17,18,19,20],[1,2,3,4,5,6,7,8,9,10,11,12,13,14,15,16,17,18,19,20,21],[1,2,3,4,5,6,7,8,9,10,11,12,13,14,15,16,17,18,19,20,21,22],[1,2,3,4,5,6,7,8,9,10,11,12,13,14,15,16,17,18,19,20,21,22,23],[1,2,3,4,5,6,7,8,9,10,11,12,13,14,15,16,17,18,19],[1,2,3,4,5,6,7,8,9,10,11,12,13,14,15,16,17,18,19,20,21,22,23,24,25],[1,2,3,4,5,6,7,8,9,10,11,12,13,14,15,16,17,18,19,20,21,22,23,24,25,26],[1,2,3,4,5,6,7,8,9,10,11,12,13,14,15,16,17,18,19,20,21,22,23,24,25,26,27],[1,2,3,4,5,6,7,8,9,10,11,12,13,14,15,16,17,18,19,20,21,22,23,24,25,26,27,28],[1,2,3,4,5,6,7,8,9,10,11,12,13,14,15,16,17,18,19,20,21,22,23,24,25,26,27,28,29],[1,2,3,4,5,6,7,8,9,10,11,12,13,14,15,16,17,18,19,20,21,22,23,24,25,26,27,28,29,30],[1,2,3,4,5,6,7,8,9,10,11,12,13,14,15,16,17,18,19,20,21,22,23,24,25,26,27,28],[1,2,3,4,5,6,7,8,9,10,11,12,13,14,15,16,17,18,19,20,21,22,23,24,25,26,27,28,29,30,31,32],[1,2,3,4,5,6,7,8,9,10,11,12,13,14,15,16,17,18,19,20,21,22,23,24,25,26,27,28,29,30,31,32,33],[1,2,3,4,5,6,7,8,9,10,11,12,13,14,15,16,17,18,19,20,21,22,23,24,25,26,27,28,29,30,31,32,33,34],[1,2,3,4,5,6,7,8,9,10,11,12,13,14,15,16,17,18,19,20,21,22,23,24,25,26,27,28,29,30,31,32,33,34,35],[1,2,3,4,5,6,7,8,9,10,11,12,13,14,15,16,17,18,19,20,21,22,23,24,25,26,27,28,29,30,31,32,33,34,35,36],[1,2,3,4,5,6,7,8,9,10,11,12,13,14,15,16,17,18,19,20,21,22,23,24,25,26,27,28,29,30,31,32,33,34,35,36,37],[1,2,3,4,5,6,7,8,9,10,11,12,13,14,15,16,17,18,19,20,21,22,23,24,25,26,27,28,29,30,31,32,33,34,35],[1,2,3,4,5,6,7,8,9,10,11,12,13,14,15,16,17,18,19,20,21,22,23,24,25,26,27,28,29,30,31,32,33,34,35,36,37,38,39],[1,2,3,4,5,6,7,8,9,10,11,12,13,14,15,16,17,18,19,20,21,22,23,24,25,26,27,28,29,30,31,32,33,34,35,36,37,38,39,40],[0,1,2,3,4,5,6,7,8,9,10,11,12,13,14,15,16,17,18,19,20,21,22,23,24,25,26,27,28,29,30,31,32,33,34,35],[0,1,2,3,4,5,6,7,8,9,10,11,12,13,14,15,16,17,18,19,20,21,22,23,24,25,26,27,28,29,30,31,32,33,34,35,36,37,38,39,40,41,42]] [0,2,4,6,8,10,12,14,16,18,20,22,24,26,28,30,32,34,36,38,40,42,44,46,48,50,52,54,56,58,60,62,64,66,68,70,72,74,76,78,80,82,84,77,86] (by kernel_rfl) (by kernel_rfl) ?_;refine cd (n:=0) [77,86] [0,2,4,6,8,10,12,14,16,18,20,22,24,26,28,30,32,34,36,38,40,42,44,46,48,50,52,54,56,58,60,62,64,66,68,70,72,74,76,78,80,82,84] [_,_,_,_,_,_,_,_,_,_,_,_,_,_,_,_,_,_,_,_,_,_,_,_,_,_,_,_,_,_,_,_,_,_,_,_,_,_,_,_,_,_,_] rfl rfl ?_;simp only[go_sem,seval,a12,Yf,WN,hpc,XF,q1,q2,q3,q4,q5,q6,hlf,hi0,hfr];generalize Xp:C' _ i12 _=Z12;replace a12:=WC Xp;replace a7:=VN Xp n712 a7;replace Yf:=VN Xp n1214.symm Yf;replace WN:=VN Xp n1215.symm WN;replace hs:=WD Xp hs z12;refine cT rfl (by simp only[go_sem,seval,WN,XF]) ?_;refine cd (n:=0) [] [86] [_] rfl rfl ?_;simp only[go_sem,seval];apply sR;simp only[go_sem,seval,a12];exact ak.pure hs rfl
def Nv(A B C:Bk)(hA:jF A)(hB:jF B)(hC:jF C)(s1 s2 s3 s4 s5:XY)
 (t1:aL prog 27 [vI 30] (.VG [.rp (bu A),.bool true]))(t2:aL prog 27 [vI 20] (.VG [.rp (bu B),.bool true]))(t3:aL prog 27 [vI 6] (.VG [.rp (bu C),.bool true]))
 (p1:aL prog 28 [.rp (bu A),bl ⟨⟨0,0,true⟩,[]⟩,vI 3,vI 10,vI 3,vI 0] (.VG [bl s1,.bool true]))(p2:aL prog 28 [.rp (bu B),bl ⟨⟨0,0,true⟩,[]⟩,vI 2,vI 10,vI 2,vI 0] (.VG [bl s2,.bool true]))
 (p3:aL prog 28 [.rp (bu B),bl s2,vI 1,vI 10,vI 3,vI 0] (.VG [bl s3,.bool true]))(p4:aL prog 28 [.rp (bu C),bl ⟨⟨0,0,true⟩,[]⟩,vI 1,vI 6,vI 0,vI 6] (.VG [bl s4,.bool true]))
 (p5:aL prog 28 [.rp (bu C),bl s4,vI 1,vI 4,vI 1,vI 0] (.VG [bl s5,.bool true]))
 (e1:aL prog 19 [.rp (bu A),bl s1] (.bool true))(e3:aL prog 19 [.rp (bu B),bl s3] (.bool true)):
 aL prog 6 [] (.bool true):=λU=>by
 refine e6.q ?_;have hs:=aa.refl U;have XF:∀x:XY,(bl x).cells=[vI x.s.atom,vI x.s.done,.bool x.s.free,aC x.bw]:=λ_=>rfl;have hss:∀x:XY,(bl x).stays=true:=λ_=>rfl;refine mS 9 ?_;simp only[go_sem,seval,c6];refine pS rfl (t1 _) ?_;simp only[go_sem,seval];refine pS rfl (t2 _) ?_;simp only[go_sem,seval];refine pS rfl (t3 _) ?_;simp only[go_sem,seval];refine pS rfl (oH A hA.toBkFull _) ?_;simp only[go_sem,seval];refine pS rfl (p1 _) ?_;simp only[go_sem,seval];refine ar hs λi7 Z7 s7 a7 f7 z7 hs=>?_;simp only[go_sem,seval,a7,XF,hss];generalize Xb:C' _ i7 _=Y7;replace a7:=WC Xb;replace hs:=WD Xb hs z7;apply sR;simp only[go_sem,seval];refine pS rfl (e1 _) ?_;simp only[go_sem,seval];refine pS rfl (oH B hB.toBkFull _) ?_;simp only[go_sem,seval];refine pS rfl (p2 _) ?_;simp only[go_sem,seval,a7,XF,hss];generalize Xb:C' _ i7 _=Y7;replace a7:=WC Xb;replace hs:=WD Xb hs z7;apply sR;simp only[go_sem,seval];refine pS rfl (p3 _) ?_;simp only[go_sem,seval,a7,XF,hss];generalize Xb:C' _ i7 _=Y7;replace a7:=WC Xb;replace hs:=WD Xb hs z7;apply sR;simp only[go_sem,seval];refine pS rfl (e3 _) ?_;simp only[go_sem,seval];refine pS rfl (oH C hC.toBkFull _) ?_;simp only[go_sem,seval];refine pS rfl (p4 _) ?_;simp only[go_sem,seval,a7,XF,hss];generalize Xb:C' _ i7 _=Y7;replace a7:=WC Xb;replace hs:=WD Xb hs z7;apply sR;simp only[go_sem,seval];refine pS rfl (p5 _) ?_;simp only[go_sem,seval];exact ak.pure hs rfl
def F2:aL prog 6 [] (.bool true):=by
 have hl:ep l25:=⟨by decide,by decide⟩
 have e1:gz l25 8 30=0:=by kernel_rfl
 have e2:gz l25 8 20=0:=by kernel_rfl
 have e3:gz l25 8 6=0:=by kernel_rfl
 have hA:=l4 hl e1;have hB:=l4 hl e2;have hC:=l4 hl e3;have p1:=qN _ hA ⟨⟨0,0,true⟩,[]⟩ 3 10 3 0 (by kernel_rfl);have p2:=qN _ hB ⟨⟨0,0,true⟩,[]⟩ 2 10 2 0 (by kernel_rfl);have p3:=qN _ hB (dK (gY l25 8 20) ⟨⟨0,0,true⟩,[]⟩).2 1 10 3 0 (by kernel_rfl);have p4:=qN _ hC ⟨⟨0,0,true⟩,[]⟩ 1 6 0 6 (by kernel_rfl);have p5:=qN _ hC (dK (gY l25 8 6) ⟨⟨0,0,true⟩,[]⟩).2 1 4 1 0 (by kernel_rfl);have n1:=qo _ hA.toBkFull (dK (gY l25 8 30) ⟨⟨0,0,true⟩,[]⟩).2 (of_decide_eq_true (by kernel_rfl));have n3:=qo _ hB.toBkFull (dK (gY l25 8 20) (dK (gY l25 8 20) ⟨⟨0,0,true⟩,[]⟩).2).2 (of_decide_eq_true (by kernel_rfl));have d1:decide (ic (gY l25 8 30) (dK (gY l25 8 30) ⟨⟨0,0,true⟩,[]⟩).2)=true:=by kernel_rfl
 have d3:decide (ic (gY l25 8 20) (dK (gY l25 8 20) (dK (gY l25 8 20) ⟨⟨0,0,true⟩,[]⟩).2).2)=true:=by kernel_rfl
 rw[d1]at n1;rw[d3]at n3;exact Nv _ _ _ hA hB hC _ _ _ _ _ (y8 30 e1) (y8 20 e2) (y8 6 e3) p1 p2 p3 p4 p5 n1 n3
open Go.Proofs
section
variable {P:Program} {n:Nat} {t:TypeId} {vs:List V}
def E7(ht:P.underlying t=some .bool)(h:iH P (n+1) t vs):∃b,vs=[.bool b]:=by
 simpa only[iH,ht]using h
end
def FV:fS prog 27=true:=by kernel_rfl
def Fm:prog.cellsOf 100=7:=by kernel_rfl
def KT:fS prog 100=true:=by kernel_rfl
def Fe{n:Nat}{vs:List V}(h:iH prog (n+2) 24 vs):∃a d fr,vs=[vI a,vI d,.bool fr]:=by
 replace h:=j4 underlying24 h;simp only[rq]at h;obtain⟨_,_,rfl,h1,_,_,rfl,h2,_,_,rfl,h3,rfl⟩:=h;obtain⟨m1,rfl,_⟩:=cu h1;obtain⟨m2,rfl,_⟩:=cu h2;obtain⟨b,rfl⟩:=E7 underlying4 h3;exact⟨m1,m2,b,rfl⟩
def JQ{n:Nat}{vs:List V}(h:iH prog (n+2) 100 vs):∃x:O',vs=(aG x).cells:=by
 replace h:=j4 underlying100 h;simp only[rq]at h;obtain⟨_,_,rfl,h1,_,_,rfl,h2,_,_,rfl,h3,_,_,rfl,h4,_,_,rfl,h5,_,_,rfl,h6,_,_,rfl,h7,rfl⟩:=h;obtain⟨m1,rfl,_⟩:=cu h1;obtain⟨m2,rfl,_⟩:=cu h2;obtain⟨m3,rfl,_⟩:=cu h3;obtain⟨m4,rfl,_⟩:=cu h4;obtain⟨m5,rfl,_⟩:=cu h5;obtain⟨m6,rfl,_⟩:=cu h6;obtain⟨m7,rfl,_⟩:=cu h7;exact⟨⟨m1,m2,m3,m4,m5,m6,m7⟩,rfl⟩
def J5{n:Nat}{vs:List V}(h:iH prog (n+4) 27 vs):∃s:XY,nu prog 27 vs=bl s:=by
 replace h:=j4 underlying27 h;simp only[rq]at h;obtain⟨_,_,rfl,h1,_,_,rfl,h2,rfl⟩:=h;obtain⟨a,d,fr,rfl⟩:=Fe h1;obtain⟨rows,rfl,_,h3⟩:=pA underlying25 h2;obtain⟨l,rfl,-⟩:=uw (f:=aG) (p:=λ_=>True) λr hr=>by
  obtain⟨cs,hc,rfl⟩:=h3 r hr;obtain⟨x,rfl⟩:=JQ hc;exact⟨x,by rw[KT];rfl,trivial⟩
 exact⟨⟨⟨a,d,fr⟩,l⟩,by unfold nu;rw[FV,Fm];rfl⟩
def DS{n:Nat}{vs:List V}(h:iH prog (n+1) 3 vs):∃m,nu prog 3 vs=vI m:=by
 obtain⟨m,rfl,-⟩:=cu h;exact⟨m,by unfold nu;rw[LX];rfl⟩
end Go.Vc
