/- Part 1 of the library of this proof. -/
import Derived.Calls
import Derived.Below
import Derived.Laws.AppendOwn
import Derived.Tactics
import Derived.ChangeKeysEq
import Derived.Orders
import Derived.Laws.MakeOwn
import Derived.Lib.AppendZerosOnto
import Derived.Lib.AppendStr
set_option linter.all false
set_option maxHeartbeats 8000000
namespace Go.Vc
def Oi{α:Type _}(a b:α):(some a=some b)=(a=b):=Option.some.injEq a b
def Ba(a b:Bool):((a&&b)=true)=(a=true/\b=true):=Bool.and_eq_true a b
inductive V where
 |undef
 |int (k:IntKind) (n:Int)
 |bool (b:Bool)
 |str (s:List UInt8)
 |aC
 |sl (sz:Nat) (rows:List V)
 |own (id off len:Nat)
 |ptr (id i k:Nat)
 |rp (v:V)
 |Sc
 |fn (f:FuncId) (caps:List V)
 |bm (f:FuncId) (first:List V)
 |RQ
 |iface (t:TypeId) (v:V)
 |Si
 |agg (cells:List V)
 |RB (vs:List V)
 |raw (v:Value)
 |obj (o:Obj)
 |gp (id:Nat)
 |yl (id:Nat)
 |mp (id:Nat)
 deriving Inhabited
inductive Pl where
 |dN
 |nil
 |Ss (b sz cap:Nat)
abbrev Mu:=Nat->Pl
structure Ob where
 elem:TypeId
 sz:Nat
 rows:List V
abbrev ai:=Nat->Option Ob
def V.cells:V->List V
 |.agg vs=>vs
 |v=>[v]
mutual
def E'(I:Mu)(ow:Nat->Prop)(w:World):V->Value->Prop
 |.undef,_=>True
 |.int k n,x=>x=.int k n
 |.bool b,x=>x=.bool b
 |.str s,x=>x=.string ⟨s.toArray⟩
 |.aC,x=>x=.slice none 0 0
 |.sl sz rows,x=>∃a cap,x=.slice a rows.length cap/\rows.length<=cap/\
   (rows=[]\/∃b off,a=some ⟨b,off,none⟩/\¬ow b/\0<sz/\aY I ow w rows b off sz)
 |.own id off len,x=>match I id with
   |.dN=>False
   |.nil=>x=.slice none 0 0/\off=0/\len=0
   |.Ss b sz cap=>∃o c,x=.slice (some ⟨b,o,none⟩) len c/\len<=c/\off+c<=cap/\(o=off*sz\/c=0/\off≠0)/\0<sz
 |.ptr id i k,x=>match I id with
   |.Ss b sz _=>x=.pointer (some ⟨b,i*sz+k,none⟩)/\0<sz
   |_=>False
 |.rp v,x=>∃b off,x=.pointer (some ⟨b,off,none⟩)/\b<w.heap.size/\(v.cells=[]\/¬ow b)/\bD I ow w v b off
 |.Sc,x=>x=.pointer none
 |.fn f caps,x=>∃RF,x=.func (.func f) #[] ⟨RF⟩/\aA I ow w caps RF
 |.bm f first,x=>∃RF,x=.func (.func f) ⟨RF⟩ #[]/\aA I ow w first RF
 |.RQ,x=>x=.nilFunc
 |.iface t v,x=>∃y,x=.iface t y/\E' I ow w v y
 |.Si,x=>x=.nilIface
 |.agg vs,x=>∃RF,x=.agg ⟨RF⟩/\aA I ow w vs RF/\∀u∈RF,u.oneCell'=true
 |.RB vs,x=>∃RF,x=.tuple ⟨RF⟩/\aA I ow w vs RF
 |.raw v,x=>x=v
 |.obj _,_=>False
 |.gp id,x=>match I id with
   |.Ss b 0 _=>x=.pointer (some ⟨b,0,none⟩)
   |_=>False
 |.yl id,x=>match I id with
   |.Ss b 0 _=>x=.func (.yield b) #[] #[]
   |_=>False
 |.mp id,x=>match I id with
   |.Ss b 0 _=>x=.map (some b)
   |_=>False
/-- one by one -/
def aA(I:Mu)(ow:Nat->Prop)(w:World):List V->List Value->Prop
 |[],l=>l=[]
 |v::vs,l=>∃x xs,l=x::xs/\E' I ow w v x/\aA I ow w vs xs
/-- cells,one behind the other -/
def aU(I:Mu)(ow:Nat->Prop)(w:World):List V->Nat->Nat->Prop
 |[],_,_=>True
 |v::vs,b,off=>(∃x,w.cell? ⟨b,off,none⟩=some x/\E' I ow w v x/\x.oneCell'=true)/\aU I ow w vs b (off+1)
/-- an element -/
def bD(I:Mu)(ow:Nat->Prop)(w:World):V->Nat->Nat->Prop
 |.agg vs,b,off=>aU I ow w vs b off
 |v,b,off=>∃x,w.cell? ⟨b,off,none⟩=some x/\E' I ow w v x/\x.oneCell'=true
/-- elements,one behind the other -/
def aY(I:Mu)(ow:Nat->Prop)(w:World):List V->Nat->Nat->Nat->Prop
 |[],_,_,_=>True
 |r::rs,b,off,sz=>r.cells.length=sz/\bD I ow w r b off/\aY I ow w rs b (off+sz) sz
end
def ed(I:Mu)(ow:Nat->Prop)(w:World)(v:V)(b off:Nat):bD I ow w v b off↔aU I ow w v.cells b off:=by
 cases v<;>simp[bD,aU,V.cells]
def df(I Y':Mu):Prop:=∀id,I id≠.dN->Y' id=I id
def df.refl(I:Mu):df I I:=λ_ _=>rfl
def df.trans{I Y' Z'':Mu}(h:df I Y')(h':df Y' Z''):df I Z'':=λid M'=>by
 have e:=h id M';rw[h' id (by rw[e];exact M'),e]
def db(ow T9:Nat->Prop)(w w':World):Prop:=∀b,b<w.heap.size->¬ow b->¬T9 b/\w'.heap[b]?=w.heap[b]?
def pr(ow T9:Nat->Prop)(w w':World):Prop:=∀b,(∃off x,w.cell? ⟨b,off,none⟩=some x)->¬ow b->¬T9 b/\∀(off:Nat) (x:Value),w.cell? ⟨b,off,none⟩=some x->w'.cell? ⟨b,off,none⟩=some x
def eH{w w':World}{b:Nat}(h:w'.heap[b]?=w.heap[b]?)(off:Nat)(x:Value)(hx:w.cell? ⟨b,off,none⟩=some x):w'.cell? ⟨b,off,none⟩=some x:=by
 rw[World.cell?_of_block (w:=w) (w':=w') (a:=⟨b,off,none⟩) h];exact hx
def db.toC{ow T9:Nat->Prop}{w w':World}(h:db ow T9 w w'):pr ow T9 w w':=λb ⟨off,x,hx⟩ hn=>by
 have hb:b<w.heap.size:=World.block_lt_of_cell? w _ hx;exact⟨(h b hb hn).1,eH (h b hb hn).2⟩
section
variable {I Y':Mu} {ow T9:Nat->Prop} {w w':World} (hm:df I Y') (hk:pr ow T9 w w') (hz:w.heap.size<=w'.heap.size)
include hm hk hz
mutual
def E'.bV:∀(v:V) (x:Value),E' I ow w v x->E' Y' T9 w' v x
 |.undef,_,_=>by simp[E']
 |.int k n,x,h=>by simpa[E']using h
 |.bool b,x,h=>by simpa[E']using h
 |.str s,x,h=>by simpa[E']using h
 |.aC,x,h=>by simpa[E']using h
 |.sl sz rows,x,h=>by
  simp only[E']at h|-;obtain⟨a,cap,hx,hl,hr⟩:=h;refine⟨a,cap,hx,hl,?_⟩;rcases hr with hr|⟨b,off,ha,hb,hs,hr⟩
  .exact .inl hr
  .cases rows with
   |nil=>exact .inl rfl
   |cons r rs=>
    have H':∃o y,w.cell? ⟨b,o,none⟩=some y:=by
     have h2:=hr;simp only[aY]at h2;obtain⟨h1,h2,_⟩:=h2;rw[ed]at h2;cases hc:r.cells with
     |nil=>rw[hc]at h1;simp at h1;omega
     |cons c cs=>
      rw[hc]at h2;simp only[aU]at h2;obtain⟨⟨y,hy,_⟩,_⟩:=h2;exact⟨_,y,hy⟩
    exact .inr ⟨b,off,ha,(hk b H' hb).1,hs,aY.bV (r::rs) b off sz (hk b H' hb).2 hr⟩
 |.own id off len,x,h=>by
  simp only[E']at h|-;cases M':I id with
  |dN=>rw[M']at h;exact h.elim
  |nil=>rw[hm id (by rw[M'];simp)];exact h
  |Ss b sz cap=>rw[hm id (by rw[M'];simp)];exact h
 |.ptr id i k,x,h=>by
  simp only[E']at h|-;cases M':I id with
  |dN=>rw[M']at h;exact h.elim
  |nil=>rw[M']at h;exact h.elim
  |Ss b sz cap=>rw[hm id (by rw[M'];simp)];exact h
 |.rp v,x,h=>by
  simp only[E']at h|-;obtain⟨b,off,hx,H',hb,hr⟩:=h;refine⟨b,off,hx,Nat.lt_of_lt_of_le H' hz,?_⟩;cases hc:v.cells with
  |nil=>
   refine⟨.inl rfl,?_⟩;rw[ed,hc];simp[aU]
  |cons c cs=>
   have h2:=hr;rw[ed,hc]at h2;simp only[aU]at h2;obtain⟨⟨y,hy,_⟩,_⟩:=h2;have Tl:=hk b ⟨_,y,hy⟩ (hb.resolve_left (by rw[hc];simp));exact⟨.inr Tl.1,bD.bV v b off Tl.2 hr⟩
 |.Sc,x,h=>by simpa[E']using h
 |.fn f caps,x,h=>by
  simp only[E']at h|-;obtain⟨RF,hx,hr⟩:=h;exact⟨RF,hx,aA.bV caps RF hr⟩
 |.bm f caps,x,h=>by
  simp only[E']at h|-;obtain⟨RF,hx,hr⟩:=h;exact⟨RF,hx,aA.bV caps RF hr⟩
 |.RQ,x,h=>by simpa[E']using h
 |.iface t v,x,h=>by
  simp only[E']at h|-;obtain⟨y,hx,hr⟩:=h;exact⟨y,hx,E'.bV v y hr⟩
 |.Si,x,h=>by simpa[E']using h
 |.agg vs,x,h=>by
  simp only[E']at h|-;obtain⟨RF,hx,hr,h1⟩:=h;exact⟨RF,hx,aA.bV vs RF hr,h1⟩
 |.RB vs,x,h=>by
  simp only[E']at h|-;obtain⟨RF,hx,hr⟩:=h;exact⟨RF,hx,aA.bV vs RF hr⟩
 |.raw v,x,h=>by simpa[E']using h
 |.obj o,x,h=>by simp[E']at h
 |.gp id,x,h=>by
  simp only[E']at h|-;cases M':I id with
  |dN=>rw[M']at h;exact h.elim
  |nil=>rw[M']at h;exact h.elim
  |Ss b sz cap=>rw[hm id (by rw[M'];simp)];exact h
 |.yl id,x,h=>by
  simp only[E']at h|-;cases M':I id with
  |dN=>rw[M']at h;exact h.elim
  |nil=>rw[M']at h;exact h.elim
  |Ss b sz cap=>rw[hm id (by rw[M'];simp)];exact h
 |.mp id,x,h=>by
  simp only[E']at h|-;cases M':I id with
  |dN=>rw[M']at h;exact h.elim
  |nil=>rw[M']at h;exact h.elim
  |Ss b sz cap=>rw[hm id (by rw[M'];simp)];exact h
def aA.bV:∀(vs:List V) (l:List Value),aA I ow w vs l->aA Y' T9 w' vs l
 |[],l,h=>by simpa[aA]using h
 |v::vs,l,h=>by
  simp only[aA]at h|-;obtain⟨x,xs,hx,h1,h2⟩:=h;exact⟨x,xs,hx,E'.bV v x h1,aA.bV vs xs h2⟩
def aU.bV:∀(vs:List V) (b off:Nat),(∀(off:Nat) (x:Value),w.cell? ⟨b,off,none⟩=some x->w'.cell? ⟨b,off,none⟩=some x)->aU I ow w vs b off->aU Y' T9 w' vs b off
 |[],_,_,_,_=>by simp[aU]
 |v::vs,b,off,hb,h=>by
  simp only[aU]at h|-;obtain⟨⟨x,hx,h1,h2⟩,h3⟩:=h;exact⟨⟨x,hb _ _ hx,E'.bV v x h1,h2⟩,aU.bV vs b (off+1) hb h3⟩
def bD.bV:∀(v:V) (b off:Nat),(∀(off:Nat) (x:Value),w.cell? ⟨b,off,none⟩=some x->w'.cell? ⟨b,off,none⟩=some x)->bD I ow w v b off->bD Y' T9 w' v b off
 |.agg vs,b,off,hb,h=>by
  simp only[bD]at h|-;exact aU.bV vs b off hb h
 |.undef,b,off,hb,h=>by simp only[bD]at h|-;obtain⟨x,hx,h1,h2⟩:=h;exact⟨x,hb _ _ hx,E'.bV _ x h1,h2⟩
 |.int k n,b,off,hb,h=>by simp only[bD]at h|-;obtain⟨x,hx,h1,h2⟩:=h;exact⟨x,hb _ _ hx,E'.bV _ x h1,h2⟩
 |.bool t,b,off,hb,h=>by simp only[bD]at h|-;obtain⟨x,hx,h1,h2⟩:=h;exact⟨x,hb _ _ hx,E'.bV _ x h1,h2⟩
 |.str s,b,off,hb,h=>by simp only[bD]at h|-;obtain⟨x,hx,h1,h2⟩:=h;exact⟨x,hb _ _ hx,E'.bV _ x h1,h2⟩
 |.aC,b,off,hb,h=>by simp only[bD]at h|-;obtain⟨x,hx,h1,h2⟩:=h;exact⟨x,hb _ _ hx,E'.bV _ x h1,h2⟩
 |.sl sz rows,b,off,hb,h=>by simp only[bD]at h|-;obtain⟨x,hx,h1,h2⟩:=h;exact⟨x,hb _ _ hx,E'.bV _ x h1,h2⟩
 |.own id o len,b,off,hb,h=>by simp only[bD]at h|-;obtain⟨x,hx,h1,h2⟩:=h;exact⟨x,hb _ _ hx,E'.bV _ x h1,h2⟩
 |.ptr id i k,b,off,hb,h=>by simp only[bD]at h|-;obtain⟨x,hx,h1,h2⟩:=h;exact⟨x,hb _ _ hx,E'.bV _ x h1,h2⟩
 |.rp v,b,off,hb,h=>by simp only[bD]at h|-;obtain⟨x,hx,h1,h2⟩:=h;exact⟨x,hb _ _ hx,E'.bV _ x h1,h2⟩
 |.Sc,b,off,hb,h=>by simp only[bD]at h|-;obtain⟨x,hx,h1,h2⟩:=h;exact⟨x,hb _ _ hx,E'.bV _ x h1,h2⟩
 |.fn f caps,b,off,hb,h=>by simp only[bD]at h|-;obtain⟨x,hx,h1,h2⟩:=h;exact⟨x,hb _ _ hx,E'.bV _ x h1,h2⟩
 |.bm f caps,b,off,hb,h=>by simp only[bD]at h|-;obtain⟨x,hx,h1,h2⟩:=h;exact⟨x,hb _ _ hx,E'.bV _ x h1,h2⟩
 |.RQ,b,off,hb,h=>by simp only[bD]at h|-;obtain⟨x,hx,h1,h2⟩:=h;exact⟨x,hb _ _ hx,E'.bV _ x h1,h2⟩
 |.iface t v,b,off,hb,h=>by simp only[bD]at h|-;obtain⟨x,hx,h1,h2⟩:=h;exact⟨x,hb _ _ hx,E'.bV _ x h1,h2⟩
 |.Si,b,off,hb,h=>by simp only[bD]at h|-;obtain⟨x,hx,h1,h2⟩:=h;exact⟨x,hb _ _ hx,E'.bV _ x h1,h2⟩
 |.RB vs,b,off,hb,h=>by simp only[bD]at h|-;obtain⟨x,hx,h1,h2⟩:=h;exact⟨x,hb _ _ hx,E'.bV _ x h1,h2⟩
 |.raw v,b,off,hb,h=>by simp only[bD]at h|-;obtain⟨x,hx,h1,h2⟩:=h;exact⟨x,hb _ _ hx,E'.bV _ x h1,h2⟩
 |.obj o',b,off,hb,h=>by simp only[bD]at h|-;obtain⟨x,hx,h1,h2⟩:=h;exact⟨x,hb _ _ hx,E'.bV _ x h1,h2⟩
 |.gp o',b,off,hb,h=>by simp only[bD]at h|-;obtain⟨x,hx,h1,h2⟩:=h;exact⟨x,hb _ _ hx,E'.bV _ x h1,h2⟩
 |.yl o',b,off,hb,h=>by simp only[bD]at h|-;obtain⟨x,hx,h1,h2⟩:=h;exact⟨x,hb _ _ hx,E'.bV _ x h1,h2⟩
 |.mp o',b,off,hb,h=>by simp only[bD]at h|-;obtain⟨x,hx,h1,h2⟩:=h;exact⟨x,hb _ _ hx,E'.bV _ x h1,h2⟩
def aY.bV:∀(rs:List V) (b off sz:Nat),(∀(off:Nat) (x:Value),w.cell? ⟨b,off,none⟩=some x->w'.cell? ⟨b,off,none⟩=some x)->aY I ow w rs b off sz->aY Y' T9 w' rs b off sz
 |[],_,_,_,_,_=>by simp[aY]
 |r::rs,b,off,sz,hb,h=>by
  simp only[aY]at h|-;exact⟨h.1,bD.bV r b off hb h.2.1,aY.bV rs b (off+sz) sz hb h.2.2⟩
end
end
section
variable {I Y':Mu} {ow T9:Nat->Prop} {w w':World} (hm:df I Y') (hk:db ow T9 w w') (hz:w.heap.size<=w'.heap.size)
include hm hk hz
def E'.mono(v:V)(x:Value):E' I ow w v x->E' Y' T9 w' v x:=E'.bV hm hk.toC hz v x
def aA.mono(vs:List V)(l:List Value):aA I ow w vs l->aA Y' T9 w' vs l:=aA.bV hm hk.toC hz vs l
def bD.mono(v:V)(b off:Nat)(hb:w'.heap[b]?=w.heap[b]?):bD I ow w v b off->bD Y' T9 w' v b off:=bD.bV hm hk.toC hz v b off (eH hb)
def aY.mono(rs:List V)(b off sz:Nat)(hb:w'.heap[b]?=w.heap[b]?):aY I ow w rs b off sz->aY Y' T9 w' rs b off sz:=aY.bV hm hk.toC hz rs b off sz (eH hb)
end
def NY(_:World):Prop:=True
def aG(I:Mu)(U:ai)(b:Nat):Prop:=∃id o sz cap,U id=some o/\I id=.Ss b sz cap
def tmpsOf:Obj->List Value
 |.loop r=>r.tmps.toList
 |.map es _=>es.toList.map (·.val)
 |_=>[]
def n7(I:Mu)(ow:Nat->Prop)(w:World)(o:Ob):Pl->Prop
 |.dN=>False
 |.nil=>o.rows=[]
 |.Ss b sz cap=>(∃cur,w.heap[b]?=some (.cells cur o.elem (0,0))/\o.sz=sz/\0<sz/\cur.size=cap*sz/\o.rows.length<=cap/\cap<=maxLen/\
   aY I ow w o.rows b 0 sz)\/(sz=0/\o.sz=0/\∃(ob:Obj) (env:List V),o.rows=.obj ob::env/\w.heap[b]?=some ob/\aA I ow w env (tmpsOf ob))
def Ov(w:World)(ow:Nat->Prop):Prop:=∃b:World,NY b/\b.heap.size<=w.heap.size/\∀i,i<b.heap.size->¬ow i/\w.heap[i]?=b.heap[i]?
structure Sat(w0:World)(Su:Nat->Prop)(I:Mu)(U:ai)(w:World):Prop where
 size:w0.heap.size<=w.heap.size
 os:w.os=w0.os
 tape:w.tape=w0.tape
 output:w.output=w0.output
 same:∀b,b<w0.heap.size->¬Su b->w.heap[b]?=w0.heap[b]?
 fin:∃N,∀id,N<=id->I id=.dN
 inj:∀id Tx o o' b sz cap UC Tc,U id=some o->U Tx=some o'->I id=.Ss b sz cap->I Tx=.Ss b UC Tc->id=Tx
 obj:∀id o,U id=some o->n7 I (aG I U) w o (I id)
 fresh:∀b,aG I U b->b<w0.heap.size->Su b
 UW:Ov w0 Su
def Sat.oQ{w0 w:World}{Su:Nat->Prop}{I:Mu}{U:ai}(h:Sat w0 Su I U w):Ov w (aG I U):=by
 obtain⟨b,h1,h2,h3⟩:=h.UW;refine⟨b,h1,Nat.le_trans h2 h.size,λi hi=>?_⟩;obtain⟨h4,h5⟩:=h3 i hi;exact⟨λho=>h4 (h.fresh i ho (Nat.lt_of_lt_of_le hi h2)),(h.same i (Nat.lt_of_lt_of_le hi h2) h4).trans h5⟩
def aa(Z' U:ai):Prop:=∀id o,Z' id=some o->U id=some o
def aa.refl(U:ai):aa U U:=λ_ _ h=>h
def aa.trans{a b c:ai}(h:aa a b)(h':aa b c):aa a c:=λid o e=>h' id o (h id o e)
def C'(U:ai)(id:Nat)(o:Ob):ai:=λi=>if i=id then some o else U i
def del(U:ai)(id:Nat):ai:=λi=>if i=id then none else U i
def aa.GV{Z' U:ai}{id:Nat}{o:Ob}(h:aa Z' U)(M':Z' id=none):aa Z' (C' U id o):=λi u e=>by
 have R6:i≠id:=λe'=>by rw[e',M']at e;cases e
 simp[C',R6,h i u e]
def aa.xB(U:ai)(id:Nat):aa (del U id) U:=λi o e=>by
 unfold del at e;split at e
 .cases e
 .exact e
def aG.sub{I:Mu}{U Z':ai}(h:aa Z' U){b:Nat}(hb:aG I Z' b):aG I U b:=by
 obtain⟨id,o,sz,cap,h1,h2⟩:=hb;exact⟨id,o,sz,cap,h id o h1,h2⟩
def db.sub{I:Mu}{U Z':ai}(w:World)(h:aa Z' U):db (aG I U) (aG I Z') w w:=
 λ_ _ hn=>⟨λhb=>hn (hb.sub h),rfl⟩
def n7.bV{I Y':Mu}{ow T9:Nat->Prop}{w w':World}(hm:df I Y')(hk:pr ow T9 w w')(hz:w.heap.size<=w'.heap.size){o:Ob}{p:Pl}
 (hb:∀b sz cap,p=.Ss b sz cap->w'.heap[b]?=w.heap[b]?)(h:n7 I ow w o p):n7 Y' T9 w' o p:=by
 cases p with
 |dN=>exact h
 |nil=>exact h
 |Ss b sz cap=>
  have e:=hb b sz cap rfl;rcases h with⟨cur,h1,h2,h3,h4,h5,h6,h7⟩|⟨h1,h2,ob,env,h3,h4,h5⟩
  .exact .inl ⟨cur,e.trans h1,h2,h3,h4,h5,h6,aY.bV hm hk hz _ _ _ _ (eH e) h7⟩
  .exact .inr ⟨h1,h2,ob,env,h3,e.trans h4,aA.bV hm hk hz _ _ h5⟩
def n7.mono{I Y':Mu}{ow T9:Nat->Prop}{w w':World}(hm:df I Y')(hk:db ow T9 w w')(hz:w.heap.size<=w'.heap.size){o:Ob}{p:Pl}
 (hb:∀b sz cap,p=.Ss b sz cap->w'.heap[b]?=w.heap[b]?)(h:n7 I ow w o p):n7 Y' T9 w' o p:=h.bV hm hk.toC hz hb
def n7.plain{I:Mu}{ow:Nat->Prop}{w:World}{o:Ob}{b sz cap:Nat}(h:n7 I ow w o (.Ss b sz cap))(hz:0<sz):∃cur,w.heap[b]?=some (.cells cur o.elem (0,0))/\o.sz=sz/\0<sz/\cur.size=cap*sz/\o.rows.length<=cap/\cap<=maxLen/\
 aY I ow w o.rows b 0 sz:=by
 rcases h with h|⟨h1,_⟩
 .exact h
 .omega
def n7.rows{I:Mu}{ow:Nat->Prop}{w:World}{o:Ob}{b sz cap:Nat}(h:n7 I ow w o (.Ss b sz cap))(hz:0<sz):o.sz=sz/\0<sz/\o.rows.length<=cap/\cap<=maxLen/\aY I ow w o.rows b 0 sz:=by
 obtain⟨cur,h1,h2,h3,h4,h5,h6,h7⟩:=h.plain hz;exact⟨h2,h3,h5,h6,h7⟩
def Sat.drop{w0 w:World}{Su:Nat->Prop}{I:Mu}{U Z':ai}(h:Sat w0 Su I U w)(hs:aa Z' U):Sat w0 Su I Z' w where
 size:=h.size
 os:=h.os
 tape:=h.tape
 output:=h.output
 same:=h.same
 fin:=h.fin
 inj:=λid Tx o o' b sz cap UC Tc h1 h2 h3 h4=>h.inj id Tx o o' b sz cap UC Tc (hs _ _ h1) (hs _ _ h2) h3 h4
 obj:=λid o ho=>(h.obj id o (hs _ _ ho)).mono (df.refl I) (db.sub w hs) (Nat.le_refl _) (λ_ _ _ _=>rfl)
 fresh:=λb hb=>h.fresh b (hb.sub hs)
 UW:=h.UW
def aG.lt{w0 w:World}{Su:Nat->Prop}{I:Mu}{U:ai}(h:Sat w0 Su I U w){b:Nat}(hb:aG I U b):b<w.heap.size:=by
 obtain⟨id,o,sz,cap,h1,h2⟩:=hb;have:=h.obj id o h1;rw[h2]at this;rcases this with⟨cur,h3,_⟩|⟨_,_,ob,_,_,h3,_⟩<;>exact(Array.getElem?_eq_some_iff.1 h3).1
def Sat.put{w0 w w':World}{Su:Nat->Prop}{I Y':Mu}{U Z':ai}{row:Option Nat}(h:Sat w0 Su I U w)(hg:w.grownBy w' row)
 (SN:∀b,row=some b->aG I U b)(hμ:df I Y')(SA:∃N,∀id,N<=id->Y' id=.dN)(WK:Nat)(ob:Ob)
 (hZ':∀o,Z' WK=some o->o=ob)
 (hold:∀id o,id≠WK->Z' id=some o->U id=some o/\∀b sz cap,I id=.Ss b sz cap->some b≠row)
 (VK:∀b sz cap,Y' WK=.Ss b sz cap->some b=row\/w.heap.size<=b)
 (Sw:db (aG I U) (aG Y' Z') w w'->n7 Y' (aG Y' Z') w' ob (Y' WK)):
 Sat w0 Su Y' Z' w'/\db (aG I U) (aG Y' Z') w w':=by
 have UP:∀id o,U id=some o->Y' id=I id:=λid o ho=>hμ id (λe=>by
  have:=h.obj id o ho;rw[e]at this;exact this)
 have howned:∀b,aG Y' Z' b->aG I U b\/w.heap.size<=b:=by
  rintro b ⟨id,o,sz,cap,h1,h2⟩;by_cases M':id=WK
  .subst M';rcases VK b sz cap h2 with h3|h3
   .exact .inl (SN b h3.symm)
   .exact .inr h3
  .obtain⟨h3,_⟩:=hold id o M' h1;exact .inl ⟨id,o,sz,cap,h3,(UP id o h3)▸h2⟩
 have hk:db (aG I U) (aG Y' Z') w w':=λb hb hn=>⟨λho=>by
  rcases howned b ho with h1|h1
  .exact hn h1
  .omega,hg.block b hb (λe=>hn (SN b e.symm))⟩
 refine⟨⟨Nat.le_trans h.size hg.size,hg.os.trans h.os,hg.tape.trans h.tape,hg.output.trans h.output,?_,SA,?_,?_,?_,h.UW⟩,hk⟩
 .intro b hb hn;have h1:¬aG I U b:=λho=>hn (h.fresh b ho hb);rw[(hk b (Nat.lt_of_lt_of_le hb h.size) h1).2,h.same b hb hn]
 .intro id Tx o o' b sz cap UC Tc h1 h2 h3 h4;by_cases e:id=WK
  .by_cases e':Tx=WK
   .rw[e,e']
   .exfalso;obtain⟨h5,h6⟩:=hold Tx o' e' h2;have h7:=(UP Tx o' h5)▸h4;subst e;rcases VK b sz cap h3 with h8|h8
    .exact h6 b UC Tc h7 h8
    .have:=aG.lt h ⟨Tx,o',UC,Tc,h5,h7⟩;omega
  .obtain⟨h5,h6⟩:=hold id o e h1;have h7:=(UP id o h5)▸h3;by_cases e':Tx=WK
   .exfalso;subst e';rcases VK b UC Tc h4 with h8|h8
    .exact h6 b sz cap h7 h8
    .have:=aG.lt h ⟨id,o,sz,cap,h5,h7⟩;omega
   .obtain⟨h5',_⟩:=hold Tx o' e' h2;exact h.inj id Tx o o' b sz cap UC Tc h5 h5' h7 ((UP Tx o' h5')▸h4)
 .intro id o ho;by_cases e:id=WK
  .subst e;rw[hZ' o ho];exact Sw hk
  .obtain⟨h5,h6⟩:=hold id o e ho;rw[UP id o h5];refine(h.obj id o h5).mono hμ hk hg.size (λb sz cap hp=>hg.block b ?_ (h6 b sz cap hp));exact aG.lt h ⟨id,o,sz,cap,h5,hp⟩
 .intro b hb H';rcases howned b hb with h1|h1
  .exact h.fresh b h1 H'
  .have:=h.size;omega
structure Fr where
 w0:World
 Su:Nat->Prop
 X0:Mu
 n:Nat
 rd:Option (Nat×Loop)
structure HB(F:Fr)(ow:Nat->Prop)(ds:List Deferred)(w:World):Prop where
 rnd:∀l r,F.rd=some (l,r)->w.heap[l]?=some (.loop r)/\¬ow l
 marks:∃Ds:List Nat,ds=Ds.map (λD=>{ target:=.collected D,args:=#[] })/\Ds.Nodup/\∀D∈Ds,F.w0.heap.size<=D/\w.heap[D]?=some (.deferred (some []))/\¬ow D
def HB.mc{F:Fr}{ow T9:Nat->Prop}{ds:List Deferred}{w w':World}(h:HB F ow ds w)(hk:db ow T9 w w'):HB F T9 ds w' where
 rnd:=λl r e=>by
  obtain⟨h1,h2⟩:=h.rnd l r e;have h3:=hk l (Array.getElem?_eq_some_iff.1 h1).1 h2;exact⟨h3.2.trans h1,h3.1⟩
 marks:=by
  obtain⟨Ds,h1,h2,h3⟩:=h.marks;refine⟨Ds,h1,h2,λD hD=>?_⟩;obtain⟨g1,g2,g3⟩:=h3 D hD;have h4:=hk D (Array.getElem?_eq_some_iff.1 g2).1 g3;exact⟨g1,h4.2.trans g2,h4.1⟩
structure St where
 s:Nat->V
 U:ai
structure dq(F:Fr)(I:Mu)(st:St)(a:Act)(w:World):Prop where
 sat:Sat F.w0 F.Su I st.U w
 le:df F.X0 I
 size:a.tmps.size=F.n
 book:HB F (aG I st.U) a.defers w
 slot:∀i,i<F.n->E' I (aG I st.U) w (st.s i) (a.tmps.getD i undef)
def fK(F:Fr)(st:St)(a:Act)(w:World):Prop:=∃I,dq F I st a w
def qI(P:Program)(f:FuncId)(args:List V)(U:ai)(Post:V->ai->Prop):Prop:=
 ∀I w RF,Sat w (aG I U) I U w->aA I (aG I U) w args RF->Calls P f RF.toArray w λe w'=>
  ∃r Z' Y' val,e=.returned val/\Post r Z'/\df I Y'/\Sat w (aG I U) Y' Z' w'/\E' Y' (aG Y' Z') w' r val
def qI.mono{P:Program}{f:FuncId}{args:List V}{U:ai}{Post UD:V->ai->Prop}(h:qI P f args U Post)
 (hp:∀r Z',Post r Z'->UD r Z'):qI P f args U UD:=λI w RF hs hr=>
 (h I w RF hs hr).mono λ_ _ ⟨r,Z',Y',val,h1,h2,h3⟩=>⟨r,Z',Y',val,h1,hp _ _ h2,h3⟩
inductive VX where
 |t (n:Nat)
 |c (v:V)
def cellOf:Value->V
 |.int k n=>.int k n
 |.bool b=>.bool b
 |.string s=>.str s.data.toList
 |.slice a n c=>if a=none/\n=0/\c=0 then .aC else .raw (.slice a n c)
 |.pointer a=>if a=none then .Sc else .raw (.pointer a)
 |.nilFunc=>.RQ
 |.nilIface=>.Si
 |v=>.raw v
def ofValue:Value->V
 |.agg cs=>if cs.toList.all (·.oneCell')then .agg (cs.toList.map cellOf)else .raw (.agg cs)
 |v=>cellOf v
inductive MOp where
 |Xr (t:TypeId)
 |X7 (f:FuncId)
 |nilP (neg:Bool)
 |pL
 |qd
 |cpy (sz:Nat)
 |tas (t:TypeId) (ok:Bool) (zero:V)
 |inv (tbl:List (TypeId×FuncId))
 |mkMap
 |insM
 |lookM (ok:Bool) (zero:V)
 |delM
inductive RO where
 |more (m:MOp) (xs:List VX)
 |RJ (x:VX)
 |pick (c a b:VX)
 |bin (op:BinOp) (x y:VX)
 |not (x:VX)
 |neg (x:VX)
 |len (str:Bool) (x:VX)
 |fld (agg:Bool) (off sz:Nat) (x:VX)
 |RU (agg:Bool) (off sz:Nat) (x:VX)
 |Us (SU:Nat) (x i:VX)
 |UE (agg:Bool) (n SU:Nat) (x i:VX)
 |Xs (agg:Bool) (n SU:Nat) (x i:VX)
 |Zj (x i:VX)
 |load (agg:Bool) (sz:Nat) (x:VX)
 |slice (SU:Nat) (x:VX) (lo hi mx:Option VX)
 |VW (x:VX) (lo hi:Option VX)
 |ext (i:Nat) (x:VX)
 |SE (f:FuncId) (caps:List VX)
 |U9 (k:IntKind) (x:VX)
 |nilCheck (x:VX)
 |Ts (neg:Bool) (x y:VX)
 |Yj (neg:Bool) (ks:List Nat) (x y:VX)
 |RD (max:Bool) (x y:VX)
 |Xt (x:VX)
 |box (elem sz:Nat) (x:VX)
 |clear (sz:Nat) (zero:V) (x:VX)
 |alloc (elem sz:Nat) (zero:V)
 |store (sz:Nat) (a x:VX)
 |bp (elem sz:Nat) (parts:List VX)
 |build (zero:List V) (parts:List (Nat×Nat×VX))
 |append (elem sz bytes:Nat) (a b:VX)
 |cap (x:VX)
 |mk (elem sz bytes:Nat) (zero:V) (n:VX)
 |Wr (elem sz bytes:Nat) (zero:V) (a n:VX)
 |call (f:VX) (args:List VX)
 |Zk (rune:Bool) (x:VX)
 |nxtS (x:VX)
 |bad
structure aN where
 dst:Option Nat
 op:RO
 g:Option (VX×Bool)
inductive bJ where
 |skip
 |Sd (draw:Bool) (l:List aN)
 |seq (a b:bJ)
 |cond (c:VX) (a b:bJ)
 |block (id:Nat) (a:bJ)
 |loop (a:bJ)
 |exit (id:Nat)
 |ret
 |cX (g:VX) (ps:List Nat) (a b:bJ)
 |SO (l:List aN) (RS:List (List Nat))
 |pH (l e:List aN)
 |bad
def bx:RO->Nat
 |.call ..=>1
 |.store ..=>2
 |.alloc ..|.box ..|.bp ..|.append ..|.mk ..|.Wr ..=>3
 |.clear ..|.Zk ..|.nxtS _|.bad=>4
 |.more (.Xr _) _|.more (.X7 _) _|.more (.tas ..) _|.more (.nilP _) _=>0
 |.more ..=>4
 |_=>0
def RO.xs:RO->List VX
 |.RJ x|.not x|.neg x|.len _ x|.fld _ _ _ x|.RU _ _ _ x|.load _ _ x|.ext _ x|.U9 _ x|.nilCheck x|.Xt x|.box _ _ x|.clear _ _ x|.cap x|.mk _ _ _ _ x|.Zk _ x|.nxtS x=>[x]
 |.bin _ x y|.Us _ x y|.UE _ _ _ x y|.Xs _ _ _ x y|.Zj x y|.Ts _ x y|.Yj _ _ x y|.RD _ x y|.store _ x y|.append _ _ _ x y|.Wr _ _ _ _ x y=>[x,y]
 |.pick x y z=>[x,y,z]
 |.slice _ x lo hi mx=>x::(lo.toList++hi.toList++mx.toList)
 |.VW x lo hi=>x::(lo.toList++hi.toList)
 |.SE _ xs=>xs
 |.more _ xs=>xs
 |.bp _ _ xs=>xs
 |.build _ ps=>ps.map (·.2.2)
 |.call f xs=>f::xs
 |.alloc ..|.bad=>[]
def VX.HM:VX->Option Nat
 |.t d=>some d
 |.c _=>none
def aN.kE(i:aN):List Nat:=(i.op.xs++(i.g.map (·.1)).toList).filterMap VX.HM
def kf:RO->Bool
 |.load ..|.Us ..|.slice ..|.Xt ..=>false
 |op=>bx op==0
def Bp(A B:aN):Bool:=
 (match A.dst with
  |some d=>!B.kE.contains d&&B.dst != some d
  |none=>true)&&
 (match B.dst with
  |some d=>!A.kE.contains d
  |none=>true)
def fA(i:aN):Bool:=decide (bx i.op<=1)
def rD(i:aN):Bool:=bx i.op==2||bx i.op==3
def Xr(i:aN):Bool:=match i.op with
 |.alloc ..|.box ..|.bp ..|.mk ..=>true
 |_=>false
def Ea(i:aN):Bool:=match i.op with
 |.alloc ..|.box ..|.bp ..|.append ..|.mk ..=>true
 |_=>false
def jn(i:aN):Bool:=bx i.op==0
def mr(A B:aN):Bool:=Bp A B&&((fA A&&fA B)||(rD A&&kf B.op)||(kf A.op&&rD B)||(fA A&&Xr B)||(Ea A&&jn B)||(Ea A&&Xr B))
def M4(P:Program)(a b:TypeId):Bool:=match P.underlying a,P.underlying b with
 |some (.int _),some .string=>true
 |_,_=>false
section comp
variable (P:Program) (n:Nat)
def cx:Operand->VX
 |.tmp t=>if t<n then .t t else .c (.RB [])
 |.const v=>.c (ofValue v)
 |.func f=>.c (.fn f [])
 |.global g=>.c (.raw (.pointer (some ⟨g,0,none⟩)))
def fm(t:TypeId):Bool:=match P.underlying t with
 |some (.struct _)|some (.array _ _)=>true
 |_=>false
def bU(t:TypeId):Bool:=(P.info? t).isSome&&(P.underlying t).isSome&&P.cellsOf t != 0
def zeroOf(e:TypeId):Option (TypeInfo×Value):=match P.info? e with
 |some i=>match i.zero with
  |some z=>if bU P e&&z.cells.size==i.size&&z.cells.toList.all (·.oneCell')then some (i,z)else none
  |none=>none
 |none=>none
def nr(t:TypeId):Bool:=match P.underlying t,P.info? t with
 |some (.struct fs),some i=>fs.size==0&&(i.size==0&&(match i.zero with
  |some (.agg z)=>z.size==0
  |_=>false))
 |_,_=>false
def u8T(t:TypeId):Bool:=match P.underlying t with
 |some (.int .u8)=>true
 |_=>false
def FX(t:TypeId):Bool:=match P.underlying t with
 |some (.int _)|some .bool|some .string=>true
 |_=>false
def oJ(t:TypeId):Nat:=match P.underlying t with
 |some (.int _)=>0
 |some .bool=>1
 |some .string=>2
 |_=>3
def Fq(t:TypeId)(fs:Array Field):Bool:=
 (fs.toList.map (·.offset)==List.range fs.size)&&(fs.toList.all λf=>FX P f.type&&f.name != "_"&&bU P f.type)&&!P.stoodInHeld t&&!P.eqGuardType P.depth t
def Ok:Value->Bool
 |.slice none _ _=>true
 |_=>false
def C9:Operand->Bool
 |.const v=>Ok v
 |_=>false
def cN(op:BinOp)(x:VX)(y:Operand):RO:=if op=.eql/\C9 y=true then .Ts false x (.c (.iface 0 .undef))else .bad
def xJ(t:TypeId):Bool:=match P.underlying t with
 |some (.slice _)=>true
 |_=>false
def te(t:TypeId):Bool:=match P.underlying t with
 |some (.interface _)=>true
 |_=>false
def NU:Operand->Bool
 |.const .nilIface=>true
 |_=>false
def NK(t:TypeId):Bool:=match P.underlying t with
 |some (.func _ _ _)=>true
 |_=>false
def Ng:Operand->Bool
 |.const .nilFunc=>true
 |_=>false
def NB(t:TypeId):Bool:=match P.underlying t with
 |some (.pointer _)=>true
 |_=>false
def IS:Operand->Bool
 |.const (.pointer none)=>true
 |_=>false
def H5(t:TypeId):Option TypeId:=match P.underlying t with
 |some (.map k e)=>match P.underlying k with
  |some (.int _)=>some e
  |_=>none
 |_=>none
def NR(name:String)(t:TypeId):Option FuncId:=match P.info? t with
 |some i=>match i.methods.find? (·.name==name)with
  |some m=>if m.path.isEmpty then match m.func,P.underlying t with
     |some (f,true),some (.pointer _)=>some f
     |some (_,false),some (.pointer _)=>none
     |some (f,false),some _=>some f
     |_,_=>none
   else none
  |none=>none
 |none=>none
def JZ(name:String):List (TypeId×FuncId):=(List.range P.types.size).filterMap λt=>(NR P name t).map λf=>(t,f)
def rV:Operand->Operand->Bool
 |.tmp a,.tmp b=>a==b
 |.const (.int k a),.const (.int k' b)=>decide (k=k'/\a=b)
 |_,_=>false
def R0:Op->RO
 |.move x|.assign x=>.RJ (cx n x)
 |.pick c a b=>.pick (cx n c) (cx n a) (cx n b)
 |.binOp op t x y _=>match P.underlying t with
   |some .bool=>match op with
    |.eql=>.Ts false (cx n x) (cx n y)
    |.neq=>.Ts true (cx n x) (cx n y)
    |_=>.bad
   |some (.struct fs)=>if Fq P t fs then match op with
    |.eql=>.Yj false (fs.toList.map λf=>oJ P f.type) (cx n x) (cx n y)
    |.neq=>.Yj true (fs.toList.map λf=>oJ P f.type) (cx n x) (cx n y)
    |_=>.bad
    else .bad
   |_=>if xJ P t then cN op (cx n x) y else if te P t then(if(op=.eql\/op=.neq)/\NU y=true then .Ts (op==.neq) (cx n x) (.c (.iface 1 .undef))else .bad)else if NK P t then(if(op=.eql\/op=.neq)/\Ng y=true then .Ts (op==.neq) (cx n x) (.c (.iface 2 .undef))else .bad)else if NB P t&&IS y then(if op=.eql\/op=.neq then .more (.nilP (op==.neq)) [cx n x]else .bad)else .bin op (cx n x) (cx n y)
 |.nilCheck x=>.nilCheck (cx n x)
 |.box e x=>if bU P e then .box e (P.cellsOf e) (cx n x)else .bad
 |.unOp .not _ x=>.not (cx n x)
 |.unOp .neg _ x=>.neg (cx n x)
 |.field s x f=>match P.underlying s with
   |some (.struct fs)=>match fs[f]? with
    |some fd=>if bU P fd.type then .fld (fm P fd.type) fd.offset (P.cellsOf fd.type) (cx n x)else .bad
    |none=>.bad
   |_=>.bad
 |.fieldAddr s x f=>match P.underlying s with
   |some (.struct fs)=>match fs[f]? with
    |some fd=>if bU P fd.type then .RU (fm P fd.type) fd.offset (P.cellsOf fd.type) (cx n x)else .bad
    |none=>.bad
   |_=>.bad
 |.indexAddr t x i=>match P.underlying t with
   |some (.slice e)=>if bU P e then .Us (P.cellsOf e) (cx n x) (cx n i)else .bad
   |some (.array k e)=>if bU P e then .UE (fm P e) k (P.cellsOf e) (cx n x) (cx n i)else .bad
   |_=>.bad
 |.index t x i=>match P.underlying t with
   |some (.array k e)=>if bU P e then .Xs (fm P e) k (P.cellsOf e) (cx n x) (cx n i)else .bad
   |some .string=>.Zj (cx n x) (cx n i)
   |_=>.bad
 |.load t x=>if bU P t then .load (fm P t) (P.cellsOf t) (cx n x)else .bad
 |.slice t x lo hi mx=>match P.underlying t with
   |some (.slice e)=>if bU P e&&(mx.isNone||hi.isSome)then .slice (P.cellsOf e) (cx n x) (lo.map (cx n)) (hi.map (cx n)) (mx.map (cx n))else .bad
   |some .string=>if mx.isNone then .VW (cx n x) (lo.map (cx n)) (hi.map (cx n))else .bad
   |_=>.bad
 |.extract x i=>.ext i (cx n x)
 |.makeFunc (.func f) first caps=>if first.size=0 then .SE f (caps.toList.map (cx n))else if caps.size=0 then .more (.X7 f) (first.toList.map (cx n))else .bad
 |.convert src dst x=>match P.underlying src,P.underlying dst with
   |some (.int _),some (.int k)=>.U9 k (cx n x)
   |some (.slice e),some .string=>if u8T P e then .Xt (cx n x)else .bad
   |_,_=>if M4 P src dst then .Zk true (cx n x)else .bad
 |.alloc e=>match zeroOf P e with
   |some (i,z)=>.alloc e i.size (ofValue z)
   |none=>if nr P e then .more .pL []else .bad
 |.store t a x=>if bU P t then .store (P.cellsOf t) (cx n a) (cx n x)else if nr P t then .more .qd [cx n a,cx n x]else .bad
 |.buildSlice t len parts=>match P.underlying t with
   |some (.slice e)=>match zeroOf P e with
    |some (i,_)=>if parts.toList.map (·.1)=List.range len/\len*i.size<=16777216 then .bp e i.size (parts.toList.map λp=>cx n p.2)else .bad
    |none=>.bad
   |_=>.bad
 |.build t parts=>if nr P t&&parts.size==0 then .RJ (.c (.agg []))else match zeroOf P t,P.underlying t with
   |some (_,.agg z),some (.struct fs)=>
    if(fs.toList.all λf=>bU P f.type)&&(parts.toList.all λp=>decide (p.1<fs.size))then
     .build (z.toList.map cellOf) (parts.toList.map λp=>(((fs[p.1]?).map (·.offset)).getD 0,((fs[p.1]?).map λf=>P.cellsOf f.type).getD 0,cx n p.2))
    else .bad
   |some (_,.agg z),some (.array _ e)=>if bU P e then .build (z.toList.map cellOf) (parts.toList.map λp=>(p.1*P.cellsOf e,P.cellsOf e,cx n p.2))else .bad
   |_,_=>.bad
 |.call { callee:=.builtin .len,args,argTypes }=>match args.toList,argTypes[0]? with
   |[x],some t=>match P.underlying t with
    |some (.slice _)=>.len false (cx n x)
    |some .string=>.len true (cx n x)
    |_=>.bad
   |_,_=>.bad
 |.call { callee:=.builtin .append,args,argTypes }=>match args.toList,argTypes.toList with
   |[a,b],[t,t']=>if t=t' then match P.underlying t with
    |some (.slice e)=>match zeroOf P e with
     |some (i,_)=>.append e i.size i.bytes (cx n a) (cx n b)
     |none=>.bad
    |_=>.bad
    else match P.underlying t,P.underlying t' with
    |some (.slice e),some (.int _)=>match zeroOf P e with
     |some (i,z)=>.Wr e i.size i.bytes (ofValue z) (cx n a) (cx n b)
     |none=>.bad
    |some (.slice e),some .string=>match zeroOf P e with
     |some (i,_)=>.append e i.size i.bytes (cx n a) (cx n b)
     |none=>.bad
    |_,_=>.bad
   |_,_=>.bad
 |.makeSlice t l c=>match P.underlying t with
   |some (.slice e)=>match zeroOf P e with
    |some (i,z)=>if rV l c then .mk e i.size i.bytes (ofValue z) (cx n l)else .bad
    |none=>.bad
   |_=>.bad
 |.call { callee:=.builtin .cap,args,argTypes }=>match args.toList,argTypes[0]? with
   |[x],some t=>if xJ P t then .cap (cx n x)else .bad
   |_,_=>.bad
 |.call { callee:=.builtin .min,args,.. }=>match args.toList with
   |[x,y]=>.RD false (cx n x) (cx n y)
   |_=>.bad
 |.call { callee:=.builtin .max,args,.. }=>match args.toList with
   |[x,y]=>.RD true (cx n x) (cx n y)
   |_=>.bad
 |.call { callee:=.builtin .clear,args,argTypes }=>match args.toList,argTypes[0]? with
   |[x],some t=>match P.underlying t with
    |some (.slice e)=>match zeroOf P e with
     |some (i,z)=>.clear i.size (ofValue z) (cx n x)
     |none=>.bad
    |_=>.bad
   |_,_=>.bad
 |.call { callee:=.builtin .copy,args,argTypes }=>match args.toList,argTypes[0]? with
   |[x,y],some t=>match P.underlying t with
    |some (.slice e)=>if bU P e then .more (.cpy (P.cellsOf e)) [cx n x,cx n y]else .bad
    |_=>.bad
   |_,_=>.bad
 |.call { callee:=.value f,args,.. }=>.call (cx n f) (args.toList.map (cx n))
 |.range t x=>match P.underlying t with
   |some .string=>.Zk false (cx n x)
   |_=>.bad
 |.makeInterface t x=>if(P.underlying t).isSome&&!te P t then .more (.Xr t) [cx n x]else .bad
 |.typeAssert x _ t ok=>if te P t then .bad else match zeroOf P t with
   |some (_,z)=>.more (.tas t ok (ofValue z)) [cx n x]
   |none=>if nr P t then .more (.tas t ok (.agg [])) [cx n x]else .bad
 |.call { callee:=.invoke r name,args,.. }=>.more (.inv (JZ P name)) (cx n r::args.toList.map (cx n))
 |.makeMap t r=>if r.isNone&&(H5 P t).isSome then .more .mkMap []else .bad
 |.insert t m k x|.mapUpdate t m k x=>if(H5 P t).isSome then .more .insM [cx n m,cx n k,cx n x]else .bad
 |.lookup t x i ok=>match H5 P t with
   |some e=>match zeroOf P e with
    |some (_,z)=>.more (.lookM ok (ofValue z)) [cx n x,cx n i]
    |none=>.bad
   |none=>.bad
 |.call { callee:=.builtin .delete,args,argTypes }=>match args.toList,argTypes[0]? with
   |[m,k],some t=>if(H5 P t).isSome then .more .delM [cx n m,cx n k]else .bad
   |_,_=>.bad
 |.next it b=>if b=true then .nxtS (cx n it)else .bad
 |_=>.bad
def dn(all:Array Oper)(o:Oper):aN where
 dst:=o.dst.filter (·<n)
 op:=R0 P n o.op
 g:=o.guard.map λ(j,want)=>(match(all[j]?).bind (·.dst)with
  |some d=>if d<n then .t d else .c (.RB [])
  |none=>.c (.RB []),want)
def Cg(ops:Array Oper)(k:Nat)(A':Array Bool):Bool:=match ops[k]? with
 |some ok=>(List.range ops.size).all λj=>j==k||A'.getD j true||(match ops[j]? with
    |some oj=>((Region.before ops).getD j 0).testBit k||mr (dn P n ops ok) (dn P n ops oj)
    |none=>true)
 |none=>false
def E5(ops:Array Oper):Nat->Nat->Array Bool->Bool
 |0,_,A'=>(Region.ready .any ops A').isEmpty
 |m+1,k,A'=>(Region.ready .any ops A').contains k&&Cg P n ops k A'&&E5 ops m (k+1) (A'.setIfInBounds k true)
def H6(l:List aN):Bool:=l.any λi=>match i.op with
 |.append _ _ _ (.t d) _=>l.any λj=>j.dst==some d&&(match j.op with|.call ..=>true|_=>false)
 |_=>false
def Aw(l:List aN)(d:Nat):Option RO:=(l.find? λj=>j.dst==some d).map (·.op)
def xD:Option RO->Bool
 |some (.call ..)=>true
 |_=>false
def HU(l:List aN):Bool:=l.any λi=>match i.op with
 |.append _ _ _ (.t d) (.t v)=>xD (Aw l v)&&(match Aw l d with
  |some (.append _ _ _ _ (.t w))=>xD (Aw l w)
  |_=>false)
 |.call (.t f) _=>match Aw l f with
  |some (.Xs _ _ _ (.t a) _)=>xD (Aw l a)
  |_=>false
 |_=>false
def uY(l:List aN):Bool:=H6 l||HU l||
 (l.any λi=>match i.op with|.call ..=>true|_=>false)&&(l.any λi=>match i.op with|.nilCheck _=>true|_=>false)&&l.any λi=>match i.op with|.store ..=>true|_=>false
def wE(ops:Array Oper):Bool:=P.follows .mixedOrders&&(!(uY (ops.toList.map (dn P n ops)))&&E5 P n ops ops.size 0 (Array.replicate ops.size false))
def EO(ops:Array Oper)(m:Nat):Nat->Nat->Array Bool->Bool
 |0,_,A'=>decide (Region.ready .any ops A'=[m])&&(Region.ready .any ops (A'.setIfInBounds m true)).isEmpty
 |f+1,k,A'=>((Region.ready .any ops A').contains k&&(decide (k≠m)&&((Region.before ops).getD m 0).testBit k))&&(Cg P n ops k A'&&EO ops m f (k+1) (A'.setIfInBounds k true))
def Ii:aN->Bool
 |⟨_,.call ..,_⟩=>true
 |_=>false
def xm(ops:Array Oper):Bool:=P.follows .mixedOrders&&(decide (0<ops.size)&&(((ops.toList.drop (ops.size-1)).map (dn P n ops)).any Ii&&(!(uY ((ops.toList.take (ops.size-1)).map (dn P n ops)))&&EO P n ops (ops.size-1) (ops.size-1) 0 (Array.replicate ops.size false))))
def dG:Code->bJ
 |.skip=>.skip
 |.region _ ops draw=>if draw&&xm P n ops then .pH ((ops.toList.take (ops.size-1)).map (dn P n ops)) ((ops.toList.drop (ops.size-1)).map (dn P n ops))else if draw&&!(wE P n ops)then .SO (ops.toList.map (dn P n ops)) (ops.toList.map λo=>(o.after.toList.filter (Region.binds .any)).map (·.on))else .Sd draw (ops.toList.map (dn P n ops))
 |.seq a b=>.seq (dG a) (dG b)
 |.cond c a b=>.cond (cx n c) (dG a) (dG b)
 |.block id a=>.block id (dG a)
 |.loop a=>.loop (dG a)
 |.exit id=>.exit id
 |.ret=>.ret
 |.rangeFunc g ps a c=>.cX (cx n g) ps.toList (dG a) (dG c)
 |_=>.bad
end comp
def VX.ev(s:Nat->V):VX->V
 |.t n=>s n
 |.c v=>v
def RM(k:IntKind)(n:Int):Prop:=k.wrap n=n
def cU(op:BinOp)(k:IntKind)(a b:Int):Option V:=
 match op with
 |.add=>some (.int k (a+b))
 |.sub=>some (.int k (a-b))
 |.mul=>some (.int k (a*b))
 |.quo=>if b=0 then none else some (.int k (a.tdiv b))
 |.rem=>if b=0 then none else some (.int k (a.tmod b))
 |.eql=>some (.bool (decide (a=b)))
 |.neq=>some (.bool (decide (a≠b)))
 |.lss=>some (.bool (decide (a<b)))
 |.leq=>some (.bool (decide (a<=b)))
 |.gtr=>some (.bool (decide (a>b)))
 |.geq=>some (.bool (decide (a>=b)))
 |.and=>some (.int k (k.wrap (BitVec.ofInt k.bits a &&& BitVec.ofInt k.bits b).toNat))
 |.or=>some (.int k (k.wrap (BitVec.ofInt k.bits a ||| BitVec.ofInt k.bits b).toNat))
 |.shl=>if b<0 then none else some (.int k (k.wrap (a*2^(min b.toNat k.bits))))
 |.shr=>if b<0 then none else some (.int k (a.fdiv (2^(min b.toNat k.bits))))
 |_=>none
def eJ(op:BinOp)(k:IntKind)(a b:Int):Prop:=
 match op with
 |.add=>RM k (a+b)
 |.sub=>RM k (a-b)
 |.mul=>RM k (a*b)
 |.quo=>RM k (a.tdiv b)
 |_=>True
def eo(op:BinOp)(a b:List UInt8):Option V:=
 match op with
 |.add=>some (.str (a++b))
 |.eql=>some (.bool (decide (a=b)))
 |.neq=>some (.bool (decide (a≠b)))
 |_=>none
def eN(op:BinOp)(a b:List UInt8):Prop:=
 match op with
 |.add=>a.length+b.length<=9223372036854775807
 |_=>True
def uA(op:BinOp):V->V->Option V
 |.int k a,.int k' b=>if k=k' then cU op k a b else none
 |.str a,.str b=>eo op a b
 |_,_=>none
def nF(op:BinOp):V->V->Prop
 |.int k a,.int _ b=>eJ op k a b
 |.str a,.str b=>eN op a b
 |_,_=>True
def bI(agg:Bool)(off sz:Nat)(vs:List V):Option V:=
 if agg then some (.agg ((vs.drop off).take sz))else vs[off]?
def kG:V->Option V
 |.aC=>some (.int .i64 0)
 |_=>none
def dy:Bool->V->Option V
 |false,.own _ _ n=>some (.int .i64 n)
 |false,.sl _ rows=>some (.int .i64 rows.length)
 |false,.aC=>some (.int .i64 0)
 |true,.str s=>some (.int .i64 s.length)
 |_,_=>none
def jQ(agg:Bool)(off sz:Nat):V->Option V
 |.agg vs=>bI agg off sz vs
 |_=>none
def gx(agg:Bool)(off sz:Nat):V->Option V
 |.ptr id i k=>some (.ptr id i (k+off))
 |.rp v=>(bI agg off sz v.cells).map .rp
 |_=>none
def bQ(U:ai)(SU:Nat):V->V->Option V
 |.own id off len,.int _ j=>match U id with
   |some ob=>if ob.sz=SU/\0<=j/\j<len then some (.ptr id (off+j.toNat) 0)else none
   |none=>none
 |.sl sz rows,.int _ j=>if sz=SU/\0<=j then match rows[j.toNat]? with
   |some r=>some (.rp r)
   |none=>none
   else none
 |_,_=>none
def dP(agg:Bool)(n SU:Nat):V->V->Option V
 |.ptr id i k,.int _ j=>if 0<=j/\j<n then some (.ptr id i (k+j.toNat*SU))else none
 |.rp v,.int _ j=>if 0<=j/\j<n then(bI agg (j.toNat*SU) SU v.cells).map .rp else none
 |_,_=>none
def fH(agg:Bool)(n SU:Nat):V->V->Option V
 |.agg vs,.int _ j=>if 0<=j/\j<n then bI agg (j.toNat*SU) SU vs else none
 |_,_=>none
def fq:V->V->Option V
 |.str s,.int _ j=>if 0<=j then match s[j.toNat]? with
   |some b=>some (.int .u8 b.toNat)
   |none=>none
   else none
 |_,_=>none
def bT(U:ai)(agg:Bool)(sz:Nat):V->Option V
 |.ptr id i k=>match U id with
   |some ob=>match ob.rows[i]? with
    |some r=>if agg then(if k=0/\r.cells.length=sz then some (.agg r.cells)else if k+sz<=r.cells.length then some (.agg ((r.cells.drop k).take sz))else none)
       else r.cells[k]?
    |none=>none
   |none=>none
 |.rp v=>if agg then(if v.cells.length=sz then some (.agg v.cells)else none)else match v with
   |.agg _=>none
   |v=>some v
 |_=>none
def bF(d:Int):Option V->Option Int
 |none=>some d
 |some (.int _ j)=>some j
 |_=>none
def iP(U:ai)(id SU:Nat):Bool:=match U id with
 |some ob=>ob.sz==SU
 |none=>false
def cL(U:ai)(SU:Nat)(x:V)(lo hi mx:Option V):Option V:=
 match x with
 |.own id off len=>match bF 0 lo,bF len hi,bF len mx with
   |some l,some h,some m=>if 0<=l/\l<=h/\h<=m/\m<=len/\iP U id SU=true then some (.own id (off+l.toNat) (h.toNat-l.toNat))else none
   |_,_,_=>none
 |.sl sz rows=>match bF 0 lo,bF rows.length hi,bF rows.length mx with
   |some l,some h,some m=>if 0<=l/\l<=h/\h<=m/\m<=rows.length/\sz=SU then some (.sl sz ((rows.drop l.toNat).take (h.toNat-l.toNat)))else none
   |_,_,_=>none
 |.aC=>match bF 0 lo,bF 0 hi,bF 0 mx with
   |some l,some h,some m=>if l=0/\h=0/\m=0 then some .aC else none
   |_,_,_=>none
 |_=>none
def cP(x:V)(lo hi:Option V):Option V:=
 match x with
 |.str s=>match bF 0 lo,bF s.length hi with
   |some l,some h=>if 0<=l/\l<=h/\h<=s.length then some (.str ((s.drop l.toNat).take (h.toNat-l.toNat)))else none
   |_,_=>none
 |_=>none
def cc{α:Type}(l:List α)(off:Nat)(xs:List α):List α:=l.take off++xs++l.drop (off+xs.length)
def V.stays:V->Bool
 |.undef=>false
 |.RB _=>false
 |.raw v=>v.oneCell'
 |_=>true
def dd(zero:List V):List (Nat×Nat×V)->Option (List V)
 |[]=>some zero
 |(off,sz,x)::r=>if x.cells.length=sz/\x.stays=true/\off+sz<=zero.length then dd (cc zero off x.cells) r else none
def jT(i:Nat):V->Option V
 |.RB vs=>vs[i]?
 |_=>none
def dc:V->V->Option Bool
 |.int k a,.int k' b=>if k=k' then some (decide (a=b))else none
 |.bool a,.bool b=>some (a==b)
 |.str a,.str b=>some (decide (a=b))
 |_,_=>none
def cd:List V->List V->Option Bool
 |[],[]=>some true
 |v::vs,u::us=>match dc v u,cd vs us with
   |some a,some b=>some (a&&b)
   |_,_=>none
 |_,_=>none
def dI:List Nat->List V->Bool
 |[],[]=>true
 |0::ks,.int _ _::vs=>dI ks vs
 |1::ks,.bool _::vs=>dI ks vs
 |2::ks,.str _::vs=>dI ks vs
 |_,_=>false
def iO(neg:Bool)(ks:List Nat):V->V->Option V
 |.agg vs,.agg us=>if dI ks vs=true/\us.length=vs.length then match cd vs us with
   |some b=>some (.bool (if neg then !b else b))
   |none=>none
   else none
 |_,_=>none
def binBV(neg:Bool):V->V->Option V
 |.bool a,.bool b=>some (.bool (if neg then !(a==b)else a==b))
 |_,_=>none
def cZ(max:Bool):V->V->Option V
 |.int k a,.int k' b=>if k=k' then some (.int k (if max then(if b>a then b else a)else(if b<a then b else a)))else none
 |_,_=>none
def byteOf:V->Option UInt8
 |.int .u8 n=>some (UInt8.ofNat n.toNat)
 |_=>none
def bytesOf:List V->Option (List UInt8)
 |[]=>some []
 |v::vs=>match byteOf v,bytesOf vs with
   |some b,some l=>some (b::l)
   |_,_=>none
def dp(U:ai):V->Option V
 |.aC=>some (.str [])
 |.own id off len=>match U id with
   |some ob=>if ob.sz=1/\off+len<=ob.rows.length then(bytesOf ((ob.rows.drop off).take len)).map .str else none
   |none=>none
 |_=>none
def bW:V->Option V
 |.ptr id i k=>some (.ptr id i k)
 |.rp v=>some (.rp v)
 |.fn f caps=>some (.fn f caps)
 |.iface t v=>some (.iface t v)
 |_=>none
def CN(neg:Bool):V->Option V
 |.Sc=>some (.bool (!neg))
 |.ptr _ _ _=>some (.bool neg)
 |.rp _=>some (.bool neg)
 |_=>none
def GM(t:TypeId)(ok:Bool)(zero:V):V->Option V
 |.iface t' v=>if t'=t then some (if ok then .RB [v,.bool true]else v)else(if ok then some (.RB [zero,.bool false])else none)
 |.Si=>if ok then some (.RB [zero,.bool false])else none
 |_=>none
def aL(U:ai)(s:Nat->V):RO->Option V
 |.RJ x=>some (x.ev s)
 |.pick c a b=>match c.ev s with
   |.bool t=>some (if t then a.ev s else b.ev s)
   |_=>none
 |.bin op x y=>uA op (x.ev s) (y.ev s)
 |.not x=>match x.ev s with
   |.bool b=>some (.bool (!b))
   |_=>none
 |.neg x=>match x.ev s with
   |.int k a=>some (.int k (0-a))
   |_=>none
 |.len b x=>dy b (x.ev s)
 |.cap x=>kG (x.ev s)
 |.fld agg off sz x=>jQ agg off sz (x.ev s)
 |.RU agg off sz x=>gx agg off sz (x.ev s)
 |.Us SU x i=>bQ U SU (x.ev s) (i.ev s)
 |.UE agg n SU x i=>dP agg n SU (x.ev s) (i.ev s)
 |.Xs agg n SU x i=>fH agg n SU (x.ev s) (i.ev s)
 |.Zj x i=>fq (x.ev s) (i.ev s)
 |.load agg sz x=>bT U agg sz (x.ev s)
 |.slice SU x lo hi mx=>cL U SU (x.ev s) (lo.map (·.ev s)) (hi.map (·.ev s)) (mx.map (·.ev s))
 |.VW x lo hi=>cP (x.ev s) (lo.map (·.ev s)) (hi.map (·.ev s))
 |.nilCheck x=>bW (x.ev s)
 |.Ts neg x y=>binBV neg (x.ev s) (y.ev s)
 |.Yj neg ks x y=>iO neg ks (x.ev s) (y.ev s)
 |.RD m x y=>cZ m (x.ev s) (y.ev s)
 |.Xt x=>dp U (x.ev s)
 |.ext i x=>jT i (x.ev s)
 |.build zero parts=>(dd zero (parts.map λp=>(p.1,p.2.1,p.2.2.ev s))).map .agg
 |.SE f caps=>some (.fn f (caps.map (·.ev s)))
 |.more (.Xr t) [x]=>some (.iface t (x.ev s))
 |.more (.X7 f) xs=>some (.bm f (xs.map (·.ev s)))
 |.more (.tas t ok z) [x]=>GM t ok z (x.ev s)
 |.more (.nilP neg) [x]=>CN neg (x.ev s)
 |.U9 k x=>match x.ev s with
   |.int _ a=>some (.int k a)
   |_=>none
 |_=>none
def fg(s:Nat->V):RO->Prop
 |.bin op x y=>nF op (x.ev s) (y.ev s)
 |.neg x=>match x.ev s with
   |.int k a=>RM k (0-a)
   |_=>True
 |.U9 k x=>match x.ev s with
   |.int _ a=>RM k a
   |_=>True
 |_=>True
variable {P:Program} {I:Mu} {ow:Nat->Prop} {w:World}
def n9{α:Type}[DecidableEq α][BEq α][LawfulBEq α](a b:α):(a==b)=decide (a=b):=by by_cases h:a=b<;>simp[h]
def IB{α:Type}[DecidableEq α][BEq α][LawfulBEq α](a b:α):(a != b)=decide (a≠b):=by by_cases h:a=b<;>simp[h]
def gg(b off j:Nat):(⟨b,off,none⟩:Addr).add j=⟨b,off+j,none⟩:=by
 unfold Addr.add;split<;>simp_all
def aA.length:∀{vs:List V} {l:List Value},aA I ow w vs l->l.length=vs.length
 |[],l,h=>by simp[aA]at h;simp[h]
 |v::vs,l,h=>by
  simp only[aA]at h;obtain⟨x,xs,rfl,_,h2⟩:=h;simp[aA.length h2]
def aA.get:∀{vs:List V} {l:List Value} {i:Nat} {v:V},aA I ow w vs l->vs[i]?=some v->∃x,l[i]?=some x/\E' I ow w v x
 |[],l,i,v,_,h=>by simp at h
 |u::vs,l,i,v,h,hv=>by
  simp only[aA]at h;obtain⟨x,xs,rfl,h1,h2⟩:=h;cases i with
  |zero=>simp at hv;subst hv;exact⟨x,by simp,h1⟩
  |succ i=>simpa using aA.get h2 (by simpa using hv)
def aA.drop:∀{vs:List V} {l:List Value} (k:Nat),aA I ow w vs l->aA I ow w (vs.drop k) (l.drop k)
 |[],l,k,h=>by simp[aA]at h;subst h;simp[aA]
 |v::vs,l,0,h=>by simpa using h
 |v::vs,l,k+1,h=>by
  simp only[aA]at h;obtain⟨x,xs,rfl,h1,h2⟩:=h;simpa using aA.drop k h2
def aA.take:∀{vs:List V} {l:List Value} (k:Nat),aA I ow w vs l->aA I ow w (vs.take k) (l.take k)
 |[],l,k,h=>by simp[aA]at h;subst h;simp[aA]
 |v::vs,l,0,h=>by simp[aA]
 |v::vs,l,k+1,h=>by
  simp only[aA]at h;obtain⟨x,xs,rfl,h1,h2⟩:=h;simp only[List.take_succ_cons,aA];exact⟨x,_,rfl,h1,aA.take k h2⟩
def aU.get:∀{vs:List V} {b off k:Nat} {v:V},aU I ow w vs b off->vs[k]?=some v->
 ∃x,w.cell? ⟨b,off+k,none⟩=some x/\E' I ow w v x/\x.oneCell'=true
 |[],_,_,_,_,_,h=>by simp at h
 |u::vs,b,off,k,v,h,hv=>by
  simp only[aU]at h;cases k with
  |zero=>simp at hv;subst hv;exact h.1
  |succ k=>
   have:=aU.get (k:=k) h.2 (by simpa using hv)
   rwa [show off+1+k=off+(k+1) by omega]at this
def aU.drop:∀{vs:List V} {b off:Nat} (k:Nat),aU I ow w vs b off->aU I ow w (vs.drop k) b (off+k)
 |[],_,_,_,_=>by simp[aU]
 |u::vs,b,off,0,h=>by simpa using h
 |u::vs,b,off,k+1,h=>by
  simp only[aU]at h;have:=aU.drop k h.2;rw[show off+1+k=off+(k+1) by omega]at this;simpa using this
def aU.take:∀{vs:List V} {b off:Nat} (k:Nat),aU I ow w vs b off->aU I ow w (vs.take k) b off
 |[],_,_,_,_=>by simp[aU]
 |u::vs,b,off,0,h=>by simp[aU]
 |u::vs,b,off,k+1,h=>by
  simp only[aU]at h;simp only[List.take_succ_cons,aU];exact⟨h.1,aU.take k h.2⟩
def aU.BO:∀{vs:List V} {b off:Nat},aU I ow w vs b off->
 ∃xs,aA I ow w vs xs/\(∀u∈xs,u.oneCell'=true)/\∀(j:Nat) u,xs[j]?=some u->w.cell? ⟨b,off+j,none⟩=some u
 |[],_,_,_=>⟨[],by simp[aA],by simp,by simp⟩
 |v::vs,b,off,h=>by
  simp only[aU]at h;obtain⟨⟨x,h1,h2,h3⟩,h4⟩:=h;obtain⟨xs,h5,h6,h7⟩:=aU.BO h4;refine⟨x::xs,by simp only[aA];exact⟨x,xs,rfl,h2,h5⟩,by simpa using⟨h3,h6⟩,?_⟩;intro j u hu;cases j with
  |zero=>simp at hu;subst hu;exact h1
  |succ j=>
   have:=h7 j u (by simpa using hu)
   rwa [show off+1+j=off+(j+1) by omega]at this
def aY.get:∀{rows:List V} {b off sz i:Nat} {r:V},aY I ow w rows b off sz->rows[i]?=some r->
 r.cells.length=sz/\aU I ow w r.cells b (off+i*sz)
 |[],_,_,_,_,_,_,h=>by simp at h
 |u::rows,b,off,sz,i,r,h,hr=>by
  simp only[aY]at h;cases i with
  |zero=>simp at hr;subst hr;exact⟨h.1,by simpa using(ed ..).1 h.2.1⟩
  |succ i=>
   have:=aY.get (i:=i) h.2.2 (by simpa using hr)
   rwa [show off+sz+i*sz=off+(i+1)*sz by rw[Nat.add_mul];omega]at this
def aY.drop:∀{rows:List V} {b off sz:Nat} (k:Nat),aY I ow w rows b off sz->aY I ow w (rows.drop k) b (off+k*sz) sz
 |[],_,_,_,_,_=>by simp[aY]
 |u::rows,b,off,sz,0,h=>by simpa using h
 |u::rows,b,off,sz,k+1,h=>by
  simp only[aY]at h;have:=aY.drop k h.2.2;rw[show off+sz+k*sz=off+(k+1)*sz by rw[Nat.add_mul];omega]at this;simpa using this
def aY.take:∀{rows:List V} {b off sz:Nat} (k:Nat),aY I ow w rows b off sz->aY I ow w (rows.take k) b off sz
 |[],_,_,_,_,_=>by simp[aY]
 |u::rows,b,off,sz,0,h=>by simp[aY]
 |u::rows,b,off,sz,k+1,h=>by
  simp only[aY]at h;simp only[List.take_succ_cons,aY];exact⟨h.1,h.2.1,aY.take k h.2.2⟩
def nM(v:Value):E' I ow w (cellOf v) v:=by
 cases v<;>simp only[cellOf]<;>(try split)<;>simp_all [E']
def eZ:∀(l:List Value),aA I ow w (l.map cellOf) l
 |[]=>by simp[aA]
 |v::l=>by simp only[List.map_cons,aA];exact⟨v,l,rfl,nM v,eZ l⟩
def qO(v:Value):E' I ow w (ofValue v) v:=by
 unfold ofValue;split
 .rename_i cs;split
  .rename_i h;simp only[E'];exact⟨cs.toList,by simp,eZ _,λu hu=>List.all_eq_true.1 h u hu⟩
  .simp[E']
 .exact nM v
def pz{t:TypeId}(h:(P.underlying t).isSome):(isAgg t).run P w=.ok (fm P t) w:=by
 obtain⟨d,hd⟩:=Option.isSome_iff_exists.1 h;unfold isAgg fm;simp only[Sem.run_bind,run_underlying hd,Result.andThen_ok,hd];cases d<;>rfl
def dO{t:TypeId}(h:bU P t=true):(P.underlying t).isSome/\(∃i,P.info? t=some i/\i.size=P.cellsOf t)/\0<P.cellsOf t:=by
 simp only[bU,Ba,bne_iff_ne]at h;obtain⟨⟨h1,h2⟩,h3⟩:=h;obtain⟨i,hi⟩:=Option.isSome_iff_exists.1 h1;exact⟨h2,⟨i,hi,by simp[Program.cellsOf,hi]⟩,by omega⟩
def cu{t:TypeId}(h:bU P t=true):(sizeOf t).run P w=.ok (P.cellsOf t) w:=by
 obtain⟨_,⟨i,hi,_⟩,_⟩:=dO h;exact run_sizeOf w hi
def Ab{t:TypeId}(h:bU P t=true){RF:List Value}{vs:List V}{off:Nat}{v:V}(hr:aA I ow w vs RF)
 (h1:∀u∈RF,u.oneCell'=true)(hv:bI (fm P t) off (P.cellsOf t) vs=some v):
 ∃x,(part t ⟨RF⟩ off).run P w=.ok x w/\E' I ow w v x:=by
 unfold part;simp only[Sem.run_bind,pz (dO h).1,Result.andThen_ok];unfold bI at hv;cases Uk:fm P t
 .simp only[Uk,Bool.false_eq_true,if_false]at hv|-;obtain⟨x,hx,hrx⟩:=hr.get hv;have:(⟨RF⟩:Array Value)[off]?=some x:=by simpa using hx
  exact⟨x,by simp[this],hrx⟩
 .simp only[Uk,if_true,Oi]at hv|-;subst hv;refine⟨.agg ((⟨RF⟩:Array Value).extract off (off+P.cellsOf t)),by simp[cu h],?_⟩;simp only[E'];refine⟨(RF.drop off).take (P.cellsOf t),?_,(hr.drop off).take _,λu hu=>h1 u (List.mem_of_mem_drop (List.mem_of_mem_take hu))⟩;have e:(⟨RF⟩:Array Value)=RF.toArray:=rfl;rw[e,List.extract_toArray];simp
def iM{t:TypeId}(h:bU P t=true){vs:List V}{b off:Nat}(hr:aU I ow w vs b off){v:V}
 (hv:(if fm P t then(if vs.length=P.cellsOf t then some (V.agg vs)else none)else vs[0]?)=some v):
 ∃x,(loadVar t ⟨b,off,none⟩).run P w=.ok x w/\E' I ow w v x:=by
 unfold loadVar;simp only[Sem.run_bind,pz (dO h).1,Result.andThen_ok];cases Uk:fm P t
 .simp only[Uk,Bool.false_eq_true,if_false]at hv|-;obtain⟨x,hx,h1,h2⟩:=hr.get hv;exact⟨x,by simp[show w.cell? ⟨b,off,none⟩=some x by simpa using hx],h1⟩
 .simp only[Uk,if_true]at hv|-;split at hv
  .rename_i hl;simp only[Oi]at hv;subst hv;obtain⟨xs,h1,h2,h3⟩:=hr.BO;have hlen:xs.length=P.cellsOf t:=by rw[h1.length,hl]
   refine⟨.agg xs.toArray,?_,by simp only[E'];exact⟨xs,rfl,h1,h2⟩⟩;simp only[Sem.run_bind,cu h,Result.andThen_ok];rw[<-hlen,run_loadCells_list (P:=P) w ⟨b,off,none⟩ xs (λj u hu=>by rw[gg];exact h3 j u hu)];simp
  .cases hv
def Hh{op:BinOp}{t:TypeId}{x y v:V}{X Y:Value}{xo yo:Operand}(hx:E' I ow w x X)(hy:E' I ow w y Y)(hp:nF op x y)
 (hv:uA op x y=some v):∃z,(do eqGuard op t xo yo X Y;binOp op t X Y:Sem Value).run P w=.ok z w/\E' I ow w v z:=by
 unfold uA at hv;split at hv
 .rename_i k a k' b;split at hv
  .rename_i hk;subst hk;simp only[E']at hx hy;subst hx hy;simp only[nF]at hp;have hg:(eqGuard op t xo yo (.int k a) (.int k b)).run P w=.ok () w:=by
    unfold eqGuard;simp
   simp only[Sem.run_bind,hg,Result.andThen_ok];cases op<;>simp only[cU,reduceCtorEq]at hv<;>simp only[eJ]at hp<;>
    first
    |(split at hv
      .cases hv
      .rename_i hb;simp only[Oi]at hv;subst hv
       first
       |exact⟨_,by simp only[binOp,Op.shift,if_neg hb];rfl,by simp[E']⟩
       |simp_all [binOp,Op.intDiv,E',RM])
    |(simp only[Oi]at hv;subst hv;simp_all [binOp,Op.intArith,Op.intCmp,Op.intBits,E',RM,n9,IB])
  .cases hv
 .rename_i a b;simp only[E']at hx hy;subst hx hy;simp only[nF]at hp;have hg:(eqGuard op t xo yo (.string ⟨a.toArray⟩) (.string ⟨b.toArray⟩)).run P w=.ok () w:=by
   unfold eqGuard;simp
  simp only[Sem.run_bind,hg,Result.andThen_ok];have TF:∀l:List UInt8,(⟨l.toArray⟩:ByteArray).size=l.length:=λl=>by simp[ByteArray.size]
  have hl:∀l:List UInt8,(⟨l.toArray⟩:ByteArray).toList=l:=λl=>by rw[ByteArray.toList_eq]
  cases op<;>simp only[eo,reduceCtorEq]at hv<;>simp only[eN]at hp<;>simp only[Oi]at hv<;>subst hv
  .refine⟨.string (⟨a.toArray⟩++⟨b.toArray⟩),?_,?_⟩
   .simp only[binOp,Op.stringOp,TF];rw[if_neg (by simp[IntKind.max,IntKind.signed,IntKind.bits];omega)];simp
   .simp only[E'];congr 1
  .exact⟨.bool (decide (a=b)),by simp[binOp,Op.stringOp,hl,n9],by simp[E']⟩
  .exact⟨.bool (decide (a≠b)),by simp[binOp,Op.stringOp,hl,n9],by simp[E']⟩
 .cases hv
def qm{s:TypeId}{fs:Array Field}{f:Nat}{fd:Field}(hs:P.underlying s=some (.struct fs))(hf:fs[f]?=some fd)(hk:bU P fd.type=true)
 (b o:Nat):(Instr.fieldAt s (.pointer (some ⟨b,o,none⟩)) f).run P w=.ok (.pointer (some ⟨b,o+fd.offset,none⟩)) w:=by
 have R6:P.cellsOf fd.type≠0:=Nat.pos_iff_ne_zero.1 (dO hk).2.2;simp[Instr.fieldAt,run_underlying hs,hf,Instr.sureAddr,fieldPlace,cu hk,R6,gg]
def DE{s:TypeId}{fs:Array Field}{f:Nat}{fd:Field}(hs:P.underlying s=some (.struct fs))(hf:fs[f]?=some fd)(hk:bU P fd.type=true)
 {x v:V}{X:Value}(hx:E' I ow w x X)(hv:gx (fm P fd.type) fd.offset (P.cellsOf fd.type) x=some v):
 ∃z,(Instr.fieldAt s X f).run P w=.ok z w/\E' I ow w v z:=by
 unfold gx at hv;split at hv
 .rename_i id i k;simp only[Oi]at hv;subst hv;simp only[E']at hx;split at hx
  .rename_i b sz cap M';obtain⟨rfl,TF⟩:=hx;exact⟨_,qm hs hf hk b _,by simp only[E',M'];simp[Nat.add_assoc,TF]⟩
  .exact hx.elim
 .rename_i u;simp only[E']at hx;obtain⟨b,off,rfl,H',hb,hr⟩:=hx;rw[ed]at hr;refine⟨_,qm hs hf hk b off,?_⟩;cases G':bI (fm P fd.type) fd.offset (P.cellsOf fd.type) u.cells with
  |none=>simp[G']at hv
  |some y=>
   simp only[G',Option.map_some,Oi]at hv;subst hv;simp only[E'];have UQ:y.cells=[]\/¬ow b:=hb.imp (λhu=>by
    rw[hu]at G';unfold bI at G';split at G'
    .simp only[List.drop_nil,List.take_nil,Oi]at G';rw[<-G'];rfl
    .simp at G') id
   refine⟨b,off+fd.offset,rfl,H',UQ,?_⟩;rw[ed];unfold bI at G';split at G'
   .simp only[Oi]at G';subst G';simp only[V.cells];exact(hr.drop _).take _
   .obtain⟨z,h1,h2,h3⟩:=hr.get G';have hy:y.cells=[y]:=by
     cases y<;>simp only[V.cells];simp only[E']at h2;obtain⟨RF,rfl,_⟩:=h2;simp[Value.oneCell']at h3
    rw[hy];simp only[aU,and_true];exact⟨z,h1,h2,h3⟩
 .cases hv
def pQ{y:V}{z:Value}(h2:E' I ow w y z)(h3:z.oneCell'=true):y.cells=[y]:=by
 cases y<;>simp only[V.cells];simp only[E']at h2;obtain⟨RF,rfl,_⟩:=h2;simp[Value.oneCell']at h3
def BA{u y:V}{agg:Bool}{o sz b off:Nat}(H':b<w.heap.size)(hb:u.cells=[]\/¬ow b)(hr:aU I ow w u.cells b off)(G':bI agg o sz u.cells=some y):
 E' I ow w (.rp y) (.pointer (some ⟨b,off+o,none⟩)):=by
 simp only[E'];have UQ:y.cells=[]\/¬ow b:=hb.imp (λhu=>by
  rw[hu]at G';unfold bI at G';split at G'
  .simp only[List.drop_nil,List.take_nil,Oi]at G';rw[<-G'];rfl
  .simp at G') id
 refine⟨b,off+o,rfl,H',UQ,?_⟩;rw[ed];unfold bI at G';split at G'
 .simp only[Oi]at G';subst G';simp only[V.cells];exact(hr.drop _).take _
 .obtain⟨z,h1,h2,h3⟩:=hr.get G';rw[pQ h2 h3];simp only[aU,and_true];exact⟨z,h1,h2,h3⟩
def CZ{w0:World}{Su:Nat->Prop}{U:ai}(TT:Sat w0 Su I U w){t e:TypeId}(ht:P.underlying t=some (.slice e))(hk:bU P e=true)
 {x y v:V}{X Y:Value}(hx:E' I (aG I U) w x X)(hy:E' I (aG I U) w y Y)(hv:bQ U (P.cellsOf e) x y=some v):
 ∃z,(Instr.indexAt t X Y).run P w=.ok z w/\E' I (aG I U) w v z:=by
 unfold bQ at hv;split at hv
 .rename_i id off len k j;split at hv
  .rename_i ob Sw;split at hv
   .rename_i hc;obtain⟨TF,h0,h1⟩:=hc;simp only[Oi]at hv;subst hv;simp only[E']at hx hy;subst hy;have Te:=TT.obj id ob Sw;split at hx
    .exact hx.elim
    .obtain⟨rfl,rfl,rfl⟩:=hx;exfalso;simp at h1;omega
    .rename_i b sz cap M';obtain⟨o,c,rfl,YQ,hc2,Ue,hz⟩:=hx;rw[M']at Te;obtain⟨cur,_,hsz2,_⟩:=Te.plain hz;have ho:o=off*sz:=by
      rcases Ue with Ue|Ue
      .exact Ue
      .omega
     subst ho;refine⟨.pointer (some ⟨b,off*sz+j.toNat*P.cellsOf e,none⟩),?_,?_⟩
     .simp[Instr.indexAt,asIntOf,run_underlying ht,h0,h1,cu hk,gg]
     .simp only[E',M'];rw[<-TF,hsz2,Nat.add_mul];simp[hz]
   .cases hv
  .cases hv
 .rename_i sz rows k j;split at hv
  .rename_i h0;obtain⟨rfl,h0⟩:=h0;split at hv
   .rename_i r hr;simp only[Oi]at hv;subst hv;simp only[E']at hx hy;subst hy;obtain⟨a,cap,rfl,Yk,U'⟩:=hx;have H':j.toNat<rows.length:=by
     have:=List.getElem?_eq_some_iff.1 hr;exact this.1
    rcases U' with rfl|⟨b,off,rfl,hb,TF,Se⟩
    .simp at H'
    .obtain⟨h1,h2⟩:=Se.get hr;refine⟨.pointer (some ⟨b,off+j.toNat*P.cellsOf e,none⟩),?_,?_⟩
     .have:j<(rows.length:Int):=by omega
      simp[Instr.indexAt,asIntOf,run_underlying ht,h0,this,cu hk,gg]
     .simp only[E'];refine⟨b,_,rfl,?_,.inr hb,(ed ..).2 h2⟩;cases hc:r.cells with
      |nil=>rw[hc]at h1;simp at h1;omega
      |cons c cs=>
       rw[hc]at h2;simp only[aU]at h2;obtain⟨⟨y,hy,_⟩,_⟩:=h2;exact World.block_lt_of_cell? w _ hy
   .cases hv
  .cases hv
 .cases hv
def AQ{t e:TypeId}{n:Nat}(ht:P.underlying t=some (.array n e))(hk:bU P e=true)
 {x y v:V}{X Y:Value}(hx:E' I ow w x X)(hy:E' I ow w y Y)(hv:dP (fm P e) n (P.cellsOf e) x y=some v):
 ∃z,(Instr.indexAt t X Y).run P w=.ok z w/\E' I ow w v z:=by
 unfold dP at hv;split at hv
 .rename_i id i k kk j;split at hv
  .rename_i hc;simp only[Oi]at hv;subst hv;simp only[E']at hx hy;subst hy;split at hx
   .rename_i b sz cap M';obtain⟨rfl,TF⟩:=hx;refine⟨.pointer (some ⟨b,i*sz+k+j.toNat*P.cellsOf e,none⟩),?_,by simp only[E',M'];simp[Nat.add_assoc,TF]⟩;simp[Instr.indexAt,asIntOf,run_underlying ht,hc,cu hk,gg,Instr.sureAddr]
   .exact hx.elim
  .cases hv
 .rename_i u kk j;split at hv
  .rename_i hc;simp only[E']at hx hy;subst hy;obtain⟨b,off,rfl,H',hb,hr⟩:=hx;rw[ed]at hr;cases G':bI (fm P e) (j.toNat*P.cellsOf e) (P.cellsOf e) u.cells with
   |none=>simp[G']at hv
   |some y=>
    simp only[G',Option.map_some,Oi]at hv;subst hv;refine⟨_,?_,BA H' hb hr G'⟩;simp[Instr.indexAt,asIntOf,run_underlying ht,hc,cu hk,gg,Instr.sureAddr]
  .cases hv
 .cases hv
def Dq{t e:TypeId}{n:Nat}(ht:P.underlying t=some (.array n e))(hk:bU P e=true)
 {x y v:V}{X Y:Value}(hx:E' I ow w x X)(hy:E' I ow w y Y)(hv:fH (fm P e) n (P.cellsOf e) x y=some v):
 ∃z,(Instr.index t X Y).run P w=.ok z w/\E' I ow w v z:=by
 unfold fH at hv;split at hv
 .rename_i vs kk j;split at hv
  .rename_i hc;simp only[E']at hx hy;subst hy;obtain⟨RF,rfl,hr,h1⟩:=hx;obtain⟨z,hz,Yl⟩:=Ab (w:=w) hk hr h1 hv;exact⟨z,by simp[Instr.index,asIntOf,run_underlying ht,hc,cu hk,hz],Yl⟩
  .cases hv
 .cases hv
def DA{t:TypeId}(ht:P.underlying t=some .string)
 {x y v:V}{X Y:Value}(hx:E' I ow w x X)(hy:E' I ow w y Y)(hv:fq x y=some v):
 ∃z,(Instr.index t X Y).run P w=.ok z w/\E' I ow w v z:=by
 unfold fq at hv;split at hv
 .rename_i s k j;split at hv
  .rename_i h0;split at hv
   .rename_i b hb;simp only[Oi]at hv;subst hv;simp only[E']at hx hy;subst hx hy;have e:(⟨s.toArray⟩:ByteArray)[j.toNat]?=some b:=by
     have:=List.getElem?_eq_some_iff.1 hb;obtain⟨h1,h2⟩:=this;rw[getElem?_pos (h:=by simpa[ByteArray.size]using h1)];simp[<-h2,ByteArray.getElem_eq_getElem_data]
    exact⟨.int .u8 b.toNat,by simp[Instr.index,asIntOf,run_underlying ht,h0,e],by simp[E']⟩
   .cases hv
  .cases hv
 .cases hv
variable {P:Program} {I:Mu} {ow:Nat->Prop} {w:World}
def u6{w0:World}{Su:Nat->Prop}{U:ai}(TT:Sat w0 Su I U w){t:TypeId}(hk:bU P t=true)
 {x v:V}{X:Value}(hx:E' I (aG I U) w x X)(hv:bT U (fm P t) (P.cellsOf t) x=some v):
 ∃z,(Instr.loadAt t X).run P w=.ok z w/\E' I (aG I U) w v z:=by
 unfold bT at hv;split at hv
 .rename_i id i k;split at hv
  .rename_i ob Sw;split at hv
   .rename_i r hr;have Te:=TT.obj id ob Sw;simp only[E']at hx;split at hx
    .rename_i b sz cap M';obtain⟨rfl,TF⟩:=hx;rw[M']at Te;obtain⟨_,_,_,_,Se⟩:=Te.rows TF;obtain⟨hl,VY⟩:=Se.get hr;simp only[Nat.zero_add]at VY;have hd:=VY.drop k;cases Uk:fm P t
     .simp only[Uk,Bool.false_eq_true,if_false]at hv;obtain⟨z,hz,Yl⟩:=iM (P:=P) hk hd (v:=v) (by simp only[Uk,Bool.false_eq_true,if_false];simpa using hv);exact⟨z,by simp[Instr.loadAt,Instr.sureAddr,hz],Yl⟩
     .simp only[Uk,if_true]at hv;split at hv
      .rename_i hc;obtain⟨rfl,hlen⟩:=hc;simp only[Oi]at hv;subst hv;obtain⟨z,hz,Yl⟩:=iM (P:=P) hk hd (v:=.agg r.cells) (by simp[Uk,hlen]);exact⟨z,by simpa[Instr.loadAt,Instr.sureAddr]using hz,Yl⟩
      .split at hv
       .rename_i hle;simp only[Oi]at hv;subst hv;obtain⟨z,hz,Yl⟩:=iM (P:=P) hk (hd.take (P.cellsOf t)) (v:=.agg ((r.cells.drop k).take (P.cellsOf t)))
         (by rw[if_pos Uk,if_pos (by simp;omega)])
        exact⟨z,by simp[Instr.loadAt,Instr.sureAddr,hz],Yl⟩
       .cases hv
    .exact hx.elim
   .cases hv
  .cases hv
 .rename_i u;simp only[E']at hx;obtain⟨b,off,rfl,H',hb,hr⟩:=hx;rw[ed]at hr;cases Uk:fm P t
  .simp only[Uk,Bool.false_eq_true,if_false]at hv;have Vy:u=v/\u.cells=[u]:=by
    cases u<;>simp_all [V.cells]
   obtain⟨rfl,hc⟩:=Vy;rw[hc]at hr;obtain⟨z,hz,Yl⟩:=iM (P:=P) hk hr (v:=u) (by simp[Uk]);exact⟨z,by simp[Instr.loadAt,Instr.sureAddr,hz],Yl⟩
  .simp only[Uk,if_true]at hv;split at hv
   .rename_i hl;simp only[Oi]at hv;subst hv;obtain⟨z,hz,Yl⟩:=iM (P:=P) hk hr (v:=.agg u.cells) (by simp[Uk,hl]);exact⟨z,by simp[Instr.loadAt,Instr.sureAddr,hz],Yl⟩
   .cases hv
 .cases hv
def mz{d:Int}{o:Option V}{O:Option Value}(ho:match o,O with|none,none=>True|some v,some x=>E' I ow w v x|_,_=>False){j:Int}
 (hj:bF d o=some j):(o=none/\O=none/\j=d)\/∃k,o=some (.int k j)/\O=some (.int k j):=by
 unfold bF at hj;split at hj
 .simp only[Oi]at hj;cases O with
  |none=>exact .inl ⟨rfl,rfl,hj.symm⟩
  |some x=>exact ho.elim
 .rename_i k j';simp only[Oi]at hj;subst hj;cases O with
  |none=>exact ho.elim
  |some x=>
   simp only[E']at ho;subst ho;exact .inr ⟨k,rfl,rfl⟩
 .cases hj
def iT(I:Mu)(ow:Nat->Prop)(w:World)(o:Option V)(O:Option Value):Prop:=
 match o,O with|none,none=>True|some v,some x=>E' I ow w v x|_,_=>False
def dz(k:IntKind)(i:Int)(y:Nat)(code:BoundsCode)(h0:0<=i)(h1:i<=y):
 (Instr.sliceBound (.int k i) y code).run P w=.ok i.toNat w:=by
 simp[Instr.sliceBound,asIntOf,h0,h1]
def fo{n c:Nat}{lo hi mx:Option V}{LO HI MX:Option Value}(h1:iT I ow w lo LO)(h2:iT I ow w hi HI)(h3:iT I ow w mx MX)
 {l h m:Int}(hl:bF 0 lo=some l)(hh:bF n hi=some h)(hm:bF n mx=some m)(h0:0<=l)(h01:l<=h)(h12:h<=m)(h23:m<=n)(hnc:n<=c)
 (hmh:mx≠none->hi≠none)(s:Bool):
 ∃m',(Instr.sliceBounds s n c LO HI MX).run P w=.ok (l.toNat,h.toNat,m') w/\h.toNat<=m'/\m'<=c:=by
 rcases mz h3 hm with⟨_,rfl,rfl⟩|⟨km,rfl,rfl⟩
 .refine⟨c,?_,by omega,Nat.le_refl _⟩;rcases mz h2 hh with⟨_,rfl,rfl⟩|⟨kh,_,rfl⟩<;>rcases mz h1 hl with⟨_,rfl,rfl⟩|⟨kl,_,rfl⟩<;>
   simp only[Instr.sliceBounds,Sem.run_bind,Sem.run_pure,Result.andThen_ok]
  .simp
  .rw[dz kl l n _ h0 (by omega)];simp
  .rw[dz kh h c _ (by omega) (by omega)];simp
  .rw[dz kh h c _ (by omega) (by omega)];simp only[Result.andThen_ok];rw[dz kl l h.toNat _ h0 (by omega)];simp
 .refine⟨m.toNat,?_,by omega,by omega⟩;rcases mz h2 hh with⟨rfl,rfl,rfl⟩|⟨kh,_,rfl⟩
  .exact absurd rfl (hmh (by simp))
  .rcases mz h1 hl with⟨_,rfl,rfl⟩|⟨kl,_,rfl⟩<;>
    simp only[Instr.sliceBounds,Sem.run_bind,Sem.run_pure,Result.andThen_ok]
   .rw[dz km m c _ (by omega) (by omega)];simp only[Result.andThen_ok];rw[dz kh h m.toNat _ (by omega) (by omega)];simp
   .rw[dz km m c _ (by omega) (by omega)];simp only[Result.andThen_ok];rw[dz kh h m.toNat _ (by omega) (by omega)];simp only[Result.andThen_ok];rw[dz kl l h.toNat _ h0 (by omega)];simp
def tu{w0:World}{Su:Nat->Prop}{U:ai}(TT:Sat w0 Su I U w){t e:TypeId}(ht:P.underlying t=some (.slice e))(hk:bU P e=true)
 {x v:V}{X:Value}(hx:E' I ow w x X){lo hi mx:Option V}{LO HI MX:Option Value}(h1:iT I ow w lo LO)(h2:iT I ow w hi HI)(h3:iT I ow w mx MX)
 (hmh:mx≠none->hi≠none)(hv:cL U (P.cellsOf e) x lo hi mx=some v):
 ∃z,(Instr.sliceAt t X LO HI MX).run P w=.ok z w/\E' I ow w v z:=by
 have TG:∀(a:Option Addr) (n c:Nat) (r:Nat×Nat×Nat),(Instr.sliceBounds true n c LO HI MX).run P w=.ok r w->
  (Instr.sliceAt t (.slice a n c) LO HI MX).run P w=.ok (.slice (if r.2.2=r.1 then a else a.map (·.add (r.1*P.cellsOf e))) (r.2.1-r.1) (r.2.2-r.1)) w:=by
  intro a n c r hr;simp[Instr.sliceAt,Instr.slice,run_underlying ht,hr,cu hk]
 cases x with
 |own id off len=>
  simp only[cL]at hv;split at hv
  .rename_i l h m hl hh hm;split at hv
   .rename_i hc;obtain⟨c0,c1,c2,c3,c4⟩:=hc;simp only[Oi]at hv;subst hv;simp only[E']at hx;split at hx
    .exact hx.elim
    .rename_i M';obtain⟨rfl,rfl,rfl⟩:=hx;obtain⟨m',hr,hm1,hm2⟩:=fo (P:=P) (c:=0) h1 h2 h3 hl hh hm c0 c1 c2 c3 (Nat.le_refl _) hmh true;refine⟨_,TG none 0 0 _ hr,?_⟩;simp only[E',M'];have:h.toNat=0:=by omega
     have:l.toNat=0:=by omega
     simp_all;omega
    .rename_i b sz cap M';obtain⟨o,c,rfl,YQ,hc2,Ue,hz⟩:=hx;obtain⟨m',hr,hm1,hm2⟩:=fo (P:=P) (c:=c) h1 h2 h3 hl hh hm c0 c1 c2 c3 YQ hmh true;refine⟨_,TG _ len c _ hr,?_⟩;have hsz':sz=P.cellsOf e:=by
      cases Sw:U id with
      |none=>simp[iP,Sw]at c4
      |some ob=>
       simp only[iP,Sw,beq_iff_eq]at c4;have:=TT.obj id ob Sw;rw[M']at this;exact(this.rows hz).1.symm.trans c4
     simp only[E',M'];by_cases e':m'=l.toNat
     .rw[if_pos e'];refine⟨o,m'-l.toNat,rfl,by omega,by omega,?_,hz⟩;by_cases h0:off+l.toNat=0
      .left;have h1:off=0:=by omega
       rcases Ue with Ue|Ue
       .rw[h0,Ue,h1]
       .exact absurd h1 Ue.2
      .exact .inr ⟨by omega,h0⟩
     .rw[if_neg e'];simp only[Option.map_some,gg];refine⟨o+l.toNat*P.cellsOf e,m'-l.toNat,rfl,by omega,by omega,.inl ?_,hz⟩;rcases Ue with Ue|Ue
      .rw[Ue,hsz',Nat.add_mul]
      .omega
   .cases hv
  .cases hv
 |sl sz rows=>
  simp only[cL]at hv;split at hv
  .rename_i l h m hl hh hm;split at hv
   .rename_i hc;obtain⟨c0,c1,c2,c3,rfl⟩:=hc;simp only[Oi]at hv;subst hv;simp only[E']at hx;obtain⟨a,cap,rfl,Yk,U'⟩:=hx;obtain⟨m',hr,hm1,hm2⟩:=fo (P:=P) (c:=cap) h1 h2 h3 hl hh hm c0 c1 c2 c3 Yk hmh true;refine⟨_,TG _ _ cap _ hr,?_⟩;simp only[E'];have hlen:((rows.drop l.toNat).take (h.toNat-l.toNat)).length=h.toNat-l.toNat:=by simp;omega
    refine⟨_,_,by rw[hlen],by omega,?_⟩;by_cases e':m'=l.toNat
    .left;have:h.toNat-l.toNat=0:=by omega
     rw[this];simp
    .rw[if_neg e'];rcases U' with rfl|⟨b,off,rfl,hb,hs,Se⟩
     .left;simp
     .exact .inr ⟨b,off+l.toNat*P.cellsOf e,by simp[gg],hb,hs,(Se.drop _).take _⟩
   .cases hv
  .cases hv
 |aC=>
  simp only[cL]at hv;split at hv
  .rename_i l h m hl hh hm;split at hv
   .rename_i hc;obtain⟨rfl,rfl,rfl⟩:=hc;simp only[Oi]at hv;subst hv;simp only[E']at hx;subst hx;obtain⟨m',hr,hm1,hm2⟩:=fo (P:=P) (n:=0) (c:=0) h1 h2 h3 hl hh hm (by omega) (by omega) (by omega) (by simp) (Nat.le_refl _) hmh true;refine⟨_,TG none 0 0 _ hr,?_⟩;simp[E'];omega
   .cases hv
  .cases hv
 |_=>simp[cL]at hv
def tQ{t:TypeId}(ht:P.underlying t=some .string){x v:V}{X:Value}(hx:E' I ow w x X){lo hi:Option V}{LO HI:Option Value}(h1:iT I ow w lo LO)(h2:iT I ow w hi HI)
 (hv:cP x lo hi=some v):
 ∃z,(Instr.sliceAt t X LO HI none).run P w=.ok z w/\E' I ow w v z:=by
 unfold cP at hv;split at hv
 case h_2=>cases hv
 rename_i s;split at hv
 .rename_i l h hl hh;split at hv
  .rename_i hc;obtain⟨c0,c1,c2⟩:=hc;simp only[Oi]at hv;subst hv;simp only[E']at hx;subst hx;have TF:(⟨s.toArray⟩:ByteArray).size=s.length:=by simp[ByteArray.size]
   obtain⟨m',hr,hm1,hm2⟩:=fo (P:=P) (w:=w) (n:=s.length) (c:=s.length) (mx:=none) (MX:=none) h1 h2 (by simp[iT]) hl hh (m:=s.length) (by simp[bF]) c0 c1 c2 (Int.le_refl _) (Nat.le_refl _) (by simp) false;refine⟨.string ((⟨s.toArray⟩:ByteArray).extract l.toNat h.toNat),?_,?_⟩
   .simp[Instr.sliceAt,Instr.slice,run_underlying ht,TF,hr]
   .simp only[E'];congr 1;apply ByteArray.ext;simp[ByteArray.data_extract]
  .cases hv
 .cases hv
def cM{F:Fr}{st:St}{a:Act}(hs:dq F I st a w)(x:Operand):E' I (aG I st.U) w ((cx F.n x).ev st.s) (a.eval x):=by
 cases x with
 |tmp t=>
  by_cases ht:t<F.n
  .simp only[cx,Act.eval,if_pos ht];exact hs.slot t ht
  .have hle:a.tmps.size<=t:=by rw[hs.size];exact Nat.le_of_not_lt ht
   simp only[cx,Act.eval,if_neg ht,VX.ev,E'];exact⟨[],by rw[Array.getD_eq_getD_getElem?,Array.getElem?_eq_none hle];rfl,by simp[aA]⟩
 |const v=>exact qO v
 |global g=>simp[cx,VX.ev,Act.eval,E']
 |func f=>simp[cx,VX.ev,Act.eval,E',aA]
def mJ{F:Fr}{st:St}{a:Act}(hs:dq F I st a w):∀(l:List Operand),aA I (aG I st.U) w ((l.map (cx F.n)).map (·.ev st.s)) (l.map a.eval)
 |[]=>by simp[aA]
 |x::l=>by simp only[List.map_cons,aA];exact⟨_,_,rfl,cM hs x,mJ hs l⟩
def tA{F:Fr}{st:St}{a:Act}(hs:dq F I st a w)(o:Option Operand):iT I (aG I st.U) w ((o.map (cx F.n)).map (·.ev st.s)) (o.map a.eval):=by
 cases o with
 |none=>simp[iT]
 |some x=>simpa[iT]using cM hs x
def aA.append:∀{vs us:List V} {l m:List Value},aA I ow w vs l->aA I ow w us m->aA I ow w (vs++us) (l++m)
 |[],us,l,m,h,h'=>by simp[aA]at h;subst h;simpa using h'
 |v::vs,us,l,m,h,h'=>by
  simp only[aA]at h;obtain⟨x,xs,rfl,h1,h2⟩:=h;simp only[List.cons_append,aA];exact⟨x,xs++m,rfl,h1,h2.append h'⟩
def E'.one{v:V}{x:Value}(h:E' I ow w v x)(hs:v.stays=true)(ha:∀vs,v≠.agg vs):x.oneCell'=true:=by
 cases v<;>simp only[E']at h<;>(try simp[V.stays]at hs)
 case agg vs=>exact absurd rfl (ha vs)
 case sl=>obtain⟨a,c,rfl,_⟩:=h;rfl
 case own=>
  split at h
  .exact h.elim
  .rw[h.1];rfl
  .obtain⟨o,c,rfl,_⟩:=h;rfl
 case ptr=>
  split at h
  .rw[h.1];rfl
  .exact h.elim
 case gp=>
  split at h
  .rw[h];rfl
  .exact h.elim
 case yl=>
  split at h
  .rw[h];rfl
  .exact h.elim
 case mp=>
  split at h
  .rw[h];rfl
  .exact h.elim
 case rp=>obtain⟨b,o,rfl,_⟩:=h;rfl
 case fn=>obtain⟨RF,rfl,_⟩:=h;rfl
 case bm=>obtain⟨RF,rfl,_⟩:=h;rfl
 case iface=>obtain⟨y,rfl,_⟩:=h;rfl
 all_goals first|(subst h;rfl)|(subst h;exact hs)
def E'.cells{v:V}{x:Value}(h:E' I ow w v x)(hs:v.stays=true):aA I ow w v.cells x.cells.toList/\∀u∈x.cells.toList,u.oneCell'=true:=by
 by_cases ha:∃vs,v=.agg vs
 .obtain⟨vs,rfl⟩:=ha;simp only[E']at h;obtain⟨RF,rfl,h1,h2⟩:=h;exact⟨by simpa[V.cells,Value.cells]using h1,by simpa[Value.cells]using h2⟩
 .have h1:=h.one hs (λvs e=>ha ⟨vs,e⟩);have hc:x.cells=#[x]:=by cases x<;>simp_all [Value.cells,Value.oneCell']
  have hv:v.cells=[v]:=pQ h h1;rw[hc,hv];simp only[aA];exact⟨⟨x,[],rfl,h,rfl⟩,by simpa using h1⟩
def E'.jd{v:V}{x:Value}(h:E' I ow w v x)(hs:v.stays=true):x.cells.size=v.cells.length:=by
 have:=(h.cells hs).1.length;simpa using this
def Aa(off:Nat):∀(vs:List Value) (k:Nat) (cs:Array Value),off+k+vs.length<=cs.size->
 ((vs.zipIdx k).foldl (λcs (p:Value×Nat)=>cs.setIfInBounds (off+p.2) p.1) cs).toList=cc cs.toList (off+k) vs
 |[],k,cs,_=>by simp[cc]
 |v::vs,k,cs,h=>by
  simp only[List.length_cons]at h;simp only[List.zipIdx_cons,List.foldl_cons];rw[Aa off vs (k+1) _ (by simp;omega)];have hk:off+k<cs.toList.length:=by simp;omega
  simp only[cc,Array.toList_setIfInBounds,List.length_cons];rw[List.set_eq_take_append_cons_drop,if_pos hk];have e1:(cs.toList.take (off+k)).length=off+k:=by simp;omega
  rw[show off+(k+1)=(cs.toList.take (off+k)).length+1 by omega,List.take_length_add_append,show(cs.toList.take (off+k)).length+1+vs.length=(cs.toList.take (off+k)).length+(1+vs.length) by omega,
   List.drop_length_add_append]
  simp[List.drop_drop,Nat.add_comm,Nat.add_left_comm,Nat.add_assoc]
def kg{α:Type}(l:List α)(off:Nat)(xs:List α)(h:off+xs.length<=l.length):(cc l off xs).length=l.length:=by
 simp[cc];omega
def mU(place:Nat->Option (Nat×Nat)):∀(parts:List (Nat×Value)) (cells:Array Value),
 (∀p∈parts,∃off sz,place p.1=some (off,sz)/\p.2.cells.size=sz/\off+sz<=cells.size)->
 ∃cs,Instr.fill place cells parts=some cs/\cs.size=cells.size/\cs.toList=parts.foldl (λl p=>cc l (((place p.1).map (·.1)).getD 0) p.2.cells.toList) cells.toList
 |[],cells,_=>⟨cells,rfl,rfl,rfl⟩
 |(i,v)::rest,cells,h=>by
  obtain⟨off,sz,h1,h2,h3⟩:=h (i,v) (by simp);simp only at h1 h2;have hs:(v.cells.zipIdx.foldl (λcs (p:Value×Nat)=>cs.setIfInBounds (off+p.2) p.1) cells).toList=cc cells.toList off v.cells.toList:=by
   have:=Aa off v.cells.toList 0 cells (by simp;omega);rw[<-Array.foldl_toList,Array.toList_zipIdx];simpa using this
  have TF:(v.cells.zipIdx.foldl (λcs (p:Value×Nat)=>cs.setIfInBounds (off+p.2) p.1) cells).size=cells.size:=by
   have:=congrArg List.length hs;rw[kg _ _ _ (by simp;omega)]at this;simpa using this
  obtain⟨cs,h4,h5,h6⟩:=mU place rest _ (λp hp=>by
   obtain⟨VZ,UC,g1,g2,g3⟩:=h p (by simp[hp]);exact⟨VZ,UC,g1,g2,by rw[TF];exact g3⟩)
  refine⟨cs,?_,by rw[h5,TF],?_⟩
  .simp only[Instr.fill,h1];rw[if_neg (by simp;omega)];exact h4
  .rw[h6,hs];simp[h1]
def zR{b:Bool}{x v:V}{X:Value}(hx:E' I ow w x X)(hv:dy b x=some v){t:TypeId}(ty:TypeId)
 (ht:if b then P.underlying t=some .string else∃e,P.underlying t=some (.slice e)):
 ∃z,(Builtin.len_ #[t] ty #[X]).run P w=.ok z w/\E' I ow w v z:=by
 cases b
 .simp only[Bool.false_eq_true,if_false]at ht;obtain⟨e,ht⟩:=ht;have TG:∀a n c,(Builtin.len_ #[t] ty #[.slice a n c]).run P w=.ok (.int .i64 n) w:=λa n c=>by simp[Builtin.len_,run_underlying ht,goInt]
  cases x<;>simp only[dy,reduceCtorEq,Oi]at hv<;>subst hv<;>simp only[E']at hx
  .subst hx;exact⟨_,TG _ _ _,by simp[E']⟩
  .obtain⟨a,cap,rfl,_⟩:=hx;exact⟨_,TG _ _ _,by simp[E']⟩
  .split at hx
   .exact hx.elim
   .obtain⟨rfl,_,rfl⟩:=hx;exact⟨_,TG _ _ _,by simp[E']⟩
   .obtain⟨o,c,rfl,_⟩:=hx;exact⟨_,TG _ _ _,by simp[E']⟩
 .simp only[if_true]at ht;cases x<;>simp only[dy,reduceCtorEq,Oi]at hv;subst hv;simp only[E']at hx;subst hx;exact⟨_,by simp[Builtin.len_,run_underlying ht,goInt];rfl,by simp[E',ByteArray.size]⟩
def eL{t:TypeId}{i:TypeInfo}{z:Value}(h:zeroOf P t=some (i,z)):P.info? t=some i/\i.zero=some z/\bU P t=true/\z.cells.size=i.size/\
 (∀u∈z.cells.toList,u.oneCell'=true)/\i.size=P.cellsOf t:=by
 unfold zeroOf at h;split at h
 .rename_i i' hi;split at h
  .rename_i z' hz;split at h
   .rename_i hc;simp only[Oi,Prod.mk.injEq]at h;obtain⟨rfl,rfl⟩:=h;simp only[Ba,beq_iff_eq,List.all_eq_true]at hc;exact⟨hi,hz,hc.1.1,hc.1.2,hc.2,by simp[Program.cellsOf,hi]⟩
   .cases h
  .cases h
 .cases h
def eK{t:TypeId}{i:TypeInfo}{z:Value}(h:zeroOf P t=some (i,z)):(zeroValue t).run P w=.ok z w:=by
 obtain⟨h1,h2,_⟩:=eL h;simp[zeroValue,typeInfo,h1,h2]
def mS{t:TypeId}(h:nr P t=true):∃i,P.underlying t=some (.struct #[])/\P.info? t=some i/\i.size=0/\i.zero=some (.agg #[]):=by
 unfold nr at h;split at h
 .rename_i fs i h1 h2;simp only[Ba,beq_iff_eq]at h;obtain⟨h3,h4,h5⟩:=h;split at h5
  .rename_i z hz;have e1:fs=#[]:=Array.eq_empty_of_size_eq_zero h3;have e2:z=#[]:=Array.eq_empty_of_size_eq_zero (by simpa using h5);exact⟨i,by rw[h1,e1],h2,h4,by rw[hz,e2]⟩
  .cases h5
 .cases h
def pF{t:TypeId}(h:nr P t=true):(zeroValue t).run P w=.ok (.agg #[]) w:=by
 obtain⟨i,_,h1,_,h2⟩:=mS h;simp[zeroValue,typeInfo,h1,h2]
def Bn{t:TypeId}(h:nr P t=true):(Instr.build t #[]).run P w=.ok (.agg #[]) w:=by
 obtain⟨i,h0,h1,_,h2⟩:=mS h;simp[Instr.build,pF h,run_underlying h0,Value.cells,Instr.fill]
def aA.cc{vs us:List V}{l m:List Value}(off:Nat)(h:aA I ow w vs l)(h':aA I ow w us m):aA I ow w (cc vs off us) (Vc.cc l off m):=by
 unfold Vc.cc;rw[h'.length];exact((h.take off).append h').append (h.drop _)
def nO{α:Type}(off sz:α->Nat)(v:α->V)(x:α->Value):∀{l:List α} {zero cells:List V} {zs:List Value},
 dd zero (l.map λp=>(off p,sz p,v p))=some cells->aA I ow w zero zs->(∀p∈l,E' I ow w (v p) (x p))->
 aA I ow w cells (l.foldl (λacc p=>Vc.cc acc (off p) (x p).cells.toList) zs)/\
 ((∀u∈zs,u.oneCell'=true)->∀u∈l.foldl (λacc p=>Vc.cc acc (off p) (x p).cells.toList) zs,u.oneCell'=true)/\
 ∀p∈l,(x p).cells.size=sz p/\off p+sz p<=zero.length
 |[],zero,cells,zs,h,hz,hp=>by
  simp only[List.map_nil,dd,Oi]at h;subst h;simpa using hz
 |p::r,zero,cells,zs,h,hz,hp=>by
  simp only[List.map_cons,dd]at h;split at h
  .rename_i hc;have h1:=hp p (by simp);obtain⟨g1,g2⟩:=h1.cells hc.2.1;have hl:=h1.jd hc.2.1;obtain⟨ih1,ih2,ih3⟩:=nO off sz v x h (hz.cc (off p) g1) (λq hq=>hp q (by simp[hq]));refine⟨by simpa using ih1,λh0=>?_,λq hq=>?_⟩
   .refine ih2 ?_;intro u hu;simp only[Vc.cc,List.mem_append]at hu;rcases hu with(hu|hu)|hu
    .exact h0 u (List.mem_of_mem_take hu)
    .exact g2 u hu
    .exact h0 u (List.mem_of_mem_drop hu)
   .rcases List.mem_cons.1 hq with rfl|hq
    .exact⟨by rw[hl,hc.1],hc.2.2⟩
    .have:=ih3 q hq;rw[kg _ _ _ (by omega)]at this;exact this
  .cases h
def run_places(fs:Array Field)(h:∀f∈fs.toList,bU P f.type=true):
 (fs.mapM (λf=>Functor.map (Prod.mk f.offset) (sizeOf f.type):Field->Sem (Nat×Nat))).run P w=.ok (fs.map λf=>(f.offset,P.cellsOf f.type)) w:=by
 rw[Array.mapM_eq_mapM_toList];have:∀(l:List Field),(∀f∈l,bU P f.type=true)->
  (l.mapM (λf=>Functor.map (Prod.mk f.offset) (sizeOf f.type):Field->Sem (Nat×Nat))).run P w=.ok (l.map λf=>(f.offset,P.cellsOf f.type)) w:=by
  intro l
  induction l with
  |nil=>intro _;simp
  |cons f l ih=>
   intro hl;simp[cu (hl f (by simp)),ih (λx hx=>hl x (by simp[hx]))]
 simp[this fs.toList (by simpa using h)];apply Array.ext';simp
def run_build{F:Fr}{st:St}{a:Act}(hs:dq F I st a w){t:TypeId}{i:TypeInfo}{z:Array Value}{fs:Array Field}(hz:zeroOf P t=some (i,.agg z))
 (TH:P.underlying t=some (.struct fs)){parts:Array (Nat×Operand)}(hk:(∀f∈fs.toList,bU P f.type=true)/\∀p∈parts.toList,p.1<fs.size){cells:List V}
 (hb:dd (z.toList.map cellOf) ((parts.toList.map λp=>(((fs[p.1]?).map (·.offset)).getD 0,((fs[p.1]?).map λf=>P.cellsOf f.type).getD 0,cx F.n p.2)).map λp=>(p.1,p.2.1,p.2.2.ev st.s))=some cells):
 ∃y,(Instr.build t (parts.map λ(i,x)=>(i,a.eval x))).run P w=.ok y w/\E' I (aG I st.U) w (.agg cells) y:=by
 obtain⟨_,_,_,_,SZ,_⟩:=eL hz;rw[List.map_map]at hb;obtain⟨g1,g2,g3⟩:=nO (I:=I) (ow:=aG I st.U) (w:=w) (λp:Nat×Operand=>((fs[p.1]?).map (·.offset)).getD 0) (λp=>((fs[p.1]?).map λf=>P.cellsOf f.type).getD 0)
  (λp=>(cx F.n p.2).ev st.s) (λp=>a.eval p.2) hb (eZ z.toList) (λp _=>cM hs p.2)
 obtain⟨cs,e1,e2,e3⟩:=mU (λk=>(fs.map λf=>(f.offset,P.cellsOf f.type))[k]?) ((parts.map λ(i,x)=>(i,a.eval x)).toList) z (by
  intro p hp;simp only[Array.toList_map,List.mem_map]at hp;obtain⟨q,hq,rfl⟩:=hp;have H':=hk.2 q hq;obtain⟨q1,q2⟩:=g3 q hq;have Ut:fs[q.1]?=some fs[q.1]:=by simp[H']
  simp only[Ut,Option.map_some,Option.getD_some]at q1 q2;exact⟨fs[q.1].offset,P.cellsOf fs[q.1].type,by simp[Ut],q1,by simpa using q2⟩)
 refine⟨.agg cs,?_,?_⟩
 .simp only[Array.toList_map,Array.getElem?_map]at e1;simp[Instr.build,eK hz,run_underlying TH,run_places fs (by simpa using hk.1),Value.cells];rw[e1];rfl
 .have Xu:cs.toList=parts.toList.foldl (λacc p=>Vc.cc acc (((fs[p.1]?).map (·.offset)).getD 0) (a.eval p.2).cells.toList) z.toList:=by
   rw[e3,Array.toList_map,List.foldl_map];congr 1;funext acc p;congr 1;cases hp:fs[p.1]?<;>simp[hp]
  simp only[E'];refine⟨cs.toList,rfl,?_,?_⟩
  .rw[Xu];exact g1
  .rw[Xu];exact g2 (by simpa[Value.cells]using SZ)
def AZ{F:Fr}{st:St}{a:Act}(hs:dq F I st a w){t e:TypeId}{k:Nat}{i:TypeInfo}{z:Array Value}(hz:zeroOf P t=some (i,.agg z))
 (TH:P.underlying t=some (.array k e)){parts:Array (Nat×Operand)}(hk:bU P e=true){cells:List V}
 (hb:dd (z.toList.map cellOf) ((parts.toList.map λp=>(p.1*P.cellsOf e,P.cellsOf e,cx F.n p.2)).map λp=>(p.1,p.2.1,p.2.2.ev st.s))=some cells):
 ∃y,(Instr.build t (parts.map λ(i,x)=>(i,a.eval x))).run P w=.ok y w/\E' I (aG I st.U) w (.agg cells) y:=by
 obtain⟨_,_,_,_,SZ,_⟩:=eL hz;rw[List.map_map]at hb;obtain⟨g1,g2,g3⟩:=nO (I:=I) (ow:=aG I st.U) (w:=w) (λp:Nat×Operand=>p.1*P.cellsOf e) (λ_=>P.cellsOf e)
  (λp=>(cx F.n p.2).ev st.s) (λp=>a.eval p.2) hb (eZ z.toList) (λp _=>cM hs p.2)
 obtain⟨cs,e1,e2,e3⟩:=mU (λi=>some (i*P.cellsOf e,P.cellsOf e)) ((parts.map λ(i,x)=>(i,a.eval x)).toList) z (by
  intro p hp;simp only[Array.toList_map,List.mem_map]at hp;obtain⟨q,hq,rfl⟩:=hp;obtain⟨q1,q2⟩:=g3 q hq;exact⟨q.1*P.cellsOf e,P.cellsOf e,rfl,q1,by simpa using q2⟩)
 refine⟨.agg cs,?_,?_⟩
 .simp only[Array.toList_map]at e1;simp[Instr.build,eK hz,run_underlying TH,cu hk,Value.cells];rw[e1];rfl
 .have Xu:cs.toList=parts.toList.foldl (λacc p=>Vc.cc acc (p.1*P.cellsOf e) (a.eval p.2).cells.toList) z.toList:=by
   rw[e3,Array.toList_map,List.foldl_map];rfl
  simp only[E'];refine⟨cs.toList,rfl,?_,?_⟩
  .rw[Xu];exact g1
  .rw[Xu];exact g2 (by simpa[Value.cells]using SZ)
def A5(msg:String)(vs:List V)(bs:List UInt8)(l:List Value)(hb:bytesOf vs=some bs)(hr:aA I ow w vs l)(s0:ByteArray):
 (forIn l s0 (λc s=>match c with
   |.int .u8 n=>pure (ForInStep.yield (s.push (UInt8.ofNat n.toNat)))
   |_=>(do stuck msg;pure (ForInStep.yield s))):Sem ByteArray).run P w=.ok ⟨s0.data++bs.toArray⟩ w:=by
 induction vs generalizing bs l s0 with
 |nil=>
  simp only[bytesOf,Oi]at hb;simp only[aA]at hr;subst hb hr;simp
 |cons v vs ih=>
  simp only[bytesOf]at hb;split at hb
  .rename_i b l' h1 h2;simp only[Oi]at hb;subst hb;simp only[aA]at hr;obtain⟨x,xs,rfl,h3,h4⟩:=hr;unfold byteOf at h1;split at h1
   .rename_i n;simp only[Oi]at h1;simp only[E']at h3;subst h3 h1;simp only[List.forIn_cons,Sem.run_bind,Sem.run_pure,Result.andThen_ok];rw[ih l' xs h2 h4];simp[ByteArray.push]
   .cases h1
  .cases hb
def ra:∀{rows:List V} {bs:List UInt8} {b off:Nat},aY I ow w rows b off 1->bytesOf rows=some bs->
 ∃xs,aA I ow w rows xs/\xs.length=rows.length/\∀(j:Nat) u,xs[j]?=some u->w.cell? ⟨b,off+j,none⟩=some u
 |[],_,_,_,_,_=>⟨[],by simp[aA],rfl,by simp⟩
 |v::vs,bs,b,off,h,hb=>by
  simp only[bytesOf]at hb;split at hb
  .rename_i c l h1 h2;simp only[aY]at h;obtain⟨_,h3,h4⟩:=h;have h5:∃x,w.cell? ⟨b,off,none⟩=some x/\E' I ow w v x:=by
    unfold byteOf at h1;split at h1
    .simp only[bD]at h3;obtain⟨x,g1,g2,_⟩:=h3;exact⟨x,g1,g2⟩
    .cases h1
   obtain⟨x,g1,g2⟩:=h5;obtain⟨xs,i1,i2,i3⟩:=ra h4 h2;refine⟨x::xs,by simp only[aA];exact⟨x,xs,rfl,g2,i1⟩,by simp[i2],λj u hu=>?_⟩;cases j with
   |zero=>simp at hu;subst hu;exact g1
   |succ j=>
    have:=i3 j u (by simpa using hu)
    rwa [show off+1+j=off+(j+1) by omega]at this
  .cases hb
def AP{w0:World}{Su:Nat->Prop}{U:ai}(TT:Sat w0 Su I U w){x v:V}{X:Value}(hx:E' I (aG I U) w x X)(hv:dp U x=some v):
 ∃z,(Conv.bytesToString X).run P w=.ok z w/\E' I (aG I U) w v z:=by
 unfold dp at hv;split at hv
 .simp only[E']at hx;simp only[Oi]at hv;subst hx hv;exact⟨_,rfl,by simp only[E'];rfl⟩
 .rename_i id off len;split at hv
  .rename_i ob Sw;split at hv
   .rename_i hc;simp only[Option.map_eq_some_iff]at hv;obtain⟨bs,hb,rfl⟩:=hv;have Te:=TT.obj id ob Sw;simp only[E']at hx;split at hx
    .exact hx.elim
    .obtain⟨rfl,_,rfl⟩:=hx;simp only[List.take_zero,bytesOf,Oi]at hb;subst hb;exact⟨_,rfl,by simp only[E'];rfl⟩
    .rename_i b Va cap M';obtain⟨o,c,rfl,YQ,hc2,Ue,hz⟩:=hx;rw[M']at Te;obtain⟨g1,g2,g3,g4,g5⟩:=Te.rows hz;by_cases h0:len=0
     .subst h0;simp only[List.take_zero,bytesOf,Oi]at hb;subst hb;exact⟨_,by simp[Conv.bytesToString,loadCells,loadCellsFrom];rfl,by simp only[E'];rfl⟩
     .have ho:o=off*Va:=by
       rcases Ue with Ue|Ue
       .exact Ue
       .omega
      have hs:Va=1:=by omega
      subst ho;subst hs;have hr:=(g5.drop off).take len;rw[Nat.zero_add,Nat.mul_one]at hr;obtain⟨xs,i1,i2,i3⟩:=ra hr hb;have hl:xs.length=len:=by rw[i2];simp;omega
      refine⟨.string ⟨bs.toArray⟩,?_,by simp only[E']⟩;have hld:=run_loadCells_list (P:=P) w ⟨b,off,none⟩ xs (λj u hu=>by rw[gg];exact i3 j u hu);rw[hl]at hld;have hp:=λmsg=>A5 (P:=P) msg _ bs xs hb i1 .empty;simp only[Conv.bytesToString,Nat.mul_one,Sem.run_bind,hld,Result.andThen_ok];rw[List.forIn_toArray];rw[show(.string ⟨bs.toArray⟩:Value)=.string ⟨ByteArray.empty.data++bs.toArray⟩ by rw[show ByteArray.empty.data=#[]from rfl,Array.empty_append]];have key:∀r:Result ByteArray,r=.ok ⟨ByteArray.empty.data++bs.toArray⟩ w->(r.andThen λa w'=>Sem.run P (pure (Value.string a)) w')=.ok (.string ⟨ByteArray.empty.data++bs.toArray⟩) w:=by
       rintro r rfl;simp
      exact key _ (hp _)
   .cases hv
  .cases hv
 .cases hv
def rf{m:Bool}{x y v:V}{X Y:Value}(ts:Array TypeId)(t:TypeId)(hx:E' I ow w x X)(hy:E' I ow w y Y)(hv:cZ m x y=some v):
 ∃z,(if m then(do pure (Next.value (<-Builtin.max_ ts t #[X,Y])):Sem Next)else(do pure (Next.value (<-Builtin.min_ ts t #[X,Y])))).run P w=.ok (.value z) w/\E' I ow w v z:=by
 unfold cZ at hv;split at hv
 .rename_i k a k' b;split at hv
  .simp only[E']at hx hy;simp only[Oi]at hv;subst hv hx hy;cases m
   .exact⟨_,by simp[Builtin.min_,Builtin.min2];rfl,by simp[E']⟩
   .exact⟨_,by simp[Builtin.max_,Builtin.max2];rfl,by simp[E']⟩
  .cases hv
 .cases hv
def xc{x y:V}{X Y:Value}{b:Bool}(hx:E' I ow w x X)(hy:E' I ow w y Y)(hv:dc x y=some b){t:TypeId}(ht:FX P t=true)(d:Nat)
 (W1:(∃k,P.underlying t=some (.int k))->∃k n,x=.int k n)(htb:P.underlying t=some .bool->∃c,x=.bool c)(Wd:P.underlying t=some .string->∃c,x=.str c):
 (Op.equalIn (d+1) t X Y).run P w=.ok b w:=by
 unfold FX at ht;split at ht
 .rename_i k hk;obtain⟨k1,n1,rfl⟩:=W1 ⟨k,hk⟩;cases y<;>simp only[dc,reduceCtorEq]at hv;split at hv
  .rename_i Vz;simp only[Oi]at hv;simp only[E']at hx hy;subst hx hy hv Vz;rw[run_equalIn_int w d t _ _ _ _ hk,n9]
  .cases hv
 .rename_i hk;obtain⟨c,rfl⟩:=htb hk;cases y<;>simp only[dc,reduceCtorEq,Oi]at hv;simp only[E']at hx hy;subst hx hy hv;exact run_equalIn_bool' w d t _ _ hk
 .rename_i hk;obtain⟨c,rfl⟩:=Wd hk;cases y<;>simp only[dc,reduceCtorEq,Oi]at hv;simp only[E']at hx hy;subst hx hy hv;rw[run_equalIn_string w d t _ _ hk];simp[ByteArray.toList_eq,n9]
 .cases ht
def jN(P:Program)(t:TypeId)(x:V):Bool:=match P.underlying t,x with
 |some (.int _),.int _ _=>true
 |some .bool,.bool _=>true
 |some .string,.str _=>true
 |_,_=>false
def mf{xs ys:List Value}{vs us:List V}(hx:aA I ow w vs xs)(hy:aA I ow w us ys)(d:Nat):∀(fl:List Field) (k:Nat) (b:Bool),
 fl.map (·.offset)=List.range' k fl.length->(∀f∈fl,FX P f.type=true/\f.name≠"_"/\bU P f.type=true)->(∀(j:Nat) f v,fl[j]?=some f->vs[k+j]?=some v->jN P f.type v=true)->
 vs.length=k+fl.length->us.length=k+fl.length->
 cd (vs.drop k) (us.drop k)=some b->(Op.eqFields (d+1) ⟨xs⟩ ⟨ys⟩ fl).run P w=.ok b w
 |[],k,b,_,_,_,h1,h2,h=>by
  simp only[List.length_nil,Nat.add_zero]at h1 h2;rw[List.drop_of_length_le (by omega),List.drop_of_length_le (by omega)]at h;simp only[cd,Oi]at h;subst h;simp[Op.eqFields]
 |f::fl,k,b,ho,hf,hc,h1,h2,h=>by
  simp only[List.length_cons]at h1 h2;simp only[List.map_cons,List.length_cons,List.range'_succ,List.cons.injEq]at ho;obtain⟨e1,e2⟩:=ho;obtain⟨f1,f2,f3⟩:=hf f (by simp);have hkv:k<vs.length:=by omega
  have hku:k<us.length:=by omega
  rw[List.drop_eq_getElem_cons hkv,List.drop_eq_getElem_cons hku]at h;simp only[cd]at h;split at h
  .rename_i c b' hcell U';simp only[Oi]at h;obtain⟨X,hX,hrX⟩:=hx.get (i:=k) (by rw[List.getElem?_eq_getElem hkv]);obtain⟨Y,hY,hrY⟩:=hy.get (i:=k) (by rw[List.getElem?_eq_getElem hku]);have Uk:fm P f.type=false:=by
    unfold FX at f1;unfold fm;split at f1<;>simp_all
   have hp:∀(l:List Value) (Z:Value),l[k]?=some Z->(part f.type ⟨l⟩ f.offset).run P w=.ok Z w:=by
    intro l Z hZ;have:(⟨l⟩:Array Value)[k]?=some Z:=by simpa using hZ
    simp[part,pz (dO f3).1,Uk,e1,this]
   have Ul:=hc 0 f _ (by simp) (by rw[Nat.add_zero,List.getElem?_eq_getElem hkv]);have heq:=xc (P:=P) hrX hrY hcell f1 d
    (by rintro⟨kk,Vz⟩;unfold jN at Ul;rw[Vz]at Ul;generalize vs[k]=z at*;cases z<;>simp at Ul;exact⟨_,_,rfl⟩)
    (by intro Vz;unfold jN at Ul;rw[Vz]at Ul;generalize vs[k]=z at*;cases z<;>simp at Ul;exact⟨_,rfl⟩)
    (by intro Vz;unfold jN at Ul;rw[Vz]at Ul;generalize vs[k]=z at*;cases z<;>simp at Ul;exact⟨_,rfl⟩)
   simp only[Op.eqFields,f2,ne_eq,not_false_eq_true,if_true,Sem.run_bind,hp xs X hX,hp ys Y hY,Result.andThen_ok,heq];cases c
   .simp at h;subst h;simp
   .simp only[Bool.true_and]at h;subst h;simp only[Bool.not_true,Bool.false_eq_true,if_false];exact mf hx hy d fl (k+1) b' e2 (λg hg=>hf g (by simp[hg])) (λj g v hg hv=>hc (j+1) g v (by simpa using hg) (by rw[show k+(j+1)=k+1+j by omega];exact hv)) (by omega) (by omega) U'
  .cases h
def qP:∀(fl:List Field) (vs:List V),dI (fl.map λf=>oJ P f.type) vs=true->
 vs.length=fl.length/\∀(j:Nat) f v,fl[j]?=some f->vs[j]?=some v->jN P f.type v=true
 |[],[],_=>by simp
 |[],_::_,h=>by simp[dI]at h
 |f::fl,[],h=>by
  simp only[List.map_cons]at h;generalize oJ P f.type=q at h;revert h
  match q with
  |0=>simp[dI]
  |1=>simp[dI]
  |2=>simp[dI]
  |n+3=>simp[dI]
 |f::fl,v::vs,h=>by
  have key:jN P f.type v=true/\dI (fl.map λf=>oJ P f.type) vs=true:=by
   simp only[List.map_cons]at h;generalize (fl.map λf=>oJ P f.type)=ks at h|-;unfold oJ at h;unfold jN;cases hd:P.underlying f.type with
   |none=>rw[hd]at h;simp[dI]at h
   |some d=>
    rw[hd]at h;cases d<;>cases v<;>simp_all [dI]
  obtain⟨k1,k2⟩:=key;obtain⟨h1,h2⟩:=qP fl vs k2;refine⟨by simp[h1],λj g u hg hu=>?_⟩;cases j with
  |zero=>simp at hg hu;subst hg hu;exact k1
  |succ j=>exact h2 j g u (by simpa using hg) (by simpa using hu)
def IA{t:TypeId}{fs:Array Field}(ht:P.underlying t=some (.struct fs))(hf:Fq P t fs=true){neg:Bool}{x y v:V}{X Y:Value}(hx:E' I ow w x X)(hy:E' I ow w y Y)
 (xo yo:Operand){op:BinOp}(RH:op=if neg then .neq else .eql)(hv:iO neg (fs.toList.map λf=>oJ P f.type) x y=some v):
 ∃z,(do eqGuard op t xo yo X Y;binOp op t X Y:Sem Value).run P w=.ok z w/\E' I ow w v z:=by
 unfold iO at hv;split at hv
 .rename_i vs us;split at hv
  .rename_i Ul;split at hv
   .rename_i b hb;simp only[Oi]at hv;subst hv;simp only[E']at hx hy;obtain⟨xs,rfl,hx1,_⟩:=hx;obtain⟨ys,rfl,hy1,_⟩:=hy;simp only[Fq,Ba,beq_iff_eq,Bool.not_eq_true',List.all_eq_true,bne_iff_ne,ne_eq]at hf;obtain⟨⟨⟨f1,f2⟩,f3⟩,f4⟩:=hf;obtain⟨g3,g2⟩:=Ul;obtain⟨g1,g4⟩:=qP (P:=P) fs.toList vs g3;have Ws:P.fieldsOf t=fs:=by simp[Program.fieldsOf,ht]
    have hE:=mf (P:=P) hx1 hy1 9998 fs.toList 0 b (by rw[f1];simp[List.range_eq_range']) (λf hf=>⟨(f2 f hf).1.1,(f2 f hf).1.2,(f2 f hf).2⟩)
     (λj f v hj hv=>by
       rw[Nat.zero_add]at hv;exact g4 j f v hj hv) (by omega) (by omega) (by simpa using hb)
    have Sf:(Op.equalIn 10000 t (.agg ⟨xs⟩) (.agg ⟨ys⟩)).run P w=.ok b w:=by
     rw[run_equalIn_struct w 9999 t _ _ (by rw[Ws];exact ht) f3,Ws];exact hE
    have Wt:=run_eqGuard_agg (P:=P) w op t xo yo ⟨xs⟩ ⟨ys⟩ f4;refine⟨.bool (if neg then !b else b),?_,by simp[E']⟩;simp only[Sem.run_bind,Wt,Result.andThen_ok];cases neg<;>simp only[Bool.false_eq_true,if_false,if_true]at RH|-<;>subst RH
    .rw[run_eql_struct,Sf];rfl
    .rw[run_neq_struct,Sf];rfl
   .cases hv
  .cases hv
 .cases hv
def yS{P:Program}(w:World){t e:TypeId}(ht:P.underlying t=some (.pointer e))(q:Option Addr):
 (binOp .eql t (.pointer q) (.pointer none)).run P w=.ok (.bool q.isNone) w/\(binOp .neq t (.pointer q) (.pointer none)).run P w=.ok (.bool (!q.isNone)) w:=by
 have he:(Op.equal t (.pointer q) (.pointer none)).run P w=.ok q.isNone w:=by
  unfold Op.equal;rw[show Op.maxDepth=9999+1 from rfl];generalize 9999=d;cases q<;>simp[Op.equalIn,run_underlying ht]
 exact⟨by simp[binOp,he],by simp[binOp,he]⟩
def qY{F:Fr}{st:St}{a:Act}(hs:dq F I st a w)(o:Oper){v:V}(hp:fg st.s (R0 P F.n o.op))(hv:aL st.U st.s (R0 P F.n o.op)=some v):
 ∃z,(execOp a.eval o).run P w=.ok (.value z) w/\E' I (aG I st.U) w v z:=by
 have R:=cM hs;have VV:∀(x:Sem Value) (z:Value),x.run P w=.ok z w->(do pure (.value (<-x)):Sem Next).run P w=.ok (.value z) w:=λx z h=>by simp[h]
 unfold execOp;cases ho:o.op
 all_goals rw[ho]at hp hv;simp only[R0]at hp hv
 all_goals try (simp only[aL,reduceCtorEq]at hv;done)
 case move x=>simp only[aL,Oi]at hv;subst hv;exact⟨_,rfl,R x⟩
 case assign x=>simp only[aL,Oi]at hv;subst hv;exact⟨_,rfl,R x⟩
 case pick c x y=>
  simp only[aL]at hv;have hc:=R c;split at hv
  .rename_i t ht;rw[ht]at hc;simp only[E']at hc;simp only[Oi]at hv;subst hv;cases t
   .exact⟨_,by simp[hc,asBool],R y⟩
   .exact⟨_,by simp[hc,asBool],R x⟩
  .cases hv
 case alloc=>(repeat' split at hv)<;>simp[aL]at hv
 case range=>split at hv<;>simp[aL]at hv
 case makeMap=>split at hv<;>simp[aL]at hv
 case insert=>split at hv<;>simp[aL]at hv
 case mapUpdate=>split at hv<;>simp[aL]at hv
 case lookup=>split at hv<;>(try split at hv)<;>simp[aL]at hv
 case makeInterface t x=>
  split at hv
  .rename_i hc;simp only[Ba,Bool.not_eq_true']at hc;simp only[aL,Oi]at hv;subst hv;refine⟨.iface t (a.eval x),?_,by simp only[E'];exact⟨_,rfl,R x⟩⟩;refine VV _ _ ?_;cases hu:P.underlying t with
   |none=>rw[hu]at hc;simp at hc
   |some d=>
    cases d
    case interface ms=>simp[te,hu]at hc
    all_goals simp[Instr.makeInterface,run_underlying hu]
  .simp[aL]at hv
 case typeAssert x xt t ok=>
  split at hv
  .simp[aL]at hv
  .rename_i hi;obtain⟨zv,z,hzv,hzr,hus,hv⟩:∃(zv:V) (z:Value),(zeroValue t).run P w=.ok z w/\E' I (aG I st.U) w zv z/\(P.underlying t).isSome=true/\aL st.U st.s (.more (.tas t ok zv) [cx F.n x])=some v:=by
    split at hv
    .rename_i i z hz;refine⟨_,z,eK hz,qO z,?_,hv⟩;have hk:=(eL hz).2.2.1;simp only[bU,Ba]at hk;exact hk.1.2
    .split at hv
     .rename_i hn;obtain⟨_,h0,_⟩:=mS hn;exact⟨.agg [],.agg #[],pF hn,by simp only[E'];exact⟨[],rfl,by simp[aA],by simp⟩,by rw[h0];rfl,hv⟩
     .simp[aL]at hv
   .simp only[aL]at hv;have hx:=R x;obtain⟨d,hu,Tm⟩:∃d,P.underlying t=some d/\∀ms,d≠.interface ms:=by
     cases hu:P.underlying t with
     |none=>simp[hu]at hus
     |some d=>exact⟨d,rfl,λms e=>hi (by simp[te,hu,e])⟩
    have hfail:ok=true->(∀xx:Value,(Instr.typeAssert xx xt t ok).run P w=(do pure (Value.tuple #[<-zeroValue t,.bool false]):Sem Value).run P w->(Instr.typeAssert xx xt t ok).run P w=.ok (.tuple #[z,.bool false]) w):=λ_ xx h=>by
     rw[h];simp[hzv]
    unfold GM at hv;split at hv
    .rename_i t' v' hxv;rw[hxv]at hx;simp only[E']at hx;obtain⟨y,hy,hry⟩:=hx;by_cases ht:t'=t
     .subst ht;rw[if_pos rfl]at hv;simp only[Oi]at hv;subst hv;cases ok
      .refine⟨y,VV _ _ ?_,hry⟩;rw[hy];cases d
       case interface ms=>exact absurd rfl (Tm ms)
       all_goals simp[Instr.typeAssert,run_underlying hu]
      .refine⟨.tuple #[y,.bool true],VV _ _ ?_,by simp only[if_true,E'];exact⟨_,rfl,by simp only[aA,E'];exact⟨_,_,rfl,hry,_,_,rfl,rfl,rfl⟩⟩⟩;rw[hy];cases d
       case interface ms=>exact absurd rfl (Tm ms)
       all_goals simp[Instr.typeAssert,run_underlying hu]
     .rw[if_neg ht]at hv;cases ok
      .simp at hv
      .simp only[if_true,Oi]at hv;subst hv;refine⟨.tuple #[z,.bool false],VV _ _ (hfail rfl _ ?_),by simp only[E'];exact⟨_,rfl,by simp only[aA,E'];exact⟨_,_,rfl,hzr,_,_,rfl,rfl,rfl⟩⟩⟩;rw[hy];cases d
       case interface ms=>exact absurd rfl (Tm ms)
       all_goals simp[Instr.typeAssert,run_underlying hu,ht]
    .rename_i hxv;rw[hxv]at hx;simp only[E']at hx;cases ok
     .simp at hv
     .simp only[if_true,Oi]at hv;subst hv;refine⟨.tuple #[z,.bool false],VV _ _ (hfail rfl _ ?_),by simp only[E'];exact⟨_,rfl,by simp only[aA,E'];exact⟨_,_,rfl,hzr,_,_,rfl,rfl,rfl⟩⟩⟩;rw[hx];cases d
      case interface ms=>exact absurd rfl (Tm ms)
      all_goals simp[Instr.typeAssert,run_underlying hu]
    .cases hv
 case next it b=>cases b<;>simp[aL]at hv
 case buildSlice=>split at hv<;>(try split at hv)<;>(try split at hv)<;>simp[aL]at hv
 case makeSlice=>split at hv<;>(try split at hv)<;>(try split at hv)<;>simp[aL]at hv
 case build t parts=>
  split at hv
  .rename_i hn;simp only[Ba,beq_iff_eq]at hn;have hp:parts=#[]:=Array.eq_empty_of_size_eq_zero hn.2;subst hp;simp only[aL,VX.ev,Oi]at hv;subst hv;exact⟨.agg #[],VV _ _ (by rw[Array.map_empty];exact Bn hn.1),by simp only[E'];exact⟨[],rfl,by simp[aA],by simp⟩⟩
  split at hv
  .rename_i i z fs hz TH;split at hv
   .rename_i hk;simp only[aL,Option.map_eq_some_iff]at hv;obtain⟨cells,hb,rfl⟩:=hv;obtain⟨y,h1,h2⟩:=run_build hs hz TH (by simpa only[Ba,List.all_eq_true,decide_eq_true_eq]using hk) hb;exact⟨y,VV _ _ h1,h2⟩
   .simp[aL]at hv
  .rename_i i z k e hz TH;split at hv
   .rename_i hk;simp only[aL,Option.map_eq_some_iff]at hv;obtain⟨cells,hb,rfl⟩:=hv;obtain⟨y,h1,h2⟩:=AZ hs hz TH hk hb;exact⟨y,VV _ _ h1,h2⟩
   .simp[aL]at hv
  .simp[aL]at hv
 case store=>(repeat' split at hv)<;>simp[aL]at hv
 case load t x=>
  split at hv
  .rename_i hk;simp only[aL]at hv;obtain⟨z,h1,h2⟩:=u6 hs.sat hk (R x) hv;exact⟨z,VV _ _ h1,h2⟩
  .simp[aL]at hv
 case binOp op t x y yt=>
  have hplain:∀(hp:fg st.s (.bin op (cx F.n x) (cx F.n y))) (hv:aL st.U st.s (.bin op (cx F.n x) (cx F.n y))=some v),
   ∃z,(do pure (Next.value (<-(do eqGuard op t x y (a.eval x) (a.eval y);binOp op t (a.eval x) (a.eval y):Sem Value))):Sem Next).run P w=.ok (.value z) w/\E' I (aG I st.U) w v z:=by
   intro hp hv;simp only[aL,fg]at hv hp;obtain⟨z,h1,h2⟩:=Hh (P:=P) (t:=t) (xo:=x) (yo:=y) (R x) (R y) hp hv;exact⟨z,VV _ _ h1,h2⟩
  split at hv
  .rename_i ht;have key:∀neg,(op=if neg then .neq else .eql)->aL st.U st.s (.Ts neg (cx F.n x) (cx F.n y))=some v->
    ∃z,(do pure (Next.value (<-(do eqGuard op t x y (a.eval x) (a.eval y);binOp op t (a.eval x) (a.eval y):Sem Value))):Sem Next).run P w=.ok (.value z) w/\E' I (aG I st.U) w v z:=by
    intro neg RH hv;simp only[aL]at hv;have hx:=R x;have hy:=R y;generalize (cx F.n x).ev st.s=xv at*;generalize (cx F.n y).ev st.s=yv at*;unfold binBV at hv;split at hv
    .rename_i a' b';simp only[E']at hx hy;simp only[Oi]at hv;subst hv;rw[hx,hy];refine⟨.bool (if neg then !(a'==b')else a'==b'),VV _ _ ?_,by simp only[E']⟩;cases neg<;>simp only[Bool.false_eq_true,if_false,if_true]at RH<;>subst RH
     .simp[eqGuard,run_eql_bool w t a' b' ht]
     .simp[eqGuard,run_neq_bool w t a' b' ht]
    .cases hv
   cases op<;>simp only[aL,reduceCtorEq]at hv
   .exact key false rfl (by simpa only[aL]using hv)
   .exact key true rfl (by simpa only[aL]using hv)
  .rename_i fs ht;split at hv
   .rename_i V0;have key:∀neg,(op=if neg then .neq else .eql)->aL st.U st.s (.Yj neg (fs.toList.map λf=>oJ P f.type) (cx F.n x) (cx F.n y))=some v->
     ∃z,(do pure (Next.value (<-(do eqGuard op t x y (a.eval x) (a.eval y);binOp op t (a.eval x) (a.eval y):Sem Value))):Sem Next).run P w=.ok (.value z) w/\E' I (aG I st.U) w v z:=by
     intro neg RH hv;simp only[aL]at hv;obtain⟨z,h1,h2⟩:=IA (P:=P) ht V0 (R x) (R y) x y RH hv;exact⟨z,VV _ _ h1,h2⟩
    cases op<;>simp only[aL,reduceCtorEq]at hv
    .exact key false rfl (by simpa only[aL]using hv)
    .exact key true rfl (by simpa only[aL]using hv)
   .simp[aL]at hv
  .rename_i h1 h2;split at hv
   .unfold cN at hv;split at hv
    .simp only[aL,VX.ev]at hv;unfold binBV at hv;split at hv
     .rename_i hx;cases hx
     .cases hv
    .simp[aL]at hv
   .rename_i hns;split at hv
    .split at hv
     .simp only[aL,VX.ev]at hv;unfold binBV at hv;split at hv
      .rename_i hx;cases hx
      .cases hv
     .simp[aL]at hv
    .rename_i hni;split at hv
     .split at hv
      .simp only[aL,VX.ev]at hv;unfold binBV at hv;split at hv
       .rename_i hx;cases hx
       .cases hv
      .simp[aL]at hv
     .rename_i Xv;split at hv
      .rename_i hnp;simp only[Ba]at hnp;obtain⟨hpt,Uu⟩:=hnp;unfold NB at hpt;split at hpt
       .rename_i e ht;unfold IS at Uu;split at Uu
        .split at hv
         .rename_i RH;simp only[aL]at hv;have hx:=R x;generalize (cx F.n x).ev st.s=xv at*;have hY:a.eval (.const (.pointer none))=.pointer none:=rfl;have key:∀q:Option Addr,a.eval x=.pointer q->∃z,(do pure (Next.value (<-(do eqGuard op t x (.const (.pointer none)) (a.eval x) (a.eval (.const (.pointer none)));binOp op t (a.eval x) (a.eval (.const (.pointer none))):Sem Value))):Sem Next).run P w=.ok (.value z) w/\z=.bool (if op=.neq then !q.isNone else q.isNone):=by
           intro q hq;rw[hq,hY];obtain⟨q1,q2⟩:=yS (P:=P) w ht q;have hg:∀op,(eqGuard op t x (.const (.pointer none)) (.pointer q) (.pointer none)).run P w=.ok () w:=by intro op;simp[eqGuard]
           rcases RH with rfl|rfl
           .exact⟨_,by simp only[Sem.run_bind,hg,Result.andThen_ok,q1];rfl,by simp⟩
           .exact⟨_,by simp only[Sem.run_bind,hg,Result.andThen_ok,q2];rfl,by simp⟩
          unfold CN at hv;split at hv
          .simp only[E']at hx;simp only[Oi]at hv;subst hv;obtain⟨z,h3,rfl⟩:=key none hx;refine⟨_,h3,?_⟩;rcases RH with rfl|rfl<;>simp[E']
          .simp only[E']at hx;split at hx
           .simp only[Oi]at hv;subst hv;obtain⟨z,h3,rfl⟩:=key _ hx.1;refine⟨_,h3,?_⟩;rcases RH with rfl|rfl<;>simp[E']
           .exact hx.elim
          .simp only[E']at hx;obtain⟨b,off,hx,_⟩:=hx;simp only[Oi]at hv;subst hv;obtain⟨z,h3,rfl⟩:=key _ hx;refine⟨_,h3,?_⟩;rcases RH with rfl|rfl<;>simp[E']
          .cases hv
         .simp[aL]at hv
        .cases Uu
       .cases hpt
      .rename_i hnp;refine hplain ?_ hv;revert hp;split
       .rename_i h4;exact absurd h4 h1
       .rename_i fs h4;exact absurd h4 (h2 fs)
       .rw[if_neg hns,if_neg hni,if_neg Xv,if_neg hnp];exact id
 case nilCheck x=>
  simp only[aL]at hv;have hx:=R x;generalize (cx F.n x).ev st.s=xv at*;unfold bW at hv;split at hv
  .simp only[Oi]at hv;subst hv;have R9:=hx;simp only[E']at R9;split at R9
   .exact⟨a.eval x,by simp[R9],hx⟩
   .exact R9.elim
  .simp only[Oi]at hv;subst hv;have R9:=hx;simp only[E']at R9;obtain⟨b,off,e,_⟩:=R9;exact⟨a.eval x,by simp[e],hx⟩
  .simp only[Oi]at hv;subst hv;have R9:=hx;simp only[E']at R9;obtain⟨RF,e,_⟩:=R9;exact⟨a.eval x,by simp[e],hx⟩
  .simp only[Oi]at hv;subst hv;have R9:=hx;simp only[E']at R9;obtain⟨y,e,_⟩:=R9;exact⟨a.eval x,by simp[e],hx⟩
  .cases hv
 case box=>split at hv<;>simp[aL]at hv
 case unOp op t x=>
  have hx:=R x;cases op<;>simp only[aL,reduceCtorEq]at hv<;>simp only[fg]at hp
  .split at hv
   .rename_i k n hn;simp only[hn]at hx hp;simp only[E']at hx;simp only[Oi]at hv;subst hv;simp only[RM]at hp;exact⟨.int k (0-n),VV _ _ (by simp only[hx,Op.unary,Op.intArith];rw[hp];rfl),by simp[E']⟩
   .cases hv
  .split at hv
   .rename_i b hb;rw[hb]at hx;simp only[E']at hx;simp only[Oi]at hv;subst hv;exact⟨.bool (!b),VV _ _ (by simp[hx,Op.unary]),by simp[E']⟩
   .cases hv
 case convert src dst x=>
  split at hv
  .rename_i k1 k2 h1 h2;simp only[h1,h2]at hp;have hx:=R x;simp only[aL,fg]at hv hp;split at hv
   .rename_i k n hn;rw[hn]at hx hp;simp only[E']at hx;simp only[Oi]at hv;subst hv;simp only[RM]at hp;refine⟨.int k2 n,VV _ _ ?_,by simp[E']⟩;simp[Go.convert,run_underlying h1,run_underlying h2,hx,Conv.intToInt,hp]
   .cases hv
  .rename_i e h1 h2;split at hv
   .rename_i h3;have h3:P.underlying e=some (.int .u8):=by
     unfold u8T at h3;split at h3
     .assumption
     .cases h3
    simp only[aL]at hv;obtain⟨z,g1,g2⟩:=AP (P:=P) hs.sat (R x) hv;refine⟨z,VV _ _ ?_,g2⟩;obtain⟨b,n,c,hX⟩:∃b n c,a.eval x=.slice b n c:=by
     have hx:=R x;unfold dp at hv;split at hv
     .rename_i R9;rw[R9]at hx;simp only[E']at hx;exact⟨_,_,_,hx⟩
     .rename_i R9;rw[R9]at hx;simp only[E']at hx;split at hx
      .exact hx.elim
      .exact⟨_,_,_,hx.1⟩
      .obtain⟨o,c,h,_⟩:=hx;exact⟨_,_,_,h⟩
     .cases hv
    rw[hX]at g1|-;cases b<;>simp[Go.convert,run_underlying h1,run_underlying h2,run_underlying h3,g1]
   .simp[aL]at hv
  .split at hv<;>simp[aL]at hv
 case makeFunc fn first caps=>
  cases fn
  case func f=>
   by_cases h0:first.size=0
   .simp only[if_pos h0,aL,Oi]at hv;subst hv;refine⟨.func (.func f) #[] (caps.map a.eval),VV _ _ ?_,?_⟩
    .have:first=#[]:=Array.eq_empty_of_size_eq_zero h0
     subst this;simp[Instr.makeFunc]
    .simp only[E'];exact⟨caps.toList.map a.eval,by congr 1;apply Array.ext';simp,mJ hs _⟩
   .have Vy:aL st.U st.s (if first.size=0 then RO.SE f (caps.toList.map (cx F.n))else if caps.size=0 then .more (.X7 f) (first.toList.map (cx F.n))else .bad)=some v:=hv;rw[if_neg h0]at Vy;by_cases h1:caps.size=0
    .rw[if_pos h1]at Vy;simp only[aL,Oi]at Vy;subst Vy;refine⟨.func (.func f) (first.map a.eval) #[],VV _ _ ?_,?_⟩
     .have:caps=#[]:=Array.eq_empty_of_size_eq_zero h1;subst this;simp[Instr.makeFunc]
     .simp only[E'];exact⟨first.toList.map a.eval,by congr 1;apply Array.ext';simp,mJ hs _⟩
    .rw[if_neg h1]at Vy;simp only[aL,reduceCtorEq]at Vy
  all_goals simp[aL]at hv
 case slice t x lo hi mx=>
  split at hv
  .rename_i e ht;split at hv
   .rename_i hk;simp only[Ba,Bool.or_eq_true]at hk;simp only[aL]at hv;obtain⟨z,h1,h2⟩:=tu hs.sat ht hk.1 (R x) (tA hs lo) (tA hs hi) (tA hs mx)
     (by intro h;rcases hk.2 with h'|h'<;>cases mx<;>cases hi<;>simp_all) hv
    exact⟨z,VV _ _ h1,h2⟩
   .simp[aL]at hv
  .rename_i ht;split at hv
   .rename_i hm;simp only[aL]at hv;have V1:mx=none:=by simpa using hm
    subst V1;obtain⟨z,h1,h2⟩:=tQ (P:=P) ht (R x) (tA hs lo) (tA hs hi) hv;exact⟨z,VV _ _ h1,h2⟩
   .simp[aL]at hv
  .simp[aL]at hv
 case fieldAddr s x f=>
  split at hv
  .rename_i fs TH;split at hv
   .rename_i fd hfd;split at hv
    .rename_i hk;simp only[aL]at hv;obtain⟨z,h1,h2⟩:=DE (P:=P) TH hfd hk (R x) hv;exact⟨z,VV _ _ h1,h2⟩
    .simp[aL]at hv
   .simp[aL]at hv
  .simp[aL]at hv
 case field s x f=>
  split at hv
  .rename_i fs TH;split at hv
   .rename_i fd hfd;split at hv
    .rename_i hk;have hx:=R x;simp only[aL]at hv;unfold jQ at hv;split at hv
     .rename_i vs hvs;rw[hvs]at hx;simp only[E']at hx;obtain⟨RF,hX,hr,h1⟩:=hx;obtain⟨z,hz,Yl⟩:=Ab (P:=P) (w:=w) hk hr h1 hv;exact⟨z,VV _ _ (by simp[Instr.field,run_underlying TH,hfd,hX,asAgg,hz]),Yl⟩
     .cases hv
    .simp[aL]at hv
   .simp[aL]at hv
  .simp[aL]at hv
 case indexAddr t x i=>
  split at hv
  .rename_i e ht;split at hv
   .rename_i hk;simp only[aL]at hv;obtain⟨z,h1,h2⟩:=CZ hs.sat ht hk (R x) (R i) hv;exact⟨z,VV _ _ h1,h2⟩
   .simp[aL]at hv
  .rename_i k e ht;split at hv
   .rename_i hk;simp only[aL]at hv;obtain⟨z,h1,h2⟩:=AQ (P:=P) ht hk (R x) (R i) hv;exact⟨z,VV _ _ h1,h2⟩
   .simp[aL]at hv
  .simp[aL]at hv
 case index t x i=>
  split at hv
  .rename_i k e ht;split at hv
   .rename_i hk;simp only[aL]at hv;obtain⟨z,h1,h2⟩:=Dq (P:=P) ht hk (R x) (R i) hv;exact⟨z,VV _ _ h1,h2⟩
   .simp[aL]at hv
  .rename_i ht;simp only[aL]at hv;obtain⟨z,h1,h2⟩:=DA (P:=P) ht (R x) (R i) hv;exact⟨z,VV _ _ h1,h2⟩
  .simp[aL]at hv
 case extract x i=>
  simp only[aL]at hv;have hx:=R x;unfold jT at hv;split at hv
  .rename_i vs hvs;rw[hvs]at hx;simp only[E']at hx;obtain⟨RF,hX,hr⟩:=hx;obtain⟨z,hz,Yl⟩:=hr.get hv;exact⟨z,VV _ _ (by simp[Instr.extract,hX,hz]),Yl⟩
  .cases hv
 case call c=>
  obtain⟨callee,args,argTypes⟩:=c;cases callee
  case value=>simp only[aL,reduceCtorEq]at hv
  case invoke=>simp only[aL,reduceCtorEq]at hv
  case builtin b=>
   cases b
   case delete=>simp only[]at hv;split at hv<;>(try split at hv)<;>simp[aL]at hv
   case copy=>simp only[]at hv;split at hv<;>(try split at hv)<;>(try split at hv)<;>simp[aL]at hv
   case len=>
    simp only[]at hv;split at hv
    .rename_i x t Sp ht;have hx:=R x;have UX:args=#[x]:=by apply Array.ext';simpa using Sp
     have hlen:∀z,(Builtin.len_ argTypes o.type #[a.eval x]).run P w=.ok z w->
      (do let d <-resolve a.eval { callee:=.builtin .len,args:=args,argTypes:=argTypes } o.type;invoke d.target d.args:Sem Next).run P w=.ok (.value z) w:=by
      intro z hz;simp[resolve,invoke,Go.builtin,UX,hz]
     have W1:Builtin.len_ argTypes o.type #[a.eval x]=Builtin.len_ #[t] o.type #[a.eval x]:=by
      simp[Builtin.len_,ht]
     split at hv
     .rename_i e he;obtain⟨z,h1,h2⟩:=zR (P:=P) hx (by simpa only[aL]using hv) o.type (t:=t) (by simp[he]);exact⟨z,hlen z (W1▸h1),h2⟩
     .rename_i he;obtain⟨z,h1,h2⟩:=zR (P:=P) hx (by simpa only[aL]using hv) o.type (t:=t) (by simp[he]);exact⟨z,hlen z (W1▸h1),h2⟩
     .simp[aL]at hv
    .simp[aL]at hv
   case cap=>
    simp only[]at hv;split at hv
    .rename_i x t Sp ht;have hx:=R x;have UX:args=#[x]:=by apply Array.ext';simpa using Sp
     split at hv
     .rename_i W2;obtain⟨e,he⟩:∃e,P.underlying t=some (.slice e):=by
       unfold xJ at W2;split at W2
       .rename_i e he;exact⟨e,he⟩
       .cases W2
      simp only[aL,kG]at hv;split at hv
      .rename_i hn;rw[hn]at hx;simp only[E']at hx;simp only[Oi]at hv;subst hv;refine⟨.int .i64 0,?_,by simp[E']⟩;simp[resolve,invoke,Go.builtin,UX,Builtin.cap_,ht,run_underlying he,hx,goInt]
      .cases hv
     .simp[aL]at hv
    .simp[aL]at hv
   case min=>
    simp only[]at hv;split at hv
    .rename_i x y Sp;have UX:args=#[x,y]:=by apply Array.ext';simpa using Sp
     obtain⟨z,h1,h2⟩:=rf (P:=P) (w:=w) (m:=false) argTypes o.type (R x) (R y) (by simpa only[aL]using hv);exact⟨z,by simpa[resolve,invoke,Go.builtin,UX]using h1,h2⟩
    .simp[aL]at hv
   case max=>
    simp only[]at hv;split at hv
    .rename_i x y Sp;have UX:args=#[x,y]:=by apply Array.ext';simpa using Sp
     obtain⟨z,h1,h2⟩:=rf (P:=P) (w:=w) (m:=true) argTypes o.type (R x) (R y) (by simpa only[aL]using hv);exact⟨z,by simpa[resolve,invoke,Go.builtin,UX]using h1,h2⟩
    .simp[aL]at hv
   case clear=>
    simp only[]at hv;split at hv
    .split at hv
     .split at hv<;>simp[aL]at hv
     .simp[aL]at hv
    .simp[aL]at hv
   case append=>
    simp only[]at hv;split at hv
    .split at hv
     .split at hv
      .split at hv<;>simp[aL]at hv
      .simp[aL]at hv
     .split at hv
      .split at hv<;>simp[aL]at hv
      .split at hv<;>simp[aL]at hv
      .simp[aL]at hv
    .simp[aL]at hv
   all_goals simp[aL]at hv
variable {P:Program} {I:Mu} {ow:Nat->Prop} {w w':World}
def flat(rows:List V):List V:=rows.flatMap V.cells
def aU.append:∀{vs us:List V} {b off:Nat},aU I ow w (vs++us) b off↔aU I ow w vs b off/\aU I ow w us b (off+vs.length)
 |[],us,b,off=>by simp[aU]
 |v::vs,us,b,off=>by
  simp only[List.cons_append,aU,aU.append (vs:=vs),List.length_cons];rw[show off+(vs.length+1)=off+1+vs.length by omega,and_assoc]
def iN:∀{rows:List V} {b off sz:Nat},aY I ow w rows b off sz↔(∀r∈rows,r.cells.length=sz)/\aU I ow w (flat rows) b off
 |[],b,off,sz=>by simp[aY,flat,aU]
 |r::rs,b,off,sz=>by
  have ih:=iN (rows:=rs) (b:=b) (off:=off+sz) (sz:=sz);simp only[aY,ih,ed];have e:flat (r::rs)=r.cells++flat rs:=by simp[flat]
  rw[e,aU.append];constructor
  .rintro⟨h1,h2,h3,h4⟩;exact⟨λx hx=>(List.mem_cons.1 hx).elim (λe'=>e'▸h1) (h3 x),h2,by rw[h1];exact h4⟩
  .rintro⟨h1,h2,h3⟩;have h0:=h1 r (by simp);exact⟨h0,h2,λx hx=>h1 x (by simp[hx]),by rw[h0]at h3;exact h3⟩
def qw{rows:List V}{sz:Nat}(h:∀r∈rows,r.cells.length=sz):(flat rows).length=rows.length*sz:=by
 induction rows with
 |nil=>simp[flat]
 |cons r rs ih=>
  have e:flat (r::rs)=r.cells++flat rs:=by simp[flat]
  rw[e,List.length_append,h r (by simp),ih (λx hx=>h x (by simp[hx])),List.length_cons,Nat.add_mul];omega
def gO(a b:List V):flat (a++b)=flat a++flat b:=by simp[flat]
def j0:∀{vs:List V} {xs:List Value} {b off:Nat},aA I ow w vs xs->(∀u∈xs,u.oneCell'=true)->
 (∀(j:Nat) u,xs[j]?=some u->w.cell? ⟨b,off+j,none⟩=some u)->aU I ow w vs b off
 |[],_,_,_,_,_,_=>by simp[aU]
 |v::vs,l,b,off,h,h1,h2=>by
  simp only[aA]at h;obtain⟨x,xs,rfl,h3,h4⟩:=h;simp only[aU];refine⟨⟨x,by simpa using h2 0 x (by simp),h3,h1 x (by simp)⟩,j0 h4 (λu hu=>h1 u (by simp[hu])) ?_⟩;intro j u hu;have:=h2 (j+1) u (by simpa using hu)
  rwa [show off+(j+1)=off+1+j by omega]at this
def bK(U:ai):Option Nat->ai
 |none=>U
 |some i=>del U i
def vM{U:ai}{o:Option Nat}{i:Nat}{x:Ob}(h:bK U o i=some x):U i=some x/\some i≠o:=by
 cases o with
 |none=>exact⟨h,by simp⟩
 |some k=>
  simp only[bK,del]at h;split at h
  .cases h
  .rename_i R6;exact⟨h,by simpa using R6⟩
def Sat.dN{w0:World}{Su:Nat->Prop}{U:ai}(h:Sat w0 Su I U w):∃id,I id=.dN/\U id=none/\∀p,∃N,∀i,N<=i->(λk=>if k=id then p else I k:Mu) i=.dN:=by
 obtain⟨N,hN⟩:=h.fin;refine⟨N,hN N (Nat.le_refl _),?_,λp=>⟨N+1,λi hi=>?_⟩⟩
 .cases ho:U N with
  |none=>rfl
  |some o=>
   have:=h.obj N o ho;rw[hN N (Nat.le_refl _)]at this;exact this.elim
 .simp[show i≠N by omega,hN i (by omega)]
def Sat.renew{w0:World}{Su:Nat->Prop}{U:ai}(h:Sat w0 Su I U w){row:Option Nat}(hg:w.grownBy w' row)(RN:Option Nat)
 (hA:row=none\/∃i oA sz cap b,RN=some i/\U i=some oA/\I i=.Ss b sz cap/\row=some b)
 (b sz cap:Nat)(cur:Array Value)(e:TypeId)(rows:List V)(xs:List Value)(hb:some b=row\/w.heap.size<=b)
 (Xw:w'.heap[b]?=some (.cells cur e (0,0)))(TF:0<sz)(hcur:cur.size=cap*sz)(Se:rows.length<=cap)(Yk:cap<=maxLen)
 (hlen:∀r∈rows,r.cells.length=sz)(hx:aA I (aG I U) w (flat rows) xs)(SZ:∀u∈xs,u.oneCell'=true)
 (Wu:∀(j:Nat) u,xs[j]?=some u->cur[j]?=some u):
 ∃id,U id=none/\∃Y':Mu,Y' id=.Ss b sz cap/\df I Y'/\Sat w0 Su Y' (C' (bK U RN) id ⟨e,sz,rows⟩) w'/\
  db (aG I U) (aG Y' (C' (bK U RN) id ⟨e,sz,rows⟩)) w w':=by
 obtain⟨id,M',R3,SA⟩:=h.dN;refine⟨id,R3,λk=>if k=id then .Ss b sz cap else I k,by simp,λk hk=>?_,?_⟩
 .have:k≠id:=λe'=>hk (e'▸M');simp[this]
 .have hle:df I (λk=>if k=id then .Ss b sz cap else I k):=λk hk=>by
   have:k≠id:=λe'=>hk (e'▸M');simp[this]
  have SN:∀b',row=some b'->aG I U b':=λb' UQ=>by
   rcases hA with h1|⟨i,oA,UC,Tc,b'',h1,h2,h3,h4⟩
   .rw[h1]at UQ;cases UQ
   .rw[h4]at UQ;cases UQ;exact⟨i,oA,UC,Tc,h2,h3⟩
  refine h.put hg SN hle (SA _) id ⟨e,sz,rows⟩ (λo ho=>?_) (λi o hi ho=>?_) (λb' UC Tc UQ=>?_) (λhk=>?_)
  .simp[C']at ho;exact ho.symm
  .simp only[C',if_neg hi]at ho;obtain⟨h1,h2⟩:=vM ho;refine⟨h1,λb' UC Tc h3 h4=>?_⟩;rcases hA with h5|⟨iA,oA,szA,capA,bA,h5,h6,h7,h8⟩
   .rw[h5]at h4;cases h4
   .rw[h8]at h4;cases h4;have:=h.inj i iA o oA _ _ _ _ _ h1 h6 h3 h7;exact h2 (by rw[this,h5])
  .simp only[if_true,Pl.Ss.injEq]at UQ;rw[<-UQ.1];exact hb
  .simp only[if_true,n7];refine .inl ⟨cur,Xw,trivial,TF,hcur,Se,Yk,?_⟩;rw[iN];refine⟨hlen,j0 (aA.mono hle hk hg.size _ _ hx) SZ ?_⟩;intro j u hu;rw[cell_of_row w' b _ cur e (0,0) Xw];simpa using Wu j u hu
def Sat.Fp{w0:World}{Su:Nat->Prop}{U:ai}(h:Sat w0 Su I U w)(RN:Option Nat)(e:TypeId)(sz:Nat):
 ∃id,U id=none/\∃Y':Mu,Y' id=.nil/\df I Y'/\Sat w0 Su Y' (C' (bK U RN) id ⟨e,sz,[]⟩) w/\
  db (aG I U) (aG Y' (C' (bK U RN) id ⟨e,sz,[]⟩)) w w:=by
 obtain⟨id,M',R3,SA⟩:=h.dN;have hle:df I (λk=>if k=id then .nil else I k):=λk hk=>by
  have:k≠id:=λe'=>hk (e'▸M');simp[this]
 refine⟨id,R3,λk=>if k=id then .nil else I k,by simp,hle,?_⟩;refine h.put (row:=none) ⟨rfl,rfl,rfl,Nat.le_refl _,λ_ _ _=>rfl⟩ (by simp) hle (SA _) id ⟨e,sz,[]⟩ (λo ho=>?_) (λi o hi ho=>?_) (λb' UC Tc UQ=>?_) (λhk=>?_)
 .simp[C']at ho;exact ho.symm
 .simp only[C',if_neg hi]at ho;exact⟨(vM ho).1,by simp⟩
 .simp at UQ
 .simp[n7]
def Sat.change{w0:World}{Su:Nat->Prop}{U:ai}(h:Sat w0 Su I U w){id b sz cap:Nat}{o:Ob}(ho:U id=some o)(M':I id=.Ss b sz cap)(hz:0<sz)
 (hg:w.grownBy w' (some b))(cur:Array Value)(rows:List V)(xs:List Value)
 (Xw:w'.heap[b]?=some (.cells cur o.elem (0,0)))(hcur:cur.size=cap*sz)(Se:rows.length<=cap)
 (hlen:∀r∈rows,r.cells.length=sz)(hx:aA I (aG I U) w (flat rows) xs)(SZ:∀u∈xs,u.oneCell'=true)
 (Wu:∀(j:Nat) u,xs[j]?=some u->cur[j]?=some u):
 Sat w0 Su I (C' U id { o with rows:=rows }) w'/\db (aG I U) (aG I (C' U id { o with rows:=rows })) w w':=by
 have Te:=h.obj id o ho;rw[M']at Te;obtain⟨_,_,h2,h3,_,_,h6,_⟩:=Te.plain hz;refine h.put hg (λb' UQ=>by cases UQ;exact⟨id,o,sz,cap,ho,M'⟩) (df.refl _) h.fin id { o with rows:=rows } (λx R9=>by simp[C']at R9;exact R9.symm)
  (λi x hi R9=>?_) (λb' UC Tc UQ=>?_) (λhk=>?_)
 .simp only[C',if_neg hi]at R9;refine⟨R9,λb' UC Tc h4 h5=>hi ?_⟩;cases h5;exact h.inj i id x o _ _ _ _ _ R9 ho h4 M'
 .rw[M']at UQ;cases UQ;exact .inl rfl
 .rw[M'];refine .inl ⟨cur,Xw,h2,h3,hcur,Se,h6,?_⟩;rw[iN];refine⟨hlen,j0 (aA.mono (df.refl _) hk hg.size _ _ hx) SZ ?_⟩;intro j u hu;rw[cell_of_row w' b _ cur o.elem (0,0) Xw];simpa using Wu j u hu
def aX(s:Nat->V):Option Nat->V->Nat->V
 |none,_=>s
 |some d,v=>λi=>if i=d then v else s i
def dq.step{F:Fr}{Y':Mu}{st:St}{a:Act}{Z':ai}(hs:dq F I st a w)(h1:Sat F.w0 F.Su Y' Z' w')(h2:df I Y')
 (h3:db (aG I st.U) (aG Y' Z') w w')(h4:w.heap.size<=w'.heap.size){d:Option Tmp}{v:V}{x:Value}(hv:E' Y' (aG Y' Z') w' v x):
 dq F Y' ⟨aX st.s (d.filter (·<F.n)) v,Z'⟩ (a.put d x) w' where
 sat:=h1
 le:=hs.le.trans h2
 size:=by cases d<;>simp[Act.put,hs.size]
 book:=by
  have:=hs.book.mc h3;cases d<;>simpa[Act.put]using this
 slot:=λi hi=>by
  have hold:=E'.mono h2 h3 h4 _ _ (hs.slot i hi);cases d with
  |none=>simpa[Act.put,aX]using hold
  |some d=>
   simp only[Act.put,Option.filter_some];by_cases hd:d<F.n
   .simp only[hd,decide_true,if_true,aX];by_cases M':i=d
    .subst M';simp only[if_true];rw[Array.getD_eq_getD_getElem?,Array.getElem?_setIfInBounds_self_of_lt (by rw[hs.size];exact hi)];exact hv
    .simp only[if_neg M'];rw[Array.getD_eq_getD_getElem?,Array.getElem?_setIfInBounds_ne (λe=>M' e.symm),<-Array.getD_eq_getD_getElem?];exact hold
   .simp only[hd,decide_false,Bool.false_eq_true,if_false,aX];rw[Array.getD_eq_getD_getElem?,Array.getElem?_setIfInBounds_ne (λ(e:d=i)=>hd (e▸hi)),<-Array.getD_eq_getD_getElem?];exact hold
def dq.pure{F:Fr}{st:St}{a:Act}(hs:dq F I st a w){d:Option Tmp}{v:V}{x:Value}(hv:E' I (aG I st.U) w v x):
 dq F I ⟨aX st.s (d.filter (·<F.n)) v,st.U⟩ (a.put d x) w:=
 hs.step hs.sat (df.refl _) (λ_ _ h=>⟨h,rfl⟩) (Nat.le_refl _) hv
variable {P:Program} {I:Mu} {ow:Nat->Prop} {w w':World}
def cp(r:V)(k sz:Nat)(x:V):Option V:=
 if x.cells.length=sz/\x.stays=true then
  (if k=0/\r.cells.length=sz then some x
   else if k+sz<=r.cells.length then some (.agg (r.cells.take k++x.cells++r.cells.drop (k+sz)))else none)
 else none
def uO{r x r':V}{k sz:Nat}(h:cp r k sz x=some r'):x.cells.length=sz/\x.stays=true/\k+sz<=r.cells.length/\
 r'.cells=r.cells.take k++x.cells++r.cells.drop (k+sz):=by
 unfold cp at h;split at h
 .rename_i h1;split at h
  .rename_i h2;obtain⟨rfl,h3⟩:=h2;simp only[Oi]at h;subst h;refine⟨h1.1,h1.2,by omega,?_⟩;simp[h3]
  .split at h
   .rename_i h3;simp only[Oi]at h;subst h;exact⟨h1.1,h1.2,h3,by simp[V.cells]⟩
   .cases h
 .cases h
def E2{rows:List V}{sz0:Nat}(hlen:∀r∈rows,r.cells.length=sz0){i:Nat}{r r':V}(hr:rows[i]?=some r){k sz:Nat}{xs:List V}
 (hk:k+sz<=sz0)(hc:r'.cells=r.cells.take k++xs++r.cells.drop (k+sz)):
 flat (rows.set i r')=(flat rows).take (i*sz0+k)++xs++(flat rows).drop (i*sz0+k+sz):=by
 induction rows generalizing i with
 |nil=>simp at hr
 |cons q rows ih=>
  have hq:=hlen q (by simp);have e:∀l,flat (q::l)=q.cells++flat l:=λl=>by simp[flat]
  cases i with
  |zero=>
   simp only[List.getElem?_cons_zero,Oi]at hr;subst hr;simp only[List.set_cons_zero,Nat.zero_mul,Nat.zero_add];rw[e,show flat (r'::rows)=r'.cells++flat rows by simp[flat],hc];rw[List.take_append_of_le_length (by omega),List.drop_append_of_le_length (by omega)];simp
  |succ i=>
   simp only[List.getElem?_cons_succ]at hr;simp only[List.set_cons_succ];rw[e,e,ih (λx hx=>hlen x (by simp[hx])) hr];have e1:(i+1)*sz0+k=q.cells.length+(i*sz0+k):=by rw[hq,Nat.add_mul];omega
   have e2:(i+1)*sz0+k+sz=q.cells.length+(i*sz0+k+sz):=by omega
   rw[e1,show q.cells.length+(i*sz0+k)+sz=q.cells.length+(i*sz0+k+sz) by omega,List.take_length_add_append,List.drop_length_add_append];simp
def kr{α:Type}(l xs RF:List α)(h:∀(j:Nat) u,xs[j]?=some u->l[j]?=some u)(o:Nat)(ho:o+RF.length<=xs.length):
 ∀(j:Nat) u,(xs.take o++RF++xs.drop (o+RF.length))[j]?=some u->(l.take o++RF++l.drop (o+RF.length))[j]?=some u:=by
 have hl:xs.length<=l.length:=by
  rcases Nat.lt_or_ge l.length xs.length with h1|h1
  .have h2:=h l.length xs[l.length] (by simp[h1]);simp at h2
  .exact h1
 intro j u hu;simp only[List.append_assoc]at hu|-;rw[List.getElem?_append]at hu|-;simp only[List.length_take,Nat.min_eq_left (show o<=xs.length by omega),Nat.min_eq_left (show o<=l.length by omega)]at hu|-;split at hu
 .rename_i h1;rw[if_pos h1];rw[List.getElem?_take_of_lt h1]at hu|-;exact h j u hu
 .rename_i h1;rw[if_neg h1];rw[List.getElem?_append]at hu|-;split at hu
  .rename_i h2;rw[if_pos h2];exact hu
  .rename_i h2;rw[if_neg h2];rw[List.getElem?_drop]at hu|-;exact h _ u hu
def aY.cur{rows:List V}{b sz:Nat}{cur:Array Value}{e:TypeId}{fr:Nat×Nat}(h:aY I ow w rows b 0 sz)(hc:w.heap[b]?=some (.cells cur e fr)):
 (∀r∈rows,r.cells.length=sz)/\∃xs,aA I ow w (flat rows) xs/\(∀u∈xs,u.oneCell'=true)/\xs.length=rows.length*sz/\∀(j:Nat) u,xs[j]?=some u->cur.toList[j]?=some u:=by
 rw[iN]at h;obtain⟨h1,h2⟩:=h;obtain⟨xs,h3,h4,h5⟩:=h2.BO;refine⟨h1,xs,h3,h4,by rw[h3.length,qw h1],λj u hu=>?_⟩;have:=h5 j u hu;rw[cell_of_row w b _ cur e fr hc]at this;simpa using this
def rk{F:Fr}{st:St}{a:Act}(hs:dq F I st a w){o:Oper}{t:TypeId}{x y:Operand}(Wv:o.op=.store t x y)(hk:bU P t=true)
 {id i k:Nat}(h1:(cx F.n x).ev st.s=.ptr id i k){ob:Ob}(h2:st.U id=some ob){r r':V}(h3:ob.rows[i]?=some r)(h4:cp r k (P.cellsOf t) ((cx F.n y).ev st.s)=some r'):
 ∃w',(execOp a.eval o).run P w=.ok .skip w'/\dq F I ⟨aX st.s (o.dst.filter (·<F.n)) (.RB []),C' st.U id { ob with rows:=ob.rows.set i r' }⟩ (a.put o.dst undef) w':=by
 have R:=cM hs;obtain⟨c1,c2,c3,c4⟩:=uO h4;have hx:=R x;have hy:=R y;rw[h1]at hx;simp only[E']at hx;split at hx
 .rename_i b Va cap M';have Sw:=hs.sat.obj id ob h2;rw[M']at Sw;obtain⟨hx,hz⟩:=hx;obtain⟨cur,e1,e2,e3,e4,e5,e6,e7⟩:=Sw.plain hz;obtain⟨g1,xs,g2,g3,g4,g5⟩:=e7.cur e1;obtain⟨v1,v2⟩:=hy.cells c2;have vl:=hy.jd c2;have hr:r∈ob.rows:=List.mem_of_getElem? h3;have W3:=g1 r hr;have hilt:i<ob.rows.length:=(List.getElem?_eq_some_iff.1 h3).1;have hbound:i*Va+k+P.cellsOf t<=ob.rows.length*Va:=by
   have:(i+1)*Va<=ob.rows.length*Va:=Nat.mul_le_mul_right _ hilt;rw[Nat.add_mul]at this;omega
  have YR:ob.rows.length*Va<=cap*Va:=Nat.mul_le_mul_right _ e5;have hvl:(a.eval y).cells.toList.length=P.cellsOf t:=by rw[Array.length_toList,vl,c1]
  have RV:=run_storeCells_at P b (i*Va+k) ob.elem (a.eval y).cells.toList 0 cur w e1 (by rw[hvl];omega) v2;simp only[Nat.add_zero]at RV;refine⟨w.setRow b (cur.toList.take (i*Va+k)++(a.eval y).cells.toList++cur.toList.drop (i*Va+k+(a.eval y).cells.toList.length)).toArray,?_,?_⟩
  .unfold execOp;rw[Wv];simp only[Sem.run_bind,Instr.storeAt,hx,Instr.sureAddr,Sem.run_pure,Result.andThen_ok,storeVar,cu hk,Sem.run_ite,vl,c1,ne_eq,not_true_eq_false,if_false,RV]
  .have Xx:w.grownBy (w.setRow b (cur.toList.take (i*Va+k)++(a.eval y).cells.toList++cur.toList.drop (i*Va+k+(a.eval y).cells.toList.length)).toArray) (some b):=
    ⟨rfl,rfl,rfl,by simp,λkk _ Vz=>setRow_other w b kk _ (λe=>Vz (by rw[e]))⟩
   have V2:∀q∈ob.rows.set i r',q.cells.length=Va:=by
    intro q hq;rcases List.mem_or_eq_of_mem_set hq with hq|rfl
    .exact g1 q hq
    .rw[c4];simp;omega
   have V0:=E2 g1 h3 (k:=k) (sz:=P.cellsOf t) (xs:=V.cells ((cx F.n y).ev st.s)) (r':=r') (by omega) c4;have hch:=hs.sat.change h2 M' hz Xx _ (ob.rows.set i r') (xs.take (i*Va+k)++(a.eval y).cells.toList++xs.drop (i*Va+k+(a.eval y).cells.toList.length))
    (setRow_heap w b cur _ ob.elem _ e1) (by simp only[List.size_toArray,List.length_append,List.length_take,List.length_drop,Array.length_toList];rw[Array.length_toList]at hvl;omega) (by simpa using e5) V2
    (by rw[V0,<-c1,<-v1.length];rw[show(a.eval y).cells.toList.length=(a.eval y).cells.toList.length from rfl];exact((g2.take _).append v1).append (g2.drop _))
    (by intro u hu
        simp only[List.mem_append]at hu;rcases hu with(hu|hu)|hu
        .exact g3 u (List.mem_of_mem_take hu)
        .exact v2 u hu
        .exact g3 u (List.mem_of_mem_drop hu))
    (by intro j u hu
        have:=kr cur.toList xs _ g5 (i*Va+k) (by rw[hvl,g4];omega) j u hu;simpa using this)
   exact hs.step hch.1 (df.refl _) hch.2 (by simp) (by simp only[E'];exact⟨[],rfl,by simp[aA]⟩)
 .exact hx.elim
def gw{z:Value}(h:∀u∈z.cells.toList,u.oneCell'=true):(ofValue z).cells=z.cells.toList.map cellOf:=by
 unfold ofValue;split
 .rename_i cs;rw[if_pos (by simpa only[List.all_eq_true,Value.cells]using h)];simp[V.cells,Value.cells]
 .rename_i hz;have hc:z.cells=#[z]:=by cases z<;>simp_all [Value.cells]
  have h1:=h z (by simp[hc]);rw[hc];simpa using pQ (I:=λ_=>.dN) (ow:=λ_=>True) (w:=default) (nM z) h1
def qj{F:Fr}{st:St}{a:Act}(hs:dq F I st a w){o:Oper}{t:TypeId}(Wv:o.op=.alloc t){i:TypeInfo}{z:Value}(hz:zeroOf P t=some (i,z)):
 ∃id,st.U id=none/\∃x w' Y',(execOp a.eval o).run P w=.ok (.value x) w'/\
  dq F Y' ⟨aX st.s (o.dst.filter (·<F.n)) (.ptr id 0 0),C' st.U id ⟨t,i.size,[ofValue z]⟩⟩ (a.put o.dst x) w':=by
 obtain⟨hi,ZO,hk,Xf,SZ,TF⟩:=eL hz;have SP:=(dO hk).2.2;have SJ:=gw SZ;obtain⟨id,M',Y',h1,h2,h3,h4⟩:=hs.sat.renew (row:=none) (World.grownBy_alloc w (.cells z.cells t) none) none (.inl rfl) w.heap.size i.size 1 z.cells t [ofValue z] z.cells.toList (.inr (Nat.le_refl _))
  (heap_alloc_new w _) (by omega) (by omega) (by simp) (by simp[maxLen]) (by intro r hr;simp at hr;subst hr;rw[SJ];simp[Xf])
  (by simp only[flat,List.flatMap_cons,List.flatMap_nil,List.append_nil,SJ];exact eZ _) SZ (by intro j u hu;simpa using hu)
 refine⟨id,M',.pointer (some ⟨w.heap.size,0,none⟩),w.alloc (.cells z.cells t),Y',?_,hs.step h3 h2 h4 (by simp) (by simp[E',h1];omega)⟩;unfold execOp;rw[Wv];simp[Instr.alloc,eK hz,newVar,newRow]
def se{β:Type}(X:Nat×β->List Value)(sz:Nat):∀(ps:List (Nat×β)) (k:Nat) (l:List Value),ps.map (·.1)=List.range' k ps.length->
 (∀p∈ps,(X p).length=sz)->l.length=(k+ps.length)*sz->ps.foldl (λl p=>cc l (p.1*sz) (X p)) l=l.take (k*sz)++ps.flatMap X
 |[],k,l,_,_,hl=>by
  simp only[List.length_nil,Nat.add_zero]at hl;simp[<-hl]
 |p::ps,k,l,h,hX,hl=>by
  simp only[List.map_cons,List.length_cons,List.range'_succ,List.cons.injEq]at h;obtain⟨h1,h2⟩:=h;have hp:=hX p (by simp);simp only[List.length_cons]at hl;have hle:k*sz+sz<=l.length:=by
   rw[hl,<-Nat.add_one_mul];exact Nat.mul_le_mul_right _ (by omega)
  simp only[List.foldl_cons,List.flatMap_cons];rw[se X sz ps (k+1) _ h2 (λq hq=>hX q (by simp[hq])) (by
   rw[kg _ _ _ (by rw[h1,hp];exact hle),hl];congr 1;omega)]
  rw[h1,cc,hp,Nat.add_one_mul];have e1:(l.take (k*sz)).length=k*sz:=by simp;omega
  have e2:k*sz+sz=(l.take (k*sz)++X p).length:=by rw[List.length_append,e1,hp]
  rw[e2,List.take_left];simp
def oW{F:Fr}{st:St}{a:Act}(hs:dq F I st a w){o:Oper}{t e:TypeId}{len:Nat}{parts:Array (Nat×Operand)}(Wv:o.op=.buildSlice t len parts)
 (ht:P.underlying t=some (.slice e)){i:TypeInfo}{z:Value}(hz:zeroOf P e=some (i,z))(Ym:parts.toList.map (·.1)=List.range len)(hlen:len*i.size<=16777216)
 (hx:∀x∈parts.toList.map (λp=>(cx F.n p.2).ev st.s),x.cells.length=i.size/\x.stays=true):
 ∃id,st.U id=none/\∃x w' Y',(execOp a.eval o).run P w=.ok (.value x) w'/\
  dq F Y' ⟨aX st.s (o.dst.filter (·<F.n)) (.own id 0 len),C' st.U id ⟨e,i.size,parts.toList.map λp=>(cx F.n p.2).ev st.s⟩⟩ (a.put o.dst x) w':=by
 obtain⟨hi,ZO,hk,Xf,SZ,TF⟩:=eL hz;have SP:=(dO hk).2.2;have hl:parts.toList.length=len:=by
  have:=congrArg List.length Ym;simpa using this
 have hX:∀p∈parts.toList,((cx F.n p.2).ev st.s).cells.length=i.size/\((cx F.n p.2).ev st.s).stays=true:=λp hp=>hx _ (by
  simp only[List.mem_map];exact⟨p,hp,rfl⟩)
 have hXl:∀p∈parts.toList,(a.eval p.2).cells.toList.length=i.size:=λp hp=>by
  rw[Array.length_toList,(cM hs p.2).jd (hX p hp).2,(hX p hp).1]
 have hzero:∃Z:Array Value,(len*i.size=0->Z=#[])/\(len*i.size≠0->Z=z.cells):=by
  by_cases h0:len*i.size=0
  .exact⟨#[],λ_=>rfl,λh=>absurd h0 h⟩
  .exact⟨z.cells,λh=>absurd h h0,λ_=>rfl⟩
 obtain⟨Z,hZ0,hZ1⟩:=hzero;obtain⟨cs,e1,e2,e3⟩:=mU (λk=>some (k*i.size,i.size)) ((parts.map λ(j,x)=>(j,a.eval x)).toList) ((Array.range (len*i.size)).map (Z[·%Z.size]!)) (by
  intro p hp;simp only[Array.toList_map,List.mem_map]at hp;obtain⟨q,hq,rfl⟩:=hp;refine⟨q.1*i.size,i.size,rfl,by simpa using hXl q hq,?_⟩;have:q.1∈List.range len:=by rw[<-Ym];exact List.mem_map.2 ⟨q,hq,rfl⟩
  simp only[List.mem_range]at this;simp only[Array.size_map,Array.size_range];rw[<-Nat.add_one_mul];exact Nat.mul_le_mul_right _ this)
 have hcs:cs.toList=parts.toList.flatMap λp=>(a.eval p.2).cells.toList:=by
  have e3':=e3;simp only[Array.toList_map,List.foldl_map,Option.map_some,Option.getD_some]at e3';rw[e3'];have:=se (λp:Nat×Operand=>(a.eval p.2).cells.toList) i.size parts.toList 0 ((Array.range (len*i.size)).map (Z[·%Z.size]!)).toList
   (by rw[Ym,hl];exact List.range_eq_range') hXl (by simp[hl])
  simpa using this
 have hsize:cs.size=len*i.size:=by simpa using e2
 have UL:∀(l:List (Nat×Operand)),(∀p∈l,((cx F.n p.2).ev st.s).stays=true)->aA I (aG I st.U) w (flat (l.map λp=>(cx F.n p.2).ev st.s)) (l.flatMap λp=>(a.eval p.2).cells.toList)/\
  ∀u∈l.flatMap λp=>(a.eval p.2).cells.toList,u.oneCell'=true:=by
  intro l
  induction l with
  |nil=>intro _;simp[flat,aA]
  |cons p l ih=>
   intro h;obtain⟨g1,g2⟩:=(cM hs p.2).cells (h p (by simp));obtain⟨g3,g4⟩:=ih (λq hq=>h q (by simp[hq]));refine⟨?_,?_⟩
   .simp only[flat,List.map_cons,List.flatMap_cons]at g3|-;exact g1.append g3
   .intro u hu;simp only[List.flatMap_cons,List.mem_append]at hu;rcases hu with hu|hu
    .exact g2 u hu
    .exact g4 u hu
 obtain⟨r1,r2⟩:=UL parts.toList (λp hp=>(hX p hp).2);have hmax:len<=maxLen:=by
  have:len*1<=len*i.size:=Nat.mul_le_mul_left _ (by omega);simp only[maxLen];omega
 obtain⟨id,M',Y',h1,h2,h3,h4⟩:=hs.sat.renew (row:=none) (World.grownBy_alloc w (.cells cs e) none) none (.inl rfl) w.heap.size i.size len cs e
  (parts.toList.map λp=>(cx F.n p.2).ev st.s) cs.toList (.inr (Nat.le_refl _))
  (heap_alloc_new w _) (by omega) hsize (by simp[hl]) hmax (by intro r hr;simp only[List.mem_map]at hr;obtain⟨p,hp,rfl⟩:=hr;exact(hX p hp).1)
  (by rw[hcs];exact r1) (by rw[hcs];exact r2) (by intro j u hu;simpa using hu)
 refine⟨id,M',.slice (some ⟨w.heap.size,0,none⟩) len len,w.alloc (.cells cs e),Y',?_,hs.step h3 h2 h4 (by simp) ?_⟩
 .have e1':=e1;simp only[Array.toList_map]at e1';unfold execOp;rw[Wv];simp only[Instr.buildSlice,Sem.run_bind,run_underlying ht,Result.andThen_ok,cu hk,<-TF,Sem.run_ite];rw[if_neg (by omega)];by_cases h0:len*i.size=0
  .rw[hZ0 h0]at e1';rw[if_pos h0];simp only[Sem.run_pure,Result.andThen_ok,Array.toList_map];rw[e1'];simp[newRow]
  .rw[hZ1 h0]at e1';rw[if_neg h0];simp only[Sem.run_pure,Result.andThen_ok,Array.toList_map,eK hz];rw[e1'];simp[newRow]
 .simp only[E',h1];exact⟨0,len,rfl,Nat.le_refl _,by omega,.inl (by omega),by omega⟩
def jI(z:Array Value)(n:Nat):(Builtin.zeroCells z n).toList=(List.replicate n z.toList).flatten:=by
 induction n with
 |zero=>simp[Builtin.zeroCells]
 |succ n ih=>
  rw[List.replicate_succ',List.flatten_append,<-ih];simp only[Builtin.zeroCells,Array.toList_map,Array.toList_range];rw[Nat.add_mul,Nat.one_mul,List.range_add,List.map_append,List.map_map];congr 1;simp only[List.flatten_cons,List.flatten_nil,List.append_nil];apply List.ext_getElem
  .simp
  .intro i h1 h2;simp only[List.length_map,List.length_range]at h1;simp[Nat.add_mod,Nat.mul_mod_left,Nat.mod_eq_of_lt h1,getElem!_pos,h1]
def sV(z:V)(n:Nat):flat (List.replicate n z)=(List.replicate n z.cells).flatten:=by
 simp[flat,List.flatMap]
def ze{F:Fr}{st:St}{a:Act}(hs:dq F I st a w){o:Oper}{t e:TypeId}{l c:Operand}(Wv:o.op=.makeSlice t l c)(heq:rV l c=true)
 (ht:P.underlying t=some (.slice e)){i:TypeInfo}{z:Value}(hz:zeroOf P e=some (i,z)){m:Int}(hm:(cx F.n l).ev st.s=.int .i64 m)(h0:0<=m)
 (hb:m.toNat*(i.bytes+1)<=140737488355328):
 ∃id,st.U id=none/\∃x w' Y',(execOp a.eval o).run P w=.ok (.value x) w'/\
  dq F Y' ⟨aX st.s (o.dst.filter (·<F.n)) (.own id 0 m.toNat),C' st.U id ⟨e,i.size,List.replicate m.toNat (ofValue z)⟩⟩ (a.put o.dst x) w':=by
 obtain⟨hi,ZO,hk,Xf,SZ,TF⟩:=eL hz;have SP:=(dO hk).2.2;have SJ:=gw SZ;obtain⟨k,rfl⟩:∃k:Nat,m=k:=⟨m.toNat,by omega⟩
 simp only[Int.toNat_natCast]at hb|-;have Vq:a.eval l=.int .i64 k:=by
  have:=cM hs l;rw[hm]at this;simpa[E']using this
 have Yn:a.eval c=.int .i64 k:=by
  have:a.eval c=a.eval l:=by
   cases l<;>cases c<;>simp only[rV,Bool.false_eq_true]at heq
   case tmp.tmp x y=>
    have:x=y:=by simpa using heq
    rw[this]
   case const.const x y=>
    split at heq
    .rename_i k1 a1 k2 b1 _ _;have:=of_decide_eq_true heq;rename_i e1 e2;simp_all
    .simp_all
    .cases heq
  rw[this,Vq]
 have hkb:k*i.bytes<=140737488355328:=Nat.le_trans (Nat.mul_le_mul_left _ (by omega)) hb;have T':k<=140737488355328:=Nat.le_trans (Nat.le_mul_of_pos_right _ (by omega)) hb;have Sf:=run_make (P:=P) w t e i z ht hi ZO .i64 .i64 k k (by omega) (by omega) (by
  have:((k*i.bytes:Nat):Int)<=140737488355328:=by omega
  rw[Int.natCast_mul]at this;rw[Int.mul_comm];omega) (by omega)
 have hmade:madeCells z.cells (k*i.size)=Builtin.zeroCells z.cells k:=by rw[madeCells,Builtin.zeroCells,Xf]
 simp only[Int.toNat_natCast]at Sf;rw[hmade]at Sf;have hl:=jI z.cells k;have UL:∀n,aA I (aG I st.U) w (flat (List.replicate n (ofValue z))) (List.replicate n z.cells.toList).flatten:=by
  intro n
  induction n with
  |zero=>simp[flat,aA]
  |succ n ih=>
   simp only[List.replicate_succ,flat,List.flatMap_cons,List.flatten_cons]at ih|-;refine aA.append ?_ ih;rw[SJ];exact eZ _
 obtain⟨id,M',Y',h1,h2,h3,h4⟩:=hs.sat.renew (row:=none) (World.grownBy_alloc w (.cells (Builtin.zeroCells z.cells k) e) none) none (.inl rfl) w.heap.size i.size k (Builtin.zeroCells z.cells k) e
  (List.replicate k (ofValue z)) (Builtin.zeroCells z.cells k).toList (.inr (Nat.le_refl _))
  (heap_alloc_new w _) (by omega) (by rw[size_zeroCells,Xf]) (by simp) (by simp only[maxLen];omega) (by
    intro r hr;rw[(List.mem_replicate.1 hr).2,SJ];simp[Xf])
  (by rw[hl];exact UL k) (by
    rw[hl];intro u hu;simp only[List.mem_flatten,List.mem_replicate]at hu;obtain⟨l',⟨_,rfl⟩,hu⟩:=hu;exact SZ u hu) (by intro j u hu;simpa using hu)
 refine⟨id,M',.slice (some ⟨w.heap.size,0,none⟩) k k,w.alloc (.cells (Builtin.zeroCells z.cells k) e),Y',?_,hs.step h3 h2 h4 (by simp) ?_⟩
 .unfold execOp;rw[Wv];simp only[Vq,Yn];simp[Sf]
 .simp only[E',h1];exact⟨0,k,rfl,Nat.le_refl _,by omega,.inl (by omega),by omega⟩
variable {P:Program} {I:Mu} {ow:Nat->Prop} {w w':World}
def bR(U:ai)(sz:Nat):V->Option (List V)
 |.own id off len=>match U id with
   |some ob=>if ob.sz=sz/\off+len<=ob.rows.length then some ((ob.rows.drop off).take len)else none
   |none=>none
 |.sl UC rows=>if UC=sz then some rows else none
 |.aC=>some []
 |.str s=>if sz=1 then some (s.map λb=>.int .u8 b.toNat)else none
 |_=>none
def cg(U:ai)(e:TypeId)(sz:Nat):V->Option (List V×Option Nat)
 |.own id off len=>match U id with
   |some ob=>if ob.sz=sz/\ob.elem=e/\off=0/\len<=ob.rows.length then some (ob.rows.take len,some id)else none
   |none=>none
 |.aC=>some ([],none)
 |_=>none
def nq{w0:World}{Su:Nat->Prop}{U:ai}(TT:Sat w0 Su I U w){sz:Nat}(TF:0<sz){v:V}{x:Value}{rows:List V}(h:bR U sz v=some rows)
 (hx:E' I (aG I U) w v x):∃news,(∀w':World,(Builtin.lenOf x).run P w'=.ok rows.length w')/\(∀r∈rows,r.cells.length=sz)/\aA I (aG I U) w (flat rows) news/\(∀u∈news,u.oneCell'=true)/\
   news.length=rows.length*sz/\∀w',(∀b off u,w.cell? ⟨b,off,none⟩=some u->w'.cell? ⟨b,off,none⟩=some u)->(Builtin.firstCells sz rows.length x).run P w'=.ok news.toArray w':=by
 have hmk:∀(rs:List V) (b off:Nat) (c:Nat),aY I (aG I U) w rs b off sz->x=.slice (some ⟨b,off,none⟩) rs.length c->rs=rows->
  ∃news,(∀w':World,(Builtin.lenOf x).run P w'=.ok rows.length w')/\(∀r∈rows,r.cells.length=sz)/\aA I (aG I U) w (flat rows) news/\(∀u∈news,u.oneCell'=true)/\
  news.length=rows.length*sz/\∀w',(∀b off u,w.cell? ⟨b,off,none⟩=some u->w'.cell? ⟨b,off,none⟩=some u)->(Builtin.firstCells sz rows.length x).run P w'=.ok news.toArray w':=by
  rintro rs b off c hr rfl rfl;rw[iN]at hr;obtain⟨h1,h2⟩:=hr;obtain⟨news,h3,h4,h5⟩:=h2.BO;have hl:news.length=rs.length*sz:=by rw[h3.length,qw h1]
  refine⟨news,λ_=>rfl,h1,h3,h4,hl,λw' Yo=>?_⟩;exact run_firstCells_some (P:=P) w' sz rs.length ⟨b,off,none⟩ rs.length c news hl (λj v hv=>by rw[gg];exact Yo _ _ _ (h5 j v hv))
 have Yp:∀(a:Option Addr) (c:Nat),x=.slice a 0 c->rows=[]->
  ∃news,(∀w':World,(Builtin.lenOf x).run P w'=.ok rows.length w')/\(∀r∈rows,r.cells.length=sz)/\aA I (aG I U) w (flat rows) news/\(∀u∈news,u.oneCell'=true)/\
  news.length=rows.length*sz/\∀w',(∀b off u,w.cell? ⟨b,off,none⟩=some u->w'.cell? ⟨b,off,none⟩=some u)->(Builtin.firstCells sz rows.length x).run P w'=.ok news.toArray w':=by
  rintro a c rfl rfl;refine⟨[],λ_=>rfl,by simp,by simp[flat,aA],by simp,by simp,λw' _=>?_⟩;cases a<;>simp[Builtin.firstCells,loadCells,loadCellsFrom]
 unfold bR at h;split at h
 .rename_i id off len;split at h
  .rename_i ob Sw;split at h
   .rename_i hc;simp only[Oi]at h;simp only[E']at hx;have Te:=TT.obj id ob Sw;have hlen:rows.length=len:=by rw[<-h];simp;omega
    split at hx
    .exact hx.elim
    .obtain⟨rfl,rfl,rfl⟩:=hx;exact Yp none 0 rfl (by rw[<-h];simp)
    .rename_i b Va cap M';obtain⟨o,c,rfl,YQ,hc2,Ue,hz⟩:=hx;by_cases h0:len=0
     .subst h0;exact Yp _ c rfl (List.eq_nil_of_length_eq_zero hlen)
     .rw[M']at Te;obtain⟨g1,g2,g3,g4,g5⟩:=Te.rows hz;have ho:o=off*Va:=by
       rcases Ue with Ue|Ue
       .exact Ue
       .omega
      subst ho;have hs:Va=sz:=by omega
      subst hs;have:=(g5.drop off).take len;rw[Nat.zero_add]at this;exact hmk _ b _ c this (by rw[h,hlen]) h
   .cases h
  .cases h
 .rename_i UC Rz;split at h
  .rename_i hsz';subst hsz';simp only[Oi]at h;subst h;simp only[E']at hx;obtain⟨a,cap,rfl,hl,hr⟩:=hx;rcases hr with rfl|⟨b,off,rfl,hb,hs,hr⟩
   .exact Yp a cap rfl rfl
   .exact hmk Rz b off cap hr rfl rfl
  .cases h
 .simp only[Oi]at h;subst h;simp only[E']at hx;exact Yp none 0 hx rfl
 .rename_i s;split at h
  .rename_i h1;simp only[Oi]at h;subst h h1;simp only[E']at hx;subst hx;have hmap:∀l:List UInt8,aA I (aG I U) w (flat (l.map λb=>V.int .u8 b.toNat)) (l.map λb=>Value.int .u8 b.toNat):=by
    intro l
    induction l with
    |nil=>simp[flat,aA]
    |cons b l ih=>simp only[flat,List.map_cons,List.flatMap_cons,V.cells,List.singleton_append,aA]at ih|-;exact⟨_,_,rfl,by simp[E'],ih⟩
   refine⟨s.map λb=>Value.int .u8 b.toNat,λ_=>by simp[Builtin.lenOf,ByteArray.size],by simp[V.cells],hmap s,by simp[Value.oneCell'],by simp,λw' _=>?_⟩;have:=Lib.run_firstCells_string (P:=P) w' 1 ⟨s.toArray⟩;simpa[ByteArray.size,Lib.strCells]using this
  .cases h
 .cases h
def ru(t t' ty e:TypeId)(i:TypeInfo)(ht:P.underlying t=some (.slice e))(Zl:t'=t\/P.underlying t'=some .string)(hi:P.info? e=some i)
 (b TU VA:Nat)(cur:Array Value)(hg:w.heap[b]?=some (.cells cur e (0,0)))(Y:Value)(n:Nat)(news:List Value)(hl:(Builtin.lenOf Y).run P w=.ok n w)
 (hf:(Builtin.firstCells i.size n Y).run P w=.ok news.toArray w)(h1:∀u∈news,u.oneCell'=true)
 (Xy:TU+n<=VA)(Ul:TU*i.size+news.length<=cur.size):
 (Builtin.append_ #[t,t'] ty #[.slice (some ⟨b,0,none⟩) TU VA,Y]).run P w=
   .ok (.slice (some ⟨b,0,none⟩) (TU+n) VA) (w.setRow b (cur.toList.take (TU*i.size)++news++cur.toList.drop (TU*i.size+news.length)).toArray):=by
 have RV:=run_storeCells_at P b (TU*i.size) e news 0 cur w hg (by simpa using Ul) h1;simp only[Nat.add_zero]at RV;rcases Zl with rfl|Zl
 .simp[Builtin.append_,run_underlying ht,sizeOf,typeInfo,hi,hl,Xy,hf,Addr.add_lit,RV]
 .simp[Builtin.append_,run_underlying ht,run_underlying Zl,sizeOf,typeInfo,hi,hl,Xy,hf,Addr.add_lit,RV]
def ud(t t' ty e:TypeId)(i:TypeInfo)(z:Value)(ht:P.underlying t=some (.slice e))(Zl:t'=t\/P.underlying t'=some .string)(hi:P.info? e=some i)(hz:i.zero=some z)
 (ba:Option Addr)(TU VA:Nat)(VB:List Value)(Ws:(Builtin.firstCells i.size TU (.slice ba TU VA)).run P w.drew=.ok VB.toArray w.drew)
 (Y:Value)(n:Nat)(news:List Value)(hl:(Builtin.lenOf Y).run P w=.ok n w)(hf:(Builtin.firstCells i.size n Y).run P w.drew=.ok news.toArray w.drew)
 (hg:VA<TU+n)(h63:((TU+n:Nat):Int)<=9223372036854775807)(Ul:Builtin.nextslicecap (TU+n) VA*i.bytes<=281474976710656):
 (Builtin.append_ #[t,t'] ty #[.slice ba TU VA,Y]).run P w=
   .ok (.slice (some ⟨w.heap.size,0,none⟩) (TU+n) (grownCap w (TU+n) VA e))
    (w.drew.alloc (.cells (VB.toArray++news.toArray++Builtin.zeroCells z.cells (grownCap w (TU+n) VA e-(TU+n))) e)):=by
 have hn:¬(TU+n<=VA):=by omega
 have h63':¬(9223372036854775807<((TU:Int)+(n:Int))):=by omega
 have h48':¬(281474976710656<Builtin.nextslicecap (TU+n) VA*i.bytes):=by omega
 rcases Zl with rfl|Zl
 .simp[Builtin.append_,run_underlying ht,sizeOf,typeInfo,zeroValue,hi,hz,hl,hn,h63',h48',Question.forced,hf,Ws,newRow,grownCap];congr 2;apply Array.ext';simp[List.append_assoc]
 .simp[Builtin.append_,run_underlying ht,run_underlying Zl,sizeOf,typeInfo,zeroValue,hi,hz,hl,hn,h63',h48',Question.forced,hf,Ws,newRow,grownCap];congr 2;apply Array.ext';simp[List.append_assoc]
def pd{rows:List V}{sz:Nat}(h:∀r∈rows,r.cells.length=sz)(k:Nat):flat (rows.take k)=(flat rows).take (k*sz):=by
 induction rows generalizing k with
 |nil=>simp[flat]
 |cons r rs ih=>
  have e:∀l,flat (r::l)=r.cells++flat l:=λl=>by simp[flat]
  cases k with
  |zero=>simp[flat]
  |succ k=>
   rw[List.take_succ_cons,e,e,ih (λx hx=>h x (by simp[hx])),Nat.add_mul,Nat.one_mul,Nat.add_comm,<-h r (by simp),List.take_length_add_append]
def oz{F:Fr}{st:St}{a:Act}(hs:dq F I st a w){o:Oper}{t t' e:TypeId}{x y:Operand}{args:Array Operand}{argTypes:Array TypeId}
 (Wv:o.op=.call { callee:=.builtin .append,args:=args,argTypes:=argTypes })(Sp:args=#[x,y])(W1:argTypes=#[t,t'])(Zl:t'=t\/P.underlying t'=some .string)(ht:P.underlying t=some (.slice e))
 {i:TypeInfo}{z:Value}(hz:zeroOf P e=some (i,z)){base src:List V}{RN:Option Nat}
 (hd:cg st.U e i.size ((cx F.n x).ev st.s)=some (base,RN))(Yq:bR st.U i.size ((cx F.n y).ev st.s)=some src)
 (hbytes:(base.length+src.length)*(i.bytes+1)<=140737488355328):
 ∃id,st.U id=none/\∃r w' Y',(execOp a.eval o).run P w=.ok (.value r) w'/\
  dq F Y' ⟨aX st.s (o.dst.filter (·<F.n)) (.own id 0 (base.length+src.length)),C' (bK st.U RN) id ⟨e,i.size,base++src⟩⟩ (a.put o.dst r) w':=by
 obtain⟨hi,ZO,hk,Xf,SZ,hszc⟩:=eL hz;have SP:0<i.size:=by rw[hszc];exact(dO hk).2.2
 have hbytes1:(base.length+src.length)*i.bytes<=140737488355328:=Nat.le_trans (Nat.mul_le_mul_left _ (by omega)) hbytes;have hbytes2:base.length+src.length<=140737488355328:=Nat.le_trans (Nat.le_mul_of_pos_right _ (by omega)) hbytes;obtain⟨news,hY,n1,n2,n3,n4,n5⟩:=nq (P:=P) hs.sat SP Yq (cM hs y);have hexec:∀r w',(Builtin.append_ #[t,t'] o.type #[a.eval x,a.eval y]).run P w=.ok r w'->(execOp a.eval o).run P w=.ok (.value r) w':=by
  intro r w' h;unfold execOp;rw[Wv];subst Sp W1;simp[resolve,invoke,Go.builtin,h]
 have hdrew:∀b off u,w.cell? ⟨b,off,none⟩=some u->w.drew.cell? ⟨b,off,none⟩=some u:=λ_ _ _ h=>h;have h63:base.length+src.length<=maxLen:=by simp only[maxLen];omega
 have h63':((base.length+src.length:Nat):Int)<=9223372036854775807:=by omega
 have hnew:∀(RN:Option Nat) (ba:Option Addr) (old:Nat) (VB:List Value),old<base.length+src.length->a.eval x=.slice ba base.length old->
  (Builtin.firstCells i.size base.length (.slice ba base.length old)).run P w.drew=.ok VB.toArray w.drew->VB.length=base.length*i.size->
  (∀r∈base,r.cells.length=i.size)->aA I (aG I st.U) w (flat base) VB->(∀u∈VB,u.oneCell'=true)->
  ∃id,st.U id=none/\∃r w' Y',(execOp a.eval o).run P w=.ok (.value r) w'/\
   dq F Y' ⟨aX st.s (o.dst.filter (·<F.n)) (.own id 0 (base.length+src.length)),C' (bK st.U RN) id ⟨e,i.size,base++src⟩⟩ (a.put o.dst r) w':=by
  intro RN ba old VB hold hX Ws hol Ww Sx hb3;have Sf:=ud (P:=P) (w:=w) t t' o.type e i z ht Zl hi ZO ba base.length old VB Ws (a.eval y) src.length news (hY w) (n5 w.drew hdrew) hold h63' (growslice_fits hold hbytes1);rw[<-hX]at Sf;have We:=grownCap_ge w (base.length+src.length) old e;have hle:=grownCap_le_maxLen w (base.length+src.length) old e h63;have hlen2:(VB.toArray++news.toArray++Builtin.zeroCells z.cells (grownCap w (base.length+src.length) old e-(base.length+src.length))).size=grownCap w (base.length+src.length) old e*i.size:=by
   simp only[Array.size_append,List.size_toArray,size_zeroCells,Xf,hol,n4,<-Nat.add_mul];congr 1;omega
  obtain⟨id,M',Y',g1,g2,g3,g4⟩:=hs.sat.renew (row:=none)
   (w':=w.drew.alloc (.cells (VB.toArray++news.toArray++Builtin.zeroCells z.cells (grownCap w (base.length+src.length) old e-(base.length+src.length))) e))
   ⟨rfl,rfl,rfl,by simp,λk hk _=>heap_alloc_old w.drew _ k hk⟩ RN (.inl rfl) w.heap.size i.size (grownCap w (base.length+src.length) old e) _ e (base++src) (VB++news)
   (.inr (Nat.le_refl _)) (heap_alloc_new w.drew _) SP hlen2 (by simpa using We) hle
   (by intro r hr;rcases List.mem_append.1 hr with hr|hr;exact Ww r hr;exact n1 r hr) (by rw[gO];exact Sx.append n2)
   (by intro u hu;rcases List.mem_append.1 hu with hu|hu;exact hb3 u hu;exact n3 u hu)
   (by intro j u hu
       have hj:=(List.getElem?_eq_some_iff.1 hu).1;rw[<-Array.getElem?_toList];simp only[Array.toList_append];rw[List.getElem?_append_left (by simpa using hj)];exact hu)
  refine⟨id,M',_,_,Y',hexec _ _ Sf,hs.step g3 g2 g4 (by simp) ?_⟩;simp only[E',g1];exact⟨0,_,rfl,We,by omega,.inl (by omega),by omega⟩
 have Yp:a.eval x=.slice none 0 0->base=[]->∃id,st.U id=none/\∃r w' Y',(execOp a.eval o).run P w=.ok (.value r) w'/\
  dq F Y' ⟨aX st.s (o.dst.filter (·<F.n)) (.own id 0 (base.length+src.length)),C' (bK st.U RN) id ⟨e,i.size,base++src⟩⟩ (a.put o.dst r) w':=by
  rintro hX rfl;by_cases h0:src.length=0
  .have hsrc0:src=[]:=List.eq_nil_of_length_eq_zero h0;subst hsrc0;obtain⟨id,M',Y',g1,g2,g3,g4⟩:=hs.sat.Fp RN e i.size;have hf:=n5 w (λ_ _ _ h=>h);refine⟨id,M',.slice none 0 0,w,Y',hexec _ _ ?_,hs.step g3 g2 g4 (Nat.le_refl _) (by simp[E',g1])⟩;rw[hX];have hl:=hY w;simp only[List.length_nil]at hf hl|-;rcases Zl with rfl|Zl
   .simp[Builtin.append_,run_underlying ht,sizeOf,typeInfo,hi,hl,hf]
   .simp[Builtin.append_,run_underlying ht,run_underlying Zl,sizeOf,typeInfo,hi,hl,hf]
  .exact hnew RN none 0 [] (by simp;omega) hX (by simp[Builtin.firstCells]) (by simp) (by simp) (by simp[flat,aA]) (by simp)
 have hx:=cM hs x;unfold cg at hd;split at hd
 .rename_i id off len hxv;rw[hxv]at hx;split at hd
  .rename_i ob Sw;split at hd
   .rename_i hc;obtain⟨c1,c2,rfl,c4⟩:=hc;simp only[Oi,Prod.mk.injEq]at hd;obtain⟨rfl,rfl⟩:=hd;have Te:=hs.sat.obj id ob Sw;simp only[E']at hx;split at hx
    .exact hx.elim
    .rename_i M';obtain⟨hX,_,rfl⟩:=hx;exact Yp hX (by simp)
    .rename_i b Va cap M';obtain⟨VZ,c,hX,YQ,hc2,Ue,hz⟩:=hx;have ho:VZ=0:=by
      rcases Ue with Ue|Ue
      .simpa using Ue
      .exact absurd rfl Ue.2
     subst ho;rw[M']at Te;obtain⟨cur,e1,e2,e3,e4,e5,e6,e7⟩:=Te.plain hz;obtain⟨q1,xs,q2,q3,q4,q5⟩:=e7.cur e1;rw[c2]at e1;have hszb:Va=i.size:=by omega
     subst hszb;have SD:(ob.rows.take len).length=len:=by simp;omega
     have holen:(xs.take (len*i.size)).length=len*i.size:=by
      rw[List.length_take,q4];exact Nat.min_eq_left (Nat.mul_le_mul_right _ c4)
     have Ww:∀r∈ob.rows.take len,r.cells.length=i.size:=λr hr=>q1 r (List.mem_of_mem_take hr);have Sx:aA I (aG I st.U) w (flat (ob.rows.take len)) (xs.take (len*i.size)):=by rw[pd q1];exact q2.take _
     have hb3:∀u∈xs.take (len*i.size),u.oneCell'=true:=λu hu=>q3 u (List.mem_of_mem_take hu);have Wu:∀(j:Nat) u,(xs.take (len*i.size))[j]?=some u->cur.toList[j]?=some u:=by
      intro j u hu;rw[List.getElem?_take]at hu;split at hu
      .exact q5 j u hu
      .cases hu
     by_cases Xy:len+src.length<=c
     .have Yk:len+src.length<=cap:=by omega
      have Ul:len*i.size+news.length<=cur.size:=by rw[n4,e4,<-Nat.add_mul];exact Nat.mul_le_mul_right _ Yk
      have hf:=n5 w (λ_ _ _ h=>h);have Sf:=ru (P:=P) (w:=w) t t' o.type e i ht Zl hi b len c cur e1 (a.eval y) src.length news (hY w) hf n3 Xy Ul;rw[<-hX]at Sf;obtain⟨Tx,W4,Y',g1,g2,g3,g4⟩:=hs.sat.renew (row:=some b)
       (w':=w.setRow b (cur.toList.take (len*i.size)++news++cur.toList.drop (len*i.size+news.length)).toArray)
       ⟨rfl,rfl,rfl,by simp,λk hk Vz=>setRow_other w b k _ (λe=>Vz (by rw[e]))⟩ (some id) (.inr ⟨id,ob,i.size,cap,b,rfl,Sw,M',rfl⟩) b i.size cap _ e (ob.rows.take len++src)
       (xs.take (len*i.size)++news) (.inl rfl) (setRow_heap w b cur _ e _ e1) e3
       (by simp only[List.size_toArray,List.length_append,List.length_take,List.length_drop,Array.length_toList];omega) (by rw[List.length_append,SD];exact Yk) e6
       (by intro r hr;rcases List.mem_append.1 hr with hr|hr;exact Ww r hr;exact n1 r hr) (by rw[gO];exact Sx.append n2)
       (by intro u hu;rcases List.mem_append.1 hu with hu|hu;exact hb3 u hu;exact n3 u hu)
       (by intro j u hu
           have hj:=(List.getElem?_eq_some_iff.1 hu).1;have htake:cur.toList.take (len*i.size)=xs.take (len*i.size):=by
            apply List.ext_getElem?;intro k;by_cases hk:k<len*i.size
            .have hkx:k<(xs.take (len*i.size)).length:=by omega
             rw[List.getElem?_eq_getElem hkx,List.getElem?_take_of_lt hk];exact Wu k _ (List.getElem?_eq_getElem hkx)
            .rw[List.getElem?_eq_none (by simp;omega),List.getElem?_eq_none (by omega)]
           rw[<-Array.getElem?_toList];simp only[];rw[htake,List.getElem?_append_left (by simpa using hj)];exact hu)
      rw[SD];refine⟨Tx,W4,_,_,Y',hexec _ _ Sf,hs.step g3 g2 g4 (by simp) ?_⟩;simp only[E',g1];exact⟨0,c,rfl,Xy,by omega,.inl (by omega),by omega⟩
     .refine hnew (some id) (some ⟨b,0,none⟩) c (xs.take (len*i.size)) (by rw[SD];omega) (by rw[SD];exact hX) ?_ (by rw[SD];exact holen) Ww Sx hb3;rw[SD];refine run_firstCells_some (P:=P) w.drew i.size len ⟨b,0,none⟩ len c _ holen (λj u hu=>?_);rw[gg,Nat.zero_add,World.cell?_drew,cell_of_row w b j cur e (0,0) e1];simpa using Wu j u hu
   .cases hd
  .cases hd
 .rename_i hxv;rw[hxv]at hx;simp only[Oi,Prod.mk.injEq]at hd;obtain⟨rfl,rfl⟩:=hd;simp only[E']at hx;exact Yp hx rfl
 .cases hd
def tV{F:Fr}{st:St}{a:Act}(hs:dq F I st a w){o:Oper}{t tn e:TypeId}{kn:IntKind}{x y:Operand}{args:Array Operand}{argTypes:Array TypeId}
 (Wv:o.op=.call { callee:=.builtin .append,args:=args,argTypes:=argTypes })(Sp:args=#[x,y])(W1:argTypes=#[t,tn])(ht:P.underlying t=some (.slice e))(htn:P.underlying tn=some (.int kn))
 {i:TypeInfo}{z:Value}(hz:zeroOf P e=some (i,z))(hx:(cx F.n x).ev st.s=.aC){kq:IntKind}{m:Int}(hm:(cx F.n y).ev st.s=.int kq m)(h0:0<m)
 (hb:m.toNat*(i.bytes+1)<=140737488355328):
 ∃id,st.U id=none/\∃r w' Y',(execOp a.eval o).run P w=.ok (.value r) w'/\
  dq F Y' ⟨aX st.s (o.dst.filter (·<F.n)) (.own id 0 m.toNat),C' st.U id ⟨e,i.size,List.replicate m.toNat (ofValue z)⟩⟩ (a.put o.dst r) w':=by
 obtain⟨hi,ZO,hk,Xf,SZ,hszc⟩:=eL hz;have SP:0<i.size:=by rw[hszc];exact(dO hk).2.2
 have SJ:=gw SZ;obtain⟨k,rfl⟩:∃k:Nat,m=k:=⟨m.toNat,by omega⟩
 simp only[Int.toNat_natCast]at hb|-;have hkb:k*i.bytes<=140737488355328:=Nat.le_trans (Nat.mul_le_mul_left _ (by omega)) hb;have T':k<=140737488355328:=Nat.le_trans (Nat.le_mul_of_pos_right _ (by omega)) hb;have hX:a.eval x=.slice none 0 0:=by
  have:=cM hs x;rw[hx]at this;simpa[E']using this
 have hY:a.eval y=.int kq k:=by
  have:=cM hs y;rw[hm]at this;simpa[E']using this
 have Sf:=Lib.run_append_grow_zeros (P:=P) w t tn o.type e i z kq kn ht htn hi ZO none 0 0 [] (run_firstCells_none w.drew i.size 0 0 0) k (by omega) SP (by omega) (by omega) (by omega)
  (growslice_fits (by omega) (by rw[Nat.zero_add];exact hkb))
 rw[<-hX,<-hY,Nat.zero_add]at Sf;have We:=grownCap_ge w k 0 e;have hle:=grownCap_le_maxLen w k 0 e (by simp only[maxLen];omega);have hl:=jI z.cells k;have UL:∀n,aA I (aG I st.U) w (flat (List.replicate n (ofValue z))) (List.replicate n z.cells.toList).flatten:=by
  intro n
  induction n with
  |zero=>simp[flat,aA]
  |succ n ih=>
   simp only[List.replicate_succ,flat,List.flatMap_cons,List.flatten_cons]at ih|-;refine aA.append ?_ ih;rw[SJ];exact eZ _
 obtain⟨id,M',Y',g1,g2,g3,g4⟩:=hs.sat.renew (row:=none)
  (w':=w.drew.alloc (.cells (([]:List Value).toArray++Builtin.zeroCells z.cells k++Builtin.zeroCells z.cells (grownCap w k 0 e-k)) e))
  ⟨rfl,rfl,rfl,by simp,λk hk _=>heap_alloc_old w.drew _ k hk⟩ none (.inl rfl) w.heap.size i.size (grownCap w k 0 e) _ e (List.replicate k (ofValue z)) (Builtin.zeroCells z.cells k).toList
  (.inr (Nat.le_refl _)) (heap_alloc_new w.drew _) SP (by
    simp only[Array.size_append,List.size_toArray,size_zeroCells,Xf,List.length_nil,Nat.zero_add,<-Nat.add_mul];congr 1;omega) (by simpa using We) hle
  (by
    intro r hr;rw[(List.mem_replicate.1 hr).2,SJ];simp[Xf]) (by rw[hl];exact UL k)
  (by
    rw[hl];intro u hu;simp only[List.mem_flatten,List.mem_replicate]at hu;obtain⟨l',⟨_,rfl⟩,hu⟩:=hu;exact SZ u hu)
  (by
    intro j u hu;have hj:=(List.getElem?_eq_some_iff.1 hu).1;rw[<-Array.getElem?_toList];simp only[Array.toList_append,List.nil_append];rw[List.getElem?_append_left hj];exact hu)
 refine⟨id,M',.slice (some ⟨w.heap.size,0,none⟩) k (grownCap w k 0 e),_,Y',?_,hs.step g3 g2 g4 (by simp) ?_⟩
 .unfold execOp;rw[Wv];subst Sp W1;simp[resolve,invoke,Go.builtin,Sf]
 .simp only[E',g1];exact⟨0,_,rfl,We,by omega,.inl (by omega),by omega⟩
end Go.Vc
