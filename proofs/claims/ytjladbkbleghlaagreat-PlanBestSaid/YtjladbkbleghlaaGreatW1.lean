/- Part 1 of the library of this proof. -/
import Derived.Calls
import Derived.Below
import Derived.Laws.AppendOwn
import Derived.Tactics
import Derived.ChangeKeysEq
import Derived.Orders
import Derived.Laws.MakeOwn
import Derived.Lib.AppendZerosOnto
import Derived.Lib.AppendStr
set_option linter.all false
set_option maxHeartbeats 8000000
namespace Go.Vc
def Oi{α:Type _}(a b:α):(some a=some b)=(a=b):=Option.some.injEq a b
def Ba(a b:Bool):((a&&b)=true)=(a=true/\b=true):=Bool.and_eq_true a b
def Ph:=@List.take_succ_eq_append_getElem
def ML:=@List.getElem_mem
def Md:=@Nat.le_refl
def Nz:=@decide_eq_false
def NA:=@decide_eq_true
def MM:=@List.length_cons
def Oy:=@List.getElem?_eq_getElem
def Og:=@Array.getD_eq_getD_getElem?
def Vd:=@Option.map_eq_some_iff
def NV:=@decide_eq_true_eq
def iY:=@List.drop_eq_getElem_cons
def eU:=@List.length_map
def qn:=@List.getElem?_eq_some_iff
def iG:=@Bool.false_eq_true
def dI:=@List.mem_cons
def gX:=@Int.toNat_natCast
def fq:=@List.mem_append
def fa:=@List.all_eq_true
def fb:=@List.map_cons
def pj:=@List.take_of_length_le
def kf:=@List.length_append
def lQ:=@Array.getElem?_eq_some_iff
def kP:=@List.take_length
def nB:=@List.length_take
def gM:=@List.map_append
def yi:=@List.getD_eq_getElem?_getD
def rE:=@List.eq_nil_of_length_eq_zero
def uW:=@List.all_cons
def lU:=@List.append_assoc
def nx:=@List.foldl_cons
def ky:=@Nat.zero_add
def nE:=@List.nil_append
def jH:=@Bool.or_eq_true
def xF:=@List.take_succ_cons
def qv:=@List.getElem?_eq_none
def kC:=@List.append_nil
def aI:=@if_pos
def aJ:=@if_neg
def Gg:=@List.getElem?_append_left
def IF:=@List.getElem?_append_right
def tq:=@List.getElem?_map
def Dc:=@List.length_drop
def jI:=@List.mem_singleton
def yK:=@List.take_append_drop
def uN:=@List.drop_length
def yQ:=@List.foldl_append
def GG:=@List.take_add_one
def uZ:=@List.mem_of_mem_take
def F6:=@List.getElem?_drop
def zy:=@List.drop_zero
def gO:=@List.mem_map
def Fk:=@List.getElem?_cons_zero
def EO:=@List.getElem?_cons_succ
def CZ:=@List.drop_eq_nil_of_le
def Cp:=@List.mem_of_getElem?
def y9:=@List.length_pos_iff
def ly:=@Nat.le_trans
def ze:=@Nat.add_comm
def D1:=@List.any_eq_true
def Is:=@List.getElem?_append
def u9:=@List.flatMap_cons
def ve:=@List.mem_filter
def Jy:=@List.take_append_of_le_length
def Dp:=@List.drop_append_of_le_length
def IY:=@List.drop_succ_cons
def Ea:=@List.getElem?_of_mem
def aX:=@Oi
def LH{p:Prop}(h:p:=by omega):p=True:=eq_true h
def Ly{p:Prop}(h:¬p:=by omega):p=False:=eq_false h
inductive V where
 |undef
 |int (k:IntKind) (n:Int)
 |bool (b:Bool)
 |str (s:List UInt8)
 |bz
 |sl (sz:Nat) (rows:List V)
 |own (id off len:Nat)
 |ptr (id i k:Nat)
 |rp (v:V)
 |O2
 |fn (f:FuncId) (caps:List V)
 |bm (f:FuncId) (first:List V)
 |MN
 |iface (t:TypeId) (v:V)
 |MO
 |agg (cells:List V)
 |LI (vs:List V)
 |raw (v:Value)
 |obj (o:Obj)
 |gp (id:Nat)
 |yl (id:Nat)
 |mp (id:Nat)
 deriving Inhabited
inductive Pl where
 |dJ
 |nil
 |Mk (b sz cap:Nat)
abbrev Mu:=Nat->Pl
structure Ob where
 elem:TypeId
 sz:Nat
 rows:List V
abbrev ag:=Nat->Option Ob
def V.cells:V->List V
 |.agg vs=>vs
 |v=>[v]
mutual
def C'(I:Mu)(ow:Nat->Prop)(w:World):V->Value->Prop
 |.undef,_=>True
 |.int k n,x=>x=.int k n
 |.bool b,x=>x=.bool b
 |.str s,x=>x=.string ⟨s.toArray⟩
 |.bz,x=>x=.slice none 0 0
 |.sl sz rows,x=>∃a cap,x=.slice a rows.length cap/\rows.length<=cap/\
   (rows=[]\/∃b off,a=some ⟨b,off,none⟩/\¬ow b/\0<sz/\aY I ow w rows b off sz)
 |.own id off len,x=>match I id with
   |.dJ=>False
   |.nil=>x=.slice none 0 0/\off=0/\len=0
   |.Mk b sz cap=>∃o c,x=.slice (some ⟨b,o,none⟩) len c/\len<=c/\off+c<=cap/\(o=off*sz\/c=0/\off≠0)/\0<sz
 |.ptr id i k,x=>match I id with
   |.Mk b sz _=>x=.pointer (some ⟨b,i*sz+k,none⟩)/\0<sz
   |_=>False
 |.rp v,x=>∃b off,x=.pointer (some ⟨b,off,none⟩)/\b<w.heap.size/\(v.cells=[]\/¬ow b)/\bu I ow w v b off
 |.O2,x=>x=.pointer none
 |.fn f caps,x=>∃Lz,x=.func (.func f) #[] ⟨Lz⟩/\ax I ow w caps Lz
 |.bm f first,x=>∃Lz,x=.func (.func f) ⟨Lz⟩ #[]/\ax I ow w first Lz
 |.MN,x=>x=.nilFunc
 |.iface t v,x=>∃y,x=.iface t y/\C' I ow w v y
 |.MO,x=>x=.nilIface
 |.agg vs,x=>∃Lz,x=.agg ⟨Lz⟩/\ax I ow w vs Lz/\∀u∈Lz,u.oneCell'=true
 |.LI vs,x=>∃Lz,x=.tuple ⟨Lz⟩/\ax I ow w vs Lz
 |.raw v,x=>x=v
 |.obj _,_=>False
 |.gp id,x=>match I id with
   |.Mk b 0 _=>x=.pointer (some ⟨b,0,none⟩)
   |_=>False
 |.yl id,x=>match I id with
   |.Mk b 0 _=>x=.func (.yield b) #[] #[]
   |_=>False
 |.mp id,x=>match I id with
   |.Mk b 0 _=>x=.map (some b)
   |_=>False
/-- one by one -/
def ax(I:Mu)(ow:Nat->Prop)(w:World):List V->List Value->Prop
 |[],l=>l=[]
 |v::vs,l=>∃x xs,l=x::xs/\C' I ow w v x/\ax I ow w vs xs
/-- cells,one behind the other -/
def aO(I:Mu)(ow:Nat->Prop)(w:World):List V->Nat->Nat->Prop
 |[],_,_=>True
 |v::vs,b,off=>(∃x,w.cell? ⟨b,off,none⟩=some x/\C' I ow w v x/\x.oneCell'=true)/\aO I ow w vs b (off+1)
/-- an element -/
def bu(I:Mu)(ow:Nat->Prop)(w:World):V->Nat->Nat->Prop
 |.agg vs,b,off=>aO I ow w vs b off
 |v,b,off=>∃x,w.cell? ⟨b,off,none⟩=some x/\C' I ow w v x/\x.oneCell'=true
/-- elements,one behind the other -/
def aY(I:Mu)(ow:Nat->Prop)(w:World):List V->Nat->Nat->Nat->Prop
 |[],_,_,_=>True
 |r::rs,b,off,sz=>r.cells.length=sz/\bu I ow w r b off/\aY I ow w rs b (off+sz) sz
end
def ed(I:Mu)(ow:Nat->Prop)(w:World)(v:V)(b off:Nat):bu I ow w v b off↔aO I ow w v.cells b off:=by
 cases v<;>simp[bu,aO,V.cells]
def cU(I Y':Mu):Prop:=∀id,I id≠.dJ->Y' id=I id
def cU.refl(I:Mu):cU I I:=λ_ _=>rfl
def cU.trans{I Y' Y'':Mu}(h:cU I Y')(h':cU Y' Y''):cU I Y'':=λid Ls=>by
 have e:=h id Ls;rw[h' id (by rw[e];exact Ls),e]
def cS(ow Nn:Nat->Prop)(w w':World):Prop:=∀b,b<w.heap.size->¬ow b->¬Nn b/\w'.heap[b]?=w.heap[b]?
def oT(ow Nn:Nat->Prop)(w w':World):Prop:=∀b,(∃off x,w.cell? ⟨b,off,none⟩=some x)->¬ow b->¬Nn b/\∀(off:Nat) (x:Value),w.cell? ⟨b,off,none⟩=some x->w'.cell? ⟨b,off,none⟩=some x
def eL{w w':World}{b:Nat}(h:w'.heap[b]?=w.heap[b]?)(off:Nat)(x:Value)(hx:w.cell? ⟨b,off,none⟩=some x):w'.cell? ⟨b,off,none⟩=some x:=by
 rw[World.cell?_of_block (w:=w) (w':=w') (a:=⟨b,off,none⟩) h];exact hx
def cS.toC{ow Nn:Nat->Prop}{w w':World}(h:cS ow Nn w w'):oT ow Nn w w':=λb ⟨off,x,hx⟩ hn=>by
 have hb:b<w.heap.size:=World.block_lt_of_cell? w _ hx;exact⟨(h b hb hn).1,eL (h b hb hn).2⟩
section
variable {I Y':Mu} {ow Nn:Nat->Prop} {w w':World} (hm:cU I Y') (hk:oT ow Nn w w') (hz:w.heap.size<=w'.heap.size)
include hm hk hz
mutual
def C'.bO:∀(v:V) (x:Value),C' I ow w v x->C' Y' Nn w' v x
 |.undef,_,_=>by simp[C']
 |.int k n,x,h=>by simpa[C']using h
 |.bool b,x,h=>by simpa[C']using h
 |.str s,x,h=>by simpa[C']using h
 |.bz,x,h=>by simpa[C']using h
 |.sl sz rows,x,h=>by
  simp only[C']at h|-;obtain⟨a,cap,hx,hl,hr⟩:=h;refine⟨a,cap,hx,hl,?_⟩;rcases hr with hr|⟨b,off,ha,hb,hs,hr⟩
  .exact .inl hr
  .cases rows with
   |nil=>exact .inl rfl
   |cons r rs=>
    have Lr:∃o y,w.cell? ⟨b,o,none⟩=some y:=by
     have h2:=hr;simp only[aY]at h2;obtain⟨h1,h2,_⟩:=h2;rw[ed]at h2;cases hc:r.cells with
     |nil=>rw[hc]at h1;simp at h1;omega
     |cons c cs=>
      rw[hc]at h2;simp only[aO]at h2;obtain⟨⟨y,hy,_⟩,_⟩:=h2;exact⟨_,y,hy⟩
    exact .inr ⟨b,off,ha,(hk b Lr hb).1,hs,aY.bO (r::rs) b off sz (hk b Lr hb).2 hr⟩
 |.own id off len,x,h=>by
  simp only[C']at h|-;cases Ls:I id with
  |dJ=>rw[Ls]at h;exact h.elim
  |nil=>rw[hm id (by rw[Ls];simp)];exact h
  |Mk b sz cap=>rw[hm id (by rw[Ls];simp)];exact h
 |.ptr id i k,x,h=>by
  simp only[C']at h|-;cases Ls:I id with
  |dJ=>rw[Ls]at h;exact h.elim
  |nil=>rw[Ls]at h;exact h.elim
  |Mk b sz cap=>rw[hm id (by rw[Ls];simp)];exact h
 |.rp v,x,h=>by
  simp only[C']at h|-;obtain⟨b,off,hx,Lr,hb,hr⟩:=h;refine⟨b,off,hx,Nat.lt_of_lt_of_le Lr hz,?_⟩;cases hc:v.cells with
  |nil=>
   refine⟨.inl rfl,?_⟩;rw[ed,hc];simp[aO]
  |cons c cs=>
   have h2:=hr;rw[ed,hc]at h2;simp only[aO]at h2;obtain⟨⟨y,hy,_⟩,_⟩:=h2;have MD:=hk b ⟨_,y,hy⟩ (hb.resolve_left (by rw[hc];simp));exact⟨.inr MD.1,bu.bO v b off MD.2 hr⟩
 |.O2,x,h=>by simpa[C']using h
 |.fn f caps,x,h=>by
  simp only[C']at h|-;obtain⟨Lz,hx,hr⟩:=h;exact⟨Lz,hx,ax.bO caps Lz hr⟩
 |.bm f caps,x,h=>by
  simp only[C']at h|-;obtain⟨Lz,hx,hr⟩:=h;exact⟨Lz,hx,ax.bO caps Lz hr⟩
 |.MN,x,h=>by simpa[C']using h
 |.iface t v,x,h=>by
  simp only[C']at h|-;obtain⟨y,hx,hr⟩:=h;exact⟨y,hx,C'.bO v y hr⟩
 |.MO,x,h=>by simpa[C']using h
 |.agg vs,x,h=>by
  simp only[C']at h|-;obtain⟨Lz,hx,hr,h1⟩:=h;exact⟨Lz,hx,ax.bO vs Lz hr,h1⟩
 |.LI vs,x,h=>by
  simp only[C']at h|-;obtain⟨Lz,hx,hr⟩:=h;exact⟨Lz,hx,ax.bO vs Lz hr⟩
 |.raw v,x,h=>by simpa[C']using h
 |.obj o,x,h=>by simp[C']at h
 |.gp id,x,h=>by
  simp only[C']at h|-;cases Ls:I id with
  |dJ=>rw[Ls]at h;exact h.elim
  |nil=>rw[Ls]at h;exact h.elim
  |Mk b sz cap=>rw[hm id (by rw[Ls];simp)];exact h
 |.yl id,x,h=>by
  simp only[C']at h|-;cases Ls:I id with
  |dJ=>rw[Ls]at h;exact h.elim
  |nil=>rw[Ls]at h;exact h.elim
  |Mk b sz cap=>rw[hm id (by rw[Ls];simp)];exact h
 |.mp id,x,h=>by
  simp only[C']at h|-;cases Ls:I id with
  |dJ=>rw[Ls]at h;exact h.elim
  |nil=>rw[Ls]at h;exact h.elim
  |Mk b sz cap=>rw[hm id (by rw[Ls];simp)];exact h
def ax.bO:∀(vs:List V) (l:List Value),ax I ow w vs l->ax Y' Nn w' vs l
 |[],l,h=>by simpa[ax]using h
 |v::vs,l,h=>by
  simp only[ax]at h|-;obtain⟨x,xs,hx,h1,h2⟩:=h;exact⟨x,xs,hx,C'.bO v x h1,ax.bO vs xs h2⟩
def aO.bO:∀(vs:List V) (b off:Nat),(∀(off:Nat) (x:Value),w.cell? ⟨b,off,none⟩=some x->w'.cell? ⟨b,off,none⟩=some x)->aO I ow w vs b off->aO Y' Nn w' vs b off
 |[],_,_,_,_=>by simp[aO]
 |v::vs,b,off,hb,h=>by
  simp only[aO]at h|-;obtain⟨⟨x,hx,h1,h2⟩,h3⟩:=h;exact⟨⟨x,hb _ _ hx,C'.bO v x h1,h2⟩,aO.bO vs b (off+1) hb h3⟩
def bu.bO:∀(v:V) (b off:Nat),(∀(off:Nat) (x:Value),w.cell? ⟨b,off,none⟩=some x->w'.cell? ⟨b,off,none⟩=some x)->bu I ow w v b off->bu Y' Nn w' v b off
 |.agg vs,b,off,hb,h=>by
  simp only[bu]at h|-;exact aO.bO vs b off hb h
 |.undef,b,off,hb,h=>by simp only[bu]at h|-;obtain⟨x,hx,h1,h2⟩:=h;exact⟨x,hb _ _ hx,C'.bO _ x h1,h2⟩
 |.int k n,b,off,hb,h=>by simp only[bu]at h|-;obtain⟨x,hx,h1,h2⟩:=h;exact⟨x,hb _ _ hx,C'.bO _ x h1,h2⟩
 |.bool t,b,off,hb,h=>by simp only[bu]at h|-;obtain⟨x,hx,h1,h2⟩:=h;exact⟨x,hb _ _ hx,C'.bO _ x h1,h2⟩
 |.str s,b,off,hb,h=>by simp only[bu]at h|-;obtain⟨x,hx,h1,h2⟩:=h;exact⟨x,hb _ _ hx,C'.bO _ x h1,h2⟩
 |.bz,b,off,hb,h=>by simp only[bu]at h|-;obtain⟨x,hx,h1,h2⟩:=h;exact⟨x,hb _ _ hx,C'.bO _ x h1,h2⟩
 |.sl sz rows,b,off,hb,h=>by simp only[bu]at h|-;obtain⟨x,hx,h1,h2⟩:=h;exact⟨x,hb _ _ hx,C'.bO _ x h1,h2⟩
 |.own id o len,b,off,hb,h=>by simp only[bu]at h|-;obtain⟨x,hx,h1,h2⟩:=h;exact⟨x,hb _ _ hx,C'.bO _ x h1,h2⟩
 |.ptr id i k,b,off,hb,h=>by simp only[bu]at h|-;obtain⟨x,hx,h1,h2⟩:=h;exact⟨x,hb _ _ hx,C'.bO _ x h1,h2⟩
 |.rp v,b,off,hb,h=>by simp only[bu]at h|-;obtain⟨x,hx,h1,h2⟩:=h;exact⟨x,hb _ _ hx,C'.bO _ x h1,h2⟩
 |.O2,b,off,hb,h=>by simp only[bu]at h|-;obtain⟨x,hx,h1,h2⟩:=h;exact⟨x,hb _ _ hx,C'.bO _ x h1,h2⟩
 |.fn f caps,b,off,hb,h=>by simp only[bu]at h|-;obtain⟨x,hx,h1,h2⟩:=h;exact⟨x,hb _ _ hx,C'.bO _ x h1,h2⟩
 |.bm f caps,b,off,hb,h=>by simp only[bu]at h|-;obtain⟨x,hx,h1,h2⟩:=h;exact⟨x,hb _ _ hx,C'.bO _ x h1,h2⟩
 |.MN,b,off,hb,h=>by simp only[bu]at h|-;obtain⟨x,hx,h1,h2⟩:=h;exact⟨x,hb _ _ hx,C'.bO _ x h1,h2⟩
 |.iface t v,b,off,hb,h=>by simp only[bu]at h|-;obtain⟨x,hx,h1,h2⟩:=h;exact⟨x,hb _ _ hx,C'.bO _ x h1,h2⟩
 |.MO,b,off,hb,h=>by simp only[bu]at h|-;obtain⟨x,hx,h1,h2⟩:=h;exact⟨x,hb _ _ hx,C'.bO _ x h1,h2⟩
 |.LI vs,b,off,hb,h=>by simp only[bu]at h|-;obtain⟨x,hx,h1,h2⟩:=h;exact⟨x,hb _ _ hx,C'.bO _ x h1,h2⟩
 |.raw v,b,off,hb,h=>by simp only[bu]at h|-;obtain⟨x,hx,h1,h2⟩:=h;exact⟨x,hb _ _ hx,C'.bO _ x h1,h2⟩
 |.obj o',b,off,hb,h=>by simp only[bu]at h|-;obtain⟨x,hx,h1,h2⟩:=h;exact⟨x,hb _ _ hx,C'.bO _ x h1,h2⟩
 |.gp o',b,off,hb,h=>by simp only[bu]at h|-;obtain⟨x,hx,h1,h2⟩:=h;exact⟨x,hb _ _ hx,C'.bO _ x h1,h2⟩
 |.yl o',b,off,hb,h=>by simp only[bu]at h|-;obtain⟨x,hx,h1,h2⟩:=h;exact⟨x,hb _ _ hx,C'.bO _ x h1,h2⟩
 |.mp o',b,off,hb,h=>by simp only[bu]at h|-;obtain⟨x,hx,h1,h2⟩:=h;exact⟨x,hb _ _ hx,C'.bO _ x h1,h2⟩
def aY.bO:∀(rs:List V) (b off sz:Nat),(∀(off:Nat) (x:Value),w.cell? ⟨b,off,none⟩=some x->w'.cell? ⟨b,off,none⟩=some x)->aY I ow w rs b off sz->aY Y' Nn w' rs b off sz
 |[],_,_,_,_,_=>by simp[aY]
 |r::rs,b,off,sz,hb,h=>by
  simp only[aY]at h|-;exact⟨h.1,bu.bO r b off hb h.2.1,aY.bO rs b (off+sz) sz hb h.2.2⟩
end
end
section
variable {I Y':Mu} {ow Nn:Nat->Prop} {w w':World} (hm:cU I Y') (hk:cS ow Nn w w') (hz:w.heap.size<=w'.heap.size)
include hm hk hz
def C'.mono(v:V)(x:Value):C' I ow w v x->C' Y' Nn w' v x:=C'.bO hm hk.toC hz v x
def ax.mono(vs:List V)(l:List Value):ax I ow w vs l->ax Y' Nn w' vs l:=ax.bO hm hk.toC hz vs l
def bu.mono(v:V)(b off:Nat)(hb:w'.heap[b]?=w.heap[b]?):bu I ow w v b off->bu Y' Nn w' v b off:=bu.bO hm hk.toC hz v b off (eL hb)
def aY.mono(rs:List V)(b off sz:Nat)(hb:w'.heap[b]?=w.heap[b]?):aY I ow w rs b off sz->aY Y' Nn w' rs b off sz:=aY.bO hm hk.toC hz rs b off sz (eL hb)
end
def IH(_:World):Prop:=True
def aD(I:Mu)(U:ag)(b:Nat):Prop:=∃id o sz cap,U id=some o/\I id=.Mk b sz cap
def tmpsOf:Obj->List Value
 |.loop r=>r.tmps.toList
 |.map es _=>es.toList.map (·.val)
 |_=>[]
def nZ(I:Mu)(ow:Nat->Prop)(w:World)(o:Ob):Pl->Prop
 |.dJ=>False
 |.nil=>o.rows=[]
 |.Mk b sz cap=>(∃cur,w.heap[b]?=some (.cells cur o.elem (0,0))/\o.sz=sz/\0<sz/\cur.size=cap*sz/\o.rows.length<=cap/\cap<=maxLen/\
   aY I ow w o.rows b 0 sz)\/(sz=0/\o.sz=0/\∃(ob:Obj) (env:List V),o.rows=.obj ob::env/\w.heap[b]?=some ob/\ax I ow w env (tmpsOf ob))
def Jz(w:World)(ow:Nat->Prop):Prop:=∃b:World,IH b/\b.heap.size<=w.heap.size/\∀i,i<b.heap.size->¬ow i/\w.heap[i]?=b.heap[i]?
structure Sat(w0:World)(Ml:Nat->Prop)(I:Mu)(U:ag)(w:World):Prop where
 size:w0.heap.size<=w.heap.size
 os:w.os=w0.os
 tape:w.tape=w0.tape
 output:w.output=w0.output
 same:∀b,b<w0.heap.size->¬Ml b->w.heap[b]?=w0.heap[b]?
 fin:∃N,∀id,N<=id->I id=.dJ
 inj:∀id NL o o' b sz cap NW MP,U id=some o->U NL=some o'->I id=.Mk b sz cap->I NL=.Mk b NW MP->id=NL
 obj:∀id o,U id=some o->nZ I (aD I U) w o (I id)
 fresh:∀b,aD I U b->b<w0.heap.size->Ml b
 NY:Jz w0 Ml
def Sat.nJ{w0 w:World}{Ml:Nat->Prop}{I:Mu}{U:ag}(h:Sat w0 Ml I U w):Jz w (aD I U):=by
 obtain⟨b,h1,h2,h3⟩:=h.NY;refine⟨b,h1,ly h2 h.size,λi hi=>?_⟩;obtain⟨h4,h5⟩:=h3 i hi;exact⟨λho=>h4 (h.fresh i ho (Nat.lt_of_lt_of_le hi h2)),(h.same i (Nat.lt_of_lt_of_le hi h2) h4).trans h5⟩
def aa(Z' U:ag):Prop:=∀id o,Z' id=some o->U id=some o
def aa.refl(U:ag):aa U U:=λ_ _ h=>h
def aa.trans{a b c:ag}(h:aa a b)(h':aa b c):aa a c:=λid o e=>h' id o (h id o e)
def E'(U:ag)(id:Nat)(o:Ob):ag:=λi=>if i=id then some o else U i
def del(U:ag)(id:Nat):ag:=λi=>if i=id then none else U i
def aa.Ef{Z' U:ag}{id:Nat}{o:Ob}(h:aa Z' U)(Ls:Z' id=none):aa Z' (E' U id o):=λi u e=>by
 have LR:i≠id:=λe'=>by rw[e',Ls]at e;cases e
 simp[E',LR,h i u e]
def aa.vw(U:ag)(id:Nat):aa (del U id) U:=λi o e=>by
 unfold del at e;split at e
 .cases e
 .exact e
def aD.sub{I:Mu}{U Z':ag}(h:aa Z' U){b:Nat}(hb:aD I Z' b):aD I U b:=by
 obtain⟨id,o,sz,cap,h1,h2⟩:=hb;exact⟨id,o,sz,cap,h id o h1,h2⟩
def cS.sub{I:Mu}{U Z':ag}(w:World)(h:aa Z' U):cS (aD I U) (aD I Z') w w:=
 λ_ _ hn=>⟨λhb=>hn (hb.sub h),rfl⟩
def nZ.bO{I Y':Mu}{ow Nn:Nat->Prop}{w w':World}(hm:cU I Y')(hk:oT ow Nn w w')(hz:w.heap.size<=w'.heap.size){o:Ob}{p:Pl}
 (hb:∀b sz cap,p=.Mk b sz cap->w'.heap[b]?=w.heap[b]?)(h:nZ I ow w o p):nZ Y' Nn w' o p:=by
 cases p with
 |dJ=>exact h
 |nil=>exact h
 |Mk b sz cap=>
  have e:=hb b sz cap rfl;rcases h with⟨cur,h1,h2,h3,h4,h5,h6,h7⟩|⟨h1,h2,ob,env,h3,h4,h5⟩
  .exact .inl ⟨cur,e.trans h1,h2,h3,h4,h5,h6,aY.bO hm hk hz _ _ _ _ (eL e) h7⟩
  .exact .inr ⟨h1,h2,ob,env,h3,e.trans h4,ax.bO hm hk hz _ _ h5⟩
def nZ.mono{I Y':Mu}{ow Nn:Nat->Prop}{w w':World}(hm:cU I Y')(hk:cS ow Nn w w')(hz:w.heap.size<=w'.heap.size){o:Ob}{p:Pl}
 (hb:∀b sz cap,p=.Mk b sz cap->w'.heap[b]?=w.heap[b]?)(h:nZ I ow w o p):nZ Y' Nn w' o p:=h.bO hm hk.toC hz hb
def nZ.plain{I:Mu}{ow:Nat->Prop}{w:World}{o:Ob}{b sz cap:Nat}(h:nZ I ow w o (.Mk b sz cap))(hz:0<sz):∃cur,w.heap[b]?=some (.cells cur o.elem (0,0))/\o.sz=sz/\0<sz/\cur.size=cap*sz/\o.rows.length<=cap/\cap<=maxLen/\
 aY I ow w o.rows b 0 sz:=by
 rcases h with h|⟨h1,_⟩
 .exact h
 .omega
def nZ.rows{I:Mu}{ow:Nat->Prop}{w:World}{o:Ob}{b sz cap:Nat}(h:nZ I ow w o (.Mk b sz cap))(hz:0<sz):o.sz=sz/\0<sz/\o.rows.length<=cap/\cap<=maxLen/\aY I ow w o.rows b 0 sz:=by
 obtain⟨cur,h1,h2,h3,h4,h5,h6,h7⟩:=h.plain hz;exact⟨h2,h3,h5,h6,h7⟩
def Sat.drop{w0 w:World}{Ml:Nat->Prop}{I:Mu}{U Z':ag}(h:Sat w0 Ml I U w)(hs:aa Z' U):Sat w0 Ml I Z' w where
 size:=h.size
 os:=h.os
 tape:=h.tape
 output:=h.output
 same:=h.same
 fin:=h.fin
 inj:=λid NL o o' b sz cap NW MP h1 h2 h3 h4=>h.inj id NL o o' b sz cap NW MP (hs _ _ h1) (hs _ _ h2) h3 h4
 obj:=λid o ho=>(h.obj id o (hs _ _ ho)).mono (cU.refl I) (cS.sub w hs) (Md _) (λ_ _ _ _=>rfl)
 fresh:=λb hb=>h.fresh b (hb.sub hs)
 NY:=h.NY
def aD.lt{w0 w:World}{Ml:Nat->Prop}{I:Mu}{U:ag}(h:Sat w0 Ml I U w){b:Nat}(hb:aD I U b):b<w.heap.size:=by
 obtain⟨id,o,sz,cap,h1,h2⟩:=hb;have:=h.obj id o h1;rw[h2]at this;rcases this with⟨cur,h3,_⟩|⟨_,_,ob,_,_,h3,_⟩<;>exact(lQ.1 h3).1
def Sat.put{w0 w w':World}{Ml:Nat->Prop}{I Y':Mu}{U Z':ag}{row:Option Nat}(h:Sat w0 Ml I U w)(hg:w.grownBy w' row)
 (Mz:∀b,row=some b->aD I U b)(hμ:cU I Y')(L3:∃N,∀id,N<=id->Y' id=.dJ)(PN:Nat)(ob:Ob)
 (hZ':∀o,Z' PN=some o->o=ob)
 (hold:∀id o,id≠PN->Z' id=some o->U id=some o/\∀b sz cap,I id=.Mk b sz cap->some b≠row)
 (Qi:∀b sz cap,Y' PN=.Mk b sz cap->some b=row\/w.heap.size<=b)
 (MG:cS (aD I U) (aD Y' Z') w w'->nZ Y' (aD Y' Z') w' ob (Y' PN)):
 Sat w0 Ml Y' Z' w'/\cS (aD I U) (aD Y' Z') w w':=by
 have N6:∀id o,U id=some o->Y' id=I id:=λid o ho=>hμ id (λe=>by
  have:=h.obj id o ho;rw[e]at this;exact this)
 have SJ:∀b,aD Y' Z' b->aD I U b\/w.heap.size<=b:=by
  rintro b ⟨id,o,sz,cap,h1,h2⟩;by_cases Ls:id=PN
  .subst Ls;rcases Qi b sz cap h2 with h3|h3
   .exact .inl (Mz b h3.symm)
   .exact .inr h3
  .obtain⟨h3,_⟩:=hold id o Ls h1;exact .inl ⟨id,o,sz,cap,h3,(N6 id o h3)▸h2⟩
 have hk:cS (aD I U) (aD Y' Z') w w':=λb hb hn=>⟨λho=>by
  rcases SJ b ho with h1|h1
  .exact hn h1
  .omega,hg.block b hb (λe=>hn (Mz b e.symm))⟩
 refine⟨⟨ly h.size hg.size,hg.os.trans h.os,hg.tape.trans h.tape,hg.output.trans h.output,?_,L3,?_,?_,?_,h.NY⟩,hk⟩
 .intro b hb hn;have h1:¬aD I U b:=λho=>hn (h.fresh b ho hb);rw[(hk b (Nat.lt_of_lt_of_le hb h.size) h1).2,h.same b hb hn]
 .intro id NL o o' b sz cap NW MP h1 h2 h3 h4;by_cases e:id=PN
  .by_cases e':NL=PN
   .rw[e,e']
   .exfalso;obtain⟨h5,h6⟩:=hold NL o' e' h2;have h7:=(N6 NL o' h5)▸h4;subst e;rcases Qi b sz cap h3 with h8|h8
    .exact h6 b NW MP h7 h8
    .have:=aD.lt h ⟨NL,o',NW,MP,h5,h7⟩;omega
  .obtain⟨h5,h6⟩:=hold id o e h1;have h7:=(N6 id o h5)▸h3;by_cases e':NL=PN
   .exfalso;subst e';rcases Qi b NW MP h4 with h8|h8
    .exact h6 b sz cap h7 h8
    .have:=aD.lt h ⟨id,o,sz,cap,h5,h7⟩;omega
   .obtain⟨h5',_⟩:=hold NL o' e' h2;exact h.inj id NL o o' b sz cap NW MP h5 h5' h7 ((N6 NL o' h5')▸h4)
 .intro id o ho;by_cases e:id=PN
  .subst e;rw[hZ' o ho];exact MG hk
  .obtain⟨h5,h6⟩:=hold id o e ho;rw[N6 id o h5];refine(h.obj id o h5).mono hμ hk hg.size (λb sz cap hp=>hg.block b ?_ (h6 b sz cap hp));exact aD.lt h ⟨id,o,sz,cap,h5,hp⟩
 .intro b hb Lr;rcases SJ b hb with h1|h1
  .exact h.fresh b h1 Lr
  .have:=h.size;omega
structure Fr where
 w0:World
 Ml:Nat->Prop
 X0:Mu
 n:Nat
 rd:Option (Nat×Loop)
structure Et(F:Fr)(ow:Nat->Prop)(ds:List Deferred)(w:World):Prop where
 Ve:∀l r,F.rd=some (l,r)->w.heap[l]?=some (.loop r)/\¬ow l
 marks:∃Ds:List Nat,ds=Ds.map (λD=>{ target:=.collected D,args:=#[] })/\Ds.Nodup/\∀D∈Ds,F.w0.heap.size<=D/\w.heap[D]?=some (.deferred (some []))/\¬ow D
def Et.tg{F:Fr}{ow Nn:Nat->Prop}{ds:List Deferred}{w w':World}(h:Et F ow ds w)(hk:cS ow Nn w w'):Et F Nn ds w' where
 Ve:=λl r e=>by
  obtain⟨h1,h2⟩:=h.Ve l r e;have h3:=hk l (lQ.1 h1).1 h2;exact⟨h3.2.trans h1,h3.1⟩
 marks:=by
  obtain⟨Ds,h1,h2,h3⟩:=h.marks;refine⟨Ds,h1,h2,λD hD=>?_⟩;obtain⟨g1,g2,g3⟩:=h3 D hD;have h4:=hk D (lQ.1 g2).1 g3;exact⟨g1,h4.2.trans g2,h4.1⟩
structure St where
 s:Nat->V
 U:ag
structure df(F:Fr)(I:Mu)(st:St)(a:Act)(w:World):Prop where
 sat:Sat F.w0 F.Ml I st.U w
 le:cU F.X0 I
 size:a.tmps.size=F.n
 book:Et F (aD I st.U) a.defers w
 slot:∀i,i<F.n->C' I (aD I st.U) w (st.s i) (a.tmps.getD i undef)
def eE(F:Fr)(st:St)(a:Act)(w:World):Prop:=∃I,df F I st a w
def pV(P:Program)(f:FuncId)(args:List V)(U:ag)(Post:V->ag->Prop):Prop:=
 ∀I w Lz,Sat w (aD I U) I U w->ax I (aD I U) w args Lz->Calls P f Lz.toArray w λe w'=>
  ∃r Z' Y' val,e=.returned val/\Post r Z'/\cU I Y'/\Sat w (aD I U) Y' Z' w'/\C' Y' (aD Y' Z') w' r val
def pV.mono{P:Program}{f:FuncId}{args:List V}{U:ag}{Post OJ:V->ag->Prop}(h:pV P f args U Post)
 (hp:∀r Z',Post r Z'->OJ r Z'):pV P f args U OJ:=λI w Lz hs hr=>
 (h I w Lz hs hr).mono λ_ _ ⟨r,Z',Y',val,h1,h2,h3⟩=>⟨r,Z',Y',val,h1,hp _ _ h2,h3⟩
inductive VX where
 |t (n:Nat)
 |c (v:V)
def cellOf:Value->V
 |.int k n=>.int k n
 |.bool b=>.bool b
 |.string s=>.str s.data.toList
 |.slice a n c=>if a=none/\n=0/\c=0 then .bz else .raw (.slice a n c)
 |.pointer a=>if a=none then .O2 else .raw (.pointer a)
 |.nilFunc=>.MN
 |.nilIface=>.MO
 |v=>.raw v
def ofValue:Value->V
 |.agg cs=>if cs.toList.all (·.oneCell')then .agg (cs.toList.map cellOf)else .raw (.agg cs)
 |v=>cellOf v
inductive MOp where
 |RS (t:TypeId)
 |Yi (f:FuncId)
 |VU (neg:Bool)
 |VW
 |VY
 |cpy (sz:Nat)
 |Yj (t:TypeId) (ok:Bool) (zero:V)
 |inv (tbl:List (TypeId×FuncId))
 |mkMap
 |insM
 |Yk (ok:Bool) (zero:V)
 |delM
 |Sd (kt:TypeId)
 |PO (kt:TypeId) (ok:Bool) (zero:V)
inductive L5 where
 |more (m:MOp) (xs:List VX)
 |Mb (x:VX)
 |pick (c a b:VX)
 |bin (op:BinOp) (x y:VX)
 |not (x:VX)
 |neg (x:VX)
 |len (str:Bool) (x:VX)
 |fld (agg:Bool) (off sz:Nat) (x:VX)
 |Mc (agg:Bool) (off sz:Nat) (x:VX)
 |O3 (NM:Nat) (x i:VX)
 |SK (agg:Bool) (n NM:Nat) (x i:VX)
 |Uu (agg:Bool) (n NM:Nat) (x i:VX)
 |VZ (x i:VX)
 |load (agg:Bool) (sz:Nat) (x:VX)
 |slice (NM:Nat) (x:VX) (lo hi mx:Option VX)
 |PY (x:VX) (lo hi:Option VX)
 |ext (i:Nat) (x:VX)
 |Ra (f:FuncId) (caps:List VX)
 |RT (k:IntKind) (x:VX)
 |nilCheck (x:VX)
 |NZ (neg:Bool) (x y:VX)
 |Xo (neg:Bool) (ks:List Nat) (x y:VX)
 |PZ (max:Bool) (x y:VX)
 |Rb (x:VX)
 |box (elem sz:Nat) (x:VX)
 |clear (sz:Nat) (zero:V) (x:VX)
 |alloc (elem sz:Nat) (zero:V)
 |store (sz:Nat) (a x:VX)
 |fF (elem sz:Nat) (parts:List VX)
 |build (zero:List V) (parts:List (Nat×Nat×VX))
 |append (elem sz bytes:Nat) (a b:VX)
 |cap (x:VX)
 |mk (elem sz bytes:Nat) (zero:V) (n:VX)
 |P0 (elem sz bytes:Nat) (zero:V) (a n:VX)
 |call (f:VX) (args:List VX)
 |Uv (rune:Bool) (x:VX)
 |V0 (x:VX)
 |bad
structure aK where
 dst:Option Nat
 op:L5
 g:Option (VX×Bool)
inductive bM where
 |skip
 |Oz (draw:Bool) (l:List aK)
 |seq (a b:bM)
 |cond (c:VX) (a b:bM)
 |block (id:Nat) (a:bM)
 |loop (a:bM)
 |exit (id:Nat)
 |ret
 |fK (g:VX) (ps:List Nat) (a b:bM)
 |O4 (l:List aK) (LL:List (List Nat))
 |vg (l e:List aK)
 |bad
def bk:L5->Nat
 |.call ..=>1
 |.store ..=>2
 |.alloc ..|.box ..|.fF ..|.append ..|.mk ..|.P0 ..=>3
 |.clear ..|.Uv ..|.V0 _|.bad=>4
 |.more (.RS _) _|.more (.Yi _) _|.more (.Yj ..) _|.more (.VU _) _=>0
 |.more ..=>4
 |_=>0
def L5.xs:L5->List VX
 |.Mb x|.not x|.neg x|.len _ x|.fld _ _ _ x|.Mc _ _ _ x|.load _ _ x|.ext _ x|.RT _ x|.nilCheck x|.Rb x|.box _ _ x|.clear _ _ x|.cap x|.mk _ _ _ _ x|.Uv _ x|.V0 x=>[x]
 |.bin _ x y|.O3 _ x y|.SK _ _ _ x y|.Uu _ _ _ x y|.VZ x y|.NZ _ x y|.Xo _ _ x y|.PZ _ x y|.store _ x y|.append _ _ _ x y|.P0 _ _ _ _ x y=>[x,y]
 |.pick x y z=>[x,y,z]
 |.slice _ x lo hi mx=>x::(lo.toList++hi.toList++mx.toList)
 |.PY x lo hi=>x::(lo.toList++hi.toList)
 |.Ra _ xs=>xs
 |.more _ xs=>xs
 |.fF _ _ xs=>xs
 |.build _ ps=>ps.map (·.2.2)
 |.call f xs=>f::xs
 |.alloc ..|.bad=>[]
def VX.Ey:VX->Option Nat
 |.t d=>some d
 |.c _=>none
def aK.kK(i:aK):List Nat:=(i.op.xs++(i.g.map (·.1)).toList).filterMap VX.Ey
def jL:L5->Bool
 |.load ..|.O3 ..|.slice ..|.Rb ..=>false
 |op=>bk op==0
def zx(A B:aK):Bool:=
 (match A.dst with
  |some d=>!B.kK.contains d&&B.dst != some d
  |none=>true)&&
 (match B.dst with
  |some d=>!A.kK.contains d
  |none=>true)
def fo(i:aK):Bool:=decide (bk i.op<=1)
def qo(i:aK):Bool:=bk i.op==2||bk i.op==3
def RS(i:aK):Bool:=match i.op with
 |.alloc ..|.box ..|.fF ..|.mk ..=>true
 |_=>false
def Bb(i:aK):Bool:=match i.op with
 |.alloc ..|.box ..|.fF ..|.append ..|.mk ..=>true
 |_=>false
def jo(i:aK):Bool:=bk i.op==0
def gL(A B:aK):Bool:=zx A B&&((fo A&&fo B)||(qo A&&jL B.op)||(jL A.op&&qo B)||(fo A&&RS B)||(Bb A&&jo B)||(Bb A&&RS B))
def HE(P:Program)(a b:TypeId):Bool:=match P.underlying a,P.underlying b with
 |some (.int _),some .string=>true
 |_,_=>false
section comp
variable (P:Program) (n:Nat)
def cx:Operand->VX
 |.tmp t=>if t<n then .t t else .c (.LI [])
 |.const v=>.c (ofValue v)
 |.func f=>.c (.fn f [])
 |.global g=>.c (.raw (.pointer (some ⟨g,0,none⟩)))
def fc(t:TypeId):Bool:=match P.underlying t with
 |some (.struct _)|some (.array _ _)=>true
 |_=>false
def bR(t:TypeId):Bool:=(P.info? t).isSome&&(P.underlying t).isSome&&P.cellsOf t != 0
def zeroOf(e:TypeId):Option (TypeInfo×Value):=match P.info? e with
 |some i=>match i.zero with
  |some z=>if bR P e&&z.cells.size==i.size&&z.cells.toList.all (·.oneCell')then some (i,z)else none
  |none=>none
 |none=>none
def qc(t:TypeId):Bool:=match P.underlying t,P.info? t with
 |some (.struct fs),some i=>fs.size==0&&(i.size==0&&(match i.zero with
  |some (.agg z)=>z.size==0
  |_=>false))
 |_,_=>false
def u8T(t:TypeId):Bool:=match P.underlying t with
 |some (.int .u8)=>true
 |_=>false
def CR(t:TypeId):Bool:=match P.underlying t with
 |some (.int _)|some .bool|some .string=>true
 |_=>false
def nP(t:TypeId):Nat:=match P.underlying t with
 |some (.int _)=>0
 |some .bool=>1
 |some .string=>2
 |_=>3
def Dn(t:TypeId)(fs:Array Field):Bool:=
 (fs.toList.map (·.offset)==List.range fs.size)&&(fs.toList.all λf=>CR P f.type&&f.name != "_"&&bR P f.type)&&!P.stoodInHeld t&&!P.eqGuardType P.depth t
def I3:Value->Bool
 |.slice none _ _=>true
 |_=>false
def BE:Operand->Bool
 |.const v=>I3 v
 |_=>false
def cy(op:BinOp)(x:VX)(y:Operand):L5:=if op=.eql/\BE y=true then .NZ false x (.c (.iface 0 .undef))else .bad
def uX(t:TypeId):Bool:=match P.underlying t with
 |some (.slice _)=>true
 |_=>false
def sJ(t:TypeId):Bool:=match P.underlying t with
 |some (.interface _)=>true
 |_=>false
def IK:Operand->Bool
 |.const .nilIface=>true
 |_=>false
def Jw(t:TypeId):Bool:=match P.underlying t with
 |some (.func _ _ _)=>true
 |_=>false
def Jc:Operand->Bool
 |.const .nilFunc=>true
 |_=>false
def Jd(t:TypeId):Bool:=match P.underlying t with
 |some (.pointer _)=>true
 |_=>false
def FM:Operand->Bool
 |.const (.pointer none)=>true
 |_=>false
def EC(t:TypeId):Option TypeId:=match P.underlying t with
 |some (.map k e)=>match P.underlying k with
  |some (.int _)=>some e
  |_=>none
 |_=>none
def rC(t:TypeId):Option (TypeId×TypeId):=match P.underlying t with
 |some (.map k e)=>match P.underlying k with
  |some (.struct _)=>some (k,e)
  |_=>none
 |_=>none
def Jq(name:String)(t:TypeId):Option FuncId:=match P.info? t with
 |some i=>match i.methods.find? (·.name==name)with
  |some m=>if m.path.isEmpty then match m.func,P.underlying t with
     |some (f,true),some (.pointer _)=>some f
     |some (_,false),some (.pointer _)=>none
     |some (f,false),some _=>some f
     |_,_=>none
   else none
  |none=>none
 |none=>none
def Hk(name:String):List (TypeId×FuncId):=(List.range P.types.size).filterMap λt=>(Jq P name t).map λf=>(t,f)
def qI:Operand->Operand->Bool
 |.tmp a,.tmp b=>a==b
 |.const (.int k a),.const (.int k' b)=>decide (k=k'/\a=b)
 |_,_=>false
def LU:Op->L5
 |.move x|.assign x=>.Mb (cx n x)
 |.pick c a b=>.pick (cx n c) (cx n a) (cx n b)
 |.binOp op t x y _=>match P.underlying t with
   |some .bool=>match op with
    |.eql=>.NZ false (cx n x) (cx n y)
    |.neq=>.NZ true (cx n x) (cx n y)
    |_=>.bad
   |some (.struct fs)=>if Dn P t fs then match op with
    |.eql=>.Xo false (fs.toList.map λf=>nP P f.type) (cx n x) (cx n y)
    |.neq=>.Xo true (fs.toList.map λf=>nP P f.type) (cx n x) (cx n y)
    |_=>.bad
    else .bad
   |_=>if uX P t then cy op (cx n x) y else if sJ P t then(if(op=.eql\/op=.neq)/\IK y=true then .NZ (op==.neq) (cx n x) (.c (.iface 1 .undef))else .bad)else if Jw P t then(if(op=.eql\/op=.neq)/\Jc y=true then .NZ (op==.neq) (cx n x) (.c (.iface 2 .undef))else .bad)else if Jd P t&&FM y then(if op=.eql\/op=.neq then .more (.VU (op==.neq)) [cx n x]else .bad)else .bin op (cx n x) (cx n y)
 |.nilCheck x=>.nilCheck (cx n x)
 |.box e x=>if bR P e then .box e (P.cellsOf e) (cx n x)else .bad
 |.unOp .not _ x=>.not (cx n x)
 |.unOp .neg _ x=>.neg (cx n x)
 |.field s x f=>match P.underlying s with
   |some (.struct fs)=>match fs[f]? with
    |some fd=>if bR P fd.type then .fld (fc P fd.type) fd.offset (P.cellsOf fd.type) (cx n x)else .bad
    |none=>.bad
   |_=>.bad
 |.fieldAddr s x f=>match P.underlying s with
   |some (.struct fs)=>match fs[f]? with
    |some fd=>if bR P fd.type then .Mc (fc P fd.type) fd.offset (P.cellsOf fd.type) (cx n x)else .bad
    |none=>.bad
   |_=>.bad
 |.indexAddr t x i=>match P.underlying t with
   |some (.slice e)=>if bR P e then .O3 (P.cellsOf e) (cx n x) (cx n i)else .bad
   |some (.array k e)=>if bR P e then .SK (fc P e) k (P.cellsOf e) (cx n x) (cx n i)else .bad
   |_=>.bad
 |.index t x i=>match P.underlying t with
   |some (.array k e)=>if bR P e then .Uu (fc P e) k (P.cellsOf e) (cx n x) (cx n i)else .bad
   |some .string=>.VZ (cx n x) (cx n i)
   |_=>.bad
 |.load t x=>if bR P t then .load (fc P t) (P.cellsOf t) (cx n x)else .bad
 |.slice t x lo hi mx=>match P.underlying t with
   |some (.slice e)=>if bR P e&&(mx.isNone||hi.isSome)then .slice (P.cellsOf e) (cx n x) (lo.map (cx n)) (hi.map (cx n)) (mx.map (cx n))else .bad
   |some .string=>if mx.isNone then .PY (cx n x) (lo.map (cx n)) (hi.map (cx n))else .bad
   |_=>.bad
 |.extract x i=>.ext i (cx n x)
 |.makeFunc (.func f) first caps=>if first.size=0 then .Ra f (caps.toList.map (cx n))else if caps.size=0 then .more (.Yi f) (first.toList.map (cx n))else .bad
 |.convert src dst x=>match P.underlying src,P.underlying dst with
   |some (.int _),some (.int k)=>.RT k (cx n x)
   |some (.slice e),some .string=>if u8T P e then .Rb (cx n x)else .bad
   |_,_=>if HE P src dst then .Uv true (cx n x)else .bad
 |.alloc e=>match zeroOf P e with
   |some (i,z)=>.alloc e i.size (ofValue z)
   |none=>if qc P e then .more .VW []else .bad
 |.store t a x=>if bR P t then .store (P.cellsOf t) (cx n a) (cx n x)else if qc P t then .more .VY [cx n a,cx n x]else .bad
 |.buildSlice t len parts=>match P.underlying t with
   |some (.slice e)=>match zeroOf P e with
    |some (i,_)=>if parts.toList.map (·.1)=List.range len/\len*i.size<=16777216 then .fF e i.size (parts.toList.map λp=>cx n p.2)else .bad
    |none=>.bad
   |_=>.bad
 |.build t parts=>if qc P t&&parts.size==0 then .Mb (.c (.agg []))else match zeroOf P t,P.underlying t with
   |some (_,.agg z),some (.struct fs)=>
    if(fs.toList.all λf=>bR P f.type)&&(parts.toList.all λp=>decide (p.1<fs.size))then
     .build (z.toList.map cellOf) (parts.toList.map λp=>(((fs[p.1]?).map (·.offset)).getD 0,((fs[p.1]?).map λf=>P.cellsOf f.type).getD 0,cx n p.2))
    else .bad
   |some (_,.agg z),some (.array _ e)=>if bR P e then .build (z.toList.map cellOf) (parts.toList.map λp=>(p.1*P.cellsOf e,P.cellsOf e,cx n p.2))else .bad
   |_,_=>.bad
 |.call { callee:=.builtin .len,args,argTypes }=>match args.toList,argTypes[0]? with
   |[x],some t=>match P.underlying t with
    |some (.slice _)=>.len false (cx n x)
    |some .string=>.len true (cx n x)
    |_=>.bad
   |_,_=>.bad
 |.call { callee:=.builtin .append,args,argTypes }=>match args.toList,argTypes.toList with
   |[a,b],[t,t']=>if t=t' then match P.underlying t with
    |some (.slice e)=>match zeroOf P e with
     |some (i,_)=>.append e i.size i.bytes (cx n a) (cx n b)
     |none=>.bad
    |_=>.bad
    else match P.underlying t,P.underlying t' with
    |some (.slice e),some (.int _)=>match zeroOf P e with
     |some (i,z)=>.P0 e i.size i.bytes (ofValue z) (cx n a) (cx n b)
     |none=>.bad
    |some (.slice e),some .string=>match zeroOf P e with
     |some (i,_)=>.append e i.size i.bytes (cx n a) (cx n b)
     |none=>.bad
    |_,_=>.bad
   |_,_=>.bad
 |.makeSlice t l c=>match P.underlying t with
   |some (.slice e)=>match zeroOf P e with
    |some (i,z)=>if qI l c then .mk e i.size i.bytes (ofValue z) (cx n l)else .bad
    |none=>.bad
   |_=>.bad
 |.call { callee:=.builtin .cap,args,argTypes }=>match args.toList,argTypes[0]? with
   |[x],some t=>if uX P t then .cap (cx n x)else .bad
   |_,_=>.bad
 |.call { callee:=.builtin .min,args,.. }=>match args.toList with
   |[x,y]=>.PZ false (cx n x) (cx n y)
   |_=>.bad
 |.call { callee:=.builtin .max,args,.. }=>match args.toList with
   |[x,y]=>.PZ true (cx n x) (cx n y)
   |_=>.bad
 |.call { callee:=.builtin .clear,args,argTypes }=>match args.toList,argTypes[0]? with
   |[x],some t=>match P.underlying t with
    |some (.slice e)=>match zeroOf P e with
     |some (i,z)=>.clear i.size (ofValue z) (cx n x)
     |none=>.bad
    |_=>.bad
   |_,_=>.bad
 |.call { callee:=.builtin .copy,args,argTypes }=>match args.toList,argTypes[0]? with
   |[x,y],some t=>match P.underlying t with
    |some (.slice e)=>if bR P e then .more (.cpy (P.cellsOf e)) [cx n x,cx n y]else .bad
    |_=>.bad
   |_,_=>.bad
 |.call { callee:=.value f,args,.. }=>.call (cx n f) (args.toList.map (cx n))
 |.range t x=>match P.underlying t with
   |some .string=>.Uv false (cx n x)
   |_=>.bad
 |.makeInterface t x=>if(P.underlying t).isSome&&!sJ P t then .more (.RS t) [cx n x]else .bad
 |.typeAssert x _ t ok=>if sJ P t then .bad else match zeroOf P t with
   |some (_,z)=>.more (.Yj t ok (ofValue z)) [cx n x]
   |none=>if qc P t then .more (.Yj t ok (.agg [])) [cx n x]else .bad
 |.call { callee:=.invoke r name,args,.. }=>.more (.inv (Hk P name)) (cx n r::args.toList.map (cx n))
 |.makeMap t r=>if r.isNone&&((EC P t).isSome||(rC P t).isSome)then .more .mkMap []else .bad
 |.insert t m k x|.mapUpdate t m k x=>if(EC P t).isSome then .more .insM [cx n m,cx n k,cx n x]else match rC P t with
   |some (kt,_)=>.more (.Sd kt) [cx n m,cx n k,cx n x]
   |none=>.bad
 |.lookup t x i ok=>match EC P t with
   |some e=>match zeroOf P e with
    |some (_,z)=>.more (.Yk ok (ofValue z)) [cx n x,cx n i]
    |none=>.bad
   |none=>match rC P t with
    |some (kt,e)=>match zeroOf P e with
     |some (_,z)=>.more (.PO kt ok (ofValue z)) [cx n x,cx n i]
     |none=>.bad
    |none=>.bad
 |.call { callee:=.builtin .delete,args,argTypes }=>match args.toList,argTypes[0]? with
   |[m,k],some t=>if(EC P t).isSome then .more .delM [cx n m,cx n k]else .bad
   |_,_=>.bad
 |.next it b=>if b=true then .V0 (cx n it)else .bad
 |_=>.bad
def bJ(all:Array Oper)(o:Oper):aK where
 dst:=o.dst.filter (·<n)
 op:=LU P n o.op
 g:=o.guard.map λ(j,want)=>(match(all[j]?).bind (·.dst)with
  |some d=>if d<n then .t d else .c (.LI [])
  |none=>.c (.LI []),want)
def Aj(ops:Array Oper)(k:Nat)(g':Array Bool):Bool:=match ops[k]? with
 |some ok=>(List.range ops.size).all λj=>j==k||g'.getD j true||(match ops[j]? with
    |some oj=>((Region.before ops).getD j 0).testBit k||gL (bJ P n ops ok) (bJ P n ops oj)
    |none=>true)
 |none=>false
def tp(ops:Array Oper):Nat->Nat->Array Bool->Bool
 |0,_,g'=>(Region.ready .any ops g').isEmpty
 |m+1,k,g'=>(Region.ready .any ops g').contains k&&Aj P n ops k g'&&tp ops m (k+1) (g'.setIfInBounds k true)
def Ec(l:List aK):Bool:=l.any λi=>match i.op with
 |.append _ _ _ (.t d) _=>l.any λj=>j.dst==some d&&(match j.op with|.call ..=>true|_=>false)
 |_=>false
def v8(l:List aK)(d:Nat):Option L5:=(l.find? λj=>j.dst==some d).map (·.op)
def vp:Option L5->Bool
 |some (.call ..)=>true
 |_=>false
def D6(l:List aK):Bool:=l.any λi=>match i.op with
 |.append _ _ _ (.t d) (.t v)=>vp (v8 l v)&&(match v8 l d with
  |some (.append _ _ _ _ (.t w))=>vp (v8 l w)
  |_=>false)
 |.call (.t f) _=>match v8 l f with
  |some (.Uu _ _ _ (.t a) _)=>vp (v8 l a)
  |_=>false
 |_=>false
def HS(l:List aK):Bool:=(l.any λi=>match i.op with|.Ra _ (_::_)=>true|_=>false)&&(l.any λi=>match i.op with|.call ..=>true|_=>false)&&l.any λi=>match i.op with|.store ..=>true|_=>false
def uk(l:List aK):Bool:=Ec l||D6 l||HS l||
 (l.any λi=>match i.op with|.call ..=>true|_=>false)&&(l.any λi=>match i.op with|.nilCheck _=>true|_=>false)&&l.any λi=>match i.op with|.store ..=>true|_=>false
def nt(ops:Array Oper):Bool:=P.follows .mixedOrders&&(!(uk (ops.toList.map (bJ P n ops)))&&tp P n ops ops.size 0 (Array.replicate ops.size false))
def C1(ops:Array Oper)(m:Nat):Nat->Nat->Array Bool->Bool
 |0,_,g'=>decide (Region.ready .any ops g'=[m])&&(Region.ready .any ops (g'.setIfInBounds m true)).isEmpty
 |f+1,k,g'=>((Region.ready .any ops g').contains k&&(decide (k≠m)&&((Region.before ops).getD m 0).testBit k))&&(Aj P n ops k g'&&C1 ops m f (k+1) (g'.setIfInBounds k true))
def Fi:aK->Bool
 |⟨_,.call ..,_⟩=>true
 |_=>false
def vk(ops:Array Oper):Bool:=P.follows .mixedOrders&&(decide (0<ops.size)&&(((ops.toList.drop (ops.size-1)).map (bJ P n ops)).any Fi&&(!(uk ((ops.toList.take (ops.size-1)).map (bJ P n ops)))&&C1 P n ops (ops.size-1) (ops.size-1) 0 (Array.replicate ops.size false))))
def dx:Code->bM
 |.skip=>.skip
 |.region _ ops draw=>if draw&&vk P n ops then .vg ((ops.toList.take (ops.size-1)).map (bJ P n ops)) ((ops.toList.drop (ops.size-1)).map (bJ P n ops))else if draw&&!(nt P n ops)then .O4 (ops.toList.map (bJ P n ops)) (ops.toList.map λo=>(o.after.toList.filter (Region.binds .any)).map (·.on))else .Oz draw (ops.toList.map (bJ P n ops))
 |.seq a b=>.seq (dx a) (dx b)
 |.cond c a b=>.cond (cx n c) (dx a) (dx b)
 |.block id a=>.block id (dx a)
 |.loop a=>.loop (dx a)
 |.exit id=>.exit id
 |.ret=>.ret
 |.rangeFunc g ps a c=>.fK (cx n g) ps.toList (dx a) (dx c)
 |_=>.bad
end comp
def VX.ev(s:Nat->V):VX->V
 |.t n=>s n
 |.c v=>v
def LP(k:IntKind)(n:Int):Prop:=k.wrap n=n
def cX(op:BinOp)(k:IntKind)(a b:Int):Option V:=
 match op with
 |.add=>some (.int k (a+b))
 |.sub=>some (.int k (a-b))
 |.mul=>some (.int k (a*b))
 |.quo=>if b=0 then none else some (.int k (a.tdiv b))
 |.rem=>if b=0 then none else some (.int k (a.tmod b))
 |.eql=>some (.bool (decide (a=b)))
 |.neq=>some (.bool (decide (a≠b)))
 |.lss=>some (.bool (decide (a<b)))
 |.leq=>some (.bool (decide (a<=b)))
 |.gtr=>some (.bool (decide (a>b)))
 |.geq=>some (.bool (decide (a>=b)))
 |.and=>some (.int k (k.wrap (BitVec.ofInt k.bits a &&& BitVec.ofInt k.bits b).toNat))
 |.or=>some (.int k (k.wrap (BitVec.ofInt k.bits a ||| BitVec.ofInt k.bits b).toNat))
 |.shl=>if b<0 then none else some (.int k (k.wrap (a*2^(min b.toNat k.bits))))
 |.shr=>if b<0 then none else some (.int k (a.fdiv (2^(min b.toNat k.bits))))
 |_=>none
def cV(op:BinOp)(k:IntKind)(a b:Int):Prop:=
 match op with
 |.add=>LP k (a+b)
 |.sub=>LP k (a-b)
 |.mul=>LP k (a*b)
 |.quo=>LP k (a.tdiv b)
 |_=>True
def db(op:BinOp)(a b:List UInt8):Option V:=
 match op with
 |.add=>some (.str (a++b))
 |.eql=>some (.bool (decide (a=b)))
 |.neq=>some (.bool (decide (a≠b)))
 |_=>none
def da(op:BinOp)(a b:List UInt8):Prop:=
 match op with
 |.add=>a.length+b.length<=9223372036854775807
 |_=>True
def AV(op:BinOp):V->V->Option V
 |.int k a,.int k' b=>if k=k' then cX op k a b else none
 |.str a,.str b=>db op a b
 |_,_=>none
def pt(op:BinOp):V->V->Prop
 |.int k a,.int _ b=>cV op k a b
 |.str a,.str b=>da op a b
 |_,_=>True
def bl(agg:Bool)(off sz:Nat)(vs:List V):Option V:=
 if agg then some (.agg ((vs.drop off).take sz))else vs[off]?
def ie:V->Option V
 |.bz=>some (.int .i64 0)
 |_=>none
def eK:Bool->V->Option V
 |false,.own _ _ n=>some (.int .i64 n)
 |false,.sl _ rows=>some (.int .i64 rows.length)
 |false,.bz=>some (.int .i64 0)
 |true,.str s=>some (.int .i64 s.length)
 |_,_=>none
def gY(agg:Bool)(off sz:Nat):V->Option V
 |.agg vs=>bl agg off sz vs
 |_=>none
def fg(agg:Bool)(off sz:Nat):V->Option V
 |.ptr id i k=>some (.ptr id i (k+off))
 |.rp v=>(bl agg off sz v.cells).map .rp
 |_=>none
def bN(U:ag)(NM:Nat):V->V->Option V
 |.own id off len,.int _ j=>match U id with
   |some ob=>if ob.sz=NM/\0<=j/\j<len then some (.ptr id (off+j.toNat) 0)else none
   |none=>none
 |.sl sz rows,.int _ j=>if sz=NM/\0<=j then match rows[j.toNat]? with
   |some r=>some (.rp r)
   |none=>none
   else none
 |_,_=>none
def cZ(agg:Bool)(n NM:Nat):V->V->Option V
 |.ptr id i k,.int _ j=>if 0<=j/\j<n then some (.ptr id i (k+j.toNat*NM))else none
 |.rp v,.int _ j=>if 0<=j/\j<n then(bl agg (j.toNat*NM) NM v.cells).map .rp else none
 |_,_=>none
def eO(agg:Bool)(n NM:Nat):V->V->Option V
 |.agg vs,.int _ j=>if 0<=j/\j<n then bl agg (j.toNat*NM) NM vs else none
 |_,_=>none
def eN:V->V->Option V
 |.str s,.int _ j=>if 0<=j then match s[j.toNat]? with
   |some b=>some (.int .u8 b.toNat)
   |none=>none
   else none
 |_,_=>none
def cJ(U:ag)(agg:Bool)(sz:Nat):V->Option V
 |.ptr id i k=>match U id with
   |some ob=>match ob.rows[i]? with
    |some r=>if agg then(if k=0/\r.cells.length=sz then some (.agg r.cells)else if k+sz<=r.cells.length then some (.agg ((r.cells.drop k).take sz))else none)
       else r.cells[k]?
    |none=>none
   |none=>none
 |.rp v=>if agg then(if v.cells.length=sz then some (.agg v.cells)else none)else match v with
   |.agg _=>none
   |v=>some v
 |_=>none
def bK(d:Int):Option V->Option Int
 |none=>some d
 |some (.int _ j)=>some j
 |_=>none
def fV(U:ag)(id NM:Nat):Bool:=match U id with
 |some ob=>ob.sz==NM
 |none=>false
def cq(U:ag)(NM:Nat)(x:V)(lo hi mx:Option V):Option V:=
 match x with
 |.own id off len=>match bK 0 lo,bK len hi,bK len mx with
   |some l,some h,some m=>if 0<=l/\l<=h/\h<=m/\m<=len/\fV U id NM=true then some (.own id (off+l.toNat) (h.toNat-l.toNat))else none
   |_,_,_=>none
 |.sl sz rows=>match bK 0 lo,bK rows.length hi,bK rows.length mx with
   |some l,some h,some m=>if 0<=l/\l<=h/\h<=m/\m<=rows.length/\sz=NM then some (.sl sz ((rows.drop l.toNat).take (h.toNat-l.toNat)))else none
   |_,_,_=>none
 |.bz=>match bK 0 lo,bK 0 hi,bK 0 mx with
   |some l,some h,some m=>if l=0/\h=0/\m=0 then some .bz else none
   |_,_,_=>none
 |_=>none
def bZ(x:V)(lo hi:Option V):Option V:=
 match x with
 |.str s=>match bK 0 lo,bK s.length hi with
   |some l,some h=>if 0<=l/\l<=h/\h<=s.length then some (.str ((s.drop l.toNat).take (h.toNat-l.toNat)))else none
   |_,_=>none
 |_=>none
def bH{α:Type}(l:List α)(off:Nat)(xs:List α):List α:=l.take off++xs++l.drop (off+xs.length)
def V.stays:V->Bool
 |.undef=>false
 |.LI _=>false
 |.raw v=>v.oneCell'
 |_=>true
def cz(zero:List V):List (Nat×Nat×V)->Option (List V)
 |[]=>some zero
 |(off,sz,x)::r=>if x.cells.length=sz/\x.stays=true/\off+sz<=zero.length then cz (bH zero off x.cells) r else none
def gW(i:Nat):V->Option V
 |.LI vs=>vs[i]?
 |_=>none
def cu:V->V->Option Bool
 |.int k a,.int k' b=>if k=k' then some (decide (a=b))else none
 |.bool a,.bool b=>some (a==b)
 |.str a,.str b=>some (decide (a=b))
 |_,_=>none
def bL:List V->List V->Option Bool
 |[],[]=>some true
 |v::vs,u::us=>match cu v u,bL vs us with
   |some a,some b=>some (a&&b)
   |_,_=>none
 |_,_=>none
def cK:List Nat->List V->Bool
 |[],[]=>true
 |0::ks,.int _ _::vs=>cK ks vs
 |1::ks,.bool _::vs=>cK ks vs
 |2::ks,.str _::vs=>cK ks vs
 |_,_=>false
def kF(neg:Bool)(ks:List Nat):V->V->Option V
 |.agg vs,.agg us=>if cK ks vs=true/\us.length=vs.length then match bL vs us with
   |some b=>some (.bool (if neg then !b else b))
   |none=>none
   else none
 |_,_=>none
def binBV(neg:Bool):V->V->Option V
 |.bool a,.bool b=>some (.bool (if neg then !(a==b)else a==b))
 |_,_=>none
def cb(max:Bool):V->V->Option V
 |.int k a,.int k' b=>if k=k' then some (.int k (if max then(if b>a then b else a)else(if b<a then b else a)))else none
 |_,_=>none
def byteOf:V->Option UInt8
 |.int .u8 n=>some (UInt8.ofNat n.toNat)
 |_=>none
def bytesOf:List V->Option (List UInt8)
 |[]=>some []
 |v::vs=>match byteOf v,bytesOf vs with
   |some b,some l=>some (b::l)
   |_,_=>none
def cD(U:ag):V->Option V
 |.bz=>some (.str [])
 |.own id off len=>match U id with
   |some ob=>if ob.sz=1/\off+len<=ob.rows.length then(bytesOf ((ob.rows.drop off).take len)).map .str else none
   |none=>none
 |_=>none
def bC:V->Option V
 |.ptr id i k=>some (.ptr id i k)
 |.rp v=>some (.rp v)
 |.fn f caps=>some (.fn f caps)
 |.iface t v=>some (.iface t v)
 |_=>none
def DH(neg:Bool):V->Option V
 |.O2=>some (.bool (!neg))
 |.ptr _ _ _=>some (.bool neg)
 |.rp _=>some (.bool neg)
 |_=>none
def IT(t:TypeId)(ok:Bool)(zero:V):V->Option V
 |.iface t' v=>if t'=t then some (if ok then .LI [v,.bool true]else v)else(if ok then some (.LI [zero,.bool false])else none)
 |.MO=>if ok then some (.LI [zero,.bool false])else none
 |_=>none
def aL(U:ag)(s:Nat->V):L5->Option V
 |.Mb x=>some (x.ev s)
 |.pick c a b=>match c.ev s with
   |.bool t=>some (if t then a.ev s else b.ev s)
   |_=>none
 |.bin op x y=>AV op (x.ev s) (y.ev s)
 |.not x=>match x.ev s with
   |.bool b=>some (.bool (!b))
   |_=>none
 |.neg x=>match x.ev s with
   |.int k a=>some (.int k (0-a))
   |_=>none
 |.len b x=>eK b (x.ev s)
 |.cap x=>ie (x.ev s)
 |.fld agg off sz x=>gY agg off sz (x.ev s)
 |.Mc agg off sz x=>fg agg off sz (x.ev s)
 |.O3 NM x i=>bN U NM (x.ev s) (i.ev s)
 |.SK agg n NM x i=>cZ agg n NM (x.ev s) (i.ev s)
 |.Uu agg n NM x i=>eO agg n NM (x.ev s) (i.ev s)
 |.VZ x i=>eN (x.ev s) (i.ev s)
 |.load agg sz x=>cJ U agg sz (x.ev s)
 |.slice NM x lo hi mx=>cq U NM (x.ev s) (lo.map (·.ev s)) (hi.map (·.ev s)) (mx.map (·.ev s))
 |.PY x lo hi=>bZ (x.ev s) (lo.map (·.ev s)) (hi.map (·.ev s))
 |.nilCheck x=>bC (x.ev s)
 |.NZ neg x y=>binBV neg (x.ev s) (y.ev s)
 |.Xo neg ks x y=>kF neg ks (x.ev s) (y.ev s)
 |.PZ m x y=>cb m (x.ev s) (y.ev s)
 |.Rb x=>cD U (x.ev s)
 |.ext i x=>gW i (x.ev s)
 |.build zero parts=>(cz zero (parts.map λp=>(p.1,p.2.1,p.2.2.ev s))).map .agg
 |.Ra f caps=>some (.fn f (caps.map (·.ev s)))
 |.more (.RS t) [x]=>some (.iface t (x.ev s))
 |.more (.Yi f) xs=>some (.bm f (xs.map (·.ev s)))
 |.more (.Yj t ok z) [x]=>IT t ok z (x.ev s)
 |.more (.VU neg) [x]=>DH neg (x.ev s)
 |.RT k x=>match x.ev s with
   |.int _ a=>some (.int k a)
   |_=>none
 |_=>none
def eV(s:Nat->V):L5->Prop
 |.bin op x y=>pt op (x.ev s) (y.ev s)
 |.neg x=>match x.ev s with
   |.int k a=>LP k (0-a)
   |_=>True
 |.RT k x=>match x.ev s with
   |.int _ a=>LP k a
   |_=>True
 |_=>True
variable {P:Program} {I:Mu} {ow:Nat->Prop} {w:World}
def oI{α:Type}[DecidableEq α][BEq α][LawfulBEq α](a b:α):(a==b)=decide (a=b):=by by_cases h:a=b<;>simp[h]
def EN{α:Type}[DecidableEq α][BEq α][LawfulBEq α](a b:α):(a != b)=decide (a≠b):=by by_cases h:a=b<;>simp[h]
def fA(b off j:Nat):(⟨b,off,none⟩:Addr).add j=⟨b,off+j,none⟩:=by
 unfold Addr.add;split<;>simp_all
def ax.length:∀{vs:List V} {l:List Value},ax I ow w vs l->l.length=vs.length
 |[],l,h=>by simp[ax]at h;simp[h]
 |v::vs,l,h=>by
  simp only[ax]at h;obtain⟨x,xs,rfl,_,h2⟩:=h;simp[ax.length h2]
def ax.get:∀{vs:List V} {l:List Value} {i:Nat} {v:V},ax I ow w vs l->vs[i]?=some v->∃x,l[i]?=some x/\C' I ow w v x
 |[],l,i,v,_,h=>by simp at h
 |u::vs,l,i,v,h,hv=>by
  simp only[ax]at h;obtain⟨x,xs,rfl,h1,h2⟩:=h;cases i with
  |zero=>simp at hv;subst hv;exact⟨x,by simp,h1⟩
  |succ i=>simpa using ax.get h2 (by simpa using hv)
def ax.drop:∀{vs:List V} {l:List Value} (k:Nat),ax I ow w vs l->ax I ow w (vs.drop k) (l.drop k)
 |[],l,k,h=>by simp[ax]at h;subst h;simp[ax]
 |v::vs,l,0,h=>by simpa using h
 |v::vs,l,k+1,h=>by
  simp only[ax]at h;obtain⟨x,xs,rfl,h1,h2⟩:=h;simpa using ax.drop k h2
def ax.take:∀{vs:List V} {l:List Value} (k:Nat),ax I ow w vs l->ax I ow w (vs.take k) (l.take k)
 |[],l,k,h=>by simp[ax]at h;subst h;simp[ax]
 |v::vs,l,0,h=>by simp[ax]
 |v::vs,l,k+1,h=>by
  simp only[ax]at h;obtain⟨x,xs,rfl,h1,h2⟩:=h;simp only[xF,ax];exact⟨x,_,rfl,h1,ax.take k h2⟩
def aO.get:∀{vs:List V} {b off k:Nat} {v:V},aO I ow w vs b off->vs[k]?=some v->
 ∃x,w.cell? ⟨b,off+k,none⟩=some x/\C' I ow w v x/\x.oneCell'=true
 |[],_,_,_,_,_,h=>by simp at h
 |u::vs,b,off,k,v,h,hv=>by
  simp only[aO]at h;cases k with
  |zero=>simp at hv;subst hv;exact h.1
  |succ k=>
   have:=aO.get (k:=k) h.2 (by simpa using hv)
   rwa [show off+1+k=off+(k+1) by omega]at this
def aO.drop:∀{vs:List V} {b off:Nat} (k:Nat),aO I ow w vs b off->aO I ow w (vs.drop k) b (off+k)
 |[],_,_,_,_=>by simp[aO]
 |u::vs,b,off,0,h=>by simpa using h
 |u::vs,b,off,k+1,h=>by
  simp only[aO]at h;have:=aO.drop k h.2;rw[show off+1+k=off+(k+1) by omega]at this;simpa using this
def aO.take:∀{vs:List V} {b off:Nat} (k:Nat),aO I ow w vs b off->aO I ow w (vs.take k) b off
 |[],_,_,_,_=>by simp[aO]
 |u::vs,b,off,0,h=>by simp[aO]
 |u::vs,b,off,k+1,h=>by
  simp only[aO]at h;simp only[xF,aO];exact⟨h.1,aO.take k h.2⟩
def aO.zP:∀{vs:List V} {b off:Nat},aO I ow w vs b off->
 ∃xs,ax I ow w vs xs/\(∀u∈xs,u.oneCell'=true)/\∀(j:Nat) u,xs[j]?=some u->w.cell? ⟨b,off+j,none⟩=some u
 |[],_,_,_=>⟨[],by simp[ax],by simp,by simp⟩
 |v::vs,b,off,h=>by
  simp only[aO]at h;obtain⟨⟨x,h1,h2,h3⟩,h4⟩:=h;obtain⟨xs,h5,h6,h7⟩:=aO.zP h4;refine⟨x::xs,by simp only[ax];exact⟨x,xs,rfl,h2,h5⟩,by simpa using⟨h3,h6⟩,?_⟩;intro j u hu;cases j with
  |zero=>simp at hu;subst hu;exact h1
  |succ j=>
   have:=h7 j u (by simpa using hu)
   rwa [show off+1+j=off+(j+1) by omega]at this
def aY.get:∀{rows:List V} {b off sz i:Nat} {r:V},aY I ow w rows b off sz->rows[i]?=some r->
 r.cells.length=sz/\aO I ow w r.cells b (off+i*sz)
 |[],_,_,_,_,_,_,h=>by simp at h
 |u::rows,b,off,sz,i,r,h,hr=>by
  simp only[aY]at h;cases i with
  |zero=>simp at hr;subst hr;exact⟨h.1,by simpa using(ed ..).1 h.2.1⟩
  |succ i=>
   have:=aY.get (i:=i) h.2.2 (by simpa using hr)
   rwa [show off+sz+i*sz=off+(i+1)*sz by rw[Nat.add_mul];omega]at this
def aY.drop:∀{rows:List V} {b off sz:Nat} (k:Nat),aY I ow w rows b off sz->aY I ow w (rows.drop k) b (off+k*sz) sz
 |[],_,_,_,_,_=>by simp[aY]
 |u::rows,b,off,sz,0,h=>by simpa using h
 |u::rows,b,off,sz,k+1,h=>by
  simp only[aY]at h;have:=aY.drop k h.2.2;rw[show off+sz+k*sz=off+(k+1)*sz by rw[Nat.add_mul];omega]at this;simpa using this
def aY.take:∀{rows:List V} {b off sz:Nat} (k:Nat),aY I ow w rows b off sz->aY I ow w (rows.take k) b off sz
 |[],_,_,_,_,_=>by simp[aY]
 |u::rows,b,off,sz,0,h=>by simp[aY]
 |u::rows,b,off,sz,k+1,h=>by
  simp only[aY]at h;simp only[xF,aY];exact⟨h.1,h.2.1,aY.take k h.2.2⟩
def ns(v:Value):C' I ow w (cellOf v) v:=by
 cases v<;>simp only[cellOf]<;>(try split)<;>simp_all [C']
def eW:∀(l:List Value),ax I ow w (l.map cellOf) l
 |[]=>by simp[ax]
 |v::l=>by simp only[fb,ax];exact⟨v,l,rfl,ns v,eW l⟩
def lT(v:Value):C' I ow w (ofValue v) v:=by
 unfold ofValue;split
 .rename_i cs;split
  .rename_i h;simp only[C'];exact⟨cs.toList,by simp,eW _,λu hu=>fa.1 h u hu⟩
  .simp[C']
 .exact ns v
def pq{t:TypeId}(h:(P.underlying t).isSome):(isAgg t).run P w=.ok (fc P t) w:=by
 obtain⟨d,hd⟩:=Option.isSome_iff_exists.1 h;unfold isAgg fc;simp only[Sem.run_bind,run_underlying hd,Result.andThen_ok,hd];cases d<;>rfl
def eu{t:TypeId}(h:bR P t=true):(P.underlying t).isSome/\(∃i,P.info? t=some i/\i.size=P.cellsOf t)/\0<P.cellsOf t:=by
 simp only[bR,Ba,bne_iff_ne]at h;obtain⟨⟨h1,h2⟩,h3⟩:=h;obtain⟨i,hi⟩:=Option.isSome_iff_exists.1 h1;exact⟨h2,⟨i,hi,by simp[Program.cellsOf,hi]⟩,by omega⟩
def cL{t:TypeId}(h:bR P t=true):(sizeOf t).run P w=.ok (P.cellsOf t) w:=by
 obtain⟨_,⟨i,hi,_⟩,_⟩:=eu h;exact run_sizeOf w hi
def wJ{t:TypeId}(h:bR P t=true){Lz:List Value}{vs:List V}{off:Nat}{v:V}(hr:ax I ow w vs Lz)
 (h1:∀u∈Lz,u.oneCell'=true)(hv:bl (fc P t) off (P.cellsOf t) vs=some v):
 ∃x,(part t ⟨Lz⟩ off).run P w=.ok x w/\C' I ow w v x:=by
 unfold part;simp only[Sem.run_bind,pq (eu h).1,Result.andThen_ok];unfold bl at hv;cases NH:fc P t
 .simp only[NH,iG,if_false]at hv|-;obtain⟨x,hx,V1⟩:=hr.get hv;have:(⟨Lz⟩:Array Value)[off]?=some x:=by simpa using hx
  exact⟨x,by simp[this],V1⟩
 .simp only[NH,if_true,aX]at hv|-;subst hv;refine⟨.agg ((⟨Lz⟩:Array Value).extract off (off+P.cellsOf t)),by simp[cL h],?_⟩;simp only[C'];refine⟨(Lz.drop off).take (P.cellsOf t),?_,(hr.drop off).take _,λu hu=>h1 u (List.mem_of_mem_drop (uZ hu))⟩;have e:(⟨Lz⟩:Array Value)=Lz.toArray:=rfl;rw[e,List.extract_toArray];simp
def iI{t:TypeId}(h:bR P t=true){vs:List V}{b off:Nat}(hr:aO I ow w vs b off){v:V}
 (hv:(if fc P t then(if vs.length=P.cellsOf t then some (V.agg vs)else none)else vs[0]?)=some v):
 ∃x,(loadVar t ⟨b,off,none⟩).run P w=.ok x w/\C' I ow w v x:=by
 unfold loadVar;simp only[Sem.run_bind,pq (eu h).1,Result.andThen_ok];cases NH:fc P t
 .simp only[NH,iG,if_false]at hv|-;obtain⟨x,hx,h1,h2⟩:=hr.get hv;exact⟨x,by simp[show w.cell? ⟨b,off,none⟩=some x by simpa using hx],h1⟩
 .simp only[NH,if_true]at hv|-;split at hv
  .rename_i hl;simp only[aX]at hv;subst hv;obtain⟨xs,h1,h2,h3⟩:=hr.zP;have hlen:xs.length=P.cellsOf t:=by rw[h1.length,hl]
   refine⟨.agg xs.toArray,?_,by simp only[C'];exact⟨xs,rfl,h1,h2⟩⟩;simp only[Sem.run_bind,cL h,Result.andThen_ok];rw[<-hlen,run_loadCells_list (P:=P) w ⟨b,off,none⟩ xs (λj u hu=>by rw[fA];exact h3 j u hu)];simp
  .cases hv
def Ee{op:BinOp}{t:TypeId}{x y v:V}{X Y:Value}{xo yo:Operand}(hx:C' I ow w x X)(hy:C' I ow w y Y)(hp:pt op x y)
 (hv:AV op x y=some v):∃z,(do eqGuard op t xo yo X Y;binOp op t X Y:Sem Value).run P w=.ok z w/\C' I ow w v z:=by
 unfold AV at hv;split at hv
 .rename_i k a k' b;split at hv
  .rename_i hk;subst hk;simp only[C']at hx hy;subst hx hy;simp only[pt]at hp;have hg:(eqGuard op t xo yo (.int k a) (.int k b)).run P w=.ok () w:=by
    unfold eqGuard;simp
   simp only[Sem.run_bind,hg,Result.andThen_ok];cases op<;>simp only[cX,reduceCtorEq]at hv<;>simp only[cV]at hp<;>
    first
    |(split at hv
      .cases hv
      .rename_i hb;simp only[aX]at hv;subst hv
       first
       |exact⟨_,by simp only[binOp,Op.shift,aJ hb];rfl,by simp[C']⟩
       |simp_all [binOp,Op.intDiv,C',LP])
    |(simp only[aX]at hv;subst hv;simp_all [binOp,Op.intArith,Op.intCmp,Op.intBits,C',LP,oI,EN])
  .cases hv
 .rename_i a b;simp only[C']at hx hy;subst hx hy;simp only[pt]at hp;have hg:(eqGuard op t xo yo (.string ⟨a.toArray⟩) (.string ⟨b.toArray⟩)).run P w=.ok () w:=by
   unfold eqGuard;simp
  simp only[Sem.run_bind,hg,Result.andThen_ok];have No:∀l:List UInt8,(⟨l.toArray⟩:ByteArray).size=l.length:=λl=>by simp[ByteArray.size]
  have hl:∀l:List UInt8,(⟨l.toArray⟩:ByteArray).toList=l:=λl=>by rw[ByteArray.toList_eq]
  cases op<;>simp only[db,reduceCtorEq]at hv<;>simp only[da]at hp<;>simp only[aX]at hv<;>subst hv
  .refine⟨.string (⟨a.toArray⟩++⟨b.toArray⟩),?_,?_⟩
   .simp only[binOp,Op.stringOp,No];rw[aJ (by simp[IntKind.max,IntKind.signed,IntKind.bits];omega)];simp
   .simp only[C'];congr 1
  .exact⟨.bool (decide (a=b)),by simp[binOp,Op.stringOp,hl,oI],by simp[C']⟩
  .exact⟨.bool (decide (a≠b)),by simp[binOp,Op.stringOp,hl,oI],by simp[C']⟩
 .cases hv
def pO{s:TypeId}{fs:Array Field}{f:Nat}{fd:Field}(hs:P.underlying s=some (.struct fs))(hf:fs[f]?=some fd)(hk:bR P fd.type=true)
 (b o:Nat):(Instr.fieldAt s (.pointer (some ⟨b,o,none⟩)) f).run P w=.ok (.pointer (some ⟨b,o+fd.offset,none⟩)) w:=by
 have LR:P.cellsOf fd.type≠0:=Nat.pos_iff_ne_zero.1 (eu hk).2.2;simp[Instr.fieldAt,run_underlying hs,hf,Instr.sureAddr,fieldPlace,cL hk,LR,fA]
def A0{s:TypeId}{fs:Array Field}{f:Nat}{fd:Field}(hs:P.underlying s=some (.struct fs))(hf:fs[f]?=some fd)(hk:bR P fd.type=true)
 {x v:V}{X:Value}(hx:C' I ow w x X)(hv:fg (fc P fd.type) fd.offset (P.cellsOf fd.type) x=some v):
 ∃z,(Instr.fieldAt s X f).run P w=.ok z w/\C' I ow w v z:=by
 unfold fg at hv;split at hv
 .rename_i id i k;simp only[aX]at hv;subst hv;simp only[C']at hx;split at hx
  .rename_i b sz cap Ls;obtain⟨rfl,No⟩:=hx;exact⟨_,pO hs hf hk b _,by simp only[C',Ls];simp[Nat.add_assoc,No]⟩
  .exact hx.elim
 .rename_i u;simp only[C']at hx;obtain⟨b,off,rfl,Lr,hb,hr⟩:=hx;rw[ed]at hr;refine⟨_,pO hs hf hk b off,?_⟩;cases G':bl (fc P fd.type) fd.offset (P.cellsOf fd.type) u.cells with
  |none=>simp[G']at hv
  |some y=>
   simp only[G',Option.map_some,aX]at hv;subst hv;simp only[C'];have N7:y.cells=[]\/¬ow b:=hb.imp (λhu=>by
    rw[hu]at G';unfold bl at G';split at G'
    .simp only[List.drop_nil,List.take_nil,aX]at G';rw[<-G'];rfl
    .simp at G') id
   refine⟨b,off+fd.offset,rfl,Lr,N7,?_⟩;rw[ed];unfold bl at G';split at G'
   .simp only[aX]at G';subst G';simp only[V.cells];exact(hr.drop _).take _
   .obtain⟨z,h1,h2,h3⟩:=hr.get G';have hy:y.cells=[y]:=by
     cases y<;>simp only[V.cells];simp only[C']at h2;obtain⟨Lz,rfl,_⟩:=h2;simp[Value.oneCell']at h3
    rw[hy];simp only[aO,and_true];exact⟨z,h1,h2,h3⟩
 .cases hv
def oW{y:V}{z:Value}(h2:C' I ow w y z)(h3:z.oneCell'=true):y.cells=[y]:=by
 cases y<;>simp only[V.cells];simp only[C']at h2;obtain⟨Lz,rfl,_⟩:=h2;simp[Value.oneCell']at h3
def zd{u y:V}{agg:Bool}{o sz b off:Nat}(Lr:b<w.heap.size)(hb:u.cells=[]\/¬ow b)(hr:aO I ow w u.cells b off)(G':bl agg o sz u.cells=some y):
 C' I ow w (.rp y) (.pointer (some ⟨b,off+o,none⟩)):=by
 simp only[C'];have N7:y.cells=[]\/¬ow b:=hb.imp (λhu=>by
  rw[hu]at G';unfold bl at G';split at G'
  .simp only[List.drop_nil,List.take_nil,aX]at G';rw[<-G'];rfl
  .simp at G') id
 refine⟨b,off+o,rfl,Lr,N7,?_⟩;rw[ed];unfold bl at G';split at G'
 .simp only[aX]at G';subst G';simp only[V.cells];exact(hr.drop _).take _
 .obtain⟨z,h1,h2,h3⟩:=hr.get G';rw[oW h2 h3];simp only[aO,and_true];exact⟨z,h1,h2,h3⟩
def AO{w0:World}{Ml:Nat->Prop}{U:ag}(Nc:Sat w0 Ml I U w){t e:TypeId}(ht:P.underlying t=some (.slice e))(hk:bR P e=true)
 {x y v:V}{X Y:Value}(hx:C' I (aD I U) w x X)(hy:C' I (aD I U) w y Y)(hv:bN U (P.cellsOf e) x y=some v):
 ∃z,(Instr.indexAt t X Y).run P w=.ok z w/\C' I (aD I U) w v z:=by
 unfold bN at hv;split at hv
 .rename_i id off len k j;split at hv
  .rename_i ob MG;split at hv
   .rename_i hc;obtain⟨No,h0,h1⟩:=hc;simp only[aX]at hv;subst hv;simp only[C']at hx hy;subst hy;have MQ:=Nc.obj id ob MG;split at hx
    .exact hx.elim
    .obtain⟨rfl,rfl,rfl⟩:=hx;exfalso;simp at h1;omega
    .rename_i b sz cap Ls;obtain⟨o,c,rfl,RU,SL,Nq,hz⟩:=hx;rw[Ls]at MQ;obtain⟨cur,_,Uw,_⟩:=MQ.plain hz;have ho:o=off*sz:=by
      rcases Nq with Nq|Nq
      .exact Nq
      .omega
     subst ho;refine⟨.pointer (some ⟨b,off*sz+j.toNat*P.cellsOf e,none⟩),?_,?_⟩
     .simp[Instr.indexAt,asIntOf,run_underlying ht,h0,h1,cL hk,fA]
     .simp only[C',Ls];rw[<-No,Uw,Nat.add_mul];simp[hz]
   .cases hv
  .cases hv
 .rename_i sz rows k j;split at hv
  .rename_i h0;obtain⟨rfl,h0⟩:=h0;split at hv
   .rename_i r hr;simp only[aX]at hv;subst hv;simp only[C']at hx hy;subst hy;obtain⟨a,cap,rfl,Rc,NP⟩:=hx;have Lr:j.toNat<rows.length:=by
     have:=qn.1 hr;exact this.1
    rcases NP with rfl|⟨b,off,rfl,hb,No,Mh⟩
    .simp at Lr
    .obtain⟨h1,h2⟩:=Mh.get hr;refine⟨.pointer (some ⟨b,off+j.toNat*P.cellsOf e,none⟩),?_,?_⟩
     .have:j<(rows.length:Int):=by omega
      simp[Instr.indexAt,asIntOf,run_underlying ht,h0,this,cL hk,fA]
     .simp only[C'];refine⟨b,_,rfl,?_,.inr hb,(ed ..).2 h2⟩;cases hc:r.cells with
      |nil=>rw[hc]at h1;simp at h1;omega
      |cons c cs=>
       rw[hc]at h2;simp only[aO]at h2;obtain⟨⟨y,hy,_⟩,_⟩:=h2;exact World.block_lt_of_cell? w _ hy
   .cases hv
  .cases hv
 .cases hv
def zu{t e:TypeId}{n:Nat}(ht:P.underlying t=some (.array n e))(hk:bR P e=true)
 {x y v:V}{X Y:Value}(hx:C' I ow w x X)(hy:C' I ow w y Y)(hv:cZ (fc P e) n (P.cellsOf e) x y=some v):
 ∃z,(Instr.indexAt t X Y).run P w=.ok z w/\C' I ow w v z:=by
 unfold cZ at hv;split at hv
 .rename_i id i k kk j;split at hv
  .rename_i hc;simp only[aX]at hv;subst hv;simp only[C']at hx hy;subst hy;split at hx
   .rename_i b sz cap Ls;obtain⟨rfl,No⟩:=hx;refine⟨.pointer (some ⟨b,i*sz+k+j.toNat*P.cellsOf e,none⟩),?_,by simp only[C',Ls];simp[Nat.add_assoc,No]⟩;simp[Instr.indexAt,asIntOf,run_underlying ht,hc,cL hk,fA,Instr.sureAddr]
   .exact hx.elim
  .cases hv
 .rename_i u kk j;split at hv
  .rename_i hc;simp only[C']at hx hy;subst hy;obtain⟨b,off,rfl,Lr,hb,hr⟩:=hx;rw[ed]at hr;cases G':bl (fc P e) (j.toNat*P.cellsOf e) (P.cellsOf e) u.cells with
   |none=>simp[G']at hv
   |some y=>
    simp only[G',Option.map_some,aX]at hv;subst hv;refine⟨_,?_,zd Lr hb hr G'⟩;simp[Instr.indexAt,asIntOf,run_underlying ht,hc,cL hk,fA,Instr.sureAddr]
  .cases hv
 .cases hv
def BA{t e:TypeId}{n:Nat}(ht:P.underlying t=some (.array n e))(hk:bR P e=true)
 {x y v:V}{X Y:Value}(hx:C' I ow w x X)(hy:C' I ow w y Y)(hv:eO (fc P e) n (P.cellsOf e) x y=some v):
 ∃z,(Instr.index t X Y).run P w=.ok z w/\C' I ow w v z:=by
 unfold eO at hv;split at hv
 .rename_i vs kk j;split at hv
  .rename_i hc;simp only[C']at hx hy;subst hy;obtain⟨Lz,rfl,hr,h1⟩:=hx;obtain⟨z,hz,Rd⟩:=wJ (w:=w) hk hr h1 hv;exact⟨z,by simp[Instr.index,asIntOf,run_underlying ht,hc,cL hk,hz],Rd⟩
  .cases hv
 .cases hv
def AG{t:TypeId}(ht:P.underlying t=some .string)
 {x y v:V}{X Y:Value}(hx:C' I ow w x X)(hy:C' I ow w y Y)(hv:eN x y=some v):
 ∃z,(Instr.index t X Y).run P w=.ok z w/\C' I ow w v z:=by
 unfold eN at hv;split at hv
 .rename_i s k j;split at hv
  .rename_i h0;split at hv
   .rename_i b hb;simp only[aX]at hv;subst hv;simp only[C']at hx hy;subst hx hy;have e:(⟨s.toArray⟩:ByteArray)[j.toNat]?=some b:=by
     have:=qn.1 hb;obtain⟨h1,h2⟩:=this;rw[getElem?_pos (h:=by simpa[ByteArray.size]using h1)];simp[<-h2,ByteArray.getElem_eq_getElem_data]
    exact⟨.int .u8 b.toNat,by simp[Instr.index,asIntOf,run_underlying ht,h0,e],by simp[C']⟩
   .cases hv
  .cases hv
 .cases hv
variable {P:Program} {I:Mu} {ow:Nat->Prop} {w:World}
def uw{w0:World}{Ml:Nat->Prop}{U:ag}(Nc:Sat w0 Ml I U w){t:TypeId}(hk:bR P t=true)
 {x v:V}{X:Value}(hx:C' I (aD I U) w x X)(hv:cJ U (fc P t) (P.cellsOf t) x=some v):
 ∃z,(Instr.loadAt t X).run P w=.ok z w/\C' I (aD I U) w v z:=by
 unfold cJ at hv;split at hv
 .rename_i id i k;split at hv
  .rename_i ob MG;split at hv
   .rename_i r hr;have MQ:=Nc.obj id ob MG;simp only[C']at hx;split at hx
    .rename_i b sz cap Ls;obtain⟨rfl,No⟩:=hx;rw[Ls]at MQ;obtain⟨_,_,_,_,Mh⟩:=MQ.rows No;obtain⟨hl,O5⟩:=Mh.get hr;simp only[ky]at O5;have hd:=O5.drop k;cases NH:fc P t
     .simp only[NH,iG,if_false]at hv;obtain⟨z,hz,Rd⟩:=iI (P:=P) hk hd (v:=v) (by simp only[NH,iG,if_false];simpa using hv);exact⟨z,by simp[Instr.loadAt,Instr.sureAddr,hz],Rd⟩
     .simp only[NH,if_true]at hv;split at hv
      .rename_i hc;obtain⟨rfl,hlen⟩:=hc;simp only[aX]at hv;subst hv;obtain⟨z,hz,Rd⟩:=iI (P:=P) hk hd (v:=.agg r.cells) (by simp[NH,hlen]);exact⟨z,by simpa[Instr.loadAt,Instr.sureAddr]using hz,Rd⟩
      .split at hv
       .rename_i hle;simp only[aX]at hv;subst hv;obtain⟨z,hz,Rd⟩:=iI (P:=P) hk (hd.take (P.cellsOf t)) (v:=.agg ((r.cells.drop k).take (P.cellsOf t)))
         (by rw[aI NH,aI (by simp;omega)])
        exact⟨z,by simp[Instr.loadAt,Instr.sureAddr,hz],Rd⟩
       .cases hv
    .exact hx.elim
   .cases hv
  .cases hv
 .rename_i u;simp only[C']at hx;obtain⟨b,off,rfl,Lr,hb,hr⟩:=hx;rw[ed]at hr;cases NH:fc P t
  .simp only[NH,iG,if_false]at hv;have Re:u=v/\u.cells=[u]:=by
    cases u<;>simp_all [V.cells]
   obtain⟨rfl,hc⟩:=Re;rw[hc]at hr;obtain⟨z,hz,Rd⟩:=iI (P:=P) hk hr (v:=u) (by simp[NH]);exact⟨z,by simp[Instr.loadAt,Instr.sureAddr,hz],Rd⟩
  .simp only[NH,if_true]at hv;split at hv
   .rename_i hl;simp only[aX]at hv;subst hv;obtain⟨z,hz,Rd⟩:=iI (P:=P) hk hr (v:=.agg u.cells) (by simp[NH,hl]);exact⟨z,by simp[Instr.loadAt,Instr.sureAddr,hz],Rd⟩
   .cases hv
 .cases hv
def lG{d:Int}{o:Option V}{O:Option Value}(ho:match o,O with|none,none=>True|some v,some x=>C' I ow w v x|_,_=>False){j:Int}
 (hj:bK d o=some j):(o=none/\O=none/\j=d)\/∃k,o=some (.int k j)/\O=some (.int k j):=by
 unfold bK at hj;split at hj
 .simp only[aX]at hj;cases O with
  |none=>exact .inl ⟨rfl,rfl,hj.symm⟩
  |some x=>exact ho.elim
 .rename_i k j';simp only[aX]at hj;subst hj;cases O with
  |none=>exact ho.elim
  |some x=>
   simp only[C']at ho;subst ho;exact .inr ⟨k,rfl,rfl⟩
 .cases hj
def iN(I:Mu)(ow:Nat->Prop)(w:World)(o:Option V)(O:Option Value):Prop:=
 match o,O with|none,none=>True|some v,some x=>C' I ow w v x|_,_=>False
def dz(k:IntKind)(i:Int)(y:Nat)(code:BoundsCode)(h0:0<=i)(h1:i<=y):
 (Instr.sliceBound (.int k i) y code).run P w=.ok i.toNat w:=by
 simp[Instr.sliceBound,asIntOf,h0,h1]
def ff{n c:Nat}{lo hi mx:Option V}{LO HI MX:Option Value}(h1:iN I ow w lo LO)(h2:iN I ow w hi HI)(h3:iN I ow w mx MX)
 {l h m:Int}(hl:bK 0 lo=some l)(hh:bK n hi=some h)(hm:bK n mx=some m)(h0:0<=l)(h01:l<=h)(Ux:h<=m)(h23:m<=n)(hnc:n<=c)
 (Xp:mx≠none->hi≠none)(s:Bool):
 ∃m',(Instr.sliceBounds s n c LO HI MX).run P w=.ok (l.toNat,h.toNat,m') w/\h.toNat<=m'/\m'<=c:=by
 rcases lG h3 hm with⟨_,rfl,rfl⟩|⟨km,rfl,rfl⟩
 .refine⟨c,?_,by omega,Md _⟩;rcases lG h2 hh with⟨_,rfl,rfl⟩|⟨kh,_,rfl⟩<;>rcases lG h1 hl with⟨_,rfl,rfl⟩|⟨kl,_,rfl⟩<;>
   simp only[Instr.sliceBounds,Sem.run_bind,Sem.run_pure,Result.andThen_ok]
  .simp
  .rw[dz kl l n _ h0 (by omega)];simp
  .rw[dz kh h c _ (by omega) (by omega)];simp
  .rw[dz kh h c _ (by omega) (by omega)];simp only[Result.andThen_ok];rw[dz kl l h.toNat _ h0 (by omega)];simp
 .refine⟨m.toNat,?_,by omega,by omega⟩;rcases lG h2 hh with⟨rfl,rfl,rfl⟩|⟨kh,_,rfl⟩
  .exact absurd rfl (Xp (by simp))
  .rcases lG h1 hl with⟨_,rfl,rfl⟩|⟨kl,_,rfl⟩<;>
    simp only[Instr.sliceBounds,Sem.run_bind,Sem.run_pure,Result.andThen_ok]
   .rw[dz km m c _ (by omega) (by omega)];simp only[Result.andThen_ok];rw[dz kh h m.toNat _ (by omega) (by omega)];simp
   .rw[dz km m c _ (by omega) (by omega)];simp only[Result.andThen_ok];rw[dz kh h m.toNat _ (by omega) (by omega)];simp only[Result.andThen_ok];rw[dz kl l h.toNat _ h0 (by omega)];simp
def qX{w0:World}{Ml:Nat->Prop}{U:ag}(Nc:Sat w0 Ml I U w){t e:TypeId}(ht:P.underlying t=some (.slice e))(hk:bR P e=true)
 {x v:V}{X:Value}(hx:C' I ow w x X){lo hi mx:Option V}{LO HI MX:Option Value}(h1:iN I ow w lo LO)(h2:iN I ow w hi HI)(h3:iN I ow w mx MX)
 (Xp:mx≠none->hi≠none)(hv:cq U (P.cellsOf e) x lo hi mx=some v):
 ∃z,(Instr.sliceAt t X LO HI MX).run P w=.ok z w/\C' I ow w v z:=by
 have M7:∀(a:Option Addr) (n c:Nat) (r:Nat×Nat×Nat),(Instr.sliceBounds true n c LO HI MX).run P w=.ok r w->
  (Instr.sliceAt t (.slice a n c) LO HI MX).run P w=.ok (.slice (if r.2.2=r.1 then a else a.map (·.add (r.1*P.cellsOf e))) (r.2.1-r.1) (r.2.2-r.1)) w:=by
  intro a n c r hr;simp[Instr.sliceAt,Instr.slice,run_underlying ht,hr,cL hk]
 cases x with
 |own id off len=>
  simp only[cq]at hv;split at hv
  .rename_i l h m hl hh hm;split at hv
   .rename_i hc;obtain⟨c0,c1,c2,c3,c4⟩:=hc;simp only[aX]at hv;subst hv;simp only[C']at hx;split at hx
    .exact hx.elim
    .rename_i Ls;obtain⟨rfl,rfl,rfl⟩:=hx;obtain⟨m',hr,Rf,V2⟩:=ff (P:=P) (c:=0) h1 h2 h3 hl hh hm c0 c1 c2 c3 (Md _) Xp true;refine⟨_,M7 none 0 0 _ hr,?_⟩;simp only[C',Ls];have:h.toNat=0:=by omega
     have:l.toNat=0:=by omega
     simp_all;omega
    .rename_i b sz cap Ls;obtain⟨o,c,rfl,RU,SL,Nq,hz⟩:=hx;obtain⟨m',hr,Rf,V2⟩:=ff (P:=P) (c:=c) h1 h2 h3 hl hh hm c0 c1 c2 c3 RU Xp true;refine⟨_,M7 _ len c _ hr,?_⟩;have V3:sz=P.cellsOf e:=by
      cases MG:U id with
      |none=>simp[fV,MG]at c4
      |some ob=>
       simp only[fV,MG,beq_iff_eq]at c4;have:=Nc.obj id ob MG;rw[Ls]at this;exact(this.rows hz).1.symm.trans c4
     simp only[C',Ls];by_cases e':m'=l.toNat
     .rw[aI e'];refine⟨o,m'-l.toNat,rfl,by omega,by omega,?_,hz⟩;by_cases h0:off+l.toNat=0
      .left;have h1:off=0:=by omega
       rcases Nq with Nq|Nq
       .rw[h0,Nq,h1]
       .exact absurd h1 Nq.2
      .exact .inr ⟨by omega,h0⟩
     .rw[aJ e'];simp only[Option.map_some,fA];refine⟨o+l.toNat*P.cellsOf e,m'-l.toNat,rfl,by omega,by omega,.inl ?_,hz⟩;rcases Nq with Nq|Nq
      .rw[Nq,V3,Nat.add_mul]
      .omega
   .cases hv
  .cases hv
 |sl sz rows=>
  simp only[cq]at hv;split at hv
  .rename_i l h m hl hh hm;split at hv
   .rename_i hc;obtain⟨c0,c1,c2,c3,rfl⟩:=hc;simp only[aX]at hv;subst hv;simp only[C']at hx;obtain⟨a,cap,rfl,Rc,NP⟩:=hx;obtain⟨m',hr,Rf,V2⟩:=ff (P:=P) (c:=cap) h1 h2 h3 hl hh hm c0 c1 c2 c3 Rc Xp true;refine⟨_,M7 _ _ cap _ hr,?_⟩;simp only[C'];have hlen:((rows.drop l.toNat).take (h.toNat-l.toNat)).length=h.toNat-l.toNat:=by simp;omega
    refine⟨_,_,by rw[hlen],by omega,?_⟩;by_cases e':m'=l.toNat
    .left;have:h.toNat-l.toNat=0:=by omega
     rw[this];simp
    .rw[aJ e'];rcases NP with rfl|⟨b,off,rfl,hb,hs,Mh⟩
     .left;simp
     .exact .inr ⟨b,off+l.toNat*P.cellsOf e,by simp[fA],hb,hs,(Mh.drop _).take _⟩
   .cases hv
  .cases hv
 |bz=>
  simp only[cq]at hv;split at hv
  .rename_i l h m hl hh hm;split at hv
   .rename_i hc;obtain⟨rfl,rfl,rfl⟩:=hc;simp only[aX]at hv;subst hv;simp only[C']at hx;subst hx;obtain⟨m',hr,Rf,V2⟩:=ff (P:=P) (n:=0) (c:=0) h1 h2 h3 hl hh hm (by omega) (by omega) (by omega) (by simp) (Md _) Xp true;refine⟨_,M7 none 0 0 _ hr,?_⟩;simp[C'];omega
   .cases hv
  .cases hv
 |_=>simp[cq]at hv
def rB{t:TypeId}(ht:P.underlying t=some .string){x v:V}{X:Value}(hx:C' I ow w x X){lo hi:Option V}{LO HI:Option Value}(h1:iN I ow w lo LO)(h2:iN I ow w hi HI)
 (hv:bZ x lo hi=some v):
 ∃z,(Instr.sliceAt t X LO HI none).run P w=.ok z w/\C' I ow w v z:=by
 unfold bZ at hv;split at hv
 case h_2=>cases hv
 rename_i s;split at hv
 .rename_i l h hl hh;split at hv
  .rename_i hc;obtain⟨c0,c1,c2⟩:=hc;simp only[aX]at hv;subst hv;simp only[C']at hx;subst hx;have No:(⟨s.toArray⟩:ByteArray).size=s.length:=by simp[ByteArray.size]
   obtain⟨m',hr,Rf,V2⟩:=ff (P:=P) (w:=w) (n:=s.length) (c:=s.length) (mx:=none) (MX:=none) h1 h2 (by simp[iN]) hl hh (m:=s.length) (by simp[bK]) c0 c1 c2 (Int.le_refl _) (Md _) (by simp) false;refine⟨.string ((⟨s.toArray⟩:ByteArray).extract l.toNat h.toNat),?_,?_⟩
   .simp[Instr.sliceAt,Instr.slice,run_underlying ht,No,hr]
   .simp only[C'];congr 1;apply ByteArray.ext;simp[ByteArray.data_extract]
  .cases hv
 .cases hv
def ct{F:Fr}{st:St}{a:Act}(hs:df F I st a w)(x:Operand):C' I (aD I st.U) w ((cx F.n x).ev st.s) (a.eval x):=by
 cases x with
 |tmp t=>
  by_cases ht:t<F.n
  .simp only[cx,Act.eval,aI ht];exact hs.slot t ht
  .have hle:a.tmps.size<=t:=by rw[hs.size];exact Nat.le_of_not_lt ht
   simp only[cx,Act.eval,aJ ht,VX.ev,C'];exact⟨[],by rw[Og,Array.getElem?_eq_none hle];rfl,by simp[ax]⟩
 |const v=>exact lT v
 |global g=>simp[cx,VX.ev,Act.eval,C']
 |func f=>simp[cx,VX.ev,Act.eval,C',ax]
def mr{F:Fr}{st:St}{a:Act}(hs:df F I st a w):∀(l:List Operand),ax I (aD I st.U) w ((l.map (cx F.n)).map (·.ev st.s)) (l.map a.eval)
 |[]=>by simp[ax]
 |x::l=>by simp only[fb,ax];exact⟨_,_,rfl,ct hs x,mr hs l⟩
def sX{F:Fr}{st:St}{a:Act}(hs:df F I st a w)(o:Option Operand):iN I (aD I st.U) w ((o.map (cx F.n)).map (·.ev st.s)) (o.map a.eval):=by
 cases o with
 |none=>simp[iN]
 |some x=>simpa[iN]using ct hs x
def ax.append:∀{vs us:List V} {l m:List Value},ax I ow w vs l->ax I ow w us m->ax I ow w (vs++us) (l++m)
 |[],us,l,m,h,h'=>by simp[ax]at h;subst h;simpa using h'
 |v::vs,us,l,m,h,h'=>by
  simp only[ax]at h;obtain⟨x,xs,rfl,h1,h2⟩:=h;simp only[List.cons_append,ax];exact⟨x,xs++m,rfl,h1,h2.append h'⟩
def C'.one{v:V}{x:Value}(h:C' I ow w v x)(hs:v.stays=true)(ha:∀vs,v≠.agg vs):x.oneCell'=true:=by
 cases v<;>simp only[C']at h<;>(try simp[V.stays]at hs)
 case agg vs=>exact absurd rfl (ha vs)
 case sl=>obtain⟨a,c,rfl,_⟩:=h;rfl
 case own=>
  split at h
  .exact h.elim
  .rw[h.1];rfl
  .obtain⟨o,c,rfl,_⟩:=h;rfl
 case ptr=>
  split at h
  .rw[h.1];rfl
  .exact h.elim
 case gp=>
  split at h
  .rw[h];rfl
  .exact h.elim
 case yl=>
  split at h
  .rw[h];rfl
  .exact h.elim
 case mp=>
  split at h
  .rw[h];rfl
  .exact h.elim
 case rp=>obtain⟨b,o,rfl,_⟩:=h;rfl
 case fn=>obtain⟨Lz,rfl,_⟩:=h;rfl
 case bm=>obtain⟨Lz,rfl,_⟩:=h;rfl
 case iface=>obtain⟨y,rfl,_⟩:=h;rfl
 all_goals first|(subst h;rfl)|(subst h;exact hs)
def C'.cells{v:V}{x:Value}(h:C' I ow w v x)(hs:v.stays=true):ax I ow w v.cells x.cells.toList/\∀u∈x.cells.toList,u.oneCell'=true:=by
 by_cases ha:∃vs,v=.agg vs
 .obtain⟨vs,rfl⟩:=ha;simp only[C']at h;obtain⟨Lz,rfl,h1,h2⟩:=h;exact⟨by simpa[V.cells,Value.cells]using h1,by simpa[Value.cells]using h2⟩
 .have h1:=h.one hs (λvs e=>ha ⟨vs,e⟩);have hc:x.cells=#[x]:=by cases x<;>simp_all [Value.cells,Value.oneCell']
  have hv:v.cells=[v]:=oW h h1;rw[hc,hv];simp only[ax];exact⟨⟨x,[],rfl,h,rfl⟩,by simpa using h1⟩
def C'.iZ{v:V}{x:Value}(h:C' I ow w v x)(hs:v.stays=true):x.cells.size=v.cells.length:=by
 have:=(h.cells hs).1.length;simpa using this
def wD(off:Nat):∀(vs:List Value) (k:Nat) (cs:Array Value),off+k+vs.length<=cs.size->
 ((vs.zipIdx k).foldl (λcs (p:Value×Nat)=>cs.setIfInBounds (off+p.2) p.1) cs).toList=bH cs.toList (off+k) vs
 |[],k,cs,_=>by simp[bH]
 |v::vs,k,cs,h=>by
  simp only[MM]at h;simp only[List.zipIdx_cons,nx];rw[wD off vs (k+1) _ (by simp;omega)];have hk:off+k<cs.toList.length:=by simp;omega
  simp only[bH,Array.toList_setIfInBounds,MM];rw[List.set_eq_take_append_cons_drop,aI hk];have e1:(cs.toList.take (off+k)).length=off+k:=by simp;omega
  rw[show off+(k+1)=(cs.toList.take (off+k)).length+1 by omega,List.take_length_add_append,show(cs.toList.take (off+k)).length+1+vs.length=(cs.toList.take (off+k)).length+(1+vs.length) by omega,
   List.drop_length_add_append]
  simp[List.drop_drop,ze,Nat.add_left_comm,Nat.add_assoc]
def j2{α:Type}(l:List α)(off:Nat)(xs:List α)(h:off+xs.length<=l.length):(bH l off xs).length=l.length:=by
 simp[bH];omega
def mv(place:Nat->Option (Nat×Nat)):∀(parts:List (Nat×Value)) (cells:Array Value),
 (∀p∈parts,∃off sz,place p.1=some (off,sz)/\p.2.cells.size=sz/\off+sz<=cells.size)->
 ∃cs,Instr.fill place cells parts=some cs/\cs.size=cells.size/\cs.toList=parts.foldl (λl p=>bH l (((place p.1).map (·.1)).getD 0) p.2.cells.toList) cells.toList
 |[],cells,_=>⟨cells,rfl,rfl,rfl⟩
 |(i,v)::rest,cells,h=>by
  obtain⟨off,sz,h1,h2,h3⟩:=h (i,v) (by simp);simp only at h1 h2;have hs:(v.cells.zipIdx.foldl (λcs (p:Value×Nat)=>cs.setIfInBounds (off+p.2) p.1) cells).toList=bH cells.toList off v.cells.toList:=by
   have:=wD off v.cells.toList 0 cells (by simp;omega);rw[<-Array.foldl_toList,Array.toList_zipIdx];simpa using this
  have No:(v.cells.zipIdx.foldl (λcs (p:Value×Nat)=>cs.setIfInBounds (off+p.2) p.1) cells).size=cells.size:=by
   have:=congrArg List.length hs;rw[j2 _ _ _ (by simp;omega)]at this;simpa using this
  obtain⟨cs,h4,h5,h6⟩:=mv place rest _ (λp hp=>by
   obtain⟨O6,NW,g1,g2,g3⟩:=h p (by simp[hp]);exact⟨O6,NW,g1,g2,by rw[No];exact g3⟩)
  refine⟨cs,?_,by rw[h5,No],?_⟩
  .simp only[Instr.fill,h1];rw[aJ (by simp;omega)];exact h4
  .rw[h6,hs];simp[h1]
def xE{b:Bool}{x v:V}{X:Value}(hx:C' I ow w x X)(hv:eK b x=some v){t:TypeId}(ty:TypeId)
 (ht:if b then P.underlying t=some .string else∃e,P.underlying t=some (.slice e)):
 ∃z,(Builtin.len_ #[t] ty #[X]).run P w=.ok z w/\C' I ow w v z:=by
 cases b
 .simp only[iG,if_false]at ht;obtain⟨e,ht⟩:=ht;have M7:∀a n c,(Builtin.len_ #[t] ty #[.slice a n c]).run P w=.ok (.int .i64 n) w:=λa n c=>by simp[Builtin.len_,run_underlying ht,goInt]
  cases x<;>simp only[eK,reduceCtorEq,aX]at hv<;>subst hv<;>simp only[C']at hx
  .subst hx;exact⟨_,M7 _ _ _,by simp[C']⟩
  .obtain⟨a,cap,rfl,_⟩:=hx;exact⟨_,M7 _ _ _,by simp[C']⟩
  .split at hx
   .exact hx.elim
   .obtain⟨rfl,_,rfl⟩:=hx;exact⟨_,M7 _ _ _,by simp[C']⟩
   .obtain⟨o,c,rfl,_⟩:=hx;exact⟨_,M7 _ _ _,by simp[C']⟩
 .simp only[if_true]at ht;cases x<;>simp only[eK,reduceCtorEq,aX]at hv;subst hv;simp only[C']at hx;subst hx;exact⟨_,by simp[Builtin.len_,run_underlying ht,goInt];rfl,by simp[C',ByteArray.size]⟩
def eI{t:TypeId}{i:TypeInfo}{z:Value}(h:zeroOf P t=some (i,z)):P.info? t=some i/\i.zero=some z/\bR P t=true/\z.cells.size=i.size/\
 (∀u∈z.cells.toList,u.oneCell'=true)/\i.size=P.cellsOf t:=by
 unfold zeroOf at h;split at h
 .rename_i i' hi;split at h
  .rename_i z' hz;split at h
   .rename_i hc;simp only[aX,Prod.mk.injEq]at h;obtain⟨rfl,rfl⟩:=h;simp only[Ba,beq_iff_eq,fa]at hc;exact⟨hi,hz,hc.1.1,hc.1.2,hc.2,by simp[Program.cellsOf,hi]⟩
   .cases h
  .cases h
 .cases h
def dY{t:TypeId}{i:TypeInfo}{z:Value}(h:zeroOf P t=some (i,z)):(zeroValue t).run P w=.ok z w:=by
 obtain⟨h1,h2,_⟩:=eI h;simp[zeroValue,typeInfo,h1,h2]
def py{t:TypeId}(h:qc P t=true):∃i,P.underlying t=some (.struct #[])/\P.info? t=some i/\i.size=0/\i.zero=some (.agg #[]):=by
 unfold qc at h;split at h
 .rename_i fs i h1 h2;simp only[Ba,beq_iff_eq]at h;obtain⟨h3,h4,h5⟩:=h;split at h5
  .rename_i z hz;have e1:fs=#[]:=Array.eq_empty_of_size_eq_zero h3;have e2:z=#[]:=Array.eq_empty_of_size_eq_zero (by simpa using h5);exact⟨i,by rw[h1,e1],h2,h4,by rw[hz,e2]⟩
  .cases h5
 .cases h
def tV{t:TypeId}(h:qc P t=true):(zeroValue t).run P w=.ok (.agg #[]) w:=by
 obtain⟨i,_,h1,_,h2⟩:=py h;simp[zeroValue,typeInfo,h1,h2]
def yU{t:TypeId}(h:qc P t=true):(Instr.build t #[]).run P w=.ok (.agg #[]) w:=by
 obtain⟨i,h0,h1,_,h2⟩:=py h;simp[Instr.build,tV h,run_underlying h0,Value.cells,Instr.fill]
def ax.bH{vs us:List V}{l m:List Value}(off:Nat)(h:ax I ow w vs l)(h':ax I ow w us m):ax I ow w (bH vs off us) (Vc.bH l off m):=by
 unfold Vc.bH;rw[h'.length];exact((h.take off).append h').append (h.drop _)
def mT{α:Type}(off sz:α->Nat)(v:α->V)(x:α->Value):∀{l:List α} {zero cells:List V} {zs:List Value},
 cz zero (l.map λp=>(off p,sz p,v p))=some cells->ax I ow w zero zs->(∀p∈l,C' I ow w (v p) (x p))->
 ax I ow w cells (l.foldl (λacc p=>Vc.bH acc (off p) (x p).cells.toList) zs)/\
 ((∀u∈zs,u.oneCell'=true)->∀u∈l.foldl (λacc p=>Vc.bH acc (off p) (x p).cells.toList) zs,u.oneCell'=true)/\
 ∀p∈l,(x p).cells.size=sz p/\off p+sz p<=zero.length
 |[],zero,cells,zs,h,hz,hp=>by
  simp only[List.map_nil,cz,aX]at h;subst h;simpa using hz
 |p::r,zero,cells,zs,h,hz,hp=>by
  simp only[fb,cz]at h;split at h
  .rename_i hc;have h1:=hp p (by simp);obtain⟨g1,g2⟩:=h1.cells hc.2.1;have hl:=h1.iZ hc.2.1;obtain⟨ih1,ih2,ih3⟩:=mT off sz v x h (hz.bH (off p) g1) (λq hq=>hp q (by simp[hq]));refine⟨by simpa using ih1,λh0=>?_,λq hq=>?_⟩
   .refine ih2 ?_;intro u hu;simp only[Vc.bH,fq]at hu;rcases hu with(hu|hu)|hu
    .exact h0 u (uZ hu)
    .exact g2 u hu
    .exact h0 u (List.mem_of_mem_drop hu)
   .rcases dI.1 hq with rfl|hq
    .exact⟨by rw[hl,hc.1],hc.2.2⟩
    .have:=ih3 q hq;rw[j2 _ _ _ (by omega)]at this;exact this
  .cases h
def run_places(fs:Array Field)(h:∀f∈fs.toList,bR P f.type=true):
 (fs.mapM (λf=>Functor.map (Prod.mk f.offset) (sizeOf f.type):Field->Sem (Nat×Nat))).run P w=.ok (fs.map λf=>(f.offset,P.cellsOf f.type)) w:=by
 rw[Array.mapM_eq_mapM_toList];have:∀(l:List Field),(∀f∈l,bR P f.type=true)->
  (l.mapM (λf=>Functor.map (Prod.mk f.offset) (sizeOf f.type):Field->Sem (Nat×Nat))).run P w=.ok (l.map λf=>(f.offset,P.cellsOf f.type)) w:=by
  intro l
  induction l with
  |nil=>intro _;simp
  |cons f l ih=>
   intro hl;simp[cL (hl f (by simp)),ih (λx hx=>hl x (by simp[hx]))]
 simp[this fs.toList (by simpa using h)];apply Array.ext';simp
def run_build{F:Fr}{st:St}{a:Act}(hs:df F I st a w){t:TypeId}{i:TypeInfo}{z:Array Value}{fs:Array Field}(hz:zeroOf P t=some (i,.agg z))
 (Oh:P.underlying t=some (.struct fs)){parts:Array (Nat×Operand)}(hk:(∀f∈fs.toList,bR P f.type=true)/\∀p∈parts.toList,p.1<fs.size){cells:List V}
 (hb:cz (z.toList.map cellOf) ((parts.toList.map λp=>(((fs[p.1]?).map (·.offset)).getD 0,((fs[p.1]?).map λf=>P.cellsOf f.type).getD 0,cx F.n p.2)).map λp=>(p.1,p.2.1,p.2.2.ev st.s))=some cells):
 ∃y,(Instr.build t (parts.map λ(i,x)=>(i,a.eval x))).run P w=.ok y w/\C' I (aD I st.U) w (.agg cells) y:=by
 obtain⟨_,_,_,_,MH,_⟩:=eI hz;rw[List.map_map]at hb;obtain⟨g1,g2,g3⟩:=mT (I:=I) (ow:=aD I st.U) (w:=w) (λp:Nat×Operand=>((fs[p.1]?).map (·.offset)).getD 0) (λp=>((fs[p.1]?).map λf=>P.cellsOf f.type).getD 0)
  (λp=>(cx F.n p.2).ev st.s) (λp=>a.eval p.2) hb (eW z.toList) (λp _=>ct hs p.2)
 obtain⟨cs,e1,e2,e3⟩:=mv (λk=>(fs.map λf=>(f.offset,P.cellsOf f.type))[k]?) ((parts.map λ(i,x)=>(i,a.eval x)).toList) z (by
  intro p hp;simp only[Array.toList_map,gO]at hp;obtain⟨q,hq,rfl⟩:=hp;have Lr:=hk.2 q hq;obtain⟨q1,q2⟩:=g3 q hq;have Nr:fs[q.1]?=some fs[q.1]:=by simp[Lr]
  simp only[Nr,Option.map_some,Option.getD_some]at q1 q2;exact⟨fs[q.1].offset,P.cellsOf fs[q.1].type,by simp[Nr],q1,by simpa using q2⟩)
 refine⟨.agg cs,?_,?_⟩
 .simp only[Array.toList_map,Array.getElem?_map]at e1;simp[Instr.build,dY hz,run_underlying Oh,run_places fs (by simpa using hk.1),Value.cells];rw[e1];rfl
 .have Qs:cs.toList=parts.toList.foldl (λacc p=>Vc.bH acc (((fs[p.1]?).map (·.offset)).getD 0) (a.eval p.2).cells.toList) z.toList:=by
   rw[e3,Array.toList_map,List.foldl_map];congr 1;funext acc p;congr 1;cases hp:fs[p.1]?<;>simp[hp]
  simp only[C'];refine⟨cs.toList,rfl,?_,?_⟩
  .rw[Qs];exact g1
  .rw[Qs];exact g2 (by simpa[Value.cells]using MH)
def zq{F:Fr}{st:St}{a:Act}(hs:df F I st a w){t e:TypeId}{k:Nat}{i:TypeInfo}{z:Array Value}(hz:zeroOf P t=some (i,.agg z))
 (Oh:P.underlying t=some (.array k e)){parts:Array (Nat×Operand)}(hk:bR P e=true){cells:List V}
 (hb:cz (z.toList.map cellOf) ((parts.toList.map λp=>(p.1*P.cellsOf e,P.cellsOf e,cx F.n p.2)).map λp=>(p.1,p.2.1,p.2.2.ev st.s))=some cells):
 ∃y,(Instr.build t (parts.map λ(i,x)=>(i,a.eval x))).run P w=.ok y w/\C' I (aD I st.U) w (.agg cells) y:=by
 obtain⟨_,_,_,_,MH,_⟩:=eI hz;rw[List.map_map]at hb;obtain⟨g1,g2,g3⟩:=mT (I:=I) (ow:=aD I st.U) (w:=w) (λp:Nat×Operand=>p.1*P.cellsOf e) (λ_=>P.cellsOf e)
  (λp=>(cx F.n p.2).ev st.s) (λp=>a.eval p.2) hb (eW z.toList) (λp _=>ct hs p.2)
 obtain⟨cs,e1,e2,e3⟩:=mv (λi=>some (i*P.cellsOf e,P.cellsOf e)) ((parts.map λ(i,x)=>(i,a.eval x)).toList) z (by
  intro p hp;simp only[Array.toList_map,gO]at hp;obtain⟨q,hq,rfl⟩:=hp;obtain⟨q1,q2⟩:=g3 q hq;exact⟨q.1*P.cellsOf e,P.cellsOf e,rfl,q1,by simpa using q2⟩)
 refine⟨.agg cs,?_,?_⟩
 .simp only[Array.toList_map]at e1;simp[Instr.build,dY hz,run_underlying Oh,cL hk,Value.cells];rw[e1];rfl
 .have Qs:cs.toList=parts.toList.foldl (λacc p=>Vc.bH acc (p.1*P.cellsOf e) (a.eval p.2).cells.toList) z.toList:=by
   rw[e3,Array.toList_map,List.foldl_map];rfl
  simp only[C'];refine⟨cs.toList,rfl,?_,?_⟩
  .rw[Qs];exact g1
  .rw[Qs];exact g2 (by simpa[Value.cells]using MH)
def yZ(msg:String)(vs:List V)(bs:List UInt8)(l:List Value)(hb:bytesOf vs=some bs)(hr:ax I ow w vs l)(s0:ByteArray):
 (forIn l s0 (λc s=>match c with
   |.int .u8 n=>pure (ForInStep.yield (s.push (UInt8.ofNat n.toNat)))
   |_=>(do stuck msg;pure (ForInStep.yield s))):Sem ByteArray).run P w=.ok ⟨s0.data++bs.toArray⟩ w:=by
 induction vs generalizing bs l s0 with
 |nil=>
  simp only[bytesOf,aX]at hb;simp only[ax]at hr;subst hb hr;simp
 |cons v vs ih=>
  simp only[bytesOf]at hb;split at hb
  .rename_i b l' h1 h2;simp only[aX]at hb;subst hb;simp only[ax]at hr;obtain⟨x,xs,rfl,h3,h4⟩:=hr;unfold byteOf at h1;split at h1
   .rename_i n;simp only[aX]at h1;simp only[C']at h3;subst h3 h1;simp only[List.forIn_cons,Sem.run_bind,Sem.run_pure,Result.andThen_ok];rw[ih l' xs h2 h4];simp[ByteArray.push]
   .cases h1
  .cases hb
def pZ:∀{rows:List V} {bs:List UInt8} {b off:Nat},aY I ow w rows b off 1->bytesOf rows=some bs->
 ∃xs,ax I ow w rows xs/\xs.length=rows.length/\∀(j:Nat) u,xs[j]?=some u->w.cell? ⟨b,off+j,none⟩=some u
 |[],_,_,_,_,_=>⟨[],by simp[ax],rfl,by simp⟩
 |v::vs,bs,b,off,h,hb=>by
  simp only[bytesOf]at hb;split at hb
  .rename_i c l h1 h2;simp only[aY]at h;obtain⟨_,h3,h4⟩:=h;have h5:∃x,w.cell? ⟨b,off,none⟩=some x/\C' I ow w v x:=by
    unfold byteOf at h1;split at h1
    .simp only[bu]at h3;obtain⟨x,g1,g2,_⟩:=h3;exact⟨x,g1,g2⟩
    .cases h1
   obtain⟨x,g1,g2⟩:=h5;obtain⟨xs,i1,i2,i3⟩:=pZ h4 h2;refine⟨x::xs,by simp only[ax];exact⟨x,xs,rfl,g2,i1⟩,by simp[i2],λj u hu=>?_⟩;cases j with
   |zero=>simp at hu;subst hu;exact g1
   |succ j=>
    have:=i3 j u (by simpa using hu)
    rwa [show off+1+j=off+(j+1) by omega]at this
  .cases hb
def yH{w0:World}{Ml:Nat->Prop}{U:ag}(Nc:Sat w0 Ml I U w){x v:V}{X:Value}(hx:C' I (aD I U) w x X)(hv:cD U x=some v):
 ∃z,(Conv.bytesToString X).run P w=.ok z w/\C' I (aD I U) w v z:=by
 unfold cD at hv;split at hv
 .simp only[C']at hx;simp only[aX]at hv;subst hx hv;exact⟨_,rfl,by simp only[C'];rfl⟩
 .rename_i id off len;split at hv
  .rename_i ob MG;split at hv
   .rename_i hc;simp only[Vd]at hv;obtain⟨bs,hb,rfl⟩:=hv;have MQ:=Nc.obj id ob MG;simp only[C']at hx;split at hx
    .exact hx.elim
    .obtain⟨rfl,_,rfl⟩:=hx;simp only[List.take_zero,bytesOf,aX]at hb;subst hb;exact⟨_,rfl,by simp only[C'];rfl⟩
    .rename_i b OK cap Ls;obtain⟨o,c,rfl,RU,SL,Nq,hz⟩:=hx;rw[Ls]at MQ;obtain⟨g1,g2,g3,g4,g5⟩:=MQ.rows hz;by_cases h0:len=0
     .subst h0;simp only[List.take_zero,bytesOf,aX]at hb;subst hb;exact⟨_,by simp[Conv.bytesToString,loadCells,loadCellsFrom];rfl,by simp only[C'];rfl⟩
     .have ho:o=off*OK:=by
       rcases Nq with Nq|Nq
       .exact Nq
       .omega
      have hs:OK=1:=by omega
      subst ho;subst hs;have hr:=(g5.drop off).take len;rw[ky,Nat.mul_one]at hr;obtain⟨xs,i1,i2,i3⟩:=pZ hr hb;have hl:xs.length=len:=by rw[i2];simp;omega
      refine⟨.string ⟨bs.toArray⟩,?_,by simp only[C']⟩;have Pj:=run_loadCells_list (P:=P) w ⟨b,off,none⟩ xs (λj u hu=>by rw[fA];exact i3 j u hu);rw[hl]at Pj;have hp:=λmsg=>yZ (P:=P) msg _ bs xs hb i1 .empty;simp only[Conv.bytesToString,Nat.mul_one,Sem.run_bind,Pj,Result.andThen_ok];rw[List.forIn_toArray];rw[show(.string ⟨bs.toArray⟩:Value)=.string ⟨ByteArray.empty.data++bs.toArray⟩ by rw[show ByteArray.empty.data=#[]from rfl,Array.empty_append]];have key:∀r:Result ByteArray,r=.ok ⟨ByteArray.empty.data++bs.toArray⟩ w->(r.andThen λa w'=>Sem.run P (pure (Value.string a)) w')=.ok (.string ⟨ByteArray.empty.data++bs.toArray⟩) w:=by
       rintro r rfl;simp
      exact key _ (hp _)
   .cases hv
  .cases hv
 .cases hv
def pC{m:Bool}{x y v:V}{X Y:Value}(ts:Array TypeId)(t:TypeId)(hx:C' I ow w x X)(hy:C' I ow w y Y)(hv:cb m x y=some v):
 ∃z,(if m then(do pure (Next.value (<-Builtin.max_ ts t #[X,Y])):Sem Next)else(do pure (Next.value (<-Builtin.min_ ts t #[X,Y])))).run P w=.ok (.value z) w/\C' I ow w v z:=by
 unfold cb at hv;split at hv
 .rename_i k a k' b;split at hv
  .simp only[C']at hx hy;simp only[aX]at hv;subst hv hx hy;cases m
   .exact⟨_,by simp[Builtin.min_,Builtin.min2];rfl,by simp[C']⟩
   .exact⟨_,by simp[Builtin.max_,Builtin.max2];rfl,by simp[C']⟩
  .cases hv
 .cases hv
def uI{x y:V}{X Y:Value}{b:Bool}(hx:C' I ow w x X)(hy:C' I ow w y Y)(hv:cu x y=some b){t:TypeId}(ht:CR P t=true)(d:Nat)
 (QW:(∃k,P.underlying t=some (.int k))->∃k n,x=.int k n)(htb:P.underlying t=some .bool->∃c,x=.bool c)(Pk:P.underlying t=some .string->∃c,x=.str c):
 (Op.equalIn (d+1) t X Y).run P w=.ok b w:=by
 unfold CR at ht;split at ht
 .rename_i k hk;obtain⟨k1,n1,rfl⟩:=QW ⟨k,hk⟩;cases y<;>simp only[cu,reduceCtorEq]at hv;split at hv
  .rename_i QX;simp only[aX]at hv;simp only[C']at hx hy;subst hx hy hv QX;rw[run_equalIn_int w d t _ _ _ _ hk,oI]
  .cases hv
 .rename_i hk;obtain⟨c,rfl⟩:=htb hk;cases y<;>simp only[cu,reduceCtorEq,aX]at hv;simp only[C']at hx hy;subst hx hy hv;exact run_equalIn_bool' w d t _ _ hk
 .rename_i hk;obtain⟨c,rfl⟩:=Pk hk;cases y<;>simp only[cu,reduceCtorEq,aX]at hv;simp only[C']at hx hy;subst hx hy hv;rw[run_equalIn_string w d t _ _ hk];simp[ByteArray.toList_eq,oI]
 .cases ht
def je(P:Program)(t:TypeId)(x:V):Bool:=match P.underlying t,x with
 |some (.int _),.int _ _=>true
 |some .bool,.bool _=>true
 |some .string,.str _=>true
 |_,_=>false
def lF{xs ys:List Value}{vs us:List V}(hx:ax I ow w vs xs)(hy:ax I ow w us ys)(d:Nat):∀(fl:List Field) (k:Nat) (b:Bool),
 fl.map (·.offset)=List.range' k fl.length->(∀f∈fl,CR P f.type=true/\f.name≠"_"/\bR P f.type=true)->(∀(j:Nat) f v,fl[j]?=some f->vs[k+j]?=some v->je P f.type v=true)->
 vs.length=k+fl.length->us.length=k+fl.length->
 bL (vs.drop k) (us.drop k)=some b->(Op.eqFields (d+1) ⟨xs⟩ ⟨ys⟩ fl).run P w=.ok b w
 |[],k,b,_,_,_,h1,h2,h=>by
  simp only[List.length_nil,Nat.add_zero]at h1 h2;rw[List.drop_of_length_le (by omega),List.drop_of_length_le (by omega)]at h;simp only[bL,aX]at h;subst h;simp[Op.eqFields]
 |f::fl,k,b,ho,hf,hc,h1,h2,h=>by
  simp only[MM]at h1 h2;simp only[fb,MM,List.range'_succ,List.cons.injEq]at ho;obtain⟨e1,e2⟩:=ho;obtain⟨f1,f2,f3⟩:=hf f (by simp);have hkv:k<vs.length:=by omega
  have hku:k<us.length:=by omega
  rw[iY hkv,iY hku]at h;simp only[bL]at h;split at h
  .rename_i c b' Yl NP;simp only[aX]at h;obtain⟨X,hX,hrX⟩:=hx.get (i:=k) (by rw[Oy hkv]);obtain⟨Y,hY,hrY⟩:=hy.get (i:=k) (by rw[Oy hku]);have NH:fc P f.type=false:=by
    unfold CR at f1;unfold fc;split at f1<;>simp_all
   have hp:∀(l:List Value) (Z:Value),l[k]?=some Z->(part f.type ⟨l⟩ f.offset).run P w=.ok Z w:=by
    intro l Z hZ;have:(⟨l⟩:Array Value)[k]?=some Z:=by simpa using hZ
    simp[part,pq (eu f3).1,NH,e1,this]
   have N0:=hc 0 f _ (by simp) (by rw[Nat.add_zero,Oy hkv]);have heq:=uI (P:=P) hrX hrY Yl f1 d
    (by rintro⟨kk,QX⟩;unfold je at N0;rw[QX]at N0;generalize vs[k]=z at*;cases z<;>simp at N0;exact⟨_,_,rfl⟩)
    (by intro QX;unfold je at N0;rw[QX]at N0;generalize vs[k]=z at*;cases z<;>simp at N0;exact⟨_,rfl⟩)
    (by intro QX;unfold je at N0;rw[QX]at N0;generalize vs[k]=z at*;cases z<;>simp at N0;exact⟨_,rfl⟩)
   simp only[Op.eqFields,f2,ne_eq,not_false_eq_true,if_true,Sem.run_bind,hp xs X hX,hp ys Y hY,Result.andThen_ok,heq];cases c
   .simp at h;subst h;simp
   .simp only[Bool.true_and]at h;subst h;simp only[Bool.not_true,iG,if_false];exact lF hx hy d fl (k+1) b' e2 (λg hg=>hf g (by simp[hg])) (λj g v hg hv=>hc (j+1) g v (by simpa using hg) (by rw[show k+(j+1)=k+1+j by omega];exact hv)) (by omega) (by omega) NP
  .cases h
def pM:∀(fl:List Field) (vs:List V),cK (fl.map λf=>nP P f.type) vs=true->
 vs.length=fl.length/\∀(j:Nat) f v,fl[j]?=some f->vs[j]?=some v->je P f.type v=true
 |[],[],_=>by simp
 |[],_::_,h=>by simp[cK]at h
 |f::fl,[],h=>by
  simp only[fb]at h;generalize nP P f.type=q at h;revert h
  match q with
  |0=>simp[cK]
  |1=>simp[cK]
  |2=>simp[cK]
  |n+3=>simp[cK]
 |f::fl,v::vs,h=>by
  have key:je P f.type v=true/\cK (fl.map λf=>nP P f.type) vs=true:=by
   simp only[fb]at h;generalize (fl.map λf=>nP P f.type)=ks at h|-;unfold nP at h;unfold je;cases hd:P.underlying f.type with
   |none=>rw[hd]at h;simp[cK]at h
   |some d=>
    rw[hd]at h;cases d<;>cases v<;>simp_all [cK]
  obtain⟨k1,k2⟩:=key;obtain⟨h1,h2⟩:=pM fl vs k2;refine⟨by simp[h1],λj g u hg hu=>?_⟩;cases j with
  |zero=>simp at hg hu;subst hg hu;exact k1
  |succ j=>exact h2 j g u (by simpa using hg) (by simpa using hu)
def Fj{t:TypeId}{fs:Array Field}(ht:P.underlying t=some (.struct fs))(hf:Dn P t fs=true){neg:Bool}{x y v:V}{X Y:Value}(hx:C' I ow w x X)(hy:C' I ow w y Y)
 (xo yo:Operand){op:BinOp}(LF:op=if neg then .neq else .eql)(hv:kF neg (fs.toList.map λf=>nP P f.type) x y=some v):
 ∃z,(do eqGuard op t xo yo X Y;binOp op t X Y:Sem Value).run P w=.ok z w/\C' I ow w v z:=by
 unfold kF at hv;split at hv
 .rename_i vs us;split at hv
  .rename_i N0;split at hv
   .rename_i b hb;simp only[aX]at hv;subst hv;simp only[C']at hx hy;obtain⟨xs,rfl,hx1,_⟩:=hx;obtain⟨ys,rfl,hy1,_⟩:=hy;simp only[Dn,Ba,beq_iff_eq,Bool.not_eq_true',fa,bne_iff_ne,ne_eq]at hf;obtain⟨⟨⟨f1,f2⟩,f3⟩,f4⟩:=hf;obtain⟨g3,g2⟩:=N0;obtain⟨g1,g4⟩:=pM (P:=P) fs.toList vs g3;have Qt:P.fieldsOf t=fs:=by simp[Program.fieldsOf,ht]
    have hE:=lF (P:=P) hx1 hy1 9998 fs.toList 0 b (by rw[f1];simp[List.range_eq_range']) (λf hf=>⟨(f2 f hf).1.1,(f2 f hf).1.2,(f2 f hf).2⟩)
     (λj f v hj hv=>by
       rw[ky]at hv;exact g4 j f v hj hv) (by omega) (by omega) (by simpa using hb)
    have Me:(Op.equalIn 10000 t (.agg ⟨xs⟩) (.agg ⟨ys⟩)).run P w=.ok b w:=by
     rw[run_equalIn_struct w 9999 t _ _ (by rw[Qt];exact ht) f3,Qt];exact hE
    have Qu:=run_eqGuard_agg (P:=P) w op t xo yo ⟨xs⟩ ⟨ys⟩ f4;refine⟨.bool (if neg then !b else b),?_,by simp[C']⟩;simp only[Sem.run_bind,Qu,Result.andThen_ok];cases neg<;>simp only[iG,if_false,if_true]at LF|-<;>subst LF
    .rw[run_eql_struct,Me];rfl
    .rw[run_neq_struct,Me];rfl
   .cases hv
  .cases hv
 .cases hv
def vP{P:Program}(w:World){t e:TypeId}(ht:P.underlying t=some (.pointer e))(q:Option Addr):
 (binOp .eql t (.pointer q) (.pointer none)).run P w=.ok (.bool q.isNone) w/\(binOp .neq t (.pointer q) (.pointer none)).run P w=.ok (.bool (!q.isNone)) w:=by
 have he:(Op.equal t (.pointer q) (.pointer none)).run P w=.ok q.isNone w:=by
  unfold Op.equal;rw[show Op.maxDepth=9999+1 from rfl];generalize 9999=d;cases q<;>simp[Op.equalIn,run_underlying ht]
 exact⟨by simp[binOp,he],by simp[binOp,he]⟩
def qh{F:Fr}{st:St}{a:Act}(hs:df F I st a w)(o:Oper){v:V}(hp:eV st.s (LU P F.n o.op))(hv:aL st.U st.s (LU P F.n o.op)=some v):
 ∃z,(execOp a.eval o).run P w=.ok (.value z) w/\C' I (aD I st.U) w v z:=by
 have R:=ct hs;have VV:∀(x:Sem Value) (z:Value),x.run P w=.ok z w->(do pure (.value (<-x)):Sem Next).run P w=.ok (.value z) w:=λx z h=>by simp[h]
 unfold execOp;cases ho:o.op
 all_goals rw[ho]at hp hv;simp only[LU]at hp hv
 all_goals try (simp only[aL,reduceCtorEq]at hv;done)
 case move x=>simp only[aL,aX]at hv;subst hv;exact⟨_,rfl,R x⟩
 case assign x=>simp only[aL,aX]at hv;subst hv;exact⟨_,rfl,R x⟩
 case pick c x y=>
  simp only[aL]at hv;have hc:=R c;split at hv
  .rename_i t ht;rw[ht]at hc;simp only[C']at hc;simp only[aX]at hv;subst hv;cases t
   .exact⟨_,by simp[hc,asBool],R y⟩
   .exact⟨_,by simp[hc,asBool],R x⟩
  .cases hv
 case alloc=>(repeat' split at hv)<;>simp[aL]at hv
 case range=>split at hv<;>simp[aL]at hv
 case makeMap=>split at hv<;>simp[aL]at hv
 case insert=>(repeat' split at hv)<;>simp[aL]at hv
 case mapUpdate=>(repeat' split at hv)<;>simp[aL]at hv
 case lookup=>(repeat' split at hv)<;>simp[aL]at hv
 case makeInterface t x=>
  split at hv
  .rename_i hc;simp only[Ba,Bool.not_eq_true']at hc;simp only[aL,aX]at hv;subst hv;refine⟨.iface t (a.eval x),?_,by simp only[C'];exact⟨_,rfl,R x⟩⟩;refine VV _ _ ?_;cases hu:P.underlying t with
   |none=>rw[hu]at hc;simp at hc
   |some d=>
    cases d
    case interface ms=>simp[sJ,hu]at hc
    all_goals simp[Instr.makeInterface,run_underlying hu]
  .simp[aL]at hv
 case typeAssert x xt t ok=>
  split at hv
  .simp[aL]at hv
  .rename_i hi;obtain⟨zv,z,hzv,hzr,hus,hv⟩:∃(zv:V) (z:Value),(zeroValue t).run P w=.ok z w/\C' I (aD I st.U) w zv z/\(P.underlying t).isSome=true/\aL st.U st.s (.more (.Yj t ok zv) [cx F.n x])=some v:=by
    split at hv
    .rename_i i z hz;refine⟨_,z,dY hz,lT z,?_,hv⟩;have hk:=(eI hz).2.2.1;simp only[bR,Ba]at hk;exact hk.1.2
    .split at hv
     .rename_i hn;obtain⟨_,h0,_⟩:=py hn;exact⟨.agg [],.agg #[],tV hn,by simp only[C'];exact⟨[],rfl,by simp[ax],by simp⟩,by rw[h0];rfl,hv⟩
     .simp[aL]at hv
   .simp only[aL]at hv;have hx:=R x;obtain⟨d,hu,MS⟩:∃d,P.underlying t=some d/\∀ms,d≠.interface ms:=by
     cases hu:P.underlying t with
     |none=>simp[hu]at hus
     |some d=>exact⟨d,rfl,λms e=>hi (by simp[sJ,hu,e])⟩
    have Vf:ok=true->(∀xx:Value,(Instr.typeAssert xx xt t ok).run P w=(do pure (Value.tuple #[<-zeroValue t,.bool false]):Sem Value).run P w->(Instr.typeAssert xx xt t ok).run P w=.ok (.tuple #[z,.bool false]) w):=λ_ xx h=>by
     rw[h];simp[hzv]
    unfold IT at hv;split at hv
    .rename_i t' v' V4;rw[V4]at hx;simp only[C']at hx;obtain⟨y,hy,hry⟩:=hx;by_cases ht:t'=t
     .subst ht;rw[aI rfl]at hv;simp only[aX]at hv;subst hv;cases ok
      .refine⟨y,VV _ _ ?_,hry⟩;rw[hy];cases d
       case interface ms=>exact absurd rfl (MS ms)
       all_goals simp[Instr.typeAssert,run_underlying hu]
      .refine⟨.tuple #[y,.bool true],VV _ _ ?_,by simp only[if_true,C'];exact⟨_,rfl,by simp only[ax,C'];exact⟨_,_,rfl,hry,_,_,rfl,rfl,rfl⟩⟩⟩;rw[hy];cases d
       case interface ms=>exact absurd rfl (MS ms)
       all_goals simp[Instr.typeAssert,run_underlying hu]
     .rw[aJ ht]at hv;cases ok
      .simp at hv
      .simp only[if_true,aX]at hv;subst hv;refine⟨.tuple #[z,.bool false],VV _ _ (Vf rfl _ ?_),by simp only[C'];exact⟨_,rfl,by simp only[ax,C'];exact⟨_,_,rfl,hzr,_,_,rfl,rfl,rfl⟩⟩⟩;rw[hy];cases d
       case interface ms=>exact absurd rfl (MS ms)
       all_goals simp[Instr.typeAssert,run_underlying hu,ht]
    .rename_i V4;rw[V4]at hx;simp only[C']at hx;cases ok
     .simp at hv
     .simp only[if_true,aX]at hv;subst hv;refine⟨.tuple #[z,.bool false],VV _ _ (Vf rfl _ ?_),by simp only[C'];exact⟨_,rfl,by simp only[ax,C'];exact⟨_,_,rfl,hzr,_,_,rfl,rfl,rfl⟩⟩⟩;rw[hx];cases d
      case interface ms=>exact absurd rfl (MS ms)
      all_goals simp[Instr.typeAssert,run_underlying hu]
    .cases hv
 case next it b=>cases b<;>simp[aL]at hv
 case buildSlice=>split at hv<;>(try split at hv)<;>(try split at hv)<;>simp[aL]at hv
 case makeSlice=>split at hv<;>(try split at hv)<;>(try split at hv)<;>simp[aL]at hv
 case build t parts=>
  split at hv
  .rename_i hn;simp only[Ba,beq_iff_eq]at hn;have hp:parts=#[]:=Array.eq_empty_of_size_eq_zero hn.2;subst hp;simp only[aL,VX.ev,aX]at hv;subst hv;exact⟨.agg #[],VV _ _ (by rw[Array.map_empty];exact yU hn.1),by simp only[C'];exact⟨[],rfl,by simp[ax],by simp⟩⟩
  split at hv
  .rename_i i z fs hz Oh;split at hv
   .rename_i hk;simp only[aL,Vd]at hv;obtain⟨cells,hb,rfl⟩:=hv;obtain⟨y,h1,h2⟩:=run_build hs hz Oh (by simpa only[Ba,fa,NV]using hk) hb;exact⟨y,VV _ _ h1,h2⟩
   .simp[aL]at hv
  .rename_i i z k e hz Oh;split at hv
   .rename_i hk;simp only[aL,Vd]at hv;obtain⟨cells,hb,rfl⟩:=hv;obtain⟨y,h1,h2⟩:=zq hs hz Oh hk hb;exact⟨y,VV _ _ h1,h2⟩
   .simp[aL]at hv
  .simp[aL]at hv
 case store=>(repeat' split at hv)<;>simp[aL]at hv
 case load t x=>
  split at hv
  .rename_i hk;simp only[aL]at hv;obtain⟨z,h1,h2⟩:=uw hs.sat hk (R x) hv;exact⟨z,VV _ _ h1,h2⟩
  .simp[aL]at hv
 case binOp op t x y yt=>
  have V5:∀(hp:eV st.s (.bin op (cx F.n x) (cx F.n y))) (hv:aL st.U st.s (.bin op (cx F.n x) (cx F.n y))=some v),
   ∃z,(do pure (Next.value (<-(do eqGuard op t x y (a.eval x) (a.eval y);binOp op t (a.eval x) (a.eval y):Sem Value))):Sem Next).run P w=.ok (.value z) w/\C' I (aD I st.U) w v z:=by
   intro hp hv;simp only[aL,eV]at hv hp;obtain⟨z,h1,h2⟩:=Ee (P:=P) (t:=t) (xo:=x) (yo:=y) (R x) (R y) hp hv;exact⟨z,VV _ _ h1,h2⟩
  split at hv
  .rename_i ht;have key:∀neg,(op=if neg then .neq else .eql)->aL st.U st.s (.NZ neg (cx F.n x) (cx F.n y))=some v->
    ∃z,(do pure (Next.value (<-(do eqGuard op t x y (a.eval x) (a.eval y);binOp op t (a.eval x) (a.eval y):Sem Value))):Sem Next).run P w=.ok (.value z) w/\C' I (aD I st.U) w v z:=by
    intro neg LF hv;simp only[aL]at hv;have hx:=R x;have hy:=R y;generalize (cx F.n x).ev st.s=xv at*;generalize (cx F.n y).ev st.s=yv at*;unfold binBV at hv;split at hv
    .rename_i a' b';simp only[C']at hx hy;simp only[aX]at hv;subst hv;rw[hx,hy];refine⟨.bool (if neg then !(a'==b')else a'==b'),VV _ _ ?_,by simp only[C']⟩;cases neg<;>simp only[iG,if_false,if_true]at LF<;>subst LF
     .simp[eqGuard,run_eql_bool w t a' b' ht]
     .simp[eqGuard,run_neq_bool w t a' b' ht]
    .cases hv
   cases op<;>simp only[aL,reduceCtorEq]at hv
   .exact key false rfl (by simpa only[aL]using hv)
   .exact key true rfl (by simpa only[aL]using hv)
  .rename_i fs ht;split at hv
   .rename_i Qv;have key:∀neg,(op=if neg then .neq else .eql)->aL st.U st.s (.Xo neg (fs.toList.map λf=>nP P f.type) (cx F.n x) (cx F.n y))=some v->
     ∃z,(do pure (Next.value (<-(do eqGuard op t x y (a.eval x) (a.eval y);binOp op t (a.eval x) (a.eval y):Sem Value))):Sem Next).run P w=.ok (.value z) w/\C' I (aD I st.U) w v z:=by
     intro neg LF hv;simp only[aL]at hv;obtain⟨z,h1,h2⟩:=Fj (P:=P) ht Qv (R x) (R y) x y LF hv;exact⟨z,VV _ _ h1,h2⟩
    cases op<;>simp only[aL,reduceCtorEq]at hv
    .exact key false rfl (by simpa only[aL]using hv)
    .exact key true rfl (by simpa only[aL]using hv)
   .simp[aL]at hv
  .rename_i h1 h2;split at hv
   .unfold cy at hv;split at hv
    .simp only[aL,VX.ev]at hv;unfold binBV at hv;split at hv
     .rename_i hx;cases hx
     .cases hv
    .simp[aL]at hv
   .rename_i hns;split at hv
    .split at hv
     .simp only[aL,VX.ev]at hv;unfold binBV at hv;split at hv
      .rename_i hx;cases hx
      .cases hv
     .simp[aL]at hv
    .rename_i Ym;split at hv
     .split at hv
      .simp only[aL,VX.ev]at hv;unfold binBV at hv;split at hv
       .rename_i hx;cases hx
       .cases hv
      .simp[aL]at hv
     .rename_i Rg;split at hv
      .rename_i hnp;simp only[Ba]at hnp;obtain⟨hpt,SN⟩:=hnp;unfold Jd at hpt;split at hpt
       .rename_i e ht;unfold FM at SN;split at SN
        .split at hv
         .rename_i LF;simp only[aL]at hv;have hx:=R x;generalize (cx F.n x).ev st.s=xv at*;have hY:a.eval (.const (.pointer none))=.pointer none:=rfl;have key:∀q:Option Addr,a.eval x=.pointer q->∃z,(do pure (Next.value (<-(do eqGuard op t x (.const (.pointer none)) (a.eval x) (a.eval (.const (.pointer none)));binOp op t (a.eval x) (a.eval (.const (.pointer none))):Sem Value))):Sem Next).run P w=.ok (.value z) w/\z=.bool (if op=.neq then !q.isNone else q.isNone):=by
           intro q hq;rw[hq,hY];obtain⟨q1,q2⟩:=vP (P:=P) w ht q;have hg:∀op,(eqGuard op t x (.const (.pointer none)) (.pointer q) (.pointer none)).run P w=.ok () w:=by intro op;simp[eqGuard]
           rcases LF with rfl|rfl
           .exact⟨_,by simp only[Sem.run_bind,hg,Result.andThen_ok,q1];rfl,by simp⟩
           .exact⟨_,by simp only[Sem.run_bind,hg,Result.andThen_ok,q2];rfl,by simp⟩
          unfold DH at hv;split at hv
          .simp only[C']at hx;simp only[aX]at hv;subst hv;obtain⟨z,h3,rfl⟩:=key none hx;refine⟨_,h3,?_⟩;rcases LF with rfl|rfl<;>simp[C']
          .simp only[C']at hx;split at hx
           .simp only[aX]at hv;subst hv;obtain⟨z,h3,rfl⟩:=key _ hx.1;refine⟨_,h3,?_⟩;rcases LF with rfl|rfl<;>simp[C']
           .exact hx.elim
          .simp only[C']at hx;obtain⟨b,off,hx,_⟩:=hx;simp only[aX]at hv;subst hv;obtain⟨z,h3,rfl⟩:=key _ hx;refine⟨_,h3,?_⟩;rcases LF with rfl|rfl<;>simp[C']
          .cases hv
         .simp[aL]at hv
        .cases SN
       .cases hpt
      .rename_i hnp;refine V5 ?_ hv;revert hp;split
       .rename_i h4;exact absurd h4 h1
       .rename_i fs h4;exact absurd h4 (h2 fs)
       .rw[aJ hns,aJ Ym,aJ Rg,aJ hnp];exact id
 case nilCheck x=>
  simp only[aL]at hv;have hx:=R x;generalize (cx F.n x).ev st.s=xv at*;unfold bC at hv;split at hv
  .simp only[aX]at hv;subst hv;have LX:=hx;simp only[C']at LX;split at LX
   .exact⟨a.eval x,by simp[LX],hx⟩
   .exact LX.elim
  .simp only[aX]at hv;subst hv;have LX:=hx;simp only[C']at LX;obtain⟨b,off,e,_⟩:=LX;exact⟨a.eval x,by simp[e],hx⟩
  .simp only[aX]at hv;subst hv;have LX:=hx;simp only[C']at LX;obtain⟨Lz,e,_⟩:=LX;exact⟨a.eval x,by simp[e],hx⟩
  .simp only[aX]at hv;subst hv;have LX:=hx;simp only[C']at LX;obtain⟨y,e,_⟩:=LX;exact⟨a.eval x,by simp[e],hx⟩
  .cases hv
 case box=>split at hv<;>simp[aL]at hv
 case unOp op t x=>
  have hx:=R x;cases op<;>simp only[aL,reduceCtorEq]at hv<;>simp only[eV]at hp
  .split at hv
   .rename_i k n hn;simp only[hn]at hx hp;simp only[C']at hx;simp only[aX]at hv;subst hv;simp only[LP]at hp;exact⟨.int k (0-n),VV _ _ (by simp only[hx,Op.unary,Op.intArith];rw[hp];rfl),by simp[C']⟩
   .cases hv
  .split at hv
   .rename_i b hb;rw[hb]at hx;simp only[C']at hx;simp only[aX]at hv;subst hv;exact⟨.bool (!b),VV _ _ (by simp[hx,Op.unary]),by simp[C']⟩
   .cases hv
 case convert src dst x=>
  split at hv
  .rename_i k1 k2 h1 h2;simp only[h1,h2]at hp;have hx:=R x;simp only[aL,eV]at hv hp;split at hv
   .rename_i k n hn;rw[hn]at hx hp;simp only[C']at hx;simp only[aX]at hv;subst hv;simp only[LP]at hp;refine⟨.int k2 n,VV _ _ ?_,by simp[C']⟩;simp[Go.convert,run_underlying h1,run_underlying h2,hx,Conv.intToInt,hp]
   .cases hv
  .rename_i e h1 h2;split at hv
   .rename_i h3;have h3:P.underlying e=some (.int .u8):=by
     unfold u8T at h3;split at h3
     .assumption
     .cases h3
    simp only[aL]at hv;obtain⟨z,g1,g2⟩:=yH (P:=P) hs.sat (R x) hv;refine⟨z,VV _ _ ?_,g2⟩;obtain⟨b,n,c,hX⟩:∃b n c,a.eval x=.slice b n c:=by
     have hx:=R x;unfold cD at hv;split at hv
     .rename_i LX;rw[LX]at hx;simp only[C']at hx;exact⟨_,_,_,hx⟩
     .rename_i LX;rw[LX]at hx;simp only[C']at hx;split at hx
      .exact hx.elim
      .exact⟨_,_,_,hx.1⟩
      .obtain⟨o,c,h,_⟩:=hx;exact⟨_,_,_,h⟩
     .cases hv
    rw[hX]at g1|-;cases b<;>simp[Go.convert,run_underlying h1,run_underlying h2,run_underlying h3,g1]
   .simp[aL]at hv
  .split at hv<;>simp[aL]at hv
 case makeFunc fn first caps=>
  cases fn
  case func f=>
   by_cases h0:first.size=0
   .simp only[aI h0,aL,aX]at hv;subst hv;refine⟨.func (.func f) #[] (caps.map a.eval),VV _ _ ?_,?_⟩
    .have:first=#[]:=Array.eq_empty_of_size_eq_zero h0
     subst this;simp[Instr.makeFunc]
    .simp only[C'];exact⟨caps.toList.map a.eval,by congr 1;apply Array.ext';simp,mr hs _⟩
   .have Re:aL st.U st.s (if first.size=0 then L5.Ra f (caps.toList.map (cx F.n))else if caps.size=0 then .more (.Yi f) (first.toList.map (cx F.n))else .bad)=some v:=hv;rw[aJ h0]at Re;by_cases h1:caps.size=0
    .rw[aI h1]at Re;simp only[aL,aX]at Re;subst Re;refine⟨.func (.func f) (first.map a.eval) #[],VV _ _ ?_,?_⟩
     .have:caps=#[]:=Array.eq_empty_of_size_eq_zero h1;subst this;simp[Instr.makeFunc]
     .simp only[C'];exact⟨first.toList.map a.eval,by congr 1;apply Array.ext';simp,mr hs _⟩
    .rw[aJ h1]at Re;simp only[aL,reduceCtorEq]at Re
  all_goals simp[aL]at hv
 case slice t x lo hi mx=>
  split at hv
  .rename_i e ht;split at hv
   .rename_i hk;simp only[Ba,jH]at hk;simp only[aL]at hv;obtain⟨z,h1,h2⟩:=qX hs.sat ht hk.1 (R x) (sX hs lo) (sX hs hi) (sX hs mx)
     (by intro h;rcases hk.2 with h'|h'<;>cases mx<;>cases hi<;>simp_all) hv
    exact⟨z,VV _ _ h1,h2⟩
   .simp[aL]at hv
  .rename_i ht;split at hv
   .rename_i hm;simp only[aL]at hv;have Uy:mx=none:=by simpa using hm
    subst Uy;obtain⟨z,h1,h2⟩:=rB (P:=P) ht (R x) (sX hs lo) (sX hs hi) hv;exact⟨z,VV _ _ h1,h2⟩
   .simp[aL]at hv
  .simp[aL]at hv
 case fieldAddr s x f=>
  split at hv
  .rename_i fs Oh;split at hv
   .rename_i fd Vg;split at hv
    .rename_i hk;simp only[aL]at hv;obtain⟨z,h1,h2⟩:=A0 (P:=P) Oh Vg hk (R x) hv;exact⟨z,VV _ _ h1,h2⟩
    .simp[aL]at hv
   .simp[aL]at hv
  .simp[aL]at hv
 case field s x f=>
  split at hv
  .rename_i fs Oh;split at hv
   .rename_i fd Vg;split at hv
    .rename_i hk;have hx:=R x;simp only[aL]at hv;unfold gY at hv;split at hv
     .rename_i vs Yn;rw[Yn]at hx;simp only[C']at hx;obtain⟨Lz,hX,hr,h1⟩:=hx;obtain⟨z,hz,Rd⟩:=wJ (P:=P) (w:=w) hk hr h1 hv;exact⟨z,VV _ _ (by simp[Instr.field,run_underlying Oh,Vg,hX,asAgg,hz]),Rd⟩
     .cases hv
    .simp[aL]at hv
   .simp[aL]at hv
  .simp[aL]at hv
 case indexAddr t x i=>
  split at hv
  .rename_i e ht;split at hv
   .rename_i hk;simp only[aL]at hv;obtain⟨z,h1,h2⟩:=AO hs.sat ht hk (R x) (R i) hv;exact⟨z,VV _ _ h1,h2⟩
   .simp[aL]at hv
  .rename_i k e ht;split at hv
   .rename_i hk;simp only[aL]at hv;obtain⟨z,h1,h2⟩:=zu (P:=P) ht hk (R x) (R i) hv;exact⟨z,VV _ _ h1,h2⟩
   .simp[aL]at hv
  .simp[aL]at hv
 case index t x i=>
  split at hv
  .rename_i k e ht;split at hv
   .rename_i hk;simp only[aL]at hv;obtain⟨z,h1,h2⟩:=BA (P:=P) ht hk (R x) (R i) hv;exact⟨z,VV _ _ h1,h2⟩
   .simp[aL]at hv
  .rename_i ht;simp only[aL]at hv;obtain⟨z,h1,h2⟩:=AG (P:=P) ht (R x) (R i) hv;exact⟨z,VV _ _ h1,h2⟩
  .simp[aL]at hv
 case extract x i=>
  simp only[aL]at hv;have hx:=R x;unfold gW at hv;split at hv
  .rename_i vs Yn;rw[Yn]at hx;simp only[C']at hx;obtain⟨Lz,hX,hr⟩:=hx;obtain⟨z,hz,Rd⟩:=hr.get hv;exact⟨z,VV _ _ (by simp[Instr.extract,hX,hz]),Rd⟩
  .cases hv
 case call c=>
  obtain⟨callee,args,argTypes⟩:=c;cases callee
  case value=>simp only[aL,reduceCtorEq]at hv
  case invoke=>simp only[aL,reduceCtorEq]at hv
  case builtin b=>
   cases b
   case delete=>simp only[]at hv;split at hv<;>(try split at hv)<;>simp[aL]at hv
   case copy=>simp only[]at hv;split at hv<;>(try split at hv)<;>(try split at hv)<;>simp[aL]at hv
   case len=>
    simp only[]at hv;split at hv
    .rename_i x t Mq ht;have hx:=R x;have Oa:args=#[x]:=by apply Array.ext';simpa using Mq
     have hlen:∀z,(Builtin.len_ argTypes o.type #[a.eval x]).run P w=.ok z w->
      (do let d <-resolve a.eval { callee:=.builtin .len,args:=args,argTypes:=argTypes } o.type;invoke d.target d.args:Sem Next).run P w=.ok (.value z) w:=by
      intro z hz;simp[resolve,invoke,Go.builtin,Oa,hz]
     have QW:Builtin.len_ argTypes o.type #[a.eval x]=Builtin.len_ #[t] o.type #[a.eval x]:=by
      simp[Builtin.len_,ht]
     split at hv
     .rename_i e he;obtain⟨z,h1,h2⟩:=xE (P:=P) hx (by simpa only[aL]using hv) o.type (t:=t) (by simp[he]);exact⟨z,hlen z (QW▸h1),h2⟩
     .rename_i he;obtain⟨z,h1,h2⟩:=xE (P:=P) hx (by simpa only[aL]using hv) o.type (t:=t) (by simp[he]);exact⟨z,hlen z (QW▸h1),h2⟩
     .simp[aL]at hv
    .simp[aL]at hv
   case cap=>
    simp only[]at hv;split at hv
    .rename_i x t Mq ht;have hx:=R x;have Oa:args=#[x]:=by apply Array.ext';simpa using Mq
     split at hv
     .rename_i Qw;obtain⟨e,he⟩:∃e,P.underlying t=some (.slice e):=by
       unfold uX at Qw;split at Qw
       .rename_i e he;exact⟨e,he⟩
       .cases Qw
      simp only[aL,ie]at hv;split at hv
      .rename_i hn;rw[hn]at hx;simp only[C']at hx;simp only[aX]at hv;subst hv;refine⟨.int .i64 0,?_,by simp[C']⟩;simp[resolve,invoke,Go.builtin,Oa,Builtin.cap_,ht,run_underlying he,hx,goInt]
      .cases hv
     .simp[aL]at hv
    .simp[aL]at hv
   case min=>
    simp only[]at hv;split at hv
    .rename_i x y Mq;have Oa:args=#[x,y]:=by apply Array.ext';simpa using Mq
     obtain⟨z,h1,h2⟩:=pC (P:=P) (w:=w) (m:=false) argTypes o.type (R x) (R y) (by simpa only[aL]using hv);exact⟨z,by simpa[resolve,invoke,Go.builtin,Oa]using h1,h2⟩
    .simp[aL]at hv
   case max=>
    simp only[]at hv;split at hv
    .rename_i x y Mq;have Oa:args=#[x,y]:=by apply Array.ext';simpa using Mq
     obtain⟨z,h1,h2⟩:=pC (P:=P) (w:=w) (m:=true) argTypes o.type (R x) (R y) (by simpa only[aL]using hv);exact⟨z,by simpa[resolve,invoke,Go.builtin,Oa]using h1,h2⟩
    .simp[aL]at hv
   case clear=>
    simp only[]at hv;split at hv
    .split at hv
     .split at hv<;>simp[aL]at hv
     .simp[aL]at hv
    .simp[aL]at hv
   case append=>
    simp only[]at hv;split at hv
    .split at hv
     .split at hv
      .split at hv<;>simp[aL]at hv
      .simp[aL]at hv
     .split at hv
      .split at hv<;>simp[aL]at hv
      .split at hv<;>simp[aL]at hv
      .simp[aL]at hv
    .simp[aL]at hv
   all_goals simp[aL]at hv
variable {P:Program} {I:Mu} {ow:Nat->Prop} {w w':World}
def flat(rows:List V):List V:=rows.flatMap V.cells
def aO.append:∀{vs us:List V} {b off:Nat},aO I ow w (vs++us) b off↔aO I ow w vs b off/\aO I ow w us b (off+vs.length)
 |[],us,b,off=>by simp[aO]
 |v::vs,us,b,off=>by
  simp only[List.cons_append,aO,aO.append (vs:=vs),MM];rw[show off+(vs.length+1)=off+1+vs.length by omega,and_assoc]
def iF:∀{rows:List V} {b off sz:Nat},aY I ow w rows b off sz↔(∀r∈rows,r.cells.length=sz)/\aO I ow w (flat rows) b off
 |[],b,off,sz=>by simp[aY,flat,aO]
 |r::rs,b,off,sz=>by
  have ih:=iF (rows:=rs) (b:=b) (off:=off+sz) (sz:=sz);simp only[aY,ih,ed];have e:flat (r::rs)=r.cells++flat rs:=by simp[flat]
  rw[e,aO.append];constructor
  .rintro⟨h1,h2,h3,h4⟩;exact⟨λx hx=>(dI.1 hx).elim (λe'=>e'▸h1) (h3 x),h2,by rw[h1];exact h4⟩
  .rintro⟨h1,h2,h3⟩;have h0:=h1 r (by simp);exact⟨h0,h2,λx hx=>h1 x (by simp[hx]),by rw[h0]at h3;exact h3⟩
def qe{rows:List V}{sz:Nat}(h:∀r∈rows,r.cells.length=sz):(flat rows).length=rows.length*sz:=by
 induction rows with
 |nil=>simp[flat]
 |cons r rs ih=>
  have e:flat (r::rs)=r.cells++flat rs:=by simp[flat]
  rw[e,kf,h r (by simp),ih (λx hx=>h x (by simp[hx])),MM,Nat.add_mul];omega
def jR(a b:List V):flat (a++b)=flat a++flat b:=by simp[flat]
def jK:∀{vs:List V} {xs:List Value} {b off:Nat},ax I ow w vs xs->(∀u∈xs,u.oneCell'=true)->
 (∀(j:Nat) u,xs[j]?=some u->w.cell? ⟨b,off+j,none⟩=some u)->aO I ow w vs b off
 |[],_,_,_,_,_,_=>by simp[aO]
 |v::vs,l,b,off,h,h1,h2=>by
  simp only[ax]at h;obtain⟨x,xs,rfl,h3,h4⟩:=h;simp only[aO];refine⟨⟨x,by simpa using h2 0 x (by simp),h3,h1 x (by simp)⟩,jK h4 (λu hu=>h1 u (by simp[hu])) ?_⟩;intro j u hu;have:=h2 (j+1) u (by simpa using hu)
  rwa [show off+(j+1)=off+1+j by omega]at this
def bT(U:ag):Option Nat->ag
 |none=>U
 |some i=>del U i
def uo{U:ag}{o:Option Nat}{i:Nat}{x:Ob}(h:bT U o i=some x):U i=some x/\some i≠o:=by
 cases o with
 |none=>exact⟨h,by simp⟩
 |some k=>
  simp only[bT,del]at h;split at h
  .cases h
  .rename_i LR;exact⟨h,by simpa using LR⟩
def Sat.dJ{w0:World}{Ml:Nat->Prop}{U:ag}(h:Sat w0 Ml I U w):∃id,I id=.dJ/\U id=none/\∀p,∃N,∀i,N<=i->(λk=>if k=id then p else I k:Mu) i=.dJ:=by
 obtain⟨N,hN⟩:=h.fin;refine⟨N,hN N (Md _),?_,λp=>⟨N+1,λi hi=>?_⟩⟩
 .cases ho:U N with
  |none=>rfl
  |some o=>
   have:=h.obj N o ho;rw[hN N (Md _)]at this;exact this.elim
 .simp[show i≠N by omega,hN i (by omega)]
def Sat.renew{w0:World}{Ml:Nat->Prop}{U:ag}(h:Sat w0 Ml I U w){row:Option Nat}(hg:w.grownBy w' row)(LQ:Option Nat)
 (hA:row=none\/∃i oA sz cap b,LQ=some i/\U i=some oA/\I i=.Mk b sz cap/\row=some b)
 (b sz cap:Nat)(cur:Array Value)(e:TypeId)(rows:List V)(xs:List Value)(hb:some b=row\/w.heap.size<=b)
 (Qx:w'.heap[b]?=some (.cells cur e (0,0)))(No:0<sz)(V6:cur.size=cap*sz)(Mh:rows.length<=cap)(Rc:cap<=maxLen)
 (hlen:∀r∈rows,r.cells.length=sz)(hx:ax I (aD I U) w (flat rows) xs)(MH:∀u∈xs,u.oneCell'=true)
 (Pu:∀(j:Nat) u,xs[j]?=some u->cur[j]?=some u):
 ∃id,U id=none/\∃Y':Mu,Y' id=.Mk b sz cap/\cU I Y'/\Sat w0 Ml Y' (E' (bT U LQ) id ⟨e,sz,rows⟩) w'/\
  cS (aD I U) (aD Y' (E' (bT U LQ) id ⟨e,sz,rows⟩)) w w':=by
 obtain⟨id,Ls,L6,L3⟩:=h.dJ;refine⟨id,L6,λk=>if k=id then .Mk b sz cap else I k,by simp,λk hk=>?_,?_⟩
 .have:k≠id:=λe'=>hk (e'▸Ls);simp[this]
 .have hle:cU I (λk=>if k=id then .Mk b sz cap else I k):=λk hk=>by
   have:k≠id:=λe'=>hk (e'▸Ls);simp[this]
  have Mz:∀b',row=some b'->aD I U b':=λb' N7=>by
   rcases hA with h1|⟨i,oA,NW,MP,b'',h1,h2,h3,h4⟩
   .rw[h1]at N7;cases N7
   .rw[h4]at N7;cases N7;exact⟨i,oA,NW,MP,h2,h3⟩
  refine h.put hg Mz hle (L3 _) id ⟨e,sz,rows⟩ (λo ho=>?_) (λi o hi ho=>?_) (λb' NW MP N7=>?_) (λhk=>?_)
  .simp[E']at ho;exact ho.symm
  .simp only[E',aJ hi]at ho;obtain⟨h1,h2⟩:=uo ho;refine⟨h1,λb' NW MP h3 h4=>?_⟩;rcases hA with h5|⟨iA,oA,szA,capA,bA,h5,h6,h7,h8⟩
   .rw[h5]at h4;cases h4
   .rw[h8]at h4;cases h4;have:=h.inj i iA o oA _ _ _ _ _ h1 h6 h3 h7;exact h2 (by rw[this,h5])
  .simp only[if_true,Pl.Mk.injEq]at N7;rw[<-N7.1];exact hb
  .simp only[if_true,nZ];refine .inl ⟨cur,Qx,trivial,No,V6,Mh,Rc,?_⟩;rw[iF];refine⟨hlen,jK (ax.mono hle hk hg.size _ _ hx) MH ?_⟩;intro j u hu;rw[cell_of_row w' b _ cur e (0,0) Qx];simpa using Pu j u hu
def Sat.B0{w0:World}{Ml:Nat->Prop}{U:ag}(h:Sat w0 Ml I U w)(LQ:Option Nat)(e:TypeId)(sz:Nat):
 ∃id,U id=none/\∃Y':Mu,Y' id=.nil/\cU I Y'/\Sat w0 Ml Y' (E' (bT U LQ) id ⟨e,sz,[]⟩) w/\
  cS (aD I U) (aD Y' (E' (bT U LQ) id ⟨e,sz,[]⟩)) w w:=by
 obtain⟨id,Ls,L6,L3⟩:=h.dJ;have hle:cU I (λk=>if k=id then .nil else I k):=λk hk=>by
  have:k≠id:=λe'=>hk (e'▸Ls);simp[this]
 refine⟨id,L6,λk=>if k=id then .nil else I k,by simp,hle,?_⟩;refine h.put (row:=none) ⟨rfl,rfl,rfl,Md _,λ_ _ _=>rfl⟩ (by simp) hle (L3 _) id ⟨e,sz,[]⟩ (λo ho=>?_) (λi o hi ho=>?_) (λb' NW MP N7=>?_) (λhk=>?_)
 .simp[E']at ho;exact ho.symm
 .simp only[E',aJ hi]at ho;exact⟨(uo ho).1,by simp⟩
 .simp at N7
 .simp[nZ]
def Sat.change{w0:World}{Ml:Nat->Prop}{U:ag}(h:Sat w0 Ml I U w){id b sz cap:Nat}{o:Ob}(ho:U id=some o)(Ls:I id=.Mk b sz cap)(hz:0<sz)
 (hg:w.grownBy w' (some b))(cur:Array Value)(rows:List V)(xs:List Value)
 (Qx:w'.heap[b]?=some (.cells cur o.elem (0,0)))(V6:cur.size=cap*sz)(Mh:rows.length<=cap)
 (hlen:∀r∈rows,r.cells.length=sz)(hx:ax I (aD I U) w (flat rows) xs)(MH:∀u∈xs,u.oneCell'=true)
 (Pu:∀(j:Nat) u,xs[j]?=some u->cur[j]?=some u):
 Sat w0 Ml I (E' U id { o with rows:=rows }) w'/\cS (aD I U) (aD I (E' U id { o with rows:=rows })) w w':=by
 have MQ:=h.obj id o ho;rw[Ls]at MQ;obtain⟨_,_,h2,h3,_,_,h6,_⟩:=MQ.plain hz;refine h.put hg (λb' N7=>by cases N7;exact⟨id,o,sz,cap,ho,Ls⟩) (cU.refl _) h.fin id { o with rows:=rows } (λx LX=>by simp[E']at LX;exact LX.symm)
  (λi x hi LX=>?_) (λb' NW MP N7=>?_) (λhk=>?_)
 .simp only[E',aJ hi]at LX;refine⟨LX,λb' NW MP h4 h5=>hi ?_⟩;cases h5;exact h.inj i id x o _ _ _ _ _ LX ho h4 Ls
 .rw[Ls]at N7;cases N7;exact .inl rfl
 .rw[Ls];refine .inl ⟨cur,Qx,h2,h3,V6,Mh,h6,?_⟩;rw[iF];refine⟨hlen,jK (ax.mono (cU.refl _) hk hg.size _ _ hx) MH ?_⟩;intro j u hu;rw[cell_of_row w' b _ cur o.elem (0,0) Qx];simpa using Pu j u hu
def aU(s:Nat->V):Option Nat->V->Nat->V
 |none,_=>s
 |some d,v=>λi=>if i=d then v else s i
def df.step{F:Fr}{Y':Mu}{st:St}{a:Act}{Z':ag}(hs:df F I st a w)(h1:Sat F.w0 F.Ml Y' Z' w')(h2:cU I Y')
 (h3:cS (aD I st.U) (aD Y' Z') w w')(h4:w.heap.size<=w'.heap.size){d:Option Tmp}{v:V}{x:Value}(hv:C' Y' (aD Y' Z') w' v x):
 df F Y' ⟨aU st.s (d.filter (·<F.n)) v,Z'⟩ (a.put d x) w' where
 sat:=h1
 le:=hs.le.trans h2
 size:=by cases d<;>simp[Act.put,hs.size]
 book:=by
  have:=hs.book.tg h3;cases d<;>simpa[Act.put]using this
 slot:=λi hi=>by
  have hold:=C'.mono h2 h3 h4 _ _ (hs.slot i hi);cases d with
  |none=>simpa[Act.put,aU]using hold
  |some d=>
   simp only[Act.put,Option.filter_some];by_cases hd:d<F.n
   .simp only[hd,decide_true,if_true,aU];by_cases Ls:i=d
    .subst Ls;simp only[if_true];rw[Og,Array.getElem?_setIfInBounds_self_of_lt (by rw[hs.size];exact hi)];exact hv
    .simp only[aJ Ls];rw[Og,Array.getElem?_setIfInBounds_ne (λe=>Ls e.symm),<-Og];exact hold
   .simp only[hd,decide_false,iG,if_false,aU];rw[Og,Array.getElem?_setIfInBounds_ne (λ(e:d=i)=>hd (e▸hi)),<-Og];exact hold
def df.pure{F:Fr}{st:St}{a:Act}(hs:df F I st a w){d:Option Tmp}{v:V}{x:Value}(hv:C' I (aD I st.U) w v x):
 df F I ⟨aU st.s (d.filter (·<F.n)) v,st.U⟩ (a.put d x) w:=
 hs.step hs.sat (cU.refl _) (λ_ _ h=>⟨h,rfl⟩) (Md _) hv
variable {P:Program} {I:Mu} {ow:Nat->Prop} {w w':World}
def bQ(r:V)(k sz:Nat)(x:V):Option V:=
 if x.cells.length=sz/\x.stays=true then
  (if k=0/\r.cells.length=sz then some x
   else if k+sz<=r.cells.length then some (.agg (r.cells.take k++x.cells++r.cells.drop (k+sz)))else none)
 else none
def tk{r x r':V}{k sz:Nat}(h:bQ r k sz x=some r'):x.cells.length=sz/\x.stays=true/\k+sz<=r.cells.length/\
 r'.cells=r.cells.take k++x.cells++r.cells.drop (k+sz):=by
 unfold bQ at h;split at h
 .rename_i h1;split at h
  .rename_i h2;obtain⟨rfl,h3⟩:=h2;simp only[aX]at h;subst h;refine⟨h1.1,h1.2,by omega,?_⟩;simp[h3]
  .split at h
   .rename_i h3;simp only[aX]at h;subst h;exact⟨h1.1,h1.2,h3,by simp[V.cells]⟩
   .cases h
 .cases h
def B5{rows:List V}{TX:Nat}(hlen:∀r∈rows,r.cells.length=TX){i:Nat}{r r':V}(hr:rows[i]?=some r){k sz:Nat}{xs:List V}
 (hk:k+sz<=TX)(hc:r'.cells=r.cells.take k++xs++r.cells.drop (k+sz)):
 flat (rows.set i r')=(flat rows).take (i*TX+k)++xs++(flat rows).drop (i*TX+k+sz):=by
 induction rows generalizing i with
 |nil=>simp at hr
 |cons q rows ih=>
  have hq:=hlen q (by simp);have e:∀l,flat (q::l)=q.cells++flat l:=λl=>by simp[flat]
  cases i with
  |zero=>
   simp only[Fk,aX]at hr;subst hr;simp only[List.set_cons_zero,Nat.zero_mul,ky];rw[e,show flat (r'::rows)=r'.cells++flat rows by simp[flat],hc];rw[Jy (by omega),Dp (by omega)];simp
  |succ i=>
   simp only[EO]at hr;simp only[List.set_cons_succ];rw[e,e,ih (λx hx=>hlen x (by simp[hx])) hr];have e1:(i+1)*TX+k=q.cells.length+(i*TX+k):=by rw[hq,Nat.add_mul];omega
   have e2:(i+1)*TX+k+sz=q.cells.length+(i*TX+k+sz):=by omega
   rw[e1,show q.cells.length+(i*TX+k)+sz=q.cells.length+(i*TX+k+sz) by omega,List.take_length_add_append,List.drop_length_add_append];simp
def mI{α:Type}(l xs Lz:List α)(h:∀(j:Nat) u,xs[j]?=some u->l[j]?=some u)(o:Nat)(ho:o+Lz.length<=xs.length):
 ∀(j:Nat) u,(xs.take o++Lz++xs.drop (o+Lz.length))[j]?=some u->(l.take o++Lz++l.drop (o+Lz.length))[j]?=some u:=by
 have hl:xs.length<=l.length:=by
  rcases Nat.lt_or_ge l.length xs.length with h1|h1
  .have h2:=h l.length xs[l.length] (by simp[h1]);simp at h2
  .exact h1
 intro j u hu;simp only[lU]at hu|-;rw[Is]at hu|-;simp only[nB,Nat.min_eq_left (show o<=xs.length by omega),Nat.min_eq_left (show o<=l.length by omega)]at hu|-;split at hu
 .rename_i h1;rw[aI h1];rw[List.getElem?_take_of_lt h1]at hu|-;exact h j u hu
 .rename_i h1;rw[aJ h1];rw[Is]at hu|-;split at hu
  .rename_i h2;rw[aI h2];exact hu
  .rename_i h2;rw[aJ h2];rw[F6]at hu|-;exact h _ u hu
def aY.cur{rows:List V}{b sz:Nat}{cur:Array Value}{e:TypeId}{fr:Nat×Nat}(h:aY I ow w rows b 0 sz)(hc:w.heap[b]?=some (.cells cur e fr)):
 (∀r∈rows,r.cells.length=sz)/\∃xs,ax I ow w (flat rows) xs/\(∀u∈xs,u.oneCell'=true)/\xs.length=rows.length*sz/\∀(j:Nat) u,xs[j]?=some u->cur.toList[j]?=some u:=by
 rw[iF]at h;obtain⟨h1,h2⟩:=h;obtain⟨xs,h3,h4,h5⟩:=h2.zP;refine⟨h1,xs,h3,h4,by rw[h3.length,qe h1],λj u hu=>?_⟩;have:=h5 j u hu;rw[cell_of_row w b _ cur e fr hc]at this;simpa using this
def pD{F:Fr}{st:St}{a:Act}(hs:df F I st a w){o:Oper}{t:TypeId}{x y:Operand}(P3:o.op=.store t x y)(hk:bR P t=true)
 {id i k:Nat}(h1:(cx F.n x).ev st.s=.ptr id i k){ob:Ob}(h2:st.U id=some ob){r r':V}(h3:ob.rows[i]?=some r)(h4:bQ r k (P.cellsOf t) ((cx F.n y).ev st.s)=some r'):
 ∃w',(execOp a.eval o).run P w=.ok .skip w'/\df F I ⟨aU st.s (o.dst.filter (·<F.n)) (.LI []),E' st.U id { ob with rows:=ob.rows.set i r' }⟩ (a.put o.dst undef) w':=by
 have R:=ct hs;obtain⟨c1,c2,c3,c4⟩:=tk h4;have hx:=R x;have hy:=R y;rw[h1]at hx;simp only[C']at hx;split at hx
 .rename_i b OK cap Ls;have MG:=hs.sat.obj id ob h2;rw[Ls]at MG;obtain⟨hx,hz⟩:=hx;obtain⟨cur,e1,e2,e3,e4,e5,e6,e7⟩:=MG.plain hz;obtain⟨g1,xs,g2,g3,g4,g5⟩:=e7.cur e1;obtain⟨v1,v2⟩:=hy.cells c2;have vl:=hy.iZ c2;have hr:r∈ob.rows:=Cp h3;have QZ:=g1 r hr;have hilt:i<ob.rows.length:=(qn.1 h3).1;have hbound:i*OK+k+P.cellsOf t<=ob.rows.length*OK:=by
   have:(i+1)*OK<=ob.rows.length*OK:=Nat.mul_le_mul_right _ hilt;rw[Nat.add_mul]at this;omega
  have Uz:ob.rows.length*OK<=cap*OK:=Nat.mul_le_mul_right _ e5;have V7:(a.eval y).cells.toList.length=P.cellsOf t:=by rw[Array.length_toList,vl,c1]
  have L8:=run_storeCells_at P b (i*OK+k) ob.elem (a.eval y).cells.toList 0 cur w e1 (by rw[V7];omega) v2;simp only[Nat.add_zero]at L8;refine⟨w.setRow b (cur.toList.take (i*OK+k)++(a.eval y).cells.toList++cur.toList.drop (i*OK+k+(a.eval y).cells.toList.length)).toArray,?_,?_⟩
  .unfold execOp;rw[P3];simp only[Sem.run_bind,Instr.storeAt,hx,Instr.sureAddr,Sem.run_pure,Result.andThen_ok,storeVar,cL hk,Sem.run_ite,vl,c1,ne_eq,not_true_eq_false,if_false,L8]
  .have SO:w.grownBy (w.setRow b (cur.toList.take (i*OK+k)++(a.eval y).cells.toList++cur.toList.drop (i*OK+k+(a.eval y).cells.toList.length)).toArray) (some b):=
    ⟨rfl,rfl,rfl,by simp,λkk _ QX=>setRow_other w b kk _ (λe=>QX (by rw[e]))⟩
   have Rh:∀q∈ob.rows.set i r',q.cells.length=OK:=by
    intro q hq;rcases List.mem_or_eq_of_mem_set hq with hq|rfl
    .exact g1 q hq
    .rw[c4];simp;omega
   have Qv:=B5 g1 h3 (k:=k) (sz:=P.cellsOf t) (xs:=V.cells ((cx F.n y).ev st.s)) (r':=r') (by omega) c4;have V8:=hs.sat.change h2 Ls hz SO _ (ob.rows.set i r') (xs.take (i*OK+k)++(a.eval y).cells.toList++xs.drop (i*OK+k+(a.eval y).cells.toList.length))
    (setRow_heap w b cur _ ob.elem _ e1) (by simp only[List.size_toArray,kf,nB,Dc,Array.length_toList];rw[Array.length_toList]at V7;omega) (by simpa using e5) Rh
    (by rw[Qv,<-c1,<-v1.length];rw[show(a.eval y).cells.toList.length=(a.eval y).cells.toList.length from rfl];exact((g2.take _).append v1).append (g2.drop _))
    (by intro u hu
        simp only[fq]at hu;rcases hu with(hu|hu)|hu
        .exact g3 u (uZ hu)
        .exact v2 u hu
        .exact g3 u (List.mem_of_mem_drop hu))
    (by intro j u hu
        have:=mI cur.toList xs _ g5 (i*OK+k) (by rw[V7,g4];omega) j u hu;simpa using this)
   exact hs.step V8.1 (cU.refl _) V8.2 (by simp) (by simp only[C'];exact⟨[],rfl,by simp[ax]⟩)
 .exact hx.elim
def fY{z:Value}(h:∀u∈z.cells.toList,u.oneCell'=true):(ofValue z).cells=z.cells.toList.map cellOf:=by
 unfold ofValue;split
 .rename_i cs;rw[aI (by simpa only[fa,Value.cells]using h)];simp[V.cells,Value.cells]
 .rename_i hz;have hc:z.cells=#[z]:=by cases z<;>simp_all [Value.cells]
  have h1:=h z (by simp[hc]);rw[hc];simpa using oW (I:=λ_=>.dJ) (ow:=λ_=>True) (w:=default) (ns z) h1
def pU{F:Fr}{st:St}{a:Act}(hs:df F I st a w){o:Oper}{t:TypeId}(P3:o.op=.alloc t){i:TypeInfo}{z:Value}(hz:zeroOf P t=some (i,z)):
 ∃id,st.U id=none/\∃x w' Y',(execOp a.eval o).run P w=.ok (.value x) w'/\
  df F Y' ⟨aU st.s (o.dst.filter (·<F.n)) (.ptr id 0 0),E' st.U id ⟨t,i.size,[ofValue z]⟩⟩ (a.put o.dst x) w':=by
 obtain⟨hi,TY,hk,Se,MH,No⟩:=eI hz;have Ns:=(eu hk).2.2;have Mt:=fY MH;obtain⟨id,Ls,Y',h1,h2,h3,h4⟩:=hs.sat.renew (row:=none) (World.grownBy_alloc w (.cells z.cells t) none) none (.inl rfl) w.heap.size i.size 1 z.cells t [ofValue z] z.cells.toList (.inr (Md _))
  (heap_alloc_new w _) (by omega) (by omega) (by simp) (by simp[maxLen]) (by intro r hr;simp at hr;subst hr;rw[Mt];simp[Se])
  (by simp only[flat,u9,List.flatMap_nil,kC,Mt];exact eW _) MH (by intro j u hu;simpa using hu)
 refine⟨id,Ls,.pointer (some ⟨w.heap.size,0,none⟩),w.alloc (.cells z.cells t),Y',?_,hs.step h3 h2 h4 (by simp) (by simp[C',h1];omega)⟩;unfold execOp;rw[P3];simp[Instr.alloc,dY hz,newVar,newRow]
def sY{β:Type}(X:Nat×β->List Value)(sz:Nat):∀(ps:List (Nat×β)) (k:Nat) (l:List Value),ps.map (·.1)=List.range' k ps.length->
 (∀p∈ps,(X p).length=sz)->l.length=(k+ps.length)*sz->ps.foldl (λl p=>bH l (p.1*sz) (X p)) l=l.take (k*sz)++ps.flatMap X
 |[],k,l,_,_,hl=>by
  simp only[List.length_nil,Nat.add_zero]at hl;simp[<-hl]
 |p::ps,k,l,h,hX,hl=>by
  simp only[fb,MM,List.range'_succ,List.cons.injEq]at h;obtain⟨h1,h2⟩:=h;have hp:=hX p (by simp);simp only[MM]at hl;have hle:k*sz+sz<=l.length:=by
   rw[hl,<-Nat.add_one_mul];exact Nat.mul_le_mul_right _ (by omega)
  simp only[nx,u9];rw[sY X sz ps (k+1) _ h2 (λq hq=>hX q (by simp[hq])) (by
   rw[j2 _ _ _ (by rw[h1,hp];exact hle),hl];congr 1;omega)]
  rw[h1,bH,hp,Nat.add_one_mul];have e1:(l.take (k*sz)).length=k*sz:=by simp;omega
  have e2:k*sz+sz=(l.take (k*sz)++X p).length:=by rw[kf,e1,hp]
  rw[e2,List.take_left];simp
def oO{F:Fr}{st:St}{a:Act}(hs:df F I st a w){o:Oper}{t e:TypeId}{len:Nat}{parts:Array (Nat×Operand)}(P3:o.op=.buildSlice t len parts)
 (ht:P.underlying t=some (.slice e)){i:TypeInfo}{z:Value}(hz:zeroOf P e=some (i,z))(Ri:parts.toList.map (·.1)=List.range len)(hlen:len*i.size<=16777216)
 (hx:∀x∈parts.toList.map (λp=>(cx F.n p.2).ev st.s),x.cells.length=i.size/\x.stays=true):
 ∃id,st.U id=none/\∃x w' Y',(execOp a.eval o).run P w=.ok (.value x) w'/\
  df F Y' ⟨aU st.s (o.dst.filter (·<F.n)) (.own id 0 len),E' st.U id ⟨e,i.size,parts.toList.map λp=>(cx F.n p.2).ev st.s⟩⟩ (a.put o.dst x) w':=by
 obtain⟨hi,TY,hk,Se,MH,No⟩:=eI hz;have Ns:=(eu hk).2.2;have hl:parts.toList.length=len:=by
  have:=congrArg List.length Ri;simpa using this
 have hX:∀p∈parts.toList,((cx F.n p.2).ev st.s).cells.length=i.size/\((cx F.n p.2).ev st.s).stays=true:=λp hp=>hx _ (by
  simp only[gO];exact⟨p,hp,rfl⟩)
 have hXl:∀p∈parts.toList,(a.eval p.2).cells.toList.length=i.size:=λp hp=>by
  rw[Array.length_toList,(ct hs p.2).iZ (hX p hp).2,(hX p hp).1]
 have hzero:∃Z:Array Value,(len*i.size=0->Z=#[])/\(len*i.size≠0->Z=z.cells):=by
  by_cases h0:len*i.size=0
  .exact⟨#[],λ_=>rfl,λh=>absurd h0 h⟩
  .exact⟨z.cells,λh=>absurd h h0,λ_=>rfl⟩
 obtain⟨Z,hZ0,hZ1⟩:=hzero;obtain⟨cs,e1,e2,e3⟩:=mv (λk=>some (k*i.size,i.size)) ((parts.map λ(j,x)=>(j,a.eval x)).toList) ((Array.range (len*i.size)).map (Z[·%Z.size]!)) (by
  intro p hp;simp only[Array.toList_map,gO]at hp;obtain⟨q,hq,rfl⟩:=hp;refine⟨q.1*i.size,i.size,rfl,by simpa using hXl q hq,?_⟩;have:q.1∈List.range len:=by rw[<-Ri];exact gO.2 ⟨q,hq,rfl⟩
  simp only[List.mem_range]at this;simp only[Array.size_map,Array.size_range];rw[<-Nat.add_one_mul];exact Nat.mul_le_mul_right _ this)
 have Sx:cs.toList=parts.toList.flatMap λp=>(a.eval p.2).cells.toList:=by
  have e3':=e3;simp only[Array.toList_map,List.foldl_map,Option.map_some,Option.getD_some]at e3';rw[e3'];have:=sY (λp:Nat×Operand=>(a.eval p.2).cells.toList) i.size parts.toList 0 ((Array.range (len*i.size)).map (Z[·%Z.size]!)).toList
   (by rw[Ri,hl];exact List.range_eq_range') hXl (by simp[hl])
  simpa using this
 have Yo:cs.size=len*i.size:=by simpa using e2
 have MV:∀(l:List (Nat×Operand)),(∀p∈l,((cx F.n p.2).ev st.s).stays=true)->ax I (aD I st.U) w (flat (l.map λp=>(cx F.n p.2).ev st.s)) (l.flatMap λp=>(a.eval p.2).cells.toList)/\
  ∀u∈l.flatMap λp=>(a.eval p.2).cells.toList,u.oneCell'=true:=by
  intro l
  induction l with
  |nil=>intro _;simp[flat,ax]
  |cons p l ih=>
   intro h;obtain⟨g1,g2⟩:=(ct hs p.2).cells (h p (by simp));obtain⟨g3,g4⟩:=ih (λq hq=>h q (by simp[hq]));refine⟨?_,?_⟩
   .simp only[flat,fb,u9]at g3|-;exact g1.append g3
   .intro u hu;simp only[u9,fq]at hu;rcases hu with hu|hu
    .exact g2 u hu
    .exact g4 u hu
 obtain⟨r1,r2⟩:=MV parts.toList (λp hp=>(hX p hp).2);have hmax:len<=maxLen:=by
  have:len*1<=len*i.size:=Nat.mul_le_mul_left _ (by omega);simp only[maxLen];omega
 obtain⟨id,Ls,Y',h1,h2,h3,h4⟩:=hs.sat.renew (row:=none) (World.grownBy_alloc w (.cells cs e) none) none (.inl rfl) w.heap.size i.size len cs e
  (parts.toList.map λp=>(cx F.n p.2).ev st.s) cs.toList (.inr (Md _))
  (heap_alloc_new w _) (by omega) Yo (by simp[hl]) hmax (by intro r hr;simp only[gO]at hr;obtain⟨p,hp,rfl⟩:=hr;exact(hX p hp).1)
  (by rw[Sx];exact r1) (by rw[Sx];exact r2) (by intro j u hu;simpa using hu)
 refine⟨id,Ls,.slice (some ⟨w.heap.size,0,none⟩) len len,w.alloc (.cells cs e),Y',?_,hs.step h3 h2 h4 (by simp) ?_⟩
 .have Yp:=e1;simp only[Array.toList_map]at Yp;unfold execOp;rw[P3];simp only[Instr.buildSlice,Sem.run_bind,run_underlying ht,Result.andThen_ok,cL hk,<-No,Sem.run_ite];rw[aJ (by omega)];by_cases h0:len*i.size=0
  .rw[hZ0 h0]at Yp;rw[aI h0];simp only[Sem.run_pure,Result.andThen_ok,Array.toList_map];rw[Yp];simp[newRow]
  .rw[hZ1 h0]at Yp;rw[aJ h0];simp only[Sem.run_pure,Result.andThen_ok,Array.toList_map,dY hz];rw[Yp];simp[newRow]
 .simp only[C',h1];exact⟨0,len,rfl,Md _,by omega,.inl (by omega),by omega⟩
def jq(z:Array Value)(n:Nat):(Builtin.zeroCells z n).toList=(List.replicate n z.toList).flatten:=by
 induction n with
 |zero=>simp[Builtin.zeroCells]
 |succ n ih=>
  rw[List.replicate_succ',List.flatten_append,<-ih];simp only[Builtin.zeroCells,Array.toList_map,Array.toList_range];rw[Nat.add_mul,Nat.one_mul,List.range_add,gM,List.map_map];congr 1;simp only[List.flatten_cons,List.flatten_nil,kC];apply List.ext_getElem
  .simp
  .intro i h1 h2;simp only[eU,List.length_range]at h1;simp[Nat.add_mod,Nat.mul_mod_left,Nat.mod_eq_of_lt h1,getElem!_pos,h1]
def rq(z:V)(n:Nat):flat (List.replicate n z)=(List.replicate n z.cells).flatten:=by
 simp[flat,List.flatMap]
def vY{F:Fr}{st:St}{a:Act}(hs:df F I st a w){o:Oper}{t e:TypeId}{l c:Operand}(P3:o.op=.makeSlice t l c)(heq:qI l c=true)
 (ht:P.underlying t=some (.slice e)){i:TypeInfo}{z:Value}(hz:zeroOf P e=some (i,z)){m:Int}(hm:(cx F.n l).ev st.s=.int .i64 m)(h0:0<=m)
 (hb:m.toNat*(i.bytes+1)<=140737488355328):
 ∃id,st.U id=none/\∃x w' Y',(execOp a.eval o).run P w=.ok (.value x) w'/\
  df F Y' ⟨aU st.s (o.dst.filter (·<F.n)) (.own id 0 m.toNat),E' st.U id ⟨e,i.size,List.replicate m.toNat (ofValue z)⟩⟩ (a.put o.dst x) w':=by
 obtain⟨hi,TY,hk,Se,MH,No⟩:=eI hz;have Ns:=(eu hk).2.2;have Mt:=fY MH;obtain⟨k,rfl⟩:∃k:Nat,m=k:=⟨m.toNat,by omega⟩
 simp only[gX]at hb|-;have OL:a.eval l=.int .i64 k:=by
  have:=ct hs l;rw[hm]at this;simpa[C']using this
 have TZ:a.eval c=.int .i64 k:=by
  have:a.eval c=a.eval l:=by
   cases l<;>cases c<;>simp only[qI,iG]at heq
   case tmp.tmp x y=>
    have:x=y:=by simpa using heq
    rw[this]
   case const.const x y=>
    split at heq
    .rename_i k1 a1 k2 b1 _ _;have:=of_decide_eq_true heq;rename_i e1 e2;simp_all
    .simp_all
    .cases heq
  rw[this,OL]
 have hkb:k*i.bytes<=140737488355328:=ly (Nat.mul_le_mul_left _ (by omega)) hb;have Nf:k<=140737488355328:=ly (Nat.le_mul_of_pos_right _ (by omega)) hb;have Me:=run_make (P:=P) w t e i z ht hi TY .i64 .i64 k k (by omega) (by omega) (by
  have:((k*i.bytes:Nat):Int)<=140737488355328:=by omega
  rw[Int.natCast_mul]at this;rw[Int.mul_comm];omega) (by omega)
 have Yq:madeCells z.cells (k*i.size)=Builtin.zeroCells z.cells k:=by rw[madeCells,Builtin.zeroCells,Se]
 simp only[gX]at Me;rw[Yq]at Me;have hl:=jq z.cells k;have MV:∀n,ax I (aD I st.U) w (flat (List.replicate n (ofValue z))) (List.replicate n z.cells.toList).flatten:=by
  intro n
  induction n with
  |zero=>simp[flat,ax]
  |succ n ih=>
   simp only[List.replicate_succ,flat,u9,List.flatten_cons]at ih|-;refine ax.append ?_ ih;rw[Mt];exact eW _
 obtain⟨id,Ls,Y',h1,h2,h3,h4⟩:=hs.sat.renew (row:=none) (World.grownBy_alloc w (.cells (Builtin.zeroCells z.cells k) e) none) none (.inl rfl) w.heap.size i.size k (Builtin.zeroCells z.cells k) e
  (List.replicate k (ofValue z)) (Builtin.zeroCells z.cells k).toList (.inr (Md _))
  (heap_alloc_new w _) (by omega) (by rw[size_zeroCells,Se]) (by simp) (by simp only[maxLen];omega) (by
    intro r hr;rw[(List.mem_replicate.1 hr).2,Mt];simp[Se])
  (by rw[hl];exact MV k) (by
    rw[hl];intro u hu;simp only[List.mem_flatten,List.mem_replicate]at hu;obtain⟨l',⟨_,rfl⟩,hu⟩:=hu;exact MH u hu) (by intro j u hu;simpa using hu)
 refine⟨id,Ls,.slice (some ⟨w.heap.size,0,none⟩) k k,w.alloc (.cells (Builtin.zeroCells z.cells k) e),Y',?_,hs.step h3 h2 h4 (by simp) ?_⟩
 .unfold execOp;rw[P3];simp only[OL,TZ];simp[Me]
 .simp only[C',h1];exact⟨0,k,rfl,Md _,by omega,.inl (by omega),by omega⟩
variable {P:Program} {I:Mu} {ow:Nat->Prop} {w w':World}
def cC(U:ag)(sz:Nat):V->Option (List V)
 |.own id off len=>match U id with
   |some ob=>if ob.sz=sz/\off+len<=ob.rows.length then some ((ob.rows.drop off).take len)else none
   |none=>none
 |.sl NW rows=>if NW=sz then some rows else none
 |.bz=>some []
 |.str s=>if sz=1 then some (s.map λb=>.int .u8 b.toNat)else none
 |_=>none
def de(U:ag)(e:TypeId)(sz:Nat):V->Option (List V×Option Nat)
 |.own id off len=>match U id with
   |some ob=>if ob.sz=sz/\ob.elem=e/\off=0/\len<=ob.rows.length then some (ob.rows.take len,some id)else none
   |none=>none
 |.bz=>some ([],none)
 |_=>none
def tw{w0:World}{Ml:Nat->Prop}{U:ag}(Nc:Sat w0 Ml I U w){sz:Nat}(No:0<sz){v:V}{x:Value}{rows:List V}(h:cC U sz v=some rows)
 (hx:C' I (aD I U) w v x):∃news,(∀w':World,(Builtin.lenOf x).run P w'=.ok rows.length w')/\(∀r∈rows,r.cells.length=sz)/\ax I (aD I U) w (flat rows) news/\(∀u∈news,u.oneCell'=true)/\
   news.length=rows.length*sz/\∀w',(∀b off u,w.cell? ⟨b,off,none⟩=some u->w'.cell? ⟨b,off,none⟩=some u)->(Builtin.firstCells sz rows.length x).run P w'=.ok news.toArray w':=by
 have Qj:∀(rs:List V) (b off:Nat) (c:Nat),aY I (aD I U) w rs b off sz->x=.slice (some ⟨b,off,none⟩) rs.length c->rs=rows->
  ∃news,(∀w':World,(Builtin.lenOf x).run P w'=.ok rows.length w')/\(∀r∈rows,r.cells.length=sz)/\ax I (aD I U) w (flat rows) news/\(∀u∈news,u.oneCell'=true)/\
  news.length=rows.length*sz/\∀w',(∀b off u,w.cell? ⟨b,off,none⟩=some u->w'.cell? ⟨b,off,none⟩=some u)->(Builtin.firstCells sz rows.length x).run P w'=.ok news.toArray w':=by
  rintro rs b off c hr rfl rfl;rw[iF]at hr;obtain⟨h1,h2⟩:=hr;obtain⟨news,h3,h4,h5⟩:=h2.zP;have hl:news.length=rs.length*sz:=by rw[h3.length,qe h1]
  refine⟨news,λ_=>rfl,h1,h3,h4,hl,λw' hw'=>?_⟩;exact run_firstCells_some (P:=P) w' sz rs.length ⟨b,off,none⟩ rs.length c news hl (λj v hv=>by rw[fA];exact hw' _ _ _ (h5 j v hv))
 have Rj:∀(a:Option Addr) (c:Nat),x=.slice a 0 c->rows=[]->
  ∃news,(∀w':World,(Builtin.lenOf x).run P w'=.ok rows.length w')/\(∀r∈rows,r.cells.length=sz)/\ax I (aD I U) w (flat rows) news/\(∀u∈news,u.oneCell'=true)/\
  news.length=rows.length*sz/\∀w',(∀b off u,w.cell? ⟨b,off,none⟩=some u->w'.cell? ⟨b,off,none⟩=some u)->(Builtin.firstCells sz rows.length x).run P w'=.ok news.toArray w':=by
  rintro a c rfl rfl;refine⟨[],λ_=>rfl,by simp,by simp[flat,ax],by simp,by simp,λw' _=>?_⟩;cases a<;>simp[Builtin.firstCells,loadCells,loadCellsFrom]
 unfold cC at h;split at h
 .rename_i id off len;split at h
  .rename_i ob MG;split at h
   .rename_i hc;simp only[aX]at h;simp only[C']at hx;have MQ:=Nc.obj id ob MG;have hlen:rows.length=len:=by rw[<-h];simp;omega
    split at hx
    .exact hx.elim
    .obtain⟨rfl,rfl,rfl⟩:=hx;exact Rj none 0 rfl (by rw[<-h];simp)
    .rename_i b OK cap Ls;obtain⟨o,c,rfl,RU,SL,Nq,hz⟩:=hx;by_cases h0:len=0
     .subst h0;exact Rj _ c rfl (rE hlen)
     .rw[Ls]at MQ;obtain⟨g1,g2,g3,g4,g5⟩:=MQ.rows hz;have ho:o=off*OK:=by
       rcases Nq with Nq|Nq
       .exact Nq
       .omega
      subst ho;have hs:OK=sz:=by omega
      subst hs;have:=(g5.drop off).take len;rw[ky]at this;exact Qj _ b _ c this (by rw[h,hlen]) h
   .cases h
  .cases h
 .rename_i NW rows';split at h
  .rename_i V3;subst V3;simp only[aX]at h;subst h;simp only[C']at hx;obtain⟨a,cap,rfl,hl,hr⟩:=hx;rcases hr with rfl|⟨b,off,rfl,hb,hs,hr⟩
   .exact Rj a cap rfl rfl
   .exact Qj rows' b off cap hr rfl rfl
  .cases h
 .simp only[aX]at h;subst h;simp only[C']at hx;exact Rj none 0 hx rfl
 .rename_i s;split at h
  .rename_i h1;simp only[aX]at h;subst h h1;simp only[C']at hx;subst hx;have OA:∀l:List UInt8,ax I (aD I U) w (flat (l.map λb=>V.int .u8 b.toNat)) (l.map λb=>Value.int .u8 b.toNat):=by
    intro l
    induction l with
    |nil=>simp[flat,ax]
    |cons b l ih=>simp only[flat,fb,u9,V.cells,List.singleton_append,ax]at ih|-;exact⟨_,_,rfl,by simp[C'],ih⟩
   refine⟨s.map λb=>Value.int .u8 b.toNat,λ_=>by simp[Builtin.lenOf,ByteArray.size],by simp[V.cells],OA s,by simp[Value.oneCell'],by simp,λw' _=>?_⟩;have:=Lib.run_firstCells_string (P:=P) w' 1 ⟨s.toArray⟩;simpa[ByteArray.size,Lib.strCells]using this
  .cases h
 .cases h
def qt(t t' ty e:TypeId)(i:TypeInfo)(ht:P.underlying t=some (.slice e))(Sf:t'=t\/P.underlying t'=some .string)(hi:P.info? e=some i)
 (b Ng OQ:Nat)(cur:Array Value)(hg:w.heap[b]?=some (.cells cur e (0,0)))(Y:Value)(n:Nat)(news:List Value)(hl:(Builtin.lenOf Y).run P w=.ok n w)
 (hf:(Builtin.firstCells i.size n Y).run P w=.ok news.toArray w)(h1:∀u∈news,u.oneCell'=true)
 (Qy:Ng+n<=OQ)(N0:Ng*i.size+news.length<=cur.size):
 (Builtin.append_ #[t,t'] ty #[.slice (some ⟨b,0,none⟩) Ng OQ,Y]).run P w=
   .ok (.slice (some ⟨b,0,none⟩) (Ng+n) OQ) (w.setRow b (cur.toList.take (Ng*i.size)++news++cur.toList.drop (Ng*i.size+news.length)).toArray):=by
 have L8:=run_storeCells_at P b (Ng*i.size) e news 0 cur w hg (by simpa using N0) h1;simp only[Nat.add_zero]at L8;rcases Sf with rfl|Sf
 .simp[Builtin.append_,run_underlying ht,sizeOf,typeInfo,hi,hl,Qy,hf,Addr.add_lit,L8]
 .simp[Builtin.append_,run_underlying ht,run_underlying Sf,sizeOf,typeInfo,hi,hl,Qy,hf,Addr.add_lit,L8]
def qT(t t' ty e:TypeId)(i:TypeInfo)(z:Value)(ht:P.underlying t=some (.slice e))(Sf:t'=t\/P.underlying t'=some .string)(hi:P.info? e=some i)(hz:i.zero=some z)
 (ba:Option Addr)(Ng OQ:Nat)(OR:List Value)(Qt:(Builtin.firstCells i.size Ng (.slice ba Ng OQ)).run P w.drew=.ok OR.toArray w.drew)
 (Y:Value)(n:Nat)(news:List Value)(hl:(Builtin.lenOf Y).run P w=.ok n w)(hf:(Builtin.firstCells i.size n Y).run P w.drew=.ok news.toArray w.drew)
 (hg:OQ<Ng+n)(h63:((Ng+n:Nat):Int)<=9223372036854775807)(N0:Builtin.nextslicecap (Ng+n) OQ*i.bytes<=281474976710656):
 (Builtin.append_ #[t,t'] ty #[.slice ba Ng OQ,Y]).run P w=
   .ok (.slice (some ⟨w.heap.size,0,none⟩) (Ng+n) (grownCap w (Ng+n) OQ e))
    (w.drew.alloc (.cells (OR.toArray++news.toArray++Builtin.zeroCells z.cells (grownCap w (Ng+n) OQ e-(Ng+n))) e)):=by
 have hn:¬(Ng+n<=OQ):=by omega
 have UA:¬(9223372036854775807<((Ng:Int)+(n:Int))):=by omega
 have Yr:¬(281474976710656<Builtin.nextslicecap (Ng+n) OQ*i.bytes):=by omega
 rcases Sf with rfl|Sf
 .simp[Builtin.append_,run_underlying ht,sizeOf,typeInfo,zeroValue,hi,hz,hl,hn,UA,Yr,Question.forced,hf,Qt,newRow,grownCap];congr 2;apply Array.ext';simp[lU]
 .simp[Builtin.append_,run_underlying ht,run_underlying Sf,sizeOf,typeInfo,zeroValue,hi,hz,hl,hn,UA,Yr,Question.forced,hf,Qt,newRow,grownCap];congr 2;apply Array.ext';simp[lU]
def tT{rows:List V}{sz:Nat}(h:∀r∈rows,r.cells.length=sz)(k:Nat):flat (rows.take k)=(flat rows).take (k*sz):=by
 induction rows generalizing k with
 |nil=>simp[flat]
 |cons r rs ih=>
  have e:∀l,flat (r::l)=r.cells++flat l:=λl=>by simp[flat]
  cases k with
  |zero=>simp[flat]
  |succ k=>
   rw[xF,e,e,ih (λx hx=>h x (by simp[hx])),Nat.add_mul,Nat.one_mul,ze,<-h r (by simp),List.take_length_add_append]
def oP{F:Fr}{st:St}{a:Act}(hs:df F I st a w){o:Oper}{t t' e:TypeId}{x y:Operand}{args:Array Operand}{argTypes:Array TypeId}
 (P3:o.op=.call { callee:=.builtin .append,args:=args,argTypes:=argTypes })(Mq:args=#[x,y])(QW:argTypes=#[t,t'])(Sf:t'=t\/P.underlying t'=some .string)(ht:P.underlying t=some (.slice e))
 {i:TypeInfo}{z:Value}(hz:zeroOf P e=some (i,z)){base src:List V}{LQ:Option Nat}
 (hd:de st.U e i.size ((cx F.n x).ev st.s)=some (base,LQ))(Rk:cC st.U i.size ((cx F.n y).ev st.s)=some src)
 (SP:(base.length+src.length)*(i.bytes+1)<=140737488355328):
 ∃id,st.U id=none/\∃r w' Y',(execOp a.eval o).run P w=.ok (.value r) w'/\
  df F Y' ⟨aU st.s (o.dst.filter (·<F.n)) (.own id 0 (base.length+src.length)),E' (bT st.U LQ) id ⟨e,i.size,base++src⟩⟩ (a.put o.dst r) w':=by
 obtain⟨hi,TY,hk,Se,MH,V9⟩:=eI hz;have Ns:0<i.size:=by rw[V9];exact(eu hk).2.2
 have UB:(base.length+src.length)*i.bytes<=140737488355328:=ly (Nat.mul_le_mul_left _ (by omega)) SP;have hbytes2:base.length+src.length<=140737488355328:=ly (Nat.le_mul_of_pos_right _ (by omega)) SP;obtain⟨news,hY,n1,n2,n3,n4,n5⟩:=tw (P:=P) hs.sat Ns Rk (ct hs y);have SQ:∀r w',(Builtin.append_ #[t,t'] o.type #[a.eval x,a.eval y]).run P w=.ok r w'->(execOp a.eval o).run P w=.ok (.value r) w':=by
  intro r w' h;unfold execOp;rw[P3];subst Mq QW;simp[resolve,invoke,Go.builtin,h]
 have Ys:∀b off u,w.cell? ⟨b,off,none⟩=some u->w.drew.cell? ⟨b,off,none⟩=some u:=λ_ _ _ h=>h;have h63:base.length+src.length<=maxLen:=by simp only[maxLen];omega
 have UA:((base.length+src.length:Nat):Int)<=9223372036854775807:=by omega
 have UC:∀(LQ:Option Nat) (ba:Option Addr) (SR:Nat) (OR:List Value),SR<base.length+src.length->a.eval x=.slice ba base.length SR->
  (Builtin.firstCells i.size base.length (.slice ba base.length SR)).run P w.drew=.ok OR.toArray w.drew->OR.length=base.length*i.size->
  (∀r∈base,r.cells.length=i.size)->ax I (aD I st.U) w (flat base) OR->(∀u∈OR,u.oneCell'=true)->
  ∃id,st.U id=none/\∃r w' Y',(execOp a.eval o).run P w=.ok (.value r) w'/\
   df F Y' ⟨aU st.s (o.dst.filter (·<F.n)) (.own id 0 (base.length+src.length)),E' (bT st.U LQ) id ⟨e,i.size,base++src⟩⟩ (a.put o.dst r) w':=by
  intro LQ ba SR OR hold hX Qt hol Oc MR Yt;have Me:=qT (P:=P) (w:=w) t t' o.type e i z ht Sf hi TY ba base.length SR OR Qt (a.eval y) src.length news (hY w) (n5 w.drew Ys) hold UA (growslice_fits hold UB);rw[<-hX]at Me;have Pv:=grownCap_ge w (base.length+src.length) SR e;have hle:=grownCap_le_maxLen w (base.length+src.length) SR e h63;have Yu:(OR.toArray++news.toArray++Builtin.zeroCells z.cells (grownCap w (base.length+src.length) SR e-(base.length+src.length))).size=grownCap w (base.length+src.length) SR e*i.size:=by
   simp only[Array.size_append,List.size_toArray,size_zeroCells,Se,hol,n4,<-Nat.add_mul];congr 1;omega
  obtain⟨id,Ls,Y',g1,g2,g3,g4⟩:=hs.sat.renew (row:=none)
   (w':=w.drew.alloc (.cells (OR.toArray++news.toArray++Builtin.zeroCells z.cells (grownCap w (base.length+src.length) SR e-(base.length+src.length))) e))
   ⟨rfl,rfl,rfl,by simp,λk hk _=>heap_alloc_old w.drew _ k hk⟩ LQ (.inl rfl) w.heap.size i.size (grownCap w (base.length+src.length) SR e) _ e (base++src) (OR++news)
   (.inr (Md _)) (heap_alloc_new w.drew _) Ns Yu (by simpa using Pv) hle
   (by intro r hr;rcases fq.1 hr with hr|hr;exact Oc r hr;exact n1 r hr) (by rw[jR];exact MR.append n2)
   (by intro u hu;rcases fq.1 hu with hu|hu;exact Yt u hu;exact n3 u hu)
   (by intro j u hu
       have hj:=(qn.1 hu).1;rw[<-Array.getElem?_toList];simp only[Array.toList_append];rw[Gg (by simpa using hj)];exact hu)
  refine⟨id,Ls,_,_,Y',SQ _ _ Me,hs.step g3 g2 g4 (by simp) ?_⟩;simp only[C',g1];exact⟨0,_,rfl,Pv,by omega,.inl (by omega),by omega⟩
 have Rj:a.eval x=.slice none 0 0->base=[]->∃id,st.U id=none/\∃r w' Y',(execOp a.eval o).run P w=.ok (.value r) w'/\
  df F Y' ⟨aU st.s (o.dst.filter (·<F.n)) (.own id 0 (base.length+src.length)),E' (bT st.U LQ) id ⟨e,i.size,base++src⟩⟩ (a.put o.dst r) w':=by
  rintro hX rfl;by_cases h0:src.length=0
  .have Yv:src=[]:=rE h0;subst Yv;obtain⟨id,Ls,Y',g1,g2,g3,g4⟩:=hs.sat.B0 LQ e i.size;have hf:=n5 w (λ_ _ _ h=>h);refine⟨id,Ls,.slice none 0 0,w,Y',SQ _ _ ?_,hs.step g3 g2 g4 (Md _) (by simp[C',g1])⟩;rw[hX];have hl:=hY w;simp only[List.length_nil]at hf hl|-;rcases Sf with rfl|Sf
   .simp[Builtin.append_,run_underlying ht,sizeOf,typeInfo,hi,hl,hf]
   .simp[Builtin.append_,run_underlying ht,run_underlying Sf,sizeOf,typeInfo,hi,hl,hf]
  .exact UC LQ none 0 [] (by simp;omega) hX (by simp[Builtin.firstCells]) (by simp) (by simp) (by simp[flat,ax]) (by simp)
 have hx:=ct hs x;unfold de at hd;split at hd
 .rename_i id off len V4;rw[V4]at hx;split at hd
  .rename_i ob MG;split at hd
   .rename_i hc;obtain⟨c1,c2,rfl,c4⟩:=hc;simp only[aX,Prod.mk.injEq]at hd;obtain⟨rfl,rfl⟩:=hd;have MQ:=hs.sat.obj id ob MG;simp only[C']at hx;split at hx
    .exact hx.elim
    .rename_i Ls;obtain⟨hX,_,rfl⟩:=hx;exact Rj hX (by simp)
    .rename_i b OK cap Ls;obtain⟨O6,c,hX,RU,SL,Nq,hz⟩:=hx;have ho:O6=0:=by
      rcases Nq with Nq|Nq
      .simpa using Nq
      .exact absurd rfl Nq.2
     subst ho;rw[Ls]at MQ;obtain⟨cur,e1,e2,e3,e4,e5,e6,e7⟩:=MQ.plain hz;obtain⟨q1,xs,q2,q3,q4,q5⟩:=e7.cur e1;rw[c2]at e1;have hszb:OK=i.size:=by omega
     subst hszb;have ME:(ob.rows.take len).length=len:=by simp;omega
     have Vh:(xs.take (len*i.size)).length=len*i.size:=by
      rw[nB,q4];exact Nat.min_eq_left (Nat.mul_le_mul_right _ c4)
     have Oc:∀r∈ob.rows.take len,r.cells.length=i.size:=λr hr=>q1 r (uZ hr);have MR:ax I (aD I st.U) w (flat (ob.rows.take len)) (xs.take (len*i.size)):=by rw[tT q1];exact q2.take _
     have Yt:∀u∈xs.take (len*i.size),u.oneCell'=true:=λu hu=>q3 u (uZ hu);have Pu:∀(j:Nat) u,(xs.take (len*i.size))[j]?=some u->cur.toList[j]?=some u:=by
      intro j u hu;rw[List.getElem?_take]at hu;split at hu
      .exact q5 j u hu
      .cases hu
     by_cases Qy:len+src.length<=c
     .have Rc:len+src.length<=cap:=by omega
      have N0:len*i.size+news.length<=cur.size:=by rw[n4,e4,<-Nat.add_mul];exact Nat.mul_le_mul_right _ Rc
      have hf:=n5 w (λ_ _ _ h=>h);have Me:=qt (P:=P) (w:=w) t t' o.type e i ht Sf hi b len c cur e1 (a.eval y) src.length news (hY w) hf n3 Qy N0;rw[<-hX]at Me;obtain⟨NL,Rl,Y',g1,g2,g3,g4⟩:=hs.sat.renew (row:=some b)
       (w':=w.setRow b (cur.toList.take (len*i.size)++news++cur.toList.drop (len*i.size+news.length)).toArray)
       ⟨rfl,rfl,rfl,by simp,λk hk QX=>setRow_other w b k _ (λe=>QX (by rw[e]))⟩ (some id) (.inr ⟨id,ob,i.size,cap,b,rfl,MG,Ls,rfl⟩) b i.size cap _ e (ob.rows.take len++src)
       (xs.take (len*i.size)++news) (.inl rfl) (setRow_heap w b cur _ e _ e1) e3
       (by simp only[List.size_toArray,kf,nB,Dc,Array.length_toList];omega) (by rw[kf,ME];exact Rc) e6
       (by intro r hr;rcases fq.1 hr with hr|hr;exact Oc r hr;exact n1 r hr) (by rw[jR];exact MR.append n2)
       (by intro u hu;rcases fq.1 hu with hu|hu;exact Yt u hu;exact n3 u hu)
       (by intro j u hu
           have hj:=(qn.1 hu).1;have Yw:cur.toList.take (len*i.size)=xs.take (len*i.size):=by
            apply List.ext_getElem?;intro k;by_cases hk:k<len*i.size
            .have hkx:k<(xs.take (len*i.size)).length:=by omega
             rw[Oy hkx,List.getElem?_take_of_lt hk];exact Pu k _ (Oy hkx)
            .rw[qv (by simp;omega),qv (by omega)]
           rw[<-Array.getElem?_toList];simp only[];rw[Yw,Gg (by simpa using hj)];exact hu)
      rw[ME];refine⟨NL,Rl,_,_,Y',SQ _ _ Me,hs.step g3 g2 g4 (by simp) ?_⟩;simp only[C',g1];exact⟨0,c,rfl,Qy,by omega,.inl (by omega),by omega⟩
     .refine UC (some id) (some ⟨b,0,none⟩) c (xs.take (len*i.size)) (by rw[ME];omega) (by rw[ME];exact hX) ?_ (by rw[ME];exact Vh) Oc MR Yt;rw[ME];refine run_firstCells_some (P:=P) w.drew i.size len ⟨b,0,none⟩ len c _ Vh (λj u hu=>?_);rw[fA,ky,World.cell?_drew,cell_of_row w b j cur e (0,0) e1];simpa using Pu j u hu
   .cases hd
  .cases hd
 .rename_i V4;rw[V4]at hx;simp only[aX,Prod.mk.injEq]at hd;obtain⟨rfl,rfl⟩:=hd;simp only[C']at hx;exact Rj hx rfl
 .cases hd
def sH{F:Fr}{st:St}{a:Act}(hs:df F I st a w){o:Oper}{t tn e:TypeId}{kn:IntKind}{x y:Operand}{args:Array Operand}{argTypes:Array TypeId}
 (P3:o.op=.call { callee:=.builtin .append,args:=args,argTypes:=argTypes })(Mq:args=#[x,y])(QW:argTypes=#[t,tn])(ht:P.underlying t=some (.slice e))(htn:P.underlying tn=some (.int kn))
 {i:TypeInfo}{z:Value}(hz:zeroOf P e=some (i,z))(hx:(cx F.n x).ev st.s=.bz){kq:IntKind}{m:Int}(hm:(cx F.n y).ev st.s=.int kq m)(h0:0<m)
 (hb:m.toNat*(i.bytes+1)<=140737488355328):
 ∃id,st.U id=none/\∃r w' Y',(execOp a.eval o).run P w=.ok (.value r) w'/\
  df F Y' ⟨aU st.s (o.dst.filter (·<F.n)) (.own id 0 m.toNat),E' st.U id ⟨e,i.size,List.replicate m.toNat (ofValue z)⟩⟩ (a.put o.dst r) w':=by
 obtain⟨hi,TY,hk,Se,MH,V9⟩:=eI hz;have Ns:0<i.size:=by rw[V9];exact(eu hk).2.2
 have Mt:=fY MH;obtain⟨k,rfl⟩:∃k:Nat,m=k:=⟨m.toNat,by omega⟩
 simp only[gX]at hb|-;have hkb:k*i.bytes<=140737488355328:=ly (Nat.mul_le_mul_left _ (by omega)) hb;have Nf:k<=140737488355328:=ly (Nat.le_mul_of_pos_right _ (by omega)) hb;have hX:a.eval x=.slice none 0 0:=by
  have:=ct hs x;rw[hx]at this;simpa[C']using this
 have hY:a.eval y=.int kq k:=by
  have:=ct hs y;rw[hm]at this;simpa[C']using this
 have Me:=Lib.run_append_grow_zeros (P:=P) w t tn o.type e i z kq kn ht htn hi TY none 0 0 [] (run_firstCells_none w.drew i.size 0 0 0) k (by omega) Ns (by omega) (by omega) (by omega)
  (growslice_fits (by omega) (by rw[ky];exact hkb))
 rw[<-hX,<-hY,ky]at Me;have Pv:=grownCap_ge w k 0 e;have hle:=grownCap_le_maxLen w k 0 e (by simp only[maxLen];omega);have hl:=jq z.cells k;have MV:∀n,ax I (aD I st.U) w (flat (List.replicate n (ofValue z))) (List.replicate n z.cells.toList).flatten:=by
  intro n
  induction n with
  |zero=>simp[flat,ax]
  |succ n ih=>
   simp only[List.replicate_succ,flat,u9,List.flatten_cons]at ih|-;refine ax.append ?_ ih;rw[Mt];exact eW _
 obtain⟨id,Ls,Y',g1,g2,g3,g4⟩:=hs.sat.renew (row:=none)
  (w':=w.drew.alloc (.cells (([]:List Value).toArray++Builtin.zeroCells z.cells k++Builtin.zeroCells z.cells (grownCap w k 0 e-k)) e))
  ⟨rfl,rfl,rfl,by simp,λk hk _=>heap_alloc_old w.drew _ k hk⟩ none (.inl rfl) w.heap.size i.size (grownCap w k 0 e) _ e (List.replicate k (ofValue z)) (Builtin.zeroCells z.cells k).toList
  (.inr (Md _)) (heap_alloc_new w.drew _) Ns (by
    simp only[Array.size_append,List.size_toArray,size_zeroCells,Se,List.length_nil,ky,<-Nat.add_mul];congr 1;omega) (by simpa using Pv) hle
  (by
    intro r hr;rw[(List.mem_replicate.1 hr).2,Mt];simp[Se]) (by rw[hl];exact MV k)
  (by
    rw[hl];intro u hu;simp only[List.mem_flatten,List.mem_replicate]at hu;obtain⟨l',⟨_,rfl⟩,hu⟩:=hu;exact MH u hu)
  (by
    intro j u hu;have hj:=(qn.1 hu).1;rw[<-Array.getElem?_toList];simp only[Array.toList_append,nE];rw[Gg hj];exact hu)
 refine⟨id,Ls,.slice (some ⟨w.heap.size,0,none⟩) k (grownCap w k 0 e),_,Y',?_,hs.step g3 g2 g4 (by simp) ?_⟩
 .unfold execOp;rw[P3];subst Mq QW;simp[resolve,invoke,Go.builtin,Me]
 .simp only[C',g1];exact⟨0,_,rfl,Pv,by omega,.inl (by omega),by omega⟩
end Go.Vc
