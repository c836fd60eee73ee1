/- Part 1 of the library of this proof. -/
import Derived.Calls
import Derived.Below
import Derived.Laws.AppendOwn
import Derived.Tactics
import Derived.ChangeKeysEq
import Derived.Orders
import Derived.Laws.MakeOwn
import Derived.Lib.AppendZerosOnto
import Derived.Lib.AppendStr
set_option linter.all false
set_option maxHeartbeats 8000000
namespace Go.Vc
def Oi{α:Type _}(a b:α):(some a=some b)=(a=b):=Option.some.injEq a b
def Ba(a b:Bool):((a&&b)=true)=(a=true/\b=true):=Bool.and_eq_true a b
def Zq0:=@List.take_succ_eq_append_getElem
def Zr:=@List.getElem_mem
def YQ:=@Nat.le_refl
def Zu:=@decide_eq_false
def ZG:=@decide_eq_true
def ZK:=@List.length_cons
def Zq6:=@List.getElem?_eq_getElem
def Zq7:=@Array.getD_eq_getD_getElem?
def Zq8:=@Option.map_eq_some_iff
def Zq9:=@decide_eq_true_eq
def ia:=@List.drop_eq_getElem_cons
def cL:=@List.length_map
def iT:=@List.getElem?_eq_some_iff
def eQ:=@Bool.false_eq_true
def gn:=@Nat.eq_of_beq_eq_true
def cg:=@List.mem_cons
def eX:=@Int.toNat_natCast
def dc:=@List.mem_append
def dX:=@List.all_eq_true
def dS:=@List.map_cons
def jj:=@List.take_of_length_le
def gZ:=@List.length_append
def nN:=@Array.getElem?_eq_some_iff
def hU:=@List.take_length
def fY:=@List.length_take
def gl:=@List.map_append
def oG:=@Nat.le_of_ble_eq_true
def sC:=@List.getD_eq_getElem?_getD
def xz:=@List.eq_nil_of_length_eq_zero
def iV:=@List.all_cons
def lz:=@List.append_assoc
def j5:=@List.foldl_cons
def gY:=@Nat.zero_add
def kA:=@List.nil_append
def kS:=@Bool.or_eq_true
def pA:=@List.take_succ_cons
def rO:=@List.getElem?_eq_none
def lH:=@List.append_nil
def ar:=@if_pos
def av:=@if_neg
def Ez:=@List.getElem?_append_left
def LG:=@List.getElem?_append_right
def qJ:=@List.getElem?_map
def qF:=@List.length_drop
def er:=@List.mem_singleton
def sZ:=@List.take_append_drop
def x5:=@List.drop_length
def wG:=@List.foldl_append
def HL:=@List.take_add_one
def pz:=@List.mem_of_mem_take
def L5:=@List.getElem?_drop
def yq:=@List.drop_zero
def gg:=@List.mem_map
def Sz:=@List.getElem?_cons_zero
def By:=@List.getElem?_cons_succ
def Ah:=@List.drop_eq_nil_of_le
def vM:=@List.mem_of_getElem?
def wH:=@List.length_pos_iff
def jI:=@Nat.le_trans
def Ej:=@Nat.add_comm
def Qu:=@List.any_eq_true
def Ql:=@List.getElem?_eq_none_iff
def OR:=@List.getElem?_append
def At:=@List.flatMap_cons
def rR:=@List.mem_filter
def MN:=@List.take_append_of_le_length
def Eu:=@List.drop_append_of_le_length
def Kx:=@List.drop_succ_cons
def ET:=@List.getElem?_of_mem
def aB:=@Oi
def Yd{p:Prop}(h:p:=by omega):p=True:=eq_true h
def T'{p:Prop}(h:¬p:=by omega):p=False:=eq_false h
inductive V where
 |undef
 |int (k:IntKind) (n:Int)
 |bool (b:Bool)
 |str (s:List UInt8)
 |aC
 |sl (sz:Nat) (rows:List V)
 |own (id off len:Nat)
 |ptr (id i k:Nat)
 |rp (v:V)
 |nilp
 |fn (f:FuncId) (caps:List V)
 |bm (f:FuncId) (first:List V)
 |YS
 |iface (t:TypeId) (v:V)
 |Yt
 |agg (cells:List V)
 |P' (vs:List V)
 |raw (v:Value)
 |obj (o:Obj)
 |gp (id:Nat)
 |yl (id:Nat)
 |mp (id:Nat)
 deriving Inhabited
inductive Pl where
 |dr
 |nil
 |Zm (b sz cap:Nat)
abbrev Mu:=Nat->Pl
structure Ob where
 elem:TypeId
 sz:Nat
 rows:List V
abbrev af:=Nat->Option Ob
def V.cells:V->List V
 |.agg vs=>vs
 |v=>[v]
mutual
def E'(I:Mu)(ow:Nat->Prop)(w:World):V->Value->Prop
 |.undef,_=>True
 |.int k n,x=>x=.int k n
 |.bool b,x=>x=.bool b
 |.str s,x=>x=.string ⟨s.toArray⟩
 |.aC,x=>x=.slice none 0 0
 |.sl sz rows,x=>∃a cap,x=.slice a rows.length cap/\rows.length<=cap/\
   (rows=[]\/∃b off,a=some ⟨b,off,none⟩/\¬ow b/\0<sz/\aS I ow w rows b off sz)
 |.own id off len,x=>match I id with
   |.dr=>False
   |.nil=>x=.slice none 0 0/\off=0/\len=0
   |.Zm b sz cap=>∃o c,x=.slice (some ⟨b,o,none⟩) len c/\len<=c/\off+c<=cap/\(o=off*sz\/c=0/\off≠0)/\0<sz
 |.ptr id i k,x=>match I id with
   |.Zm b sz _=>x=.pointer (some ⟨b,i*sz+k,none⟩)/\0<sz
   |_=>False
 |.rp v,x=>∃b off,x=.pointer (some ⟨b,off,none⟩)/\b<w.heap.size/\(v.cells=[]\/¬ow b)/\bn I ow w v b off
 |.nilp,x=>x=.pointer none
 |.fn f caps,x=>∃Yf,x=.func (.func f) #[] ⟨Yf⟩/\al I ow w caps Yf
 |.bm f first,x=>∃Yf,x=.func (.func f) ⟨Yf⟩ #[]/\al I ow w first Yf
 |.YS,x=>x=.nilFunc
 |.iface t v,x=>∃y,x=.iface t y/\E' I ow w v y
 |.Yt,x=>x=.nilIface
 |.agg vs,x=>∃Yf,x=.agg ⟨Yf⟩/\al I ow w vs Yf/\∀u∈Yf,u.oneCell'=true
 |.P' vs,x=>∃Yf,x=.tuple ⟨Yf⟩/\al I ow w vs Yf
 |.raw v,x=>x=v
 |.obj _,_=>False
 |.gp id,x=>match I id with
   |.Zm b 0 _=>x=.pointer (some ⟨b,0,none⟩)
   |_=>False
 |.yl id,x=>match I id with
   |.Zm b 0 _=>x=.func (.yield b) #[] #[]
   |_=>False
 |.mp id,x=>match I id with
   |.Zm b 0 _=>x=.map (some b)
   |_=>False
/-- one by one -/
def al(I:Mu)(ow:Nat->Prop)(w:World):List V->List Value->Prop
 |[],l=>l=[]
 |v::vs,l=>∃x xs,l=x::xs/\E' I ow w v x/\al I ow w vs xs
/-- cells,one behind the other -/
def aN(I:Mu)(ow:Nat->Prop)(w:World):List V->Nat->Nat->Prop
 |[],_,_=>True
 |v::vs,b,off=>(∃x,w.cell? ⟨b,off,none⟩=some x/\E' I ow w v x/\x.oneCell'=true)/\aN I ow w vs b (off+1)
/-- an element -/
def bn(I:Mu)(ow:Nat->Prop)(w:World):V->Nat->Nat->Prop
 |.agg vs,b,off=>aN I ow w vs b off
 |v,b,off=>∃x,w.cell? ⟨b,off,none⟩=some x/\E' I ow w v x/\x.oneCell'=true
/-- elements,one behind the other -/
def aS(I:Mu)(ow:Nat->Prop)(w:World):List V->Nat->Nat->Nat->Prop
 |[],_,_,_=>True
 |r::rs,b,off,sz=>r.cells.length=sz/\bn I ow w r b off/\aS I ow w rs b (off+sz) sz
end
def dK(I:Mu)(ow:Nat->Prop)(w:World)(v:V)(b off:Nat):bn I ow w v b off↔aN I ow w v.cells b off:=by
 cases v<;>simp[bn,aN,V.cells]
def cC(I Y':Mu):Prop:=∀id,I id≠.dr->Y' id=I id
def cC.refl(I:Mu):cC I I:=λ_ _=>rfl
def cC.trans{I Y' Y'':Mu}(h:cC I Y')(h':cC Y' Y''):cC I Y'':=λid O'=>by
 have e:=h id O';rw[h' id (by rw[e];exact O'),e]
def cD(ow ow':Nat->Prop)(w w':World):Prop:=∀b,b<w.heap.size->¬ow b->¬ow' b/\w'.heap[b]?=w.heap[b]?
def sd(ow ow':Nat->Prop)(w w':World):Prop:=∀b,(∃off x,w.cell? ⟨b,off,none⟩=some x)->¬ow b->¬ow' b/\∀(off:Nat) (x:Value),w.cell? ⟨b,off,none⟩=some x->w'.cell? ⟨b,off,none⟩=some x
def eh{w w':World}{b:Nat}(h:w'.heap[b]?=w.heap[b]?)(off:Nat)(x:Value)(hx:w.cell? ⟨b,off,none⟩=some x):w'.cell? ⟨b,off,none⟩=some x:=by
 rw[World.cell?_of_block (w:=w) (w':=w') (a:=⟨b,off,none⟩) h];exact hx
def cD.toC{ow ow':Nat->Prop}{w w':World}(h:cD ow ow' w w'):sd ow ow' w w':=λb ⟨off,x,hx⟩ hn=>by
 have hb:b<w.heap.size:=World.block_lt_of_cell? w _ hx;exact⟨(h b hb hn).1,eh (h b hb hn).2⟩
section
variable {I Y':Mu} {ow ow':Nat->Prop} {w w':World} (hm:cC I Y') (hk:sd ow ow' w w') (hz:w.heap.size<=w'.heap.size)
include hm hk hz
mutual
def E'.bM:∀(v:V) (x:Value),E' I ow w v x->E' Y' ow' w' v x
 |.undef,_,_=>by simp[E']
 |.int k n,x,h=>by simpa[E']using h
 |.bool b,x,h=>by simpa[E']using h
 |.str s,x,h=>by simpa[E']using h
 |.aC,x,h=>by simpa[E']using h
 |.sl sz rows,x,h=>by
  simp only[E']at h|-;obtain⟨a,cap,hx,hl,hr⟩:=h;refine⟨a,cap,hx,hl,?_⟩;rcases hr with hr|⟨b,off,ha,hb,hs,hr⟩
  .exact .inl hr
  .cases rows with
   |nil=>exact .inl rfl
   |cons r rs=>
    have H':∃o y,w.cell? ⟨b,o,none⟩=some y:=by
     have h2:=hr;simp only[aS]at h2;obtain⟨h1,h2,_⟩:=h2;rw[dK]at h2;cases hc:r.cells with
     |nil=>rw[hc]at h1;simp at h1;omega
     |cons c cs=>
      rw[hc]at h2;simp only[aN]at h2;obtain⟨⟨y,hy,_⟩,_⟩:=h2;exact⟨_,y,hy⟩
    exact .inr ⟨b,off,ha,(hk b H' hb).1,hs,aS.bM (r::rs) b off sz (hk b H' hb).2 hr⟩
 |.own id off len,x,h=>by
  simp only[E']at h|-;cases O':I id with
  |dr=>rw[O']at h;exact h.elim
  |nil=>rw[hm id (by rw[O'];simp)];exact h
  |Zm b sz cap=>rw[hm id (by rw[O'];simp)];exact h
 |.ptr id i k,x,h=>by
  simp only[E']at h|-;cases O':I id with
  |dr=>rw[O']at h;exact h.elim
  |nil=>rw[O']at h;exact h.elim
  |Zm b sz cap=>rw[hm id (by rw[O'];simp)];exact h
 |.rp v,x,h=>by
  simp only[E']at h|-;obtain⟨b,off,hx,H',hb,hr⟩:=h;refine⟨b,off,hx,Nat.lt_of_lt_of_le H' hz,?_⟩;cases hc:v.cells with
  |nil=>
   refine⟨.inl rfl,?_⟩;rw[dK,hc];simp[aN]
  |cons c cs=>
   have h2:=hr;rw[dK,hc]at h2;simp only[aN]at h2;obtain⟨⟨y,hy,_⟩,_⟩:=h2;have ZL:=hk b ⟨_,y,hy⟩ (hb.resolve_left (by rw[hc];simp));exact⟨.inr ZL.1,bn.bM v b off ZL.2 hr⟩
 |.nilp,x,h=>by simpa[E']using h
 |.fn f caps,x,h=>by
  simp only[E']at h|-;obtain⟨Yf,hx,hr⟩:=h;exact⟨Yf,hx,al.bM caps Yf hr⟩
 |.bm f caps,x,h=>by
  simp only[E']at h|-;obtain⟨Yf,hx,hr⟩:=h;exact⟨Yf,hx,al.bM caps Yf hr⟩
 |.YS,x,h=>by simpa[E']using h
 |.iface t v,x,h=>by
  simp only[E']at h|-;obtain⟨y,hx,hr⟩:=h;exact⟨y,hx,E'.bM v y hr⟩
 |.Yt,x,h=>by simpa[E']using h
 |.agg vs,x,h=>by
  simp only[E']at h|-;obtain⟨Yf,hx,hr,h1⟩:=h;exact⟨Yf,hx,al.bM vs Yf hr,h1⟩
 |.P' vs,x,h=>by
  simp only[E']at h|-;obtain⟨Yf,hx,hr⟩:=h;exact⟨Yf,hx,al.bM vs Yf hr⟩
 |.raw v,x,h=>by simpa[E']using h
 |.obj o,x,h=>by simp[E']at h
 |.gp id,x,h=>by
  simp only[E']at h|-;cases O':I id with
  |dr=>rw[O']at h;exact h.elim
  |nil=>rw[O']at h;exact h.elim
  |Zm b sz cap=>rw[hm id (by rw[O'];simp)];exact h
 |.yl id,x,h=>by
  simp only[E']at h|-;cases O':I id with
  |dr=>rw[O']at h;exact h.elim
  |nil=>rw[O']at h;exact h.elim
  |Zm b sz cap=>rw[hm id (by rw[O'];simp)];exact h
 |.mp id,x,h=>by
  simp only[E']at h|-;cases O':I id with
  |dr=>rw[O']at h;exact h.elim
  |nil=>rw[O']at h;exact h.elim
  |Zm b sz cap=>rw[hm id (by rw[O'];simp)];exact h
def al.bM:∀(vs:List V) (l:List Value),al I ow w vs l->al Y' ow' w' vs l
 |[],l,h=>by simpa[al]using h
 |v::vs,l,h=>by
  simp only[al]at h|-;obtain⟨x,xs,hx,h1,h2⟩:=h;exact⟨x,xs,hx,E'.bM v x h1,al.bM vs xs h2⟩
def aN.bM:∀(vs:List V) (b off:Nat),(∀(off:Nat) (x:Value),w.cell? ⟨b,off,none⟩=some x->w'.cell? ⟨b,off,none⟩=some x)->aN I ow w vs b off->aN Y' ow' w' vs b off
 |[],_,_,_,_=>by simp[aN]
 |v::vs,b,off,hb,h=>by
  simp only[aN]at h|-;obtain⟨⟨x,hx,h1,h2⟩,h3⟩:=h;exact⟨⟨x,hb _ _ hx,E'.bM v x h1,h2⟩,aN.bM vs b (off+1) hb h3⟩
def bn.bM:∀(v:V) (b off:Nat),(∀(off:Nat) (x:Value),w.cell? ⟨b,off,none⟩=some x->w'.cell? ⟨b,off,none⟩=some x)->bn I ow w v b off->bn Y' ow' w' v b off
 |.agg vs,b,off,hb,h=>by
  simp only[bn]at h|-;exact aN.bM vs b off hb h
 |.undef,b,off,hb,h=>by simp only[bn]at h|-;obtain⟨x,hx,h1,h2⟩:=h;exact⟨x,hb _ _ hx,E'.bM _ x h1,h2⟩
 |.int k n,b,off,hb,h=>by simp only[bn]at h|-;obtain⟨x,hx,h1,h2⟩:=h;exact⟨x,hb _ _ hx,E'.bM _ x h1,h2⟩
 |.bool t,b,off,hb,h=>by simp only[bn]at h|-;obtain⟨x,hx,h1,h2⟩:=h;exact⟨x,hb _ _ hx,E'.bM _ x h1,h2⟩
 |.str s,b,off,hb,h=>by simp only[bn]at h|-;obtain⟨x,hx,h1,h2⟩:=h;exact⟨x,hb _ _ hx,E'.bM _ x h1,h2⟩
 |.aC,b,off,hb,h=>by simp only[bn]at h|-;obtain⟨x,hx,h1,h2⟩:=h;exact⟨x,hb _ _ hx,E'.bM _ x h1,h2⟩
 |.sl sz rows,b,off,hb,h=>by simp only[bn]at h|-;obtain⟨x,hx,h1,h2⟩:=h;exact⟨x,hb _ _ hx,E'.bM _ x h1,h2⟩
 |.own id o len,b,off,hb,h=>by simp only[bn]at h|-;obtain⟨x,hx,h1,h2⟩:=h;exact⟨x,hb _ _ hx,E'.bM _ x h1,h2⟩
 |.ptr id i k,b,off,hb,h=>by simp only[bn]at h|-;obtain⟨x,hx,h1,h2⟩:=h;exact⟨x,hb _ _ hx,E'.bM _ x h1,h2⟩
 |.rp v,b,off,hb,h=>by simp only[bn]at h|-;obtain⟨x,hx,h1,h2⟩:=h;exact⟨x,hb _ _ hx,E'.bM _ x h1,h2⟩
 |.nilp,b,off,hb,h=>by simp only[bn]at h|-;obtain⟨x,hx,h1,h2⟩:=h;exact⟨x,hb _ _ hx,E'.bM _ x h1,h2⟩
 |.fn f caps,b,off,hb,h=>by simp only[bn]at h|-;obtain⟨x,hx,h1,h2⟩:=h;exact⟨x,hb _ _ hx,E'.bM _ x h1,h2⟩
 |.bm f caps,b,off,hb,h=>by simp only[bn]at h|-;obtain⟨x,hx,h1,h2⟩:=h;exact⟨x,hb _ _ hx,E'.bM _ x h1,h2⟩
 |.YS,b,off,hb,h=>by simp only[bn]at h|-;obtain⟨x,hx,h1,h2⟩:=h;exact⟨x,hb _ _ hx,E'.bM _ x h1,h2⟩
 |.iface t v,b,off,hb,h=>by simp only[bn]at h|-;obtain⟨x,hx,h1,h2⟩:=h;exact⟨x,hb _ _ hx,E'.bM _ x h1,h2⟩
 |.Yt,b,off,hb,h=>by simp only[bn]at h|-;obtain⟨x,hx,h1,h2⟩:=h;exact⟨x,hb _ _ hx,E'.bM _ x h1,h2⟩
 |.P' vs,b,off,hb,h=>by simp only[bn]at h|-;obtain⟨x,hx,h1,h2⟩:=h;exact⟨x,hb _ _ hx,E'.bM _ x h1,h2⟩
 |.raw v,b,off,hb,h=>by simp only[bn]at h|-;obtain⟨x,hx,h1,h2⟩:=h;exact⟨x,hb _ _ hx,E'.bM _ x h1,h2⟩
 |.obj o',b,off,hb,h=>by simp only[bn]at h|-;obtain⟨x,hx,h1,h2⟩:=h;exact⟨x,hb _ _ hx,E'.bM _ x h1,h2⟩
 |.gp o',b,off,hb,h=>by simp only[bn]at h|-;obtain⟨x,hx,h1,h2⟩:=h;exact⟨x,hb _ _ hx,E'.bM _ x h1,h2⟩
 |.yl o',b,off,hb,h=>by simp only[bn]at h|-;obtain⟨x,hx,h1,h2⟩:=h;exact⟨x,hb _ _ hx,E'.bM _ x h1,h2⟩
 |.mp o',b,off,hb,h=>by simp only[bn]at h|-;obtain⟨x,hx,h1,h2⟩:=h;exact⟨x,hb _ _ hx,E'.bM _ x h1,h2⟩
def aS.bM:∀(rs:List V) (b off sz:Nat),(∀(off:Nat) (x:Value),w.cell? ⟨b,off,none⟩=some x->w'.cell? ⟨b,off,none⟩=some x)->aS I ow w rs b off sz->aS Y' ow' w' rs b off sz
 |[],_,_,_,_,_=>by simp[aS]
 |r::rs,b,off,sz,hb,h=>by
  simp only[aS]at h|-;exact⟨h.1,bn.bM r b off hb h.2.1,aS.bM rs b (off+sz) sz hb h.2.2⟩
end
end
section
variable {I Y':Mu} {ow ow':Nat->Prop} {w w':World} (hm:cC I Y') (hk:cD ow ow' w w') (hz:w.heap.size<=w'.heap.size)
include hm hk hz
def E'.mono(v:V)(x:Value):E' I ow w v x->E' Y' ow' w' v x:=E'.bM hm hk.toC hz v x
def al.mono(vs:List V)(l:List Value):al I ow w vs l->al Y' ow' w' vs l:=al.bM hm hk.toC hz vs l
def bn.mono(v:V)(b off:Nat)(hb:w'.heap[b]?=w.heap[b]?):bn I ow w v b off->bn Y' ow' w' v b off:=bn.bM hm hk.toC hz v b off (eh hb)
def aS.mono(rs:List V)(b off sz:Nat)(hb:w'.heap[b]?=w.heap[b]?):aS I ow w rs b off sz->aS Y' ow' w' rs b off sz:=aS.bM hm hk.toC hz rs b off sz (eh hb)
end
def Uy(_:World):Prop:=True
def aA(I:Mu)(U:af)(b:Nat):Prop:=∃id o sz cap,U id=some o/\I id=.Zm b sz cap
def tmpsOf:Obj->List Value
 |.loop r=>r.tmps.toList
 |.map es _=>es.toList.map (·.val)
 |_=>[]
def rk(I:Mu)(ow:Nat->Prop)(w:World)(o:Ob):Pl->Prop
 |.dr=>False
 |.nil=>o.rows=[]
 |.Zm b sz cap=>(∃cur,w.heap[b]?=some (.cells cur o.elem (0,0))/\o.sz=sz/\0<sz/\cur.size=cap*sz/\o.rows.length<=cap/\cap<=maxLen/\
   aS I ow w o.rows b 0 sz)\/(sz=0/\o.sz=0/\∃(ob:Obj) (env:List V),o.rows=.obj ob::env/\w.heap[b]?=some ob/\al I ow w env (tmpsOf ob))
def TM(w:World)(ow:Nat->Prop):Prop:=∃b:World,Uy b/\b.heap.size<=w.heap.size/\∀i,i<b.heap.size->¬ow i/\w.heap[i]?=b.heap[i]?
structure Sat(w0:World)(Zo:Nat->Prop)(I:Mu)(U:af)(w:World):Prop where
 size:w0.heap.size<=w.heap.size
 os:w.os=w0.os
 tape:w.tape=w0.tape
 output:w.output=w0.output
 same:∀b,b<w0.heap.size->¬Zo b->w.heap[b]?=w0.heap[b]?
 fin:∃N,∀id,N<=id->I id=.dr
 inj:∀id ZD o o' b sz cap sz' ZT,U id=some o->U ZD=some o'->I id=.Zm b sz cap->I ZD=.Zm b sz' ZT->id=ZD
 obj:∀id o,U id=some o->rk I (aA I U) w o (I id)
 fresh:∀b,aA I U b->b<w0.heap.size->Zo b
 glob:TM w0 Zo
def Sat.nK{w0 w:World}{Zo:Nat->Prop}{I:Mu}{U:af}(h:Sat w0 Zo I U w):TM w (aA I U):=by
 obtain⟨b,h1,h2,h3⟩:=h.glob;refine⟨b,h1,jI h2 h.size,λi hi=>?_⟩;obtain⟨h4,h5⟩:=h3 i hi;exact⟨λho=>h4 (h.fresh i ho (Nat.lt_of_lt_of_le hi h2)),(h.same i (Nat.lt_of_lt_of_le hi h2) h4).trans h5⟩
def aa(Z' U:af):Prop:=∀id o,Z' id=some o->U id=some o
def aa.refl(U:af):aa U U:=λ_ _ h=>h
def aa.trans{a b c:af}(h:aa a b)(h':aa b c):aa a c:=λid o e=>h' id o (h id o e)
def C'(U:af)(id:Nat)(o:Ob):af:=λi=>if i=id then some o else U i
def del(U:af)(id:Nat):af:=λi=>if i=id then none else U i
def aa.MA{Z' U:af}{id:Nat}{o:Ob}(h:aa Z' U)(O':Z' id=none):aa Z' (C' U id o):=λi u e=>by
 have YA:i≠id:=λe'=>by rw[e',O']at e;cases e
 simp[C',YA,h i u e]
def aa.qk(U:af)(id:Nat):aa (del U id) U:=λi o e=>by
 unfold del at e;split at e
 .cases e
 .exact e
def aA.sub{I:Mu}{U Z':af}(h:aa Z' U){b:Nat}(hb:aA I Z' b):aA I U b:=by
 obtain⟨id,o,sz,cap,h1,h2⟩:=hb;exact⟨id,o,sz,cap,h id o h1,h2⟩
def cD.sub{I:Mu}{U Z':af}(w:World)(h:aa Z' U):cD (aA I U) (aA I Z') w w:=
 λ_ _ hn=>⟨λhb=>hn (hb.sub h),rfl⟩
def rk.bM{I Y':Mu}{ow ow':Nat->Prop}{w w':World}(hm:cC I Y')(hk:sd ow ow' w w')(hz:w.heap.size<=w'.heap.size){o:Ob}{p:Pl}
 (hb:∀b sz cap,p=.Zm b sz cap->w'.heap[b]?=w.heap[b]?)(h:rk I ow w o p):rk Y' ow' w' o p:=by
 cases p with
 |dr=>exact h
 |nil=>exact h
 |Zm b sz cap=>
  have e:=hb b sz cap rfl;rcases h with⟨cur,h1,h2,h3,h4,h5,h6,h7⟩|⟨h1,h2,ob,env,h3,h4,h5⟩
  .exact .inl ⟨cur,e.trans h1,h2,h3,h4,h5,h6,aS.bM hm hk hz _ _ _ _ (eh e) h7⟩
  .exact .inr ⟨h1,h2,ob,env,h3,e.trans h4,al.bM hm hk hz _ _ h5⟩
def rk.mono{I Y':Mu}{ow ow':Nat->Prop}{w w':World}(hm:cC I Y')(hk:cD ow ow' w w')(hz:w.heap.size<=w'.heap.size){o:Ob}{p:Pl}
 (hb:∀b sz cap,p=.Zm b sz cap->w'.heap[b]?=w.heap[b]?)(h:rk I ow w o p):rk Y' ow' w' o p:=h.bM hm hk.toC hz hb
def rk.plain{I:Mu}{ow:Nat->Prop}{w:World}{o:Ob}{b sz cap:Nat}(h:rk I ow w o (.Zm b sz cap))(hz:0<sz):∃cur,w.heap[b]?=some (.cells cur o.elem (0,0))/\o.sz=sz/\0<sz/\cur.size=cap*sz/\o.rows.length<=cap/\cap<=maxLen/\
 aS I ow w o.rows b 0 sz:=by
 rcases h with h|⟨h1,_⟩
 .exact h
 .omega
def rk.rows{I:Mu}{ow:Nat->Prop}{w:World}{o:Ob}{b sz cap:Nat}(h:rk I ow w o (.Zm b sz cap))(hz:0<sz):o.sz=sz/\0<sz/\o.rows.length<=cap/\cap<=maxLen/\aS I ow w o.rows b 0 sz:=by
 obtain⟨cur,h1,h2,h3,h4,h5,h6,h7⟩:=h.plain hz;exact⟨h2,h3,h5,h6,h7⟩
def Sat.drop{w0 w:World}{Zo:Nat->Prop}{I:Mu}{U Z':af}(h:Sat w0 Zo I U w)(hs:aa Z' U):Sat w0 Zo I Z' w where
 size:=h.size
 os:=h.os
 tape:=h.tape
 output:=h.output
 same:=h.same
 fin:=h.fin
 inj:=λid ZD o o' b sz cap sz' ZT h1 h2 h3 h4=>h.inj id ZD o o' b sz cap sz' ZT (hs _ _ h1) (hs _ _ h2) h3 h4
 obj:=λid o ho=>(h.obj id o (hs _ _ ho)).mono (cC.refl I) (cD.sub w hs) (YQ _) (λ_ _ _ _=>rfl)
 fresh:=λb hb=>h.fresh b (hb.sub hs)
 glob:=h.glob
def aA.lt{w0 w:World}{Zo:Nat->Prop}{I:Mu}{U:af}(h:Sat w0 Zo I U w){b:Nat}(hb:aA I U b):b<w.heap.size:=by
 obtain⟨id,o,sz,cap,h1,h2⟩:=hb;have:=h.obj id o h1;rw[h2]at this;rcases this with⟨cur,h3,_⟩|⟨_,_,ob,_,_,h3,_⟩<;>exact(nN.1 h3).1
def Sat.put{w0 w w':World}{Zo:Nat->Prop}{I Y':Mu}{U Z':af}{row:Option Nat}(h:Sat w0 Zo I U w)(hg:w.grownBy w' row)
 (ZO:∀b,row=some b->aA I U b)(hμ:cC I Y')(Zg:∃N,∀id,N<=id->Y' id=.dr)(id0:Nat)(ob:Ob)
 (hZ':∀o,Z' id0=some o->o=ob)
 (hold:∀id o,id≠id0->Z' id=some o->U id=some o/\∀b sz cap,I id=.Zm b sz cap->some b≠row)
 (hpl:∀b sz cap,Y' id0=.Zm b sz cap->some b=row\/w.heap.size<=b)
 (YV:cD (aA I U) (aA Y' Z') w w'->rk Y' (aA Y' Z') w' ob (Y' id0)):
 Sat w0 Zo Y' Z' w'/\cD (aA I U) (aA Y' Z') w w':=by
 have hborn:∀id o,U id=some o->Y' id=I id:=λid o ho=>hμ id (λe=>by
  have:=h.obj id o ho;rw[e]at this;exact this)
 have howned:∀b,aA Y' Z' b->aA I U b\/w.heap.size<=b:=by
  rintro b ⟨id,o,sz,cap,h1,h2⟩;by_cases O':id=id0
  .subst O';rcases hpl b sz cap h2 with h3|h3
   .exact .inl (ZO b h3.symm)
   .exact .inr h3
  .obtain⟨h3,_⟩:=hold id o O' h1;exact .inl ⟨id,o,sz,cap,h3,(hborn id o h3)▸h2⟩
 have hk:cD (aA I U) (aA Y' Z') w w':=λb hb hn=>⟨λho=>by
  rcases howned b ho with h1|h1
  .exact hn h1
  .omega,hg.block b hb (λe=>hn (ZO b e.symm))⟩
 refine⟨⟨jI h.size hg.size,hg.os.trans h.os,hg.tape.trans h.tape,hg.output.trans h.output,?_,Zg,?_,?_,?_,h.glob⟩,hk⟩
 .intro b hb hn;have h1:¬aA I U b:=λho=>hn (h.fresh b ho hb);rw[(hk b (Nat.lt_of_lt_of_le hb h.size) h1).2,h.same b hb hn]
 .intro id ZD o o' b sz cap sz' ZT h1 h2 h3 h4;by_cases e:id=id0
  .by_cases e':ZD=id0
   .rw[e,e']
   .exfalso;obtain⟨h5,h6⟩:=hold ZD o' e' h2;have h7:=(hborn ZD o' h5)▸h4;subst e;rcases hpl b sz cap h3 with h8|h8
    .exact h6 b sz' ZT h7 h8
    .have:=aA.lt h ⟨ZD,o',sz',ZT,h5,h7⟩;omega
  .obtain⟨h5,h6⟩:=hold id o e h1;have h7:=(hborn id o h5)▸h3;by_cases e':ZD=id0
   .exfalso;subst e';rcases hpl b sz' ZT h4 with h8|h8
    .exact h6 b sz cap h7 h8
    .have:=aA.lt h ⟨id,o,sz,cap,h5,h7⟩;omega
   .obtain⟨h5',_⟩:=hold ZD o' e' h2;exact h.inj id ZD o o' b sz cap sz' ZT h5 h5' h7 ((hborn ZD o' h5')▸h4)
 .intro id o ho;by_cases e:id=id0
  .subst e;rw[hZ' o ho];exact YV hk
  .obtain⟨h5,h6⟩:=hold id o e ho;rw[hborn id o h5];refine(h.obj id o h5).mono hμ hk hg.size (λb sz cap hp=>hg.block b ?_ (h6 b sz cap hp));exact aA.lt h ⟨id,o,sz,cap,h5,hp⟩
 .intro b hb H';rcases howned b hb with h1|h1
  .exact h.fresh b h1 H'
  .have:=h.size;omega
structure Fr where
 w0:World
 Zo:Nat->Prop
 X0:Mu
 n:Nat
 rd:Option (Nat×Loop)
structure LZ(F:Fr)(ow:Nat->Prop)(ds:List Deferred)(w:World):Prop where
 rnd:∀l r,F.rd=some (l,r)->w.heap[l]?=some (.loop r)/\¬ow l
 marks:∃Ds:List Nat,ds=Ds.map (λD=>{ target:=.collected D,args:=#[] })/\Ds.Nodup/\∀D∈Ds,F.w0.heap.size<=D/\w.heap[D]?=some (.deferred (some []))/\¬ow D
def LZ.gJ{F:Fr}{ow ow':Nat->Prop}{ds:List Deferred}{w w':World}(h:LZ F ow ds w)(hk:cD ow ow' w w'):LZ F ow' ds w' where
 rnd:=λl r e=>by
  obtain⟨h1,h2⟩:=h.rnd l r e;have h3:=hk l (nN.1 h1).1 h2;exact⟨h3.2.trans h1,h3.1⟩
 marks:=by
  obtain⟨Ds,h1,h2,h3⟩:=h.marks;refine⟨Ds,h1,h2,λD hD=>?_⟩;obtain⟨g1,g2,g3⟩:=h3 D hD;have h4:=hk D (nN.1 g2).1 g3;exact⟨g1,h4.2.trans g2,h4.1⟩
structure St where
 s:Nat->V
 U:af
structure cI(F:Fr)(I:Mu)(st:St)(a:Act)(w:World):Prop where
 sat:Sat F.w0 F.Zo I st.U w
 le:cC F.X0 I
 size:a.tmps.size=F.n
 book:LZ F (aA I st.U) a.defers w
 slot:∀i,i<F.n->E' I (aA I st.U) w (st.s i) (a.tmps.getD i undef)
def ee(F:Fr)(st:St)(a:Act)(w:World):Prop:=∃I,cI F I st a w
def uh(P:Program)(f:FuncId)(args:List V)(U:af)(Post:V->af->Prop):Prop:=
 ∀I w Yf,Sat w (aA I U) I U w->al I (aA I U) w args Yf->Calls P f Yf.toArray w λe w'=>
  ∃r Z' Y' val,e=.returned val/\Post r Z'/\cC I Y'/\Sat w (aA I U) Y' Z' w'/\E' Y' (aA Y' Z') w' r val
def uh.mono{P:Program}{f:FuncId}{args:List V}{U:af}{Post Post':V->af->Prop}(h:uh P f args U Post)
 (hp:∀r Z',Post r Z'->Post' r Z'):uh P f args U Post':=λI w Yf hs hr=>
 (h I w Yf hs hr).mono λ_ _ ⟨r,Z',Y',val,h1,h2,h3⟩=>⟨r,Z',Y',val,h1,hp _ _ h2,h3⟩
inductive VX where
 |t (n:Nat)
 |c (v:V)
def cellOf:Value->V
 |.int k n=>.int k n
 |.bool b=>.bool b
 |.string s=>.str s.data.toList
 |.slice a n c=>if a=none/\n=0/\c=0 then .aC else .raw (.slice a n c)
 |.pointer a=>if a=none then .nilp else .raw (.pointer a)
 |.nilFunc=>.YS
 |.nilIface=>.Yt
 |v=>.raw v
def ofValue:Value->V
 |.agg cs=>if cs.toList.all (·.oneCell')then .agg (cs.toList.map cellOf)else .raw (.agg cs)
 |v=>cellOf v
inductive MOp where
 |mkI (t:TypeId)
 |mkB (f:FuncId)
 |nilP (neg:Bool)
 |oI
 |nB
 |cpy (sz:Nat)
 |tas (t:TypeId) (ok:Bool) (zero:V)
 |inv (tbl:List (TypeId×FuncId))
 |mkMap
 |HU
 |tJ (ok:Bool) (zero:V)
 |delM
inductive Yq where
 |more (m:MOp) (xs:List VX)
 |YH (x:VX)
 |pick (c a b:VX)
 |bin (op:BinOp) (x y:VX)
 |not (x:VX)
 |neg (x:VX)
 |len (str:Bool) (x:VX)
 |fld (agg:Bool) (off sz:Nat) (x:VX)
 |YB (agg:Bool) (off sz:Nat) (x:VX)
 |idxA (ZS:Nat) (x i:VX)
 |idxAA (agg:Bool) (n ZS:Nat) (x i:VX)
 |idxV (agg:Bool) (n ZS:Nat) (x i:VX)
 |idxS (x i:VX)
 |load (agg:Bool) (sz:Nat) (x:VX)
 |slice (ZS:Nat) (x:VX) (lo hi mx:Option VX)
 |sliceS (x:VX) (lo hi:Option VX)
 |ext (i:Nat) (x:VX)
 |mkfn (f:FuncId) (caps:List VX)
 |convI (k:IntKind) (x:VX)
 |nilCheck (x:VX)
 |Zz (neg:Bool) (x y:VX)
 |eqS (neg:Bool) (ks:List Nat) (x y:VX)
 |minmax (max:Bool) (x y:VX)
 |bstr (x:VX)
 |box (elem sz:Nat) (x:VX)
 |clear (sz:Nat) (zero:V) (x:VX)
 |alloc (elem sz:Nat) (zero:V)
 |store (sz:Nat) (a x:VX)
 |eR (elem sz:Nat) (parts:List VX)
 |build (zero:List V) (parts:List (Nat×Nat×VX))
 |append (elem sz bytes:Nat) (a b:VX)
 |cap (x:VX)
 |mk (elem sz bytes:Nat) (zero:V) (n:VX)
 |appz (elem sz bytes:Nat) (zero:V) (a n:VX)
 |call (f:VX) (args:List VX)
 |rngS (rune:Bool) (x:VX)
 |nxtS (x:VX)
 |bad
structure az where
 dst:Option Nat
 op:Yq
 g:Option (VX×Bool)
inductive bf where
 |skip
 |reg (draw:Bool) (l:List az)
 |seq (a b:bf)
 |cond (c:VX) (a b:bf)
 |block (id:Nat) (a:bf)
 |loop (a:bf)
 |exit (id:Nat)
 |ret
 |cA (g:VX) (ps:List Nat) (a b:bf)
 |regA (l:List az) (Yi:List (List Nat))
 |nq (l e:List az)
 |bad
def aX:Yq->Nat
 |.call ..=>1
 |.store ..=>2
 |.alloc ..|.box ..|.eR ..|.append ..|.mk ..|.appz ..=>3
 |.clear ..|.rngS ..|.nxtS _|.bad=>4
 |.more (.mkI _) _|.more (.mkB _) _|.more (.tas ..) _|.more (.nilP _) _=>0
 |.more ..=>4
 |_=>0
def Yq.xs:Yq->List VX
 |.YH x|.not x|.neg x|.len _ x|.fld _ _ _ x|.YB _ _ _ x|.load _ _ x|.ext _ x|.convI _ x|.nilCheck x|.bstr x|.box _ _ x|.clear _ _ x|.cap x|.mk _ _ _ _ x|.rngS _ x|.nxtS x=>[x]
 |.bin _ x y|.idxA _ x y|.idxAA _ _ _ x y|.idxV _ _ _ x y|.idxS x y|.Zz _ x y|.eqS _ _ x y|.minmax _ x y|.store _ x y|.append _ _ _ x y|.appz _ _ _ _ x y=>[x,y]
 |.pick x y z=>[x,y,z]
 |.slice _ x lo hi mx=>x::(lo.toList++hi.toList++mx.toList)
 |.sliceS x lo hi=>x::(lo.toList++hi.toList)
 |.mkfn _ xs=>xs
 |.more _ xs=>xs
 |.eR _ _ xs=>xs
 |.build _ ps=>ps.map (·.2.2)
 |.call f xs=>f::xs
 |.alloc ..|.bad=>[]
def VX.Nh:VX->Option Nat
 |.t d=>some d
 |.c _=>none
def az.lR(i:az):List Nat:=(i.op.xs++(i.g.map (·.1)).toList).filterMap VX.Nh
def lh:Yq->Bool
 |.load ..|.idxA ..|.slice ..|.bstr ..=>false
 |op=>aX op==0
def D6(A B:az):Bool:=
 (match A.dst with
  |some d=>!B.lR.contains d&&B.dst != some d
  |none=>true)&&
 (match B.dst with
  |some d=>!A.lR.contains d
  |none=>true)
def fg(i:az):Bool:=decide (aX i.op<=1)
def uF(i:az):Bool:=aX i.op==2||aX i.op==3
def mkI(i:az):Bool:=match i.op with
 |.alloc ..|.box ..|.eR ..|.mk ..=>true
 |_=>false
def GU(i:az):Bool:=match i.op with
 |.alloc ..|.box ..|.eR ..|.append ..|.mk ..=>true
 |_=>false
def kE(i:az):Bool:=aX i.op==0
def iD(A B:az):Bool:=D6 A B&&((fg A&&fg B)||(uF A&&lh B.op)||(lh A.op&&uF B)||(fg A&&mkI B)||(GU A&&kE B)||(GU A&&mkI B))
def Pv(P:Program)(a b:TypeId):Bool:=match P.underlying a,P.underlying b with
 |some (.int _),some .string=>true
 |_,_=>false
section comp
variable (P:Program) (n:Nat)
def cx:Operand->VX
 |.tmp t=>if t<n then .t t else .c (.P' [])
 |.const v=>.c (ofValue v)
 |.func f=>.c (.fn f [])
 |.global g=>.c (.raw (.pointer (some ⟨g,0,none⟩)))
def fa(t:TypeId):Bool:=match P.underlying t with
 |some (.struct _)|some (.array _ _)=>true
 |_=>false
def bL(t:TypeId):Bool:=(P.info? t).isSome&&(P.underlying t).isSome&&P.cellsOf t != 0
def zeroOf(e:TypeId):Option (TypeInfo×Value):=match P.info? e with
 |some i=>match i.zero with
  |some z=>if bL P e&&z.cells.size==i.size&&z.cells.toList.all (·.oneCell')then some (i,z)else none
  |none=>none
 |none=>none
def mY(t:TypeId):Bool:=match P.underlying t,P.info? t with
 |some (.struct fs),some i=>fs.size==0&&(i.size==0&&(match i.zero with
  |some (.agg z)=>z.size==0
  |_=>false))
 |_,_=>false
def u8T(t:TypeId):Bool:=match P.underlying t with
 |some (.int .u8)=>true
 |_=>false
def Ko(t:TypeId):Bool:=match P.underlying t with
 |some (.int _)|some .bool|some .string=>true
 |_=>false
def rB(t:TypeId):Nat:=match P.underlying t with
 |some (.int _)=>0
 |some .bool=>1
 |some .string=>2
 |_=>3
def KF(t:TypeId)(fs:Array Field):Bool:=
 (fs.toList.map (·.offset)==List.range fs.size)&&(fs.toList.all λf=>Ko P f.type&&f.name != "_"&&bL P f.type)&&!P.stoodInHeld t&&!P.eqGuardType P.depth t
def UH:Value->Bool
 |.slice none _ _=>true
 |_=>false
def HD:Operand->Bool
 |.const v=>UH v
 |_=>false
def jk(op:BinOp)(x:VX)(y:Operand):Yq:=if op=.eql/\HD y=true then .Zz false x (.c (.iface 0 .undef))else .bad
def zZ(t:TypeId):Bool:=match P.underlying t with
 |some (.slice _)=>true
 |_=>false
def td(t:TypeId):Bool:=match P.underlying t with
 |some (.interface _)=>true
 |_=>false
def Ow:Operand->Bool
 |.const .nilIface=>true
 |_=>false
def N8(t:TypeId):Bool:=match P.underlying t with
 |some (.func _ _ _)=>true
 |_=>false
def N1:Operand->Bool
 |.const .nilFunc=>true
 |_=>false
def TP(t:TypeId):Bool:=match P.underlying t with
 |some (.pointer _)=>true
 |_=>false
def OG:Operand->Bool
 |.const (.pointer none)=>true
 |_=>false
def Dk(t:TypeId):Option TypeId:=match P.underlying t with
 |some (.map k e)=>match P.underlying k with
  |some (.int _)=>some e
  |_=>none
 |_=>none
def vY(name:String)(t:TypeId):Option FuncId:=match P.info? t with
 |some i=>match i.methods.find? (·.name==name)with
  |some m=>if m.path.isEmpty then match m.func,P.underlying t with
     |some (f,true),some (.pointer _)=>some f
     |some (_,false),some (.pointer _)=>none
     |some (f,false),some _=>some f
     |_,_=>none
   else none
  |none=>none
 |none=>none
def AF(name:String):List (TypeId×FuncId):=(List.range P.types.size).filterMap λt=>(vY P name t).map λf=>(t,f)
def uM:Operand->Operand->Bool
 |.tmp a,.tmp b=>a==b
 |.const (.int k a),.const (.int k' b)=>decide (k=k'/\a=b)
 |_,_=>false
def Yh:Op->Yq
 |.move x|.assign x=>.YH (cx n x)
 |.pick c a b=>.pick (cx n c) (cx n a) (cx n b)
 |.binOp op t x y _=>match P.underlying t with
   |some .bool=>match op with
    |.eql=>.Zz false (cx n x) (cx n y)
    |.neq=>.Zz true (cx n x) (cx n y)
    |_=>.bad
   |some (.struct fs)=>if KF P t fs then match op with
    |.eql=>.eqS false (fs.toList.map λf=>rB P f.type) (cx n x) (cx n y)
    |.neq=>.eqS true (fs.toList.map λf=>rB P f.type) (cx n x) (cx n y)
    |_=>.bad
    else .bad
   |_=>if zZ P t then jk op (cx n x) y else if td P t then(if(op=.eql\/op=.neq)/\Ow y=true then .Zz (op==.neq) (cx n x) (.c (.iface 1 .undef))else .bad)else if N8 P t then(if(op=.eql\/op=.neq)/\N1 y=true then .Zz (op==.neq) (cx n x) (.c (.iface 2 .undef))else .bad)else if TP P t&&OG y then(if op=.eql\/op=.neq then .more (.nilP (op==.neq)) [cx n x]else .bad)else .bin op (cx n x) (cx n y)
 |.nilCheck x=>.nilCheck (cx n x)
 |.box e x=>if bL P e then .box e (P.cellsOf e) (cx n x)else .bad
 |.unOp .not _ x=>.not (cx n x)
 |.unOp .neg _ x=>.neg (cx n x)
 |.field s x f=>match P.underlying s with
   |some (.struct fs)=>match fs[f]? with
    |some fd=>if bL P fd.type then .fld (fa P fd.type) fd.offset (P.cellsOf fd.type) (cx n x)else .bad
    |none=>.bad
   |_=>.bad
 |.fieldAddr s x f=>match P.underlying s with
   |some (.struct fs)=>match fs[f]? with
    |some fd=>if bL P fd.type then .YB (fa P fd.type) fd.offset (P.cellsOf fd.type) (cx n x)else .bad
    |none=>.bad
   |_=>.bad
 |.indexAddr t x i=>match P.underlying t with
   |some (.slice e)=>if bL P e then .idxA (P.cellsOf e) (cx n x) (cx n i)else .bad
   |some (.array k e)=>if bL P e then .idxAA (fa P e) k (P.cellsOf e) (cx n x) (cx n i)else .bad
   |_=>.bad
 |.index t x i=>match P.underlying t with
   |some (.array k e)=>if bL P e then .idxV (fa P e) k (P.cellsOf e) (cx n x) (cx n i)else .bad
   |some .string=>.idxS (cx n x) (cx n i)
   |_=>.bad
 |.load t x=>if bL P t then .load (fa P t) (P.cellsOf t) (cx n x)else .bad
 |.slice t x lo hi mx=>match P.underlying t with
   |some (.slice e)=>if bL P e&&(mx.isNone||hi.isSome)then .slice (P.cellsOf e) (cx n x) (lo.map (cx n)) (hi.map (cx n)) (mx.map (cx n))else .bad
   |some .string=>if mx.isNone then .sliceS (cx n x) (lo.map (cx n)) (hi.map (cx n))else .bad
   |_=>.bad
 |.extract x i=>.ext i (cx n x)
 |.makeFunc (.func f) first caps=>if first.size=0 then .mkfn f (caps.toList.map (cx n))else if caps.size=0 then .more (.mkB f) (first.toList.map (cx n))else .bad
 |.convert src dst x=>match P.underlying src,P.underlying dst with
   |some (.int _),some (.int k)=>.convI k (cx n x)
   |some (.slice e),some .string=>if u8T P e then .bstr (cx n x)else .bad
   |_,_=>if Pv P src dst then .rngS true (cx n x)else .bad
 |.alloc e=>match zeroOf P e with
   |some (i,z)=>.alloc e i.size (ofValue z)
   |none=>if mY P e then .more .oI []else .bad
 |.store t a x=>if bL P t then .store (P.cellsOf t) (cx n a) (cx n x)else if mY P t then .more .nB [cx n a,cx n x]else .bad
 |.buildSlice t len parts=>match P.underlying t with
   |some (.slice e)=>match zeroOf P e with
    |some (i,_)=>if parts.toList.map (·.1)=List.range len/\len*i.size<=16777216 then .eR e i.size (parts.toList.map λp=>cx n p.2)else .bad
    |none=>.bad
   |_=>.bad
 |.build t parts=>if mY P t&&parts.size==0 then .YH (.c (.agg []))else match zeroOf P t,P.underlying t with
   |some (_,.agg z),some (.struct fs)=>
    if(fs.toList.all λf=>bL P f.type)&&(parts.toList.all λp=>decide (p.1<fs.size))then
     .build (z.toList.map cellOf) (parts.toList.map λp=>(((fs[p.1]?).map (·.offset)).getD 0,((fs[p.1]?).map λf=>P.cellsOf f.type).getD 0,cx n p.2))
    else .bad
   |some (_,.agg z),some (.array _ e)=>if bL P e then .build (z.toList.map cellOf) (parts.toList.map λp=>(p.1*P.cellsOf e,P.cellsOf e,cx n p.2))else .bad
   |_,_=>.bad
 |.call { callee:=.builtin .len,args,argTypes }=>match args.toList,argTypes[0]? with
   |[x],some t=>match P.underlying t with
    |some (.slice _)=>.len false (cx n x)
    |some .string=>.len true (cx n x)
    |_=>.bad
   |_,_=>.bad
 |.call { callee:=.builtin .append,args,argTypes }=>match args.toList,argTypes.toList with
   |[a,b],[t,t']=>if t=t' then match P.underlying t with
    |some (.slice e)=>match zeroOf P e with
     |some (i,_)=>.append e i.size i.bytes (cx n a) (cx n b)
     |none=>.bad
    |_=>.bad
    else match P.underlying t,P.underlying t' with
    |some (.slice e),some (.int _)=>match zeroOf P e with
     |some (i,z)=>.appz e i.size i.bytes (ofValue z) (cx n a) (cx n b)
     |none=>.bad
    |some (.slice e),some .string=>match zeroOf P e with
     |some (i,_)=>.append e i.size i.bytes (cx n a) (cx n b)
     |none=>.bad
    |_,_=>.bad
   |_,_=>.bad
 |.makeSlice t l c=>match P.underlying t with
   |some (.slice e)=>match zeroOf P e with
    |some (i,z)=>if uM l c then .mk e i.size i.bytes (ofValue z) (cx n l)else .bad
    |none=>.bad
   |_=>.bad
 |.call { callee:=.builtin .cap,args,argTypes }=>match args.toList,argTypes[0]? with
   |[x],some t=>if zZ P t then .cap (cx n x)else .bad
   |_,_=>.bad
 |.call { callee:=.builtin .min,args,.. }=>match args.toList with
   |[x,y]=>.minmax false (cx n x) (cx n y)
   |_=>.bad
 |.call { callee:=.builtin .max,args,.. }=>match args.toList with
   |[x,y]=>.minmax true (cx n x) (cx n y)
   |_=>.bad
 |.call { callee:=.builtin .clear,args,argTypes }=>match args.toList,argTypes[0]? with
   |[x],some t=>match P.underlying t with
    |some (.slice e)=>match zeroOf P e with
     |some (i,z)=>.clear i.size (ofValue z) (cx n x)
     |none=>.bad
    |_=>.bad
   |_,_=>.bad
 |.call { callee:=.builtin .copy,args,argTypes }=>match args.toList,argTypes[0]? with
   |[x,y],some t=>match P.underlying t with
    |some (.slice e)=>if bL P e then .more (.cpy (P.cellsOf e)) [cx n x,cx n y]else .bad
    |_=>.bad
   |_,_=>.bad
 |.call { callee:=.value f,args,.. }=>.call (cx n f) (args.toList.map (cx n))
 |.range t x=>match P.underlying t with
   |some .string=>.rngS false (cx n x)
   |_=>.bad
 |.makeInterface t x=>if(P.underlying t).isSome&&!td P t then .more (.mkI t) [cx n x]else .bad
 |.typeAssert x _ t ok=>if td P t then .bad else match zeroOf P t with
   |some (_,z)=>.more (.tas t ok (ofValue z)) [cx n x]
   |none=>if mY P t then .more (.tas t ok (.agg [])) [cx n x]else .bad
 |.call { callee:=.invoke r name,args,.. }=>.more (.inv (AF P name)) (cx n r::args.toList.map (cx n))
 |.makeMap t r=>if r.isNone&&(Dk P t).isSome then .more .mkMap []else .bad
 |.insert t m k x|.mapUpdate t m k x=>if(Dk P t).isSome then .more .HU [cx n m,cx n k,cx n x]else .bad
 |.lookup t x i ok=>match Dk P t with
   |some e=>match zeroOf P e with
    |some (_,z)=>.more (.tJ ok (ofValue z)) [cx n x,cx n i]
    |none=>.bad
   |none=>.bad
 |.call { callee:=.builtin .delete,args,argTypes }=>match args.toList,argTypes[0]? with
   |[m,k],some t=>if(Dk P t).isSome then .more .delM [cx n m,cx n k]else .bad
   |_,_=>.bad
 |.next it b=>if b=true then .nxtS (cx n it)else .bad
 |_=>.bad
def bI(all:Array Oper)(o:Oper):az where
 dst:=o.dst.filter (·<n)
 op:=Yh P n o.op
 g:=o.guard.map λ(j,want)=>(match(all[j]?).bind (·.dst)with
  |some d=>if d<n then .t d else .c (.P' [])
  |none=>.c (.P' []),want)
def Gx(ops:Array Oper)(k:Nat)(A':Array Bool):Bool:=match ops[k]? with
 |some ok=>(List.range ops.size).all λj=>j==k||A'.getD j true||(match ops[j]? with
    |some oj=>((Region.before ops).getD j 0).testBit k||iD (bI P n ops ok) (bI P n ops oj)
    |none=>true)
 |none=>false
def ym(ops:Array Oper):Nat->Nat->Array Bool->Bool
 |0,_,A'=>(Region.ready .any ops A').isEmpty
 |m+1,k,A'=>(Region.ready .any ops A').contains k&&Gx P n ops k A'&&ym ops m (k+1) (A'.setIfInBounds k true)
def L8(l:List az):Bool:=l.any λi=>match i.op with
 |.append _ _ _ (.t d) _=>l.any λj=>j.dst==some d&&(match j.op with|.call ..=>true|_=>false)
 |_=>false
def Cm(l:List az)(d:Nat):Option Yq:=(l.find? λj=>j.dst==some d).map (·.op)
def zS:Option Yq->Bool
 |some (.call ..)=>true
 |_=>false
def MV(l:List az):Bool:=l.any λi=>match i.op with
 |.append _ _ _ (.t d) (.t v)=>zS (Cm l v)&&(match Cm l d with
  |some (.append _ _ _ _ (.t w))=>zS (Cm l w)
  |_=>false)
 |.call (.t f) _=>match Cm l f with
  |some (.idxV _ _ _ (.t a) _)=>zS (Cm l a)
  |_=>false
 |_=>false
def yE(l:List az):Bool:=L8 l||MV l||
 (l.any λi=>match i.op with|.call ..=>true|_=>false)&&(l.any λi=>match i.op with|.nilCheck _=>true|_=>false)&&l.any λi=>match i.op with|.store ..=>true|_=>false
def qn(ops:Array Oper):Bool:=P.follows .mixedOrders&&(!(yE (ops.toList.map (bI P n ops)))&&ym P n ops ops.size 0 (Array.replicate ops.size false))
def Je(ops:Array Oper)(m:Nat):Nat->Nat->Array Bool->Bool
 |0,_,A'=>decide (Region.ready .any ops A'=[m])&&(Region.ready .any ops (A'.setIfInBounds m true)).isEmpty
 |f+1,k,A'=>((Region.ready .any ops A').contains k&&(decide (k≠m)&&((Region.before ops).getD m 0).testBit k))&&(Gx P n ops k A'&&Je ops m f (k+1) (A'.setIfInBounds k true))
def Nz:az->Bool
 |⟨_,.call ..,_⟩=>true
 |_=>false
def zK(ops:Array Oper):Bool:=P.follows .mixedOrders&&(decide (0<ops.size)&&(((ops.toList.drop (ops.size-1)).map (bI P n ops)).any Nz&&(!(yE ((ops.toList.take (ops.size-1)).map (bI P n ops)))&&Je P n ops (ops.size-1) (ops.size-1) 0 (Array.replicate ops.size false))))
def cY:Code->bf
 |.skip=>.skip
 |.region _ ops draw=>if draw&&zK P n ops then .nq ((ops.toList.take (ops.size-1)).map (bI P n ops)) ((ops.toList.drop (ops.size-1)).map (bI P n ops))else if draw&&!(qn P n ops)then .regA (ops.toList.map (bI P n ops)) (ops.toList.map λo=>(o.after.toList.filter (Region.binds .any)).map (·.on))else .reg draw (ops.toList.map (bI P n ops))
 |.seq a b=>.seq (cY a) (cY b)
 |.cond c a b=>.cond (cx n c) (cY a) (cY b)
 |.block id a=>.block id (cY a)
 |.loop a=>.loop (cY a)
 |.exit id=>.exit id
 |.ret=>.ret
 |.rangeFunc g ps a c=>.cA (cx n g) ps.toList (cY a) (cY c)
 |_=>.bad
end comp
def VX.ev(s:Nat->V):VX->V
 |.t n=>s n
 |.c v=>v
def Yl(k:IntKind)(n:Int):Prop:=k.wrap n=n
def dW(op:BinOp)(k:IntKind)(a b:Int):Option V:=
 match op with
 |.add=>some (.int k (a+b))
 |.sub=>some (.int k (a-b))
 |.mul=>some (.int k (a*b))
 |.quo=>if b=0 then none else some (.int k (a.tdiv b))
 |.rem=>if b=0 then none else some (.int k (a.tmod b))
 |.eql=>some (.bool (decide (a=b)))
 |.neq=>some (.bool (decide (a≠b)))
 |.lss=>some (.bool (decide (a<b)))
 |.leq=>some (.bool (decide (a<=b)))
 |.gtr=>some (.bool (decide (a>b)))
 |.geq=>some (.bool (decide (a>=b)))
 |.and=>some (.int k (k.wrap (BitVec.ofInt k.bits a &&& BitVec.ofInt k.bits b).toNat))
 |.or=>some (.int k (k.wrap (BitVec.ofInt k.bits a ||| BitVec.ofInt k.bits b).toNat))
 |.shl=>if b<0 then none else some (.int k (k.wrap (a*2^(min b.toNat k.bits))))
 |.shr=>if b<0 then none else some (.int k (a.fdiv (2^(min b.toNat k.bits))))
 |_=>none
def iS(op:BinOp)(k:IntKind)(a b:Int):Prop:=
 match op with
 |.add=>Yl k (a+b)
 |.sub=>Yl k (a-b)
 |.mul=>Yl k (a*b)
 |.quo=>Yl k (a.tdiv b)
 |_=>True
def pW(op:BinOp)(a b:List UInt8):Option V:=
 match op with
 |.add=>some (.str (a++b))
 |.eql=>some (.bool (decide (a=b)))
 |.neq=>some (.bool (decide (a≠b)))
 |_=>none
def v8(op:BinOp)(a b:List UInt8):Prop:=
 match op with
 |.add=>a.length+b.length<=9223372036854775807
 |_=>True
def xR(op:BinOp):V->V->Option V
 |.int k a,.int k' b=>if k=k' then dW op k a b else none
 |.str a,.str b=>pW op a b
 |_,_=>none
def qj(op:BinOp):V->V->Prop
 |.int k a,.int _ b=>iS op k a b
 |.str a,.str b=>v8 op a b
 |_,_=>True
def cQ(agg:Bool)(off sz:Nat)(vs:List V):Option V:=
 if agg then some (.agg ((vs.drop off).take sz))else vs[off]?
def MO:V->Option V
 |.aC=>some (.int .i64 0)
 |_=>none
def cW:Bool->V->Option V
 |false,.own _ _ n=>some (.int .i64 n)
 |false,.sl _ rows=>some (.int .i64 rows.length)
 |false,.aC=>some (.int .i64 0)
 |true,.str s=>some (.int .i64 s.length)
 |_,_=>none
def HH(agg:Bool)(off sz:Nat):V->Option V
 |.agg vs=>cQ agg off sz vs
 |_=>none
def l4(agg:Bool)(off sz:Nat):V->Option V
 |.ptr id i k=>some (.ptr id i (k+off))
 |.rp v=>(cQ agg off sz v.cells).map .rp
 |_=>none
def bo(U:af)(ZS:Nat):V->V->Option V
 |.own id off len,.int _ j=>match U id with
   |some ob=>if ob.sz=ZS/\0<=j/\j<len then some (.ptr id (off+j.toNat) 0)else none
   |none=>none
 |.sl sz rows,.int _ j=>if sz=ZS/\0<=j then match rows[j.toNat]? with
   |some r=>some (.rp r)
   |none=>none
   else none
 |_,_=>none
def mW(agg:Bool)(n ZS:Nat):V->V->Option V
 |.ptr id i k,.int _ j=>if 0<=j/\j<n then some (.ptr id i (k+j.toNat*ZS))else none
 |.rp v,.int _ j=>if 0<=j/\j<n then(cQ agg (j.toNat*ZS) ZS v.cells).map .rp else none
 |_,_=>none
def tf(agg:Bool)(n ZS:Nat):V->V->Option V
 |.agg vs,.int _ j=>if 0<=j/\j<n then cQ agg (j.toNat*ZS) ZS vs else none
 |_,_=>none
def qT:V->V->Option V
 |.str s,.int _ j=>if 0<=j then match s[j.toNat]? with
   |some b=>some (.int .u8 b.toNat)
   |none=>none
   else none
 |_,_=>none
def bB(U:af)(agg:Bool)(sz:Nat):V->Option V
 |.ptr id i k=>match U id with
   |some ob=>match ob.rows[i]? with
    |some r=>if agg then(if k=0/\r.cells.length=sz then some (.agg r.cells)else if k+sz<=r.cells.length then some (.agg ((r.cells.drop k).take sz))else none)
       else r.cells[k]?
    |none=>none
   |none=>none
 |.rp v=>if agg then(if v.cells.length=sz then some (.agg v.cells)else none)else match v with
   |.agg _=>none
   |v=>some v
 |_=>none
def bS(d:Int):Option V->Option Int
 |none=>some d
 |some (.int _ j)=>some j
 |_=>none
def x8(U:af)(id ZS:Nat):Bool:=match U id with
 |some ob=>ob.sz==ZS
 |none=>false
def ek(U:af)(ZS:Nat)(x:V)(lo hi mx:Option V):Option V:=
 match x with
 |.own id off len=>match bS 0 lo,bS len hi,bS len mx with
   |some l,some h,some m=>if 0<=l/\l<=h/\h<=m/\m<=len/\x8 U id ZS=true then some (.own id (off+l.toNat) (h.toNat-l.toNat))else none
   |_,_,_=>none
 |.sl sz rows=>match bS 0 lo,bS rows.length hi,bS rows.length mx with
   |some l,some h,some m=>if 0<=l/\l<=h/\h<=m/\m<=rows.length/\sz=ZS then some (.sl sz ((rows.drop l.toNat).take (h.toNat-l.toNat)))else none
   |_,_,_=>none
 |.aC=>match bS 0 lo,bS 0 hi,bS 0 mx with
   |some l,some h,some m=>if l=0/\h=0/\m=0 then some .aC else none
   |_,_,_=>none
 |_=>none
def lv(x:V)(lo hi:Option V):Option V:=
 match x with
 |.str s=>match bS 0 lo,bS s.length hi with
   |some l,some h=>if 0<=l/\l<=h/\h<=s.length then some (.str ((s.drop l.toNat).take (h.toNat-l.toNat)))else none
   |_,_=>none
 |_=>none
def ec{α:Type}(l:List α)(off:Nat)(xs:List α):List α:=l.take off++xs++l.drop (off+xs.length)
def V.stays:V->Bool
 |.undef=>false
 |.P' _=>false
 |.raw v=>v.oneCell'
 |_=>true
def jH(zero:List V):List (Nat×Nat×V)->Option (List V)
 |[]=>some zero
 |(off,sz,x)::r=>if x.cells.length=sz/\x.stays=true/\off+sz<=zero.length then jH (ec zero off x.cells) r else none
def D8(i:Nat):V->Option V
 |.P' vs=>vs[i]?
 |_=>none
def lA:V->V->Option Bool
 |.int k a,.int k' b=>if k=k' then some (decide (a=b))else none
 |.bool a,.bool b=>some (a==b)
 |.str a,.str b=>some (decide (a=b))
 |_,_=>none
def gE:List V->List V->Option Bool
 |[],[]=>some true
 |v::vs,u::us=>match lA v u,gE vs us with
   |some a,some b=>some (a&&b)
   |_,_=>none
 |_,_=>none
def jP:List Nat->List V->Bool
 |[],[]=>true
 |0::ks,.int _ _::vs=>jP ks vs
 |1::ks,.bool _::vs=>jP ks vs
 |2::ks,.str _::vs=>jP ks vs
 |_,_=>false
def sK(neg:Bool)(ks:List Nat):V->V->Option V
 |.agg vs,.agg us=>if jP ks vs=true/\us.length=vs.length then match gE vs us with
   |some b=>some (.bool (if neg then !b else b))
   |none=>none
   else none
 |_,_=>none
def binBV(neg:Bool):V->V->Option V
 |.bool a,.bool b=>some (.bool (if neg then !(a==b)else a==b))
 |_,_=>none
def my(max:Bool):V->V->Option V
 |.int k a,.int k' b=>if k=k' then some (.int k (if max then(if b>a then b else a)else(if b<a then b else a)))else none
 |_,_=>none
def byteOf:V->Option UInt8
 |.int .u8 n=>some (UInt8.ofNat n.toNat)
 |_=>none
def bytesOf:List V->Option (List UInt8)
 |[]=>some []
 |v::vs=>match byteOf v,bytesOf vs with
   |some b,some l=>some (b::l)
   |_,_=>none
def kB(U:af):V->Option V
 |.aC=>some (.str [])
 |.own id off len=>match U id with
   |some ob=>if ob.sz=1/\off+len<=ob.rows.length then(bytesOf ((ob.rows.drop off).take len)).map .str else none
   |none=>none
 |_=>none
def gX:V->Option V
 |.ptr id i k=>some (.ptr id i k)
 |.rp v=>some (.rp v)
 |.fn f caps=>some (.fn f caps)
 |.iface t v=>some (.iface t v)
 |_=>none
def Gm(neg:Bool):V->Option V
 |.nilp=>some (.bool (!neg))
 |.ptr _ _ _=>some (.bool neg)
 |.rp _=>some (.bool neg)
 |_=>none
def Jr(t:TypeId)(ok:Bool)(zero:V):V->Option V
 |.iface t' v=>if t'=t then some (if ok then .P' [v,.bool true]else v)else(if ok then some (.P' [zero,.bool false])else none)
 |.Yt=>if ok then some (.P' [zero,.bool false])else none
 |_=>none
def aE(U:af)(s:Nat->V):Yq->Option V
 |.YH x=>some (x.ev s)
 |.pick c a b=>match c.ev s with
   |.bool t=>some (if t then a.ev s else b.ev s)
   |_=>none
 |.bin op x y=>xR op (x.ev s) (y.ev s)
 |.not x=>match x.ev s with
   |.bool b=>some (.bool (!b))
   |_=>none
 |.neg x=>match x.ev s with
   |.int k a=>some (.int k (0-a))
   |_=>none
 |.len b x=>cW b (x.ev s)
 |.cap x=>MO (x.ev s)
 |.fld agg off sz x=>HH agg off sz (x.ev s)
 |.YB agg off sz x=>l4 agg off sz (x.ev s)
 |.idxA ZS x i=>bo U ZS (x.ev s) (i.ev s)
 |.idxAA agg n ZS x i=>mW agg n ZS (x.ev s) (i.ev s)
 |.idxV agg n ZS x i=>tf agg n ZS (x.ev s) (i.ev s)
 |.idxS x i=>qT (x.ev s) (i.ev s)
 |.load agg sz x=>bB U agg sz (x.ev s)
 |.slice ZS x lo hi mx=>ek U ZS (x.ev s) (lo.map (·.ev s)) (hi.map (·.ev s)) (mx.map (·.ev s))
 |.sliceS x lo hi=>lv (x.ev s) (lo.map (·.ev s)) (hi.map (·.ev s))
 |.nilCheck x=>gX (x.ev s)
 |.Zz neg x y=>binBV neg (x.ev s) (y.ev s)
 |.eqS neg ks x y=>sK neg ks (x.ev s) (y.ev s)
 |.minmax m x y=>my m (x.ev s) (y.ev s)
 |.bstr x=>kB U (x.ev s)
 |.ext i x=>D8 i (x.ev s)
 |.build zero parts=>(jH zero (parts.map λp=>(p.1,p.2.1,p.2.2.ev s))).map .agg
 |.mkfn f caps=>some (.fn f (caps.map (·.ev s)))
 |.more (.mkI t) [x]=>some (.iface t (x.ev s))
 |.more (.mkB f) xs=>some (.bm f (xs.map (·.ev s)))
 |.more (.tas t ok z) [x]=>Jr t ok z (x.ev s)
 |.more (.nilP neg) [x]=>Gm neg (x.ev s)
 |.convI k x=>match x.ev s with
   |.int _ a=>some (.int k a)
   |_=>none
 |_=>none
def ez(s:Nat->V):Yq->Prop
 |.bin op x y=>qj op (x.ev s) (y.ev s)
 |.neg x=>match x.ev s with
   |.int k a=>Yl k (0-a)
   |_=>True
 |.convI k x=>match x.ev s with
   |.int _ a=>Yl k a
   |_=>True
 |_=>True
variable {P:Program} {I:Mu} {ow:Nat->Prop} {w:World}
def qN{α:Type}[DecidableEq α][BEq α][LawfulBEq α](a b:α):(a==b)=decide (a=b):=by by_cases h:a=b<;>simp[h]
def Mh{α:Type}[DecidableEq α][BEq α][LawfulBEq α](a b:α):(a != b)=decide (a≠b):=by by_cases h:a=b<;>simp[h]
def fK(b off j:Nat):(⟨b,off,none⟩:Addr).add j=⟨b,off+j,none⟩:=by
 unfold Addr.add;split<;>simp_all
def al.length:∀{vs:List V} {l:List Value},al I ow w vs l->l.length=vs.length
 |[],l,h=>by simp[al]at h;simp[h]
 |v::vs,l,h=>by
  simp only[al]at h;obtain⟨x,xs,rfl,_,h2⟩:=h;simp[al.length h2]
def al.get:∀{vs:List V} {l:List Value} {i:Nat} {v:V},al I ow w vs l->vs[i]?=some v->∃x,l[i]?=some x/\E' I ow w v x
 |[],l,i,v,_,h=>by simp at h
 |u::vs,l,i,v,h,hv=>by
  simp only[al]at h;obtain⟨x,xs,rfl,h1,h2⟩:=h;cases i with
  |zero=>simp at hv;subst hv;exact⟨x,by simp,h1⟩
  |succ i=>simpa using al.get h2 (by simpa using hv)
def al.drop:∀{vs:List V} {l:List Value} (k:Nat),al I ow w vs l->al I ow w (vs.drop k) (l.drop k)
 |[],l,k,h=>by simp[al]at h;subst h;simp[al]
 |v::vs,l,0,h=>by simpa using h
 |v::vs,l,k+1,h=>by
  simp only[al]at h;obtain⟨x,xs,rfl,h1,h2⟩:=h;simpa using al.drop k h2
def al.take:∀{vs:List V} {l:List Value} (k:Nat),al I ow w vs l->al I ow w (vs.take k) (l.take k)
 |[],l,k,h=>by simp[al]at h;subst h;simp[al]
 |v::vs,l,0,h=>by simp[al]
 |v::vs,l,k+1,h=>by
  simp only[al]at h;obtain⟨x,xs,rfl,h1,h2⟩:=h;simp only[pA,al];exact⟨x,_,rfl,h1,al.take k h2⟩
def aN.get:∀{vs:List V} {b off k:Nat} {v:V},aN I ow w vs b off->vs[k]?=some v->
 ∃x,w.cell? ⟨b,off+k,none⟩=some x/\E' I ow w v x/\x.oneCell'=true
 |[],_,_,_,_,_,h=>by simp at h
 |u::vs,b,off,k,v,h,hv=>by
  simp only[aN]at h;cases k with
  |zero=>simp at hv;subst hv;exact h.1
  |succ k=>
   have:=aN.get (k:=k) h.2 (by simpa using hv)
   rwa [show off+1+k=off+(k+1) by omega]at this
def aN.drop:∀{vs:List V} {b off:Nat} (k:Nat),aN I ow w vs b off->aN I ow w (vs.drop k) b (off+k)
 |[],_,_,_,_=>by simp[aN]
 |u::vs,b,off,0,h=>by simpa using h
 |u::vs,b,off,k+1,h=>by
  simp only[aN]at h;have:=aN.drop k h.2;rw[show off+1+k=off+(k+1) by omega]at this;simpa using this
def aN.take:∀{vs:List V} {b off:Nat} (k:Nat),aN I ow w vs b off->aN I ow w (vs.take k) b off
 |[],_,_,_,_=>by simp[aN]
 |u::vs,b,off,0,h=>by simp[aN]
 |u::vs,b,off,k+1,h=>by
  simp only[aN]at h;simp only[pA,aN];exact⟨h.1,aN.take k h.2⟩
def aN.F7:∀{vs:List V} {b off:Nat},aN I ow w vs b off->
 ∃xs,al I ow w vs xs/\(∀u∈xs,u.oneCell'=true)/\∀(j:Nat) u,xs[j]?=some u->w.cell? ⟨b,off+j,none⟩=some u
 |[],_,_,_=>⟨[],by simp[al],by simp,by simp⟩
 |v::vs,b,off,h=>by
  simp only[aN]at h;obtain⟨⟨x,h1,h2,h3⟩,h4⟩:=h;obtain⟨xs,h5,h6,h7⟩:=aN.F7 h4;refine⟨x::xs,by simp only[al];exact⟨x,xs,rfl,h2,h5⟩,by simpa using⟨h3,h6⟩,?_⟩;intro j u hu;cases j with
  |zero=>simp at hu;subst hu;exact h1
  |succ j=>
   have:=h7 j u (by simpa using hu)
   rwa [show off+1+j=off+(j+1) by omega]at this
def aS.get:∀{rows:List V} {b off sz i:Nat} {r:V},aS I ow w rows b off sz->rows[i]?=some r->
 r.cells.length=sz/\aN I ow w r.cells b (off+i*sz)
 |[],_,_,_,_,_,_,h=>by simp at h
 |u::rows,b,off,sz,i,r,h,hr=>by
  simp only[aS]at h;cases i with
  |zero=>simp at hr;subst hr;exact⟨h.1,by simpa using(dK ..).1 h.2.1⟩
  |succ i=>
   have:=aS.get (i:=i) h.2.2 (by simpa using hr)
   rwa [show off+sz+i*sz=off+(i+1)*sz by rw[Nat.add_mul];omega]at this
def aS.drop:∀{rows:List V} {b off sz:Nat} (k:Nat),aS I ow w rows b off sz->aS I ow w (rows.drop k) b (off+k*sz) sz
 |[],_,_,_,_,_=>by simp[aS]
 |u::rows,b,off,sz,0,h=>by simpa using h
 |u::rows,b,off,sz,k+1,h=>by
  simp only[aS]at h;have:=aS.drop k h.2.2;rw[show off+sz+k*sz=off+(k+1)*sz by rw[Nat.add_mul];omega]at this;simpa using this
def aS.take:∀{rows:List V} {b off sz:Nat} (k:Nat),aS I ow w rows b off sz->aS I ow w (rows.take k) b off sz
 |[],_,_,_,_,_=>by simp[aS]
 |u::rows,b,off,sz,0,h=>by simp[aS]
 |u::rows,b,off,sz,k+1,h=>by
  simp only[aS]at h;simp only[pA,aS];exact⟨h.1,h.2.1,aS.take k h.2.2⟩
def pU(v:Value):E' I ow w (cellOf v) v:=by
 cases v<;>simp only[cellOf]<;>(try split)<;>simp_all [E']
def eK:∀(l:List Value),al I ow w (l.map cellOf) l
 |[]=>by simp[al]
 |v::l=>by simp only[dS,al];exact⟨v,l,rfl,pU v,eK l⟩
def ov(v:Value):E' I ow w (ofValue v) v:=by
 unfold ofValue;split
 .rename_i cs;split
  .rename_i h;simp only[E'];exact⟨cs.toList,by simp,eK _,λu hu=>dX.1 h u hu⟩
  .simp[E']
 .exact pU v
def rW{t:TypeId}(h:(P.underlying t).isSome):(isAgg t).run P w=.ok (fa P t) w:=by
 obtain⟨d,hd⟩:=Option.isSome_iff_exists.1 h;unfold isAgg fa;simp only[Sem.run_bind,run_underlying hd,Result.andThen_ok,hd];cases d<;>rfl
def du{t:TypeId}(h:bL P t=true):(P.underlying t).isSome/\(∃i,P.info? t=some i/\i.size=P.cellsOf t)/\0<P.cellsOf t:=by
 simp only[bL,Ba,bne_iff_ne]at h;obtain⟨⟨h1,h2⟩,h3⟩:=h;obtain⟨i,hi⟩:=Option.isSome_iff_exists.1 h1;exact⟨h2,⟨i,hi,by simp[Program.cellsOf,hi]⟩,by omega⟩
def bW{t:TypeId}(h:bL P t=true):(sizeOf t).run P w=.ok (P.cellsOf t) w:=by
 obtain⟨_,⟨i,hi,_⟩,_⟩:=du h;exact run_sizeOf w hi
def DP{t:TypeId}(h:bL P t=true){Yf:List Value}{vs:List V}{off:Nat}{v:V}(hr:al I ow w vs Yf)
 (h1:∀u∈Yf,u.oneCell'=true)(hv:cQ (fa P t) off (P.cellsOf t) vs=some v):
 ∃x,(part t ⟨Yf⟩ off).run P w=.ok x w/\E' I ow w v x:=by
 unfold part;simp only[Sem.run_bind,rW (du h).1,Result.andThen_ok];unfold cQ at hv;cases hagg:fa P t
 .simp only[hagg,eQ,if_false]at hv|-;obtain⟨x,hx,hrx⟩:=hr.get hv;have:(⟨Yf⟩:Array Value)[off]?=some x:=by simpa using hx
  exact⟨x,by simp[this],hrx⟩
 .simp only[hagg,if_true,aB]at hv|-;subst hv;refine⟨.agg ((⟨Yf⟩:Array Value).extract off (off+P.cellsOf t)),by simp[bW h],?_⟩;simp only[E'];refine⟨(Yf.drop off).take (P.cellsOf t),?_,(hr.drop off).take _,λu hu=>h1 u (List.mem_of_mem_drop (pz hu))⟩;have e:(⟨Yf⟩:Array Value)=Yf.toArray:=rfl;rw[e,List.extract_toArray];simp
def jz{t:TypeId}(h:bL P t=true){vs:List V}{b off:Nat}(hr:aN I ow w vs b off){v:V}
 (hv:(if fa P t then(if vs.length=P.cellsOf t then some (V.agg vs)else none)else vs[0]?)=some v):
 ∃x,(loadVar t ⟨b,off,none⟩).run P w=.ok x w/\E' I ow w v x:=by
 unfold loadVar;simp only[Sem.run_bind,rW (du h).1,Result.andThen_ok];cases hagg:fa P t
 .simp only[hagg,eQ,if_false]at hv|-;obtain⟨x,hx,h1,h2⟩:=hr.get hv;exact⟨x,by simp[show w.cell? ⟨b,off,none⟩=some x by simpa using hx],h1⟩
 .simp only[hagg,if_true]at hv|-;split at hv
  .rename_i hl;simp only[aB]at hv;subst hv;obtain⟨xs,h1,h2,h3⟩:=hr.F7;have hlen:xs.length=P.cellsOf t:=by rw[h1.length,hl]
   refine⟨.agg xs.toArray,?_,by simp only[E'];exact⟨xs,rfl,h1,h2⟩⟩;simp only[Sem.run_bind,bW h,Result.andThen_ok];rw[<-hlen,run_loadCells_list (P:=P) w ⟨b,off,none⟩ xs (λj u hu=>by rw[fK];exact h3 j u hu)];simp
  .cases hv
def MP{op:BinOp}{t:TypeId}{x y v:V}{X Y:Value}{xo yo:Operand}(hx:E' I ow w x X)(hy:E' I ow w y Y)(hp:qj op x y)
 (hv:xR op x y=some v):∃z,(do eqGuard op t xo yo X Y;binOp op t X Y:Sem Value).run P w=.ok z w/\E' I ow w v z:=by
 unfold xR at hv;split at hv
 .rename_i k a k' b;split at hv
  .rename_i hk;subst hk;simp only[E']at hx hy;subst hx hy;simp only[qj]at hp;have hg:(eqGuard op t xo yo (.int k a) (.int k b)).run P w=.ok () w:=by
    unfold eqGuard;simp
   simp only[Sem.run_bind,hg,Result.andThen_ok];cases op<;>simp only[dW,reduceCtorEq]at hv<;>simp only[iS]at hp<;>
    first
    |(split at hv
      .cases hv
      .rename_i hb;simp only[aB]at hv;subst hv
       first
       |exact⟨_,by simp only[binOp,Op.shift,av hb];rfl,by simp[E']⟩
       |simp_all [binOp,Op.intDiv,E',Yl])
    |(simp only[aB]at hv;subst hv;simp_all [binOp,Op.intArith,Op.intCmp,Op.intBits,E',Yl,qN,Mh])
  .cases hv
 .rename_i a b;simp only[E']at hx hy;subst hx hy;simp only[qj]at hp;have hg:(eqGuard op t xo yo (.string ⟨a.toArray⟩) (.string ⟨b.toArray⟩)).run P w=.ok () w:=by
   unfold eqGuard;simp
  simp only[Sem.run_bind,hg,Result.andThen_ok];have hsz:∀l:List UInt8,(⟨l.toArray⟩:ByteArray).size=l.length:=λl=>by simp[ByteArray.size]
  have hl:∀l:List UInt8,(⟨l.toArray⟩:ByteArray).toList=l:=λl=>by rw[ByteArray.toList_eq]
  cases op<;>simp only[pW,reduceCtorEq]at hv<;>simp only[v8]at hp<;>simp only[aB]at hv<;>subst hv
  .refine⟨.string (⟨a.toArray⟩++⟨b.toArray⟩),?_,?_⟩
   .simp only[binOp,Op.stringOp,hsz];rw[av (by simp[IntKind.max,IntKind.signed,IntKind.bits];omega)];simp
   .simp only[E'];congr 1
  .exact⟨.bool (decide (a=b)),by simp[binOp,Op.stringOp,hl,qN],by simp[E']⟩
  .exact⟨.bool (decide (a≠b)),by simp[binOp,Op.stringOp,hl,qN],by simp[E']⟩
 .cases hv
def tW{s:TypeId}{fs:Array Field}{f:Nat}{fd:Field}(hs:P.underlying s=some (.struct fs))(hf:fs[f]?=some fd)(hk:bL P fd.type=true)
 (b o:Nat):(Instr.fieldAt s (.pointer (some ⟨b,o,none⟩)) f).run P w=.ok (.pointer (some ⟨b,o+fd.offset,none⟩)) w:=by
 have YA:P.cellsOf fd.type≠0:=Nat.pos_iff_ne_zero.1 (du hk).2.2;simp[Instr.fieldAt,run_underlying hs,hf,Instr.sureAddr,fieldPlace,bW hk,YA,fK]
def Hp{s:TypeId}{fs:Array Field}{f:Nat}{fd:Field}(hs:P.underlying s=some (.struct fs))(hf:fs[f]?=some fd)(hk:bL P fd.type=true)
 {x v:V}{X:Value}(hx:E' I ow w x X)(hv:l4 (fa P fd.type) fd.offset (P.cellsOf fd.type) x=some v):
 ∃z,(Instr.fieldAt s X f).run P w=.ok z w/\E' I ow w v z:=by
 unfold l4 at hv;split at hv
 .rename_i id i k;simp only[aB]at hv;subst hv;simp only[E']at hx;split at hx
  .rename_i b sz cap O';obtain⟨rfl,hsz⟩:=hx;exact⟨_,tW hs hf hk b _,by simp only[E',O'];simp[Nat.add_assoc,hsz]⟩
  .exact hx.elim
 .rename_i u;simp only[E']at hx;obtain⟨b,off,rfl,H',hb,hr⟩:=hx;rw[dK]at hr;refine⟨_,tW hs hf hk b off,?_⟩;cases G':cQ (fa P fd.type) fd.offset (P.cellsOf fd.type) u.cells with
  |none=>simp[G']at hv
  |some y=>
   simp only[G',Option.map_some,aB]at hv;subst hv;simp only[E'];have hb':y.cells=[]\/¬ow b:=hb.imp (λhu=>by
    rw[hu]at G';unfold cQ at G';split at G'
    .simp only[List.drop_nil,List.take_nil,aB]at G';rw[<-G'];rfl
    .simp at G') id
   refine⟨b,off+fd.offset,rfl,H',hb',?_⟩;rw[dK];unfold cQ at G';split at G'
   .simp only[aB]at G';subst G';simp only[V.cells];exact(hr.drop _).take _
   .obtain⟨z,h1,h2,h3⟩:=hr.get G';have hy:y.cells=[y]:=by
     cases y<;>simp only[V.cells];simp only[E']at h2;obtain⟨Yf,rfl,_⟩:=h2;simp[Value.oneCell']at h3
    rw[hy];simp only[aN,and_true];exact⟨z,h1,h2,h3⟩
 .cases hv
def sM{y:V}{z:Value}(h2:E' I ow w y z)(h3:z.oneCell'=true):y.cells=[y]:=by
 cases y<;>simp only[V.cells];simp only[E']at h2;obtain⟨Yf,rfl,_⟩:=h2;simp[Value.oneCell']at h3
def DX{u y:V}{agg:Bool}{o sz b off:Nat}(H':b<w.heap.size)(hb:u.cells=[]\/¬ow b)(hr:aN I ow w u.cells b off)(G':cQ agg o sz u.cells=some y):
 E' I ow w (.rp y) (.pointer (some ⟨b,off+o,none⟩)):=by
 simp only[E'];have hb':y.cells=[]\/¬ow b:=hb.imp (λhu=>by
  rw[hu]at G';unfold cQ at G';split at G'
  .simp only[List.drop_nil,List.take_nil,aB]at G';rw[<-G'];rfl
  .simp at G') id
 refine⟨b,off+o,rfl,H',hb',?_⟩;rw[dK];unfold cQ at G';split at G'
 .simp only[aB]at G';subst G';simp only[V.cells];exact(hr.drop _).take _
 .obtain⟨z,h1,h2,h3⟩:=hr.get G';rw[sM h2 h3];simp only[aN,and_true];exact⟨z,h1,h2,h3⟩
def GV{w0:World}{Zo:Nat->Prop}{U:af}(hsat:Sat w0 Zo I U w){t e:TypeId}(ht:P.underlying t=some (.slice e))(hk:bL P e=true)
 {x y v:V}{X Y:Value}(hx:E' I (aA I U) w x X)(hy:E' I (aA I U) w y Y)(hv:bo U (P.cellsOf e) x y=some v):
 ∃z,(Instr.indexAt t X Y).run P w=.ok z w/\E' I (aA I U) w v z:=by
 unfold bo at hv;split at hv
 .rename_i id off len k j;split at hv
  .rename_i ob YV;split at hv
   .rename_i hc;obtain⟨hsz,h0,h1⟩:=hc;simp only[aB]at hv;subst hv;simp only[E']at hx hy;subst hy;have hobat:=hsat.obj id ob YV;split at hx
    .exact hx.elim
    .obtain⟨rfl,rfl,rfl⟩:=hx;exfalso;simp at h1;omega
    .rename_i b sz cap O';obtain⟨o,c,rfl,hc1,hc2,hc3,hz⟩:=hx;rw[O']at hobat;obtain⟨cur,_,hsz2,_⟩:=hobat.plain hz;have ho:o=off*sz:=by
      rcases hc3 with hc3|hc3
      .exact hc3
      .omega
     subst ho;refine⟨.pointer (some ⟨b,off*sz+j.toNat*P.cellsOf e,none⟩),?_,?_⟩
     .simp[Instr.indexAt,asIntOf,run_underlying ht,h0,h1,bW hk,fK]
     .simp only[E',O'];rw[<-hsz,hsz2,Nat.add_mul];simp[hz]
   .cases hv
  .cases hv
 .rename_i sz rows k j;split at hv
  .rename_i h0;obtain⟨rfl,h0⟩:=h0;split at hv
   .rename_i r hr;simp only[aB]at hv;subst hv;simp only[E']at hx hy;subst hy;obtain⟨a,cap,rfl,hcap,hrest⟩:=hx;have H':j.toNat<rows.length:=by
     have:=iT.1 hr;exact this.1
    rcases hrest with rfl|⟨b,off,rfl,hb,hsz,YK⟩
    .simp at H'
    .obtain⟨h1,h2⟩:=YK.get hr;refine⟨.pointer (some ⟨b,off+j.toNat*P.cellsOf e,none⟩),?_,?_⟩
     .have:j<(rows.length:Int):=by omega
      simp[Instr.indexAt,asIntOf,run_underlying ht,h0,this,bW hk,fK]
     .simp only[E'];refine⟨b,_,rfl,?_,.inr hb,(dK ..).2 h2⟩;cases hc:r.cells with
      |nil=>rw[hc]at h1;simp at h1;omega
      |cons c cs=>
       rw[hc]at h2;simp only[aN]at h2;obtain⟨⟨y,hy,_⟩,_⟩:=h2;exact World.block_lt_of_cell? w _ hy
   .cases hv
  .cases hv
 .cases hv
def D0{t e:TypeId}{n:Nat}(ht:P.underlying t=some (.array n e))(hk:bL P e=true)
 {x y v:V}{X Y:Value}(hx:E' I ow w x X)(hy:E' I ow w y Y)(hv:mW (fa P e) n (P.cellsOf e) x y=some v):
 ∃z,(Instr.indexAt t X Y).run P w=.ok z w/\E' I ow w v z:=by
 unfold mW at hv;split at hv
 .rename_i id i k kk j;split at hv
  .rename_i hc;simp only[aB]at hv;subst hv;simp only[E']at hx hy;subst hy;split at hx
   .rename_i b sz cap O';obtain⟨rfl,hsz⟩:=hx;refine⟨.pointer (some ⟨b,i*sz+k+j.toNat*P.cellsOf e,none⟩),?_,by simp only[E',O'];simp[Nat.add_assoc,hsz]⟩;simp[Instr.indexAt,asIntOf,run_underlying ht,hc,bW hk,fK,Instr.sureAddr]
   .exact hx.elim
  .cases hv
 .rename_i u kk j;split at hv
  .rename_i hc;simp only[E']at hx hy;subst hy;obtain⟨b,off,rfl,H',hb,hr⟩:=hx;rw[dK]at hr;cases G':cQ (fa P e) (j.toNat*P.cellsOf e) (P.cellsOf e) u.cells with
   |none=>simp[G']at hv
   |some y=>
    simp only[G',Option.map_some,aB]at hv;subst hv;refine⟨_,?_,DX H' hb hr G'⟩;simp[Instr.indexAt,asIntOf,run_underlying ht,hc,bW hk,fK,Instr.sureAddr]
  .cases hv
 .cases hv
def Hh{t e:TypeId}{n:Nat}(ht:P.underlying t=some (.array n e))(hk:bL P e=true)
 {x y v:V}{X Y:Value}(hx:E' I ow w x X)(hy:E' I ow w y Y)(hv:tf (fa P e) n (P.cellsOf e) x y=some v):
 ∃z,(Instr.index t X Y).run P w=.ok z w/\E' I ow w v z:=by
 unfold tf at hv;split at hv
 .rename_i vs kk j;split at hv
  .rename_i hc;simp only[E']at hx hy;subst hy;obtain⟨Yf,rfl,hr,h1⟩:=hx;obtain⟨z,hz,hrz⟩:=DP (w:=w) hk hr h1 hv;exact⟨z,by simp[Instr.index,asIntOf,run_underlying ht,hc,bW hk,hz],hrz⟩
  .cases hv
 .cases hv
def H0{t:TypeId}(ht:P.underlying t=some .string)
 {x y v:V}{X Y:Value}(hx:E' I ow w x X)(hy:E' I ow w y Y)(hv:qT x y=some v):
 ∃z,(Instr.index t X Y).run P w=.ok z w/\E' I ow w v z:=by
 unfold qT at hv;split at hv
 .rename_i s k j;split at hv
  .rename_i h0;split at hv
   .rename_i b hb;simp only[aB]at hv;subst hv;simp only[E']at hx hy;subst hx hy;have e:(⟨s.toArray⟩:ByteArray)[j.toNat]?=some b:=by
     have:=iT.1 hb;obtain⟨h1,h2⟩:=this;rw[getElem?_pos (h:=by simpa[ByteArray.size]using h1)];simp[<-h2,ByteArray.getElem_eq_getElem_data]
    exact⟨.int .u8 b.toNat,by simp[Instr.index,asIntOf,run_underlying ht,h0,e],by simp[E']⟩
   .cases hv
  .cases hv
 .cases hv
variable {P:Program} {I:Mu} {ow:Nat->Prop} {w:World}
def zh{w0:World}{Zo:Nat->Prop}{U:af}(hsat:Sat w0 Zo I U w){t:TypeId}(hk:bL P t=true)
 {x v:V}{X:Value}(hx:E' I (aA I U) w x X)(hv:bB U (fa P t) (P.cellsOf t) x=some v):
 ∃z,(Instr.loadAt t X).run P w=.ok z w/\E' I (aA I U) w v z:=by
 unfold bB at hv;split at hv
 .rename_i id i k;split at hv
  .rename_i ob YV;split at hv
   .rename_i r hr;have hobat:=hsat.obj id ob YV;simp only[E']at hx;split at hx
    .rename_i b sz cap O';obtain⟨rfl,hsz⟩:=hx;rw[O']at hobat;obtain⟨_,_,_,_,YK⟩:=hobat.rows hsz;obtain⟨hl,hcells⟩:=YK.get hr;simp only[gY]at hcells;have hd:=hcells.drop k;cases hagg:fa P t
     .simp only[hagg,eQ,if_false]at hv;obtain⟨z,hz,hrz⟩:=jz (P:=P) hk hd (v:=v) (by simp only[hagg,eQ,if_false];simpa using hv);exact⟨z,by simp[Instr.loadAt,Instr.sureAddr,hz],hrz⟩
     .simp only[hagg,if_true]at hv;split at hv
      .rename_i hc;obtain⟨rfl,hlen⟩:=hc;simp only[aB]at hv;subst hv;obtain⟨z,hz,hrz⟩:=jz (P:=P) hk hd (v:=.agg r.cells) (by simp[hagg,hlen]);exact⟨z,by simpa[Instr.loadAt,Instr.sureAddr]using hz,hrz⟩
      .split at hv
       .rename_i hle;simp only[aB]at hv;subst hv;obtain⟨z,hz,hrz⟩:=jz (P:=P) hk (hd.take (P.cellsOf t)) (v:=.agg ((r.cells.drop k).take (P.cellsOf t)))
         (by rw[ar hagg,ar (by simp;omega)])
        exact⟨z,by simp[Instr.loadAt,Instr.sureAddr,hz],hrz⟩
       .cases hv
    .exact hx.elim
   .cases hv
  .cases hv
 .rename_i u;simp only[E']at hx;obtain⟨b,off,rfl,H',hb,hr⟩:=hx;rw[dK]at hr;cases hagg:fa P t
  .simp only[hagg,eQ,if_false]at hv;have hv':u=v/\u.cells=[u]:=by
    cases u<;>simp_all [V.cells]
   obtain⟨rfl,hc⟩:=hv';rw[hc]at hr;obtain⟨z,hz,hrz⟩:=jz (P:=P) hk hr (v:=u) (by simp[hagg]);exact⟨z,by simp[Instr.loadAt,Instr.sureAddr,hz],hrz⟩
  .simp only[hagg,if_true]at hv;split at hv
   .rename_i hl;simp only[aB]at hv;subst hv;obtain⟨z,hz,hrz⟩:=jz (P:=P) hk hr (v:=.agg u.cells) (by simp[hagg,hl]);exact⟨z,by simp[Instr.loadAt,Instr.sureAddr,hz],hrz⟩
   .cases hv
 .cases hv
def nz{d:Int}{o:Option V}{O:Option Value}(ho:match o,O with|none,none=>True|some v,some x=>E' I ow w v x|_,_=>False){j:Int}
 (hj:bS d o=some j):(o=none/\O=none/\j=d)\/∃k,o=some (.int k j)/\O=some (.int k j):=by
 unfold bS at hj;split at hj
 .simp only[aB]at hj;cases O with
  |none=>exact .inl ⟨rfl,rfl,hj.symm⟩
  |some x=>exact ho.elim
 .rename_i k j';simp only[aB]at hj;subst hj;cases O with
  |none=>exact ho.elim
  |some x=>
   simp only[E']at ho;subst ho;exact .inr ⟨k,rfl,rfl⟩
 .cases hj
def jG(I:Mu)(ow:Nat->Prop)(w:World)(o:Option V)(O:Option Value):Prop:=
 match o,O with|none,none=>True|some v,some x=>E' I ow w v x|_,_=>False
def da(k:IntKind)(i:Int)(y:Nat)(code:BoundsCode)(h0:0<=i)(h1:i<=y):
 (Instr.sliceBound (.int k i) y code).run P w=.ok i.toNat w:=by
 simp[Instr.sliceBound,asIntOf,h0,h1]
def fb{n c:Nat}{lo hi mx:Option V}{LO HI MX:Option Value}(h1:jG I ow w lo LO)(h2:jG I ow w hi HI)(h3:jG I ow w mx MX)
 {l h m:Int}(hl:bS 0 lo=some l)(hh:bS n hi=some h)(hm:bS n mx=some m)(h0:0<=l)(h01:l<=h)(h12:h<=m)(h23:m<=n)(hnc:n<=c)
 (hmh:mx≠none->hi≠none)(s:Bool):
 ∃m',(Instr.sliceBounds s n c LO HI MX).run P w=.ok (l.toNat,h.toNat,m') w/\h.toNat<=m'/\m'<=c:=by
 rcases nz h3 hm with⟨_,rfl,rfl⟩|⟨km,rfl,rfl⟩
 .refine⟨c,?_,by omega,YQ _⟩;rcases nz h2 hh with⟨_,rfl,rfl⟩|⟨kh,_,rfl⟩<;>rcases nz h1 hl with⟨_,rfl,rfl⟩|⟨kl,_,rfl⟩<;>
   simp only[Instr.sliceBounds,Sem.run_bind,Sem.run_pure,Result.andThen_ok]
  .simp
  .rw[da kl l n _ h0 (by omega)];simp
  .rw[da kh h c _ (by omega) (by omega)];simp
  .rw[da kh h c _ (by omega) (by omega)];simp only[Result.andThen_ok];rw[da kl l h.toNat _ h0 (by omega)];simp
 .refine⟨m.toNat,?_,by omega,by omega⟩;rcases nz h2 hh with⟨rfl,rfl,rfl⟩|⟨kh,_,rfl⟩
  .exact absurd rfl (hmh (by simp))
  .rcases nz h1 hl with⟨_,rfl,rfl⟩|⟨kl,_,rfl⟩<;>
    simp only[Instr.sliceBounds,Sem.run_bind,Sem.run_pure,Result.andThen_ok]
   .rw[da km m c _ (by omega) (by omega)];simp only[Result.andThen_ok];rw[da kh h m.toNat _ (by omega) (by omega)];simp
   .rw[da km m c _ (by omega) (by omega)];simp only[Result.andThen_ok];rw[da kh h m.toNat _ (by omega) (by omega)];simp only[Result.andThen_ok];rw[da kl l h.toNat _ h0 (by omega)];simp
def wU{w0:World}{Zo:Nat->Prop}{U:af}(hsat:Sat w0 Zo I U w){t e:TypeId}(ht:P.underlying t=some (.slice e))(hk:bL P e=true)
 {x v:V}{X:Value}(hx:E' I ow w x X){lo hi mx:Option V}{LO HI MX:Option Value}(h1:jG I ow w lo LO)(h2:jG I ow w hi HI)(h3:jG I ow w mx MX)
 (hmh:mx≠none->hi≠none)(hv:ek U (P.cellsOf e) x lo hi mx=some v):
 ∃z,(Instr.sliceAt t X LO HI MX).run P w=.ok z w/\E' I ow w v z:=by
 have hgo:∀(a:Option Addr) (n c:Nat) (r:Nat×Nat×Nat),(Instr.sliceBounds true n c LO HI MX).run P w=.ok r w->
  (Instr.sliceAt t (.slice a n c) LO HI MX).run P w=.ok (.slice (if r.2.2=r.1 then a else a.map (·.add (r.1*P.cellsOf e))) (r.2.1-r.1) (r.2.2-r.1)) w:=by
  intro a n c r hr;simp[Instr.sliceAt,Instr.slice,run_underlying ht,hr,bW hk]
 cases x with
 |own id off len=>
  simp only[ek]at hv;split at hv
  .rename_i l h m hl hh hm;split at hv
   .rename_i hc;obtain⟨c0,c1,c2,c3,c4⟩:=hc;simp only[aB]at hv;subst hv;simp only[E']at hx;split at hx
    .exact hx.elim
    .rename_i O';obtain⟨rfl,rfl,rfl⟩:=hx;obtain⟨m',hr,hm1,hm2⟩:=fb (P:=P) (c:=0) h1 h2 h3 hl hh hm c0 c1 c2 c3 (YQ _) hmh true;refine⟨_,hgo none 0 0 _ hr,?_⟩;simp only[E',O'];have:h.toNat=0:=by omega
     have:l.toNat=0:=by omega
     simp_all;omega
    .rename_i b sz cap O';obtain⟨o,c,rfl,hc1,hc2,hc3,hz⟩:=hx;obtain⟨m',hr,hm1,hm2⟩:=fb (P:=P) (c:=c) h1 h2 h3 hl hh hm c0 c1 c2 c3 hc1 hmh true;refine⟨_,hgo _ len c _ hr,?_⟩;have hsz':sz=P.cellsOf e:=by
      cases YV:U id with
      |none=>simp[x8,YV]at c4
      |some ob=>
       simp only[x8,YV,beq_iff_eq]at c4;have:=hsat.obj id ob YV;rw[O']at this;exact(this.rows hz).1.symm.trans c4
     simp only[E',O'];by_cases e':m'=l.toNat
     .rw[ar e'];refine⟨o,m'-l.toNat,rfl,by omega,by omega,?_,hz⟩;by_cases h0:off+l.toNat=0
      .left;have h1:off=0:=by omega
       rcases hc3 with hc3|hc3
       .rw[h0,hc3,h1]
       .exact absurd h1 hc3.2
      .exact .inr ⟨by omega,h0⟩
     .rw[av e'];simp only[Option.map_some,fK];refine⟨o+l.toNat*P.cellsOf e,m'-l.toNat,rfl,by omega,by omega,.inl ?_,hz⟩;rcases hc3 with hc3|hc3
      .rw[hc3,hsz',Nat.add_mul]
      .omega
   .cases hv
  .cases hv
 |sl sz rows=>
  simp only[ek]at hv;split at hv
  .rename_i l h m hl hh hm;split at hv
   .rename_i hc;obtain⟨c0,c1,c2,c3,rfl⟩:=hc;simp only[aB]at hv;subst hv;simp only[E']at hx;obtain⟨a,cap,rfl,hcap,hrest⟩:=hx;obtain⟨m',hr,hm1,hm2⟩:=fb (P:=P) (c:=cap) h1 h2 h3 hl hh hm c0 c1 c2 c3 hcap hmh true;refine⟨_,hgo _ _ cap _ hr,?_⟩;simp only[E'];have hlen:((rows.drop l.toNat).take (h.toNat-l.toNat)).length=h.toNat-l.toNat:=by simp;omega
    refine⟨_,_,by rw[hlen],by omega,?_⟩;by_cases e':m'=l.toNat
    .left;have:h.toNat-l.toNat=0:=by omega
     rw[this];simp
    .rw[av e'];rcases hrest with rfl|⟨b,off,rfl,hb,hs,YK⟩
     .left;simp
     .exact .inr ⟨b,off+l.toNat*P.cellsOf e,by simp[fK],hb,hs,(YK.drop _).take _⟩
   .cases hv
  .cases hv
 |aC=>
  simp only[ek]at hv;split at hv
  .rename_i l h m hl hh hm;split at hv
   .rename_i hc;obtain⟨rfl,rfl,rfl⟩:=hc;simp only[aB]at hv;subst hv;simp only[E']at hx;subst hx;obtain⟨m',hr,hm1,hm2⟩:=fb (P:=P) (n:=0) (c:=0) h1 h2 h3 hl hh hm (by omega) (by omega) (by omega) (by simp) (YQ _) hmh true;refine⟨_,hgo none 0 0 _ hr,?_⟩;simp[E'];omega
   .cases hv
  .cases hv
 |_=>simp[ek]at hv
def xC{t:TypeId}(ht:P.underlying t=some .string){x v:V}{X:Value}(hx:E' I ow w x X){lo hi:Option V}{LO HI:Option Value}(h1:jG I ow w lo LO)(h2:jG I ow w hi HI)
 (hv:lv x lo hi=some v):
 ∃z,(Instr.sliceAt t X LO HI none).run P w=.ok z w/\E' I ow w v z:=by
 unfold lv at hv;split at hv
 case h_2=>cases hv
 rename_i s;split at hv
 .rename_i l h hl hh;split at hv
  .rename_i hc;obtain⟨c0,c1,c2⟩:=hc;simp only[aB]at hv;subst hv;simp only[E']at hx;subst hx;have hsz:(⟨s.toArray⟩:ByteArray).size=s.length:=by simp[ByteArray.size]
   obtain⟨m',hr,hm1,hm2⟩:=fb (P:=P) (w:=w) (n:=s.length) (c:=s.length) (mx:=none) (MX:=none) h1 h2 (by simp[jG]) hl hh (m:=s.length) (by simp[bS]) c0 c1 c2 (Int.le_refl _) (YQ _) (by simp) false;refine⟨.string ((⟨s.toArray⟩:ByteArray).extract l.toNat h.toNat),?_,?_⟩
   .simp[Instr.sliceAt,Instr.slice,run_underlying ht,hsz,hr]
   .simp only[E'];congr 1;apply ByteArray.ext;simp[ByteArray.data_extract]
  .cases hv
 .cases hv
def bH{F:Fr}{st:St}{a:Act}(hs:cI F I st a w)(x:Operand):E' I (aA I st.U) w ((cx F.n x).ev st.s) (a.eval x):=by
 cases x with
 |tmp t=>
  by_cases ht:t<F.n
  .simp only[cx,Act.eval,ar ht];exact hs.slot t ht
  .have hle:a.tmps.size<=t:=by rw[hs.size];exact Nat.le_of_not_lt ht
   simp only[cx,Act.eval,av ht,VX.ev,E'];exact⟨[],by rw[Zq7,Array.getElem?_eq_none hle];rfl,by simp[al]⟩
 |const v=>exact ov v
 |global g=>simp[cx,VX.ev,Act.eval,E']
 |func f=>simp[cx,VX.ev,Act.eval,E',al]
def mC{F:Fr}{st:St}{a:Act}(hs:cI F I st a w):∀(l:List Operand),al I (aA I st.U) w ((l.map (cx F.n)).map (·.ev st.s)) (l.map a.eval)
 |[]=>by simp[al]
 |x::l=>by simp only[dS,al];exact⟨_,_,rfl,bH hs x,mC hs l⟩
def xN{F:Fr}{st:St}{a:Act}(hs:cI F I st a w)(o:Option Operand):jG I (aA I st.U) w ((o.map (cx F.n)).map (·.ev st.s)) (o.map a.eval):=by
 cases o with
 |none=>simp[jG]
 |some x=>simpa[jG]using bH hs x
def al.append:∀{vs us:List V} {l m:List Value},al I ow w vs l->al I ow w us m->al I ow w (vs++us) (l++m)
 |[],us,l,m,h,h'=>by simp[al]at h;subst h;simpa using h'
 |v::vs,us,l,m,h,h'=>by
  simp only[al]at h;obtain⟨x,xs,rfl,h1,h2⟩:=h;simp only[List.cons_append,al];exact⟨x,xs++m,rfl,h1,h2.append h'⟩
def E'.one{v:V}{x:Value}(h:E' I ow w v x)(hs:v.stays=true)(ha:∀vs,v≠.agg vs):x.oneCell'=true:=by
 cases v<;>simp only[E']at h<;>(try simp[V.stays]at hs)
 case agg vs=>exact absurd rfl (ha vs)
 case sl=>obtain⟨a,c,rfl,_⟩:=h;rfl
 case own=>
  split at h
  .exact h.elim
  .rw[h.1];rfl
  .obtain⟨o,c,rfl,_⟩:=h;rfl
 case ptr=>
  split at h
  .rw[h.1];rfl
  .exact h.elim
 case gp=>
  split at h
  .rw[h];rfl
  .exact h.elim
 case yl=>
  split at h
  .rw[h];rfl
  .exact h.elim
 case mp=>
  split at h
  .rw[h];rfl
  .exact h.elim
 case rp=>obtain⟨b,o,rfl,_⟩:=h;rfl
 case fn=>obtain⟨Yf,rfl,_⟩:=h;rfl
 case bm=>obtain⟨Yf,rfl,_⟩:=h;rfl
 case iface=>obtain⟨y,rfl,_⟩:=h;rfl
 all_goals first|(subst h;rfl)|(subst h;exact hs)
def E'.cells{v:V}{x:Value}(h:E' I ow w v x)(hs:v.stays=true):al I ow w v.cells x.cells.toList/\∀u∈x.cells.toList,u.oneCell'=true:=by
 by_cases ha:∃vs,v=.agg vs
 .obtain⟨vs,rfl⟩:=ha;simp only[E']at h;obtain⟨Yf,rfl,h1,h2⟩:=h;exact⟨by simpa[V.cells,Value.cells]using h1,by simpa[Value.cells]using h2⟩
 .have h1:=h.one hs (λvs e=>ha ⟨vs,e⟩);have hc:x.cells=#[x]:=by cases x<;>simp_all [Value.cells,Value.oneCell']
  have hv:v.cells=[v]:=sM h h1;rw[hc,hv];simp only[al];exact⟨⟨x,[],rfl,h,rfl⟩,by simpa using h1⟩
def E'.jU{v:V}{x:Value}(h:E' I ow w v x)(hs:v.stays=true):x.cells.size=v.cells.length:=by
 have:=(h.cells hs).1.length;simpa using this
def DB(off:Nat):∀(vs:List Value) (k:Nat) (cs:Array Value),off+k+vs.length<=cs.size->
 ((vs.zipIdx k).foldl (λcs (p:Value×Nat)=>cs.setIfInBounds (off+p.2) p.1) cs).toList=ec cs.toList (off+k) vs
 |[],k,cs,_=>by simp[ec]
 |v::vs,k,cs,h=>by
  simp only[ZK]at h;simp only[List.zipIdx_cons,j5];rw[DB off vs (k+1) _ (by simp;omega)];have hk:off+k<cs.toList.length:=by simp;omega
  simp only[ec,Array.toList_setIfInBounds,ZK];rw[List.set_eq_take_append_cons_drop,ar hk];have e1:(cs.toList.take (off+k)).length=off+k:=by simp;omega
  rw[show off+(k+1)=(cs.toList.take (off+k)).length+1 by omega,List.take_length_add_append,show(cs.toList.take (off+k)).length+1+vs.length=(cs.toList.take (off+k)).length+(1+vs.length) by omega,
   List.drop_length_add_append]
  simp[List.drop_drop,Ej,Nat.add_left_comm,Nat.add_assoc]
def lG{α:Type}(l:List α)(off:Nat)(xs:List α)(h:off+xs.length<=l.length):(ec l off xs).length=l.length:=by
 simp[ec];omega
def oN(place:Nat->Option (Nat×Nat)):∀(parts:List (Nat×Value)) (cells:Array Value),
 (∀p∈parts,∃off sz,place p.1=some (off,sz)/\p.2.cells.size=sz/\off+sz<=cells.size)->
 ∃cs,Instr.fill place cells parts=some cs/\cs.size=cells.size/\cs.toList=parts.foldl (λl p=>ec l (((place p.1).map (·.1)).getD 0) p.2.cells.toList) cells.toList
 |[],cells,_=>⟨cells,rfl,rfl,rfl⟩
 |(i,v)::rest,cells,h=>by
  obtain⟨off,sz,h1,h2,h3⟩:=h (i,v) (by simp);simp only at h1 h2;have hs:(v.cells.zipIdx.foldl (λcs (p:Value×Nat)=>cs.setIfInBounds (off+p.2) p.1) cells).toList=ec cells.toList off v.cells.toList:=by
   have:=DB off v.cells.toList 0 cells (by simp;omega);rw[<-Array.foldl_toList,Array.toList_zipIdx];simpa using this
  have hsz:(v.cells.zipIdx.foldl (λcs (p:Value×Nat)=>cs.setIfInBounds (off+p.2) p.1) cells).size=cells.size:=by
   have:=congrArg List.length hs;rw[lG _ _ _ (by simp;omega)]at this;simpa using this
  obtain⟨cs,h4,h5,h6⟩:=oN place rest _ (λp hp=>by
   obtain⟨off',sz',g1,g2,g3⟩:=h p (by simp[hp]);exact⟨off',sz',g1,g2,by rw[hsz];exact g3⟩)
  refine⟨cs,?_,by rw[h5,hsz],?_⟩
  .simp only[Instr.fill,h1];rw[av (by simp;omega)];exact h4
  .rw[h6,hs];simp[h1]
def Dj{b:Bool}{x v:V}{X:Value}(hx:E' I ow w x X)(hv:cW b x=some v){t:TypeId}(ty:TypeId)
 (ht:if b then P.underlying t=some .string else∃e,P.underlying t=some (.slice e)):
 ∃z,(Builtin.len_ #[t] ty #[X]).run P w=.ok z w/\E' I ow w v z:=by
 cases b
 .simp only[eQ,if_false]at ht;obtain⟨e,ht⟩:=ht;have hgo:∀a n c,(Builtin.len_ #[t] ty #[.slice a n c]).run P w=.ok (.int .i64 n) w:=λa n c=>by simp[Builtin.len_,run_underlying ht,goInt]
  cases x<;>simp only[cW,reduceCtorEq,aB]at hv<;>subst hv<;>simp only[E']at hx
  .subst hx;exact⟨_,hgo _ _ _,by simp[E']⟩
  .obtain⟨a,cap,rfl,_⟩:=hx;exact⟨_,hgo _ _ _,by simp[E']⟩
  .split at hx
   .exact hx.elim
   .obtain⟨rfl,_,rfl⟩:=hx;exact⟨_,hgo _ _ _,by simp[E']⟩
   .obtain⟨o,c,rfl,_⟩:=hx;exact⟨_,hgo _ _ _,by simp[E']⟩
 .simp only[if_true]at ht;cases x<;>simp only[cW,reduceCtorEq,aB]at hv;subst hv;simp only[E']at hx;subst hx;exact⟨_,by simp[Builtin.len_,run_underlying ht,goInt];rfl,by simp[E',ByteArray.size]⟩
def ei{t:TypeId}{i:TypeInfo}{z:Value}(h:zeroOf P t=some (i,z)):P.info? t=some i/\i.zero=some z/\bL P t=true/\z.cells.size=i.size/\
 (∀u∈z.cells.toList,u.oneCell'=true)/\i.size=P.cellsOf t:=by
 unfold zeroOf at h;split at h
 .rename_i i' hi;split at h
  .rename_i z' hz;split at h
   .rename_i hc;simp only[aB,Prod.mk.injEq]at h;obtain⟨rfl,rfl⟩:=h;simp only[Ba,beq_iff_eq,dX]at hc;exact⟨hi,hz,hc.1.1,hc.1.2,hc.2,by simp[Program.cellsOf,hi]⟩
   .cases h
  .cases h
 .cases h
def eo{t:TypeId}{i:TypeInfo}{z:Value}(h:zeroOf P t=some (i,z)):(zeroValue t).run P w=.ok z w:=by
 obtain⟨h1,h2,_⟩:=ei h;simp[zeroValue,typeInfo,h1,h2]
def mc{t:TypeId}(h:mY P t=true):∃i,P.underlying t=some (.struct #[])/\P.info? t=some i/\i.size=0/\i.zero=some (.agg #[]):=by
 unfold mY at h;split at h
 .rename_i fs i h1 h2;simp only[Ba,beq_iff_eq]at h;obtain⟨h3,h4,h5⟩:=h;split at h5
  .rename_i z hz;have e1:fs=#[]:=Array.eq_empty_of_size_eq_zero h3;have e2:z=#[]:=Array.eq_empty_of_size_eq_zero (by simpa using h5);exact⟨i,by rw[h1,e1],h2,h4,by rw[hz,e2]⟩
  .cases h5
 .cases h
def oX{t:TypeId}(h:mY P t=true):(zeroValue t).run P w=.ok (.agg #[]) w:=by
 obtain⟨i,_,h1,_,h2⟩:=mc h;simp[zeroValue,typeInfo,h1,h2]
def EA{t:TypeId}(h:mY P t=true):(Instr.build t #[]).run P w=.ok (.agg #[]) w:=by
 obtain⟨i,h0,h1,_,h2⟩:=mc h;simp[Instr.build,oX h,run_underlying h0,Value.cells,Instr.fill]
def al.ec{vs us:List V}{l m:List Value}(off:Nat)(h:al I ow w vs l)(h':al I ow w us m):al I ow w (ec vs off us) (Vc.ec l off m):=by
 unfold Vc.ec;rw[h'.length];exact((h.take off).append h').append (h.drop _)
def qu{α:Type}(off sz:α->Nat)(v:α->V)(x:α->Value):∀{l:List α} {zero cells:List V} {zs:List Value},
 jH zero (l.map λp=>(off p,sz p,v p))=some cells->al I ow w zero zs->(∀p∈l,E' I ow w (v p) (x p))->
 al I ow w cells (l.foldl (λacc p=>Vc.ec acc (off p) (x p).cells.toList) zs)/\
 ((∀u∈zs,u.oneCell'=true)->∀u∈l.foldl (λacc p=>Vc.ec acc (off p) (x p).cells.toList) zs,u.oneCell'=true)/\
 ∀p∈l,(x p).cells.size=sz p/\off p+sz p<=zero.length
 |[],zero,cells,zs,h,hz,hp=>by
  simp only[List.map_nil,jH,aB]at h;subst h;simpa using hz
 |p::r,zero,cells,zs,h,hz,hp=>by
  simp only[dS,jH]at h;split at h
  .rename_i hc;have h1:=hp p (by simp);obtain⟨g1,g2⟩:=h1.cells hc.2.1;have hl:=h1.jU hc.2.1;obtain⟨ih1,ih2,ih3⟩:=qu off sz v x h (hz.ec (off p) g1) (λq hq=>hp q (by simp[hq]));refine⟨by simpa using ih1,λh0=>?_,λq hq=>?_⟩
   .refine ih2 ?_;intro u hu;simp only[Vc.ec,dc]at hu;rcases hu with(hu|hu)|hu
    .exact h0 u (pz hu)
    .exact g2 u hu
    .exact h0 u (List.mem_of_mem_drop hu)
   .rcases cg.1 hq with rfl|hq
    .exact⟨by rw[hl,hc.1],hc.2.2⟩
    .have:=ih3 q hq;rw[lG _ _ _ (by omega)]at this;exact this
  .cases h
def run_places(fs:Array Field)(h:∀f∈fs.toList,bL P f.type=true):
 (fs.mapM (λf=>Functor.map (Prod.mk f.offset) (sizeOf f.type):Field->Sem (Nat×Nat))).run P w=.ok (fs.map λf=>(f.offset,P.cellsOf f.type)) w:=by
 rw[Array.mapM_eq_mapM_toList];have:∀(l:List Field),(∀f∈l,bL P f.type=true)->
  (l.mapM (λf=>Functor.map (Prod.mk f.offset) (sizeOf f.type):Field->Sem (Nat×Nat))).run P w=.ok (l.map λf=>(f.offset,P.cellsOf f.type)) w:=by
  intro l
  induction l with
  |nil=>intro _;simp
  |cons f l ih=>
   intro hl;simp[bW (hl f (by simp)),ih (λx hx=>hl x (by simp[hx]))]
 simp[this fs.toList (by simpa using h)];apply Array.ext';simp
def run_build{F:Fr}{st:St}{a:Act}(hs:cI F I st a w){t:TypeId}{i:TypeInfo}{z:Array Value}{fs:Array Field}(hz:zeroOf P t=some (i,.agg z))
 (hfs:P.underlying t=some (.struct fs)){parts:Array (Nat×Operand)}(hk:(∀f∈fs.toList,bL P f.type=true)/\∀p∈parts.toList,p.1<fs.size){cells:List V}
 (hb:jH (z.toList.map cellOf) ((parts.toList.map λp=>(((fs[p.1]?).map (·.offset)).getD 0,((fs[p.1]?).map λf=>P.cellsOf f.type).getD 0,cx F.n p.2)).map λp=>(p.1,p.2.1,p.2.2.ev st.s))=some cells):
 ∃y,(Instr.build t (parts.map λ(i,x)=>(i,a.eval x))).run P w=.ok y w/\E' I (aA I st.U) w (.agg cells) y:=by
 obtain⟨_,_,_,_,hone,_⟩:=ei hz;rw[List.map_map]at hb;obtain⟨g1,g2,g3⟩:=qu (I:=I) (ow:=aA I st.U) (w:=w) (λp:Nat×Operand=>((fs[p.1]?).map (·.offset)).getD 0) (λp=>((fs[p.1]?).map λf=>P.cellsOf f.type).getD 0)
  (λp=>(cx F.n p.2).ev st.s) (λp=>a.eval p.2) hb (eK z.toList) (λp _=>bH hs p.2)
 obtain⟨cs,e1,e2,e3⟩:=oN (λk=>(fs.map λf=>(f.offset,P.cellsOf f.type))[k]?) ((parts.map λ(i,x)=>(i,a.eval x)).toList) z (by
  intro p hp;simp only[Array.toList_map,gg]at hp;obtain⟨q,hq,rfl⟩:=hp;have H':=hk.2 q hq;obtain⟨q1,q2⟩:=g3 q hq;have hget:fs[q.1]?=some fs[q.1]:=by simp[H']
  simp only[hget,Option.map_some,Option.getD_some]at q1 q2;exact⟨fs[q.1].offset,P.cellsOf fs[q.1].type,by simp[hget],q1,by simpa using q2⟩)
 refine⟨.agg cs,?_,?_⟩
 .simp only[Array.toList_map,Array.getElem?_map]at e1;simp[Instr.build,eo hz,run_underlying hfs,run_places fs (by simpa using hk.1),Value.cells];rw[e1];rfl
 .have hlist:cs.toList=parts.toList.foldl (λacc p=>Vc.ec acc (((fs[p.1]?).map (·.offset)).getD 0) (a.eval p.2).cells.toList) z.toList:=by
   rw[e3,Array.toList_map,List.foldl_map];congr 1;funext acc p;congr 1;cases hp:fs[p.1]?<;>simp[hp]
  simp only[E'];refine⟨cs.toList,rfl,?_,?_⟩
  .rw[hlist];exact g1
  .rw[hlist];exact g2 (by simpa[Value.cells]using hone)
def D7{F:Fr}{st:St}{a:Act}(hs:cI F I st a w){t e:TypeId}{k:Nat}{i:TypeInfo}{z:Array Value}(hz:zeroOf P t=some (i,.agg z))
 (hfs:P.underlying t=some (.array k e)){parts:Array (Nat×Operand)}(hk:bL P e=true){cells:List V}
 (hb:jH (z.toList.map cellOf) ((parts.toList.map λp=>(p.1*P.cellsOf e,P.cellsOf e,cx F.n p.2)).map λp=>(p.1,p.2.1,p.2.2.ev st.s))=some cells):
 ∃y,(Instr.build t (parts.map λ(i,x)=>(i,a.eval x))).run P w=.ok y w/\E' I (aA I st.U) w (.agg cells) y:=by
 obtain⟨_,_,_,_,hone,_⟩:=ei hz;rw[List.map_map]at hb;obtain⟨g1,g2,g3⟩:=qu (I:=I) (ow:=aA I st.U) (w:=w) (λp:Nat×Operand=>p.1*P.cellsOf e) (λ_=>P.cellsOf e)
  (λp=>(cx F.n p.2).ev st.s) (λp=>a.eval p.2) hb (eK z.toList) (λp _=>bH hs p.2)
 obtain⟨cs,e1,e2,e3⟩:=oN (λi=>some (i*P.cellsOf e,P.cellsOf e)) ((parts.map λ(i,x)=>(i,a.eval x)).toList) z (by
  intro p hp;simp only[Array.toList_map,gg]at hp;obtain⟨q,hq,rfl⟩:=hp;obtain⟨q1,q2⟩:=g3 q hq;exact⟨q.1*P.cellsOf e,P.cellsOf e,rfl,q1,by simpa using q2⟩)
 refine⟨.agg cs,?_,?_⟩
 .simp only[Array.toList_map]at e1;simp[Instr.build,eo hz,run_underlying hfs,bW hk,Value.cells];rw[e1];rfl
 .have hlist:cs.toList=parts.toList.foldl (λacc p=>Vc.ec acc (p.1*P.cellsOf e) (a.eval p.2).cells.toList) z.toList:=by
   rw[e3,Array.toList_map,List.foldl_map];rfl
  simp only[E'];refine⟨cs.toList,rfl,?_,?_⟩
  .rw[hlist];exact g1
  .rw[hlist];exact g2 (by simpa[Value.cells]using hone)
def Er(msg:String)(vs:List V)(bs:List UInt8)(l:List Value)(hb:bytesOf vs=some bs)(hr:al I ow w vs l)(s0:ByteArray):
 (forIn l s0 (λc s=>match c with
   |.int .u8 n=>pure (ForInStep.yield (s.push (UInt8.ofNat n.toNat)))
   |_=>(do stuck msg;pure (ForInStep.yield s))):Sem ByteArray).run P w=.ok ⟨s0.data++bs.toArray⟩ w:=by
 induction vs generalizing bs l s0 with
 |nil=>
  simp only[bytesOf,aB]at hb;simp only[al]at hr;subst hb hr;simp
 |cons v vs ih=>
  simp only[bytesOf]at hb;split at hb
  .rename_i b l' h1 h2;simp only[aB]at hb;subst hb;simp only[al]at hr;obtain⟨x,xs,rfl,h3,h4⟩:=hr;unfold byteOf at h1;split at h1
   .rename_i n;simp only[aB]at h1;simp only[E']at h3;subst h3 h1;simp only[List.forIn_cons,Sem.run_bind,Sem.run_pure,Result.andThen_ok];rw[ih l' xs h2 h4];simp[ByteArray.push]
   .cases h1
  .cases hb
def ur:∀{rows:List V} {bs:List UInt8} {b off:Nat},aS I ow w rows b off 1->bytesOf rows=some bs->
 ∃xs,al I ow w rows xs/\xs.length=rows.length/\∀(j:Nat) u,xs[j]?=some u->w.cell? ⟨b,off+j,none⟩=some u
 |[],_,_,_,_,_=>⟨[],by simp[al],rfl,by simp⟩
 |v::vs,bs,b,off,h,hb=>by
  simp only[bytesOf]at hb;split at hb
  .rename_i c l h1 h2;simp only[aS]at h;obtain⟨_,h3,h4⟩:=h;have h5:∃x,w.cell? ⟨b,off,none⟩=some x/\E' I ow w v x:=by
    unfold byteOf at h1;split at h1
    .simp only[bn]at h3;obtain⟨x,g1,g2,_⟩:=h3;exact⟨x,g1,g2⟩
    .cases h1
   obtain⟨x,g1,g2⟩:=h5;obtain⟨xs,i1,i2,i3⟩:=ur h4 h2;refine⟨x::xs,by simp only[al];exact⟨x,xs,rfl,g2,i1⟩,by simp[i2],λj u hu=>?_⟩;cases j with
   |zero=>simp at hu;subst hu;exact g1
   |succ j=>
    have:=i3 j u (by simpa using hu)
    rwa [show off+1+j=off+(j+1) by omega]at this
  .cases hb
def Ec{w0:World}{Zo:Nat->Prop}{U:af}(hsat:Sat w0 Zo I U w){x v:V}{X:Value}(hx:E' I (aA I U) w x X)(hv:kB U x=some v):
 ∃z,(Conv.bytesToString X).run P w=.ok z w/\E' I (aA I U) w v z:=by
 unfold kB at hv;split at hv
 .simp only[E']at hx;simp only[aB]at hv;subst hx hv;exact⟨_,rfl,by simp only[E'];rfl⟩
 .rename_i id off len;split at hv
  .rename_i ob YV;split at hv
   .rename_i hc;simp only[Zq8]at hv;obtain⟨bs,hb,rfl⟩:=hv;have hobat:=hsat.obj id ob YV;simp only[E']at hx;split at hx
    .exact hx.elim
    .obtain⟨rfl,_,rfl⟩:=hx;simp only[List.take_zero,bytesOf,aB]at hb;subst hb;exact⟨_,rfl,by simp only[E'];rfl⟩
    .rename_i b szb cap O';obtain⟨o,c,rfl,hc1,hc2,hc3,hz⟩:=hx;rw[O']at hobat;obtain⟨g1,g2,g3,g4,g5⟩:=hobat.rows hz;by_cases h0:len=0
     .subst h0;simp only[List.take_zero,bytesOf,aB]at hb;subst hb;exact⟨_,by simp[Conv.bytesToString,loadCells,loadCellsFrom];rfl,by simp only[E'];rfl⟩
     .have ho:o=off*szb:=by
       rcases hc3 with hc3|hc3
       .exact hc3
       .omega
      have hs:szb=1:=by omega
      subst ho;subst hs;have hr:=(g5.drop off).take len;rw[gY,Nat.mul_one]at hr;obtain⟨xs,i1,i2,i3⟩:=ur hr hb;have hl:xs.length=len:=by rw[i2];simp;omega
      refine⟨.string ⟨bs.toArray⟩,?_,by simp only[E']⟩;have hld:=run_loadCells_list (P:=P) w ⟨b,off,none⟩ xs (λj u hu=>by rw[fK];exact i3 j u hu);rw[hl]at hld;have hp:=λmsg=>Er (P:=P) msg _ bs xs hb i1 .empty;simp only[Conv.bytesToString,Nat.mul_one,Sem.run_bind,hld,Result.andThen_ok];rw[List.forIn_toArray];rw[show(.string ⟨bs.toArray⟩:Value)=.string ⟨ByteArray.empty.data++bs.toArray⟩ by rw[show ByteArray.empty.data=#[]from rfl,Array.empty_append]];have key:∀r:Result ByteArray,r=.ok ⟨ByteArray.empty.data++bs.toArray⟩ w->(r.andThen λa w'=>Sem.run P (pure (Value.string a)) w')=.ok (.string ⟨ByteArray.empty.data++bs.toArray⟩) w:=by
       rintro r rfl;simp
      exact key _ (hp _)
   .cases hv
  .cases hv
 .cases hv
def tu{m:Bool}{x y v:V}{X Y:Value}(ts:Array TypeId)(t:TypeId)(hx:E' I ow w x X)(hy:E' I ow w y Y)(hv:my m x y=some v):
 ∃z,(if m then(do pure (Next.value (<-Builtin.max_ ts t #[X,Y])):Sem Next)else(do pure (Next.value (<-Builtin.min_ ts t #[X,Y])))).run P w=.ok (.value z) w/\E' I ow w v z:=by
 unfold my at hv;split at hv
 .rename_i k a k' b;split at hv
  .simp only[E']at hx hy;simp only[aB]at hv;subst hv hx hy;cases m
   .exact⟨_,by simp[Builtin.min_,Builtin.min2];rfl,by simp[E']⟩
   .exact⟨_,by simp[Builtin.max_,Builtin.max2];rfl,by simp[E']⟩
  .cases hv
 .cases hv
def Al{x y:V}{X Y:Value}{b:Bool}(hx:E' I ow w x X)(hy:E' I ow w y Y)(hv:lA x y=some b){t:TypeId}(ht:Ko P t=true)(d:Nat)
 (hty:(∃k,P.underlying t=some (.int k))->∃k n,x=.int k n)(htb:P.underlying t=some .bool->∃c,x=.bool c)(hts:P.underlying t=some .string->∃c,x=.str c):
 (Op.equalIn (d+1) t X Y).run P w=.ok b w:=by
 unfold Ko at ht;split at ht
 .rename_i k hk;obtain⟨k1,n1,rfl⟩:=hty ⟨k,hk⟩;cases y<;>simp only[lA,reduceCtorEq]at hv;split at hv
  .rename_i hkk;simp only[aB]at hv;simp only[E']at hx hy;subst hx hy hv hkk;rw[run_equalIn_int w d t _ _ _ _ hk,qN]
  .cases hv
 .rename_i hk;obtain⟨c,rfl⟩:=htb hk;cases y<;>simp only[lA,reduceCtorEq,aB]at hv;simp only[E']at hx hy;subst hx hy hv;exact run_equalIn_bool' w d t _ _ hk
 .rename_i hk;obtain⟨c,rfl⟩:=hts hk;cases y<;>simp only[lA,reduceCtorEq,aB]at hv;simp only[E']at hx hy;subst hx hy hv;rw[run_equalIn_string w d t _ _ hk];simp[ByteArray.toList_eq,qN]
 .cases ht
def kV(P:Program)(t:TypeId)(x:V):Bool:=match P.underlying t,x with
 |some (.int _),.int _ _=>true
 |some .bool,.bool _=>true
 |some .string,.str _=>true
 |_,_=>false
def oK{xs ys:List Value}{vs us:List V}(hx:al I ow w vs xs)(hy:al I ow w us ys)(d:Nat):∀(fl:List Field) (k:Nat) (b:Bool),
 fl.map (·.offset)=List.range' k fl.length->(∀f∈fl,Ko P f.type=true/\f.name≠"_"/\bL P f.type=true)->(∀(j:Nat) f v,fl[j]?=some f->vs[k+j]?=some v->kV P f.type v=true)->
 vs.length=k+fl.length->us.length=k+fl.length->
 gE (vs.drop k) (us.drop k)=some b->(Op.eqFields (d+1) ⟨xs⟩ ⟨ys⟩ fl).run P w=.ok b w
 |[],k,b,_,_,_,h1,h2,h=>by
  simp only[List.length_nil,Nat.add_zero]at h1 h2;rw[List.drop_of_length_le (by omega),List.drop_of_length_le (by omega)]at h;simp only[gE,aB]at h;subst h;simp[Op.eqFields]
 |f::fl,k,b,ho,hf,hc,h1,h2,h=>by
  simp only[ZK]at h1 h2;simp only[dS,ZK,List.range'_succ,List.cons.injEq]at ho;obtain⟨e1,e2⟩:=ho;obtain⟨f1,f2,f3⟩:=hf f (by simp);have hkv:k<vs.length:=by omega
  have hku:k<us.length:=by omega
  rw[ia hkv,ia hku]at h;simp only[gE]at h;split at h
  .rename_i c b' hcell hrest;simp only[aB]at h;obtain⟨X,hX,hrX⟩:=hx.get (i:=k) (by rw[Zq6 hkv]);obtain⟨Y,hY,hrY⟩:=hy.get (i:=k) (by rw[Zq6 hku]);have hagg:fa P f.type=false:=by
    unfold Ko at f1;unfold fa;split at f1<;>simp_all
   have hp:∀(l:List Value) (Z:Value),l[k]?=some Z->(part f.type ⟨l⟩ f.offset).run P w=.ok Z w:=by
    intro l Z hZ;have:(⟨l⟩:Array Value)[k]?=some Z:=by simpa using hZ
    simp[part,rW (du f3).1,hagg,e1,this]
   have hfit:=hc 0 f _ (by simp) (by rw[Nat.add_zero,Zq6 hkv]);have heq:=Al (P:=P) hrX hrY hcell f1 d
    (by rintro⟨kk,hkk⟩;unfold kV at hfit;rw[hkk]at hfit;generalize vs[k]=z at*;cases z<;>simp at hfit;exact⟨_,_,rfl⟩)
    (by intro hkk;unfold kV at hfit;rw[hkk]at hfit;generalize vs[k]=z at*;cases z<;>simp at hfit;exact⟨_,rfl⟩)
    (by intro hkk;unfold kV at hfit;rw[hkk]at hfit;generalize vs[k]=z at*;cases z<;>simp at hfit;exact⟨_,rfl⟩)
   simp only[Op.eqFields,f2,ne_eq,not_false_eq_true,if_true,Sem.run_bind,hp xs X hX,hp ys Y hY,Result.andThen_ok,heq];cases c
   .simp at h;subst h;simp
   .simp only[Bool.true_and]at h;subst h;simp only[Bool.not_true,eQ,if_false];exact oK hx hy d fl (k+1) b' e2 (λg hg=>hf g (by simp[hg])) (λj g v hg hv=>hc (j+1) g v (by simpa using hg) (by rw[show k+(j+1)=k+1+j by omega];exact hv)) (by omega) (by omega) hrest
  .cases h
def tr:∀(fl:List Field) (vs:List V),jP (fl.map λf=>rB P f.type) vs=true->
 vs.length=fl.length/\∀(j:Nat) f v,fl[j]?=some f->vs[j]?=some v->kV P f.type v=true
 |[],[],_=>by simp
 |[],_::_,h=>by simp[jP]at h
 |f::fl,[],h=>by
  simp only[dS]at h;generalize rB P f.type=q at h;revert h
  match q with
  |0=>simp[jP]
  |1=>simp[jP]
  |2=>simp[jP]
  |n+3=>simp[jP]
 |f::fl,v::vs,h=>by
  have key:kV P f.type v=true/\jP (fl.map λf=>rB P f.type) vs=true:=by
   simp only[dS]at h;generalize (fl.map λf=>rB P f.type)=ks at h|-;unfold rB at h;unfold kV;cases hd:P.underlying f.type with
   |none=>rw[hd]at h;simp[jP]at h
   |some d=>
    rw[hd]at h;cases d<;>cases v<;>simp_all [jP]
  obtain⟨k1,k2⟩:=key;obtain⟨h1,h2⟩:=tr fl vs k2;refine⟨by simp[h1],λj g u hg hu=>?_⟩;cases j with
  |zero=>simp at hg hu;subst hg hu;exact k1
  |succ j=>exact h2 j g u (by simpa using hg) (by simpa using hu)
def MY{t:TypeId}{fs:Array Field}(ht:P.underlying t=some (.struct fs))(hf:KF P t fs=true){neg:Bool}{x y v:V}{X Y:Value}(hx:E' I ow w x X)(hy:E' I ow w y Y)
 (xo yo:Operand){op:BinOp}(X9:op=if neg then .neq else .eql)(hv:sK neg (fs.toList.map λf=>rB P f.type) x y=some v):
 ∃z,(do eqGuard op t xo yo X Y;binOp op t X Y:Sem Value).run P w=.ok z w/\E' I ow w v z:=by
 unfold sK at hv;split at hv
 .rename_i vs us;split at hv
  .rename_i hfit;split at hv
   .rename_i b hb;simp only[aB]at hv;subst hv;simp only[E']at hx hy;obtain⟨xs,rfl,hx1,_⟩:=hx;obtain⟨ys,rfl,hy1,_⟩:=hy;simp only[KF,Ba,beq_iff_eq,Bool.not_eq_true',dX,bne_iff_ne,ne_eq]at hf;obtain⟨⟨⟨f1,f2⟩,f3⟩,f4⟩:=hf;obtain⟨g3,g2⟩:=hfit;obtain⟨g1,g4⟩:=tr (P:=P) fs.toList vs g3;have hfo:P.fieldsOf t=fs:=by simp[Program.fieldsOf,ht]
    have hE:=oK (P:=P) hx1 hy1 9998 fs.toList 0 b (by rw[f1];simp[List.range_eq_range']) (λf hf=>⟨(f2 f hf).1.1,(f2 f hf).1.2,(f2 f hf).2⟩)
     (λj f v hj hv=>by
       rw[gY]at hv;exact g4 j f v hj hv) (by omega) (by omega) (by simpa using hb)
    have Yw:(Op.equalIn 10000 t (.agg ⟨xs⟩) (.agg ⟨ys⟩)).run P w=.ok b w:=by
     rw[run_equalIn_struct w 9999 t _ _ (by rw[hfo];exact ht) f3,hfo];exact hE
    have hgd:=run_eqGuard_agg (P:=P) w op t xo yo ⟨xs⟩ ⟨ys⟩ f4;refine⟨.bool (if neg then !b else b),?_,by simp[E']⟩;simp only[Sem.run_bind,hgd,Result.andThen_ok];cases neg<;>simp only[eQ,if_false,if_true]at X9|-<;>subst X9
    .rw[run_eql_struct,Yw];rfl
    .rw[run_neq_struct,Yw];rfl
   .cases hv
  .cases hv
 .cases hv
def Ca{P:Program}(w:World){t e:TypeId}(ht:P.underlying t=some (.pointer e))(q:Option Addr):
 (binOp .eql t (.pointer q) (.pointer none)).run P w=.ok (.bool q.isNone) w/\(binOp .neq t (.pointer q) (.pointer none)).run P w=.ok (.bool (!q.isNone)) w:=by
 have he:(Op.equal t (.pointer q) (.pointer none)).run P w=.ok q.isNone w:=by
  unfold Op.equal;rw[show Op.maxDepth=9999+1 from rfl];generalize 9999=d;cases q<;>simp[Op.equalIn,run_underlying ht]
 exact⟨by simp[binOp,he],by simp[binOp,he]⟩
def tk{F:Fr}{st:St}{a:Act}(hs:cI F I st a w)(o:Oper){v:V}(hp:ez st.s (Yh P F.n o.op))(hv:aE st.U st.s (Yh P F.n o.op)=some v):
 ∃z,(execOp a.eval o).run P w=.ok (.value z) w/\E' I (aA I st.U) w v z:=by
 have R:=bH hs;have VV:∀(x:Sem Value) (z:Value),x.run P w=.ok z w->(do pure (.value (<-x)):Sem Next).run P w=.ok (.value z) w:=λx z h=>by simp[h]
 unfold execOp;cases ho:o.op
 all_goals rw[ho]at hp hv;simp only[Yh]at hp hv
 all_goals try (simp only[aE,reduceCtorEq]at hv;done)
 case move x=>simp only[aE,aB]at hv;subst hv;exact⟨_,rfl,R x⟩
 case assign x=>simp only[aE,aB]at hv;subst hv;exact⟨_,rfl,R x⟩
 case pick c x y=>
  simp only[aE]at hv;have hc:=R c;split at hv
  .rename_i t ht;rw[ht]at hc;simp only[E']at hc;simp only[aB]at hv;subst hv;cases t
   .exact⟨_,by simp[hc,asBool],R y⟩
   .exact⟨_,by simp[hc,asBool],R x⟩
  .cases hv
 case alloc=>(repeat' split at hv)<;>simp[aE]at hv
 case range=>split at hv<;>simp[aE]at hv
 case makeMap=>split at hv<;>simp[aE]at hv
 case insert=>split at hv<;>simp[aE]at hv
 case mapUpdate=>split at hv<;>simp[aE]at hv
 case lookup=>split at hv<;>(try split at hv)<;>simp[aE]at hv
 case makeInterface t x=>
  split at hv
  .rename_i hc;simp only[Ba,Bool.not_eq_true']at hc;simp only[aE,aB]at hv;subst hv;refine⟨.iface t (a.eval x),?_,by simp only[E'];exact⟨_,rfl,R x⟩⟩;refine VV _ _ ?_;cases hu:P.underlying t with
   |none=>rw[hu]at hc;simp at hc
   |some d=>
    cases d
    case interface ms=>simp[td,hu]at hc
    all_goals simp[Instr.makeInterface,run_underlying hu]
  .simp[aE]at hv
 case typeAssert x xt t ok=>
  split at hv
  .simp[aE]at hv
  .rename_i hi;obtain⟨zv,z,hzv,hzr,hus,hv⟩:∃(zv:V) (z:Value),(zeroValue t).run P w=.ok z w/\E' I (aA I st.U) w zv z/\(P.underlying t).isSome=true/\aE st.U st.s (.more (.tas t ok zv) [cx F.n x])=some v:=by
    split at hv
    .rename_i i z hz;refine⟨_,z,eo hz,ov z,?_,hv⟩;have hk:=(ei hz).2.2.1;simp only[bL,Ba]at hk;exact hk.1.2
    .split at hv
     .rename_i hn;obtain⟨_,h0,_⟩:=mc hn;exact⟨.agg [],.agg #[],oX hn,by simp only[E'];exact⟨[],rfl,by simp[al],by simp⟩,by rw[h0];rfl,hv⟩
     .simp[aE]at hv
   .simp only[aE]at hv;have hx:=R x;obtain⟨d,hu,hnd⟩:∃d,P.underlying t=some d/\∀ms,d≠.interface ms:=by
     cases hu:P.underlying t with
     |none=>simp[hu]at hus
     |some d=>exact⟨d,rfl,λms e=>hi (by simp[td,hu,e])⟩
    have hfail:ok=true->(∀xx:Value,(Instr.typeAssert xx xt t ok).run P w=(do pure (Value.tuple #[<-zeroValue t,.bool false]):Sem Value).run P w->(Instr.typeAssert xx xt t ok).run P w=.ok (.tuple #[z,.bool false]) w):=λ_ xx h=>by
     rw[h];simp[hzv]
    unfold Jr at hv;split at hv
    .rename_i t' v' hxv;rw[hxv]at hx;simp only[E']at hx;obtain⟨y,hy,hry⟩:=hx;by_cases ht:t'=t
     .subst ht;rw[ar rfl]at hv;simp only[aB]at hv;subst hv;cases ok
      .refine⟨y,VV _ _ ?_,hry⟩;rw[hy];cases d
       case interface ms=>exact absurd rfl (hnd ms)
       all_goals simp[Instr.typeAssert,run_underlying hu]
      .refine⟨.tuple #[y,.bool true],VV _ _ ?_,by simp only[if_true,E'];exact⟨_,rfl,by simp only[al,E'];exact⟨_,_,rfl,hry,_,_,rfl,rfl,rfl⟩⟩⟩;rw[hy];cases d
       case interface ms=>exact absurd rfl (hnd ms)
       all_goals simp[Instr.typeAssert,run_underlying hu]
     .rw[av ht]at hv;cases ok
      .simp at hv
      .simp only[if_true,aB]at hv;subst hv;refine⟨.tuple #[z,.bool false],VV _ _ (hfail rfl _ ?_),by simp only[E'];exact⟨_,rfl,by simp only[al,E'];exact⟨_,_,rfl,hzr,_,_,rfl,rfl,rfl⟩⟩⟩;rw[hy];cases d
       case interface ms=>exact absurd rfl (hnd ms)
       all_goals simp[Instr.typeAssert,run_underlying hu,ht]
    .rename_i hxv;rw[hxv]at hx;simp only[E']at hx;cases ok
     .simp at hv
     .simp only[if_true,aB]at hv;subst hv;refine⟨.tuple #[z,.bool false],VV _ _ (hfail rfl _ ?_),by simp only[E'];exact⟨_,rfl,by simp only[al,E'];exact⟨_,_,rfl,hzr,_,_,rfl,rfl,rfl⟩⟩⟩;rw[hx];cases d
      case interface ms=>exact absurd rfl (hnd ms)
      all_goals simp[Instr.typeAssert,run_underlying hu]
    .cases hv
 case next it b=>cases b<;>simp[aE]at hv
 case buildSlice=>split at hv<;>(try split at hv)<;>(try split at hv)<;>simp[aE]at hv
 case makeSlice=>split at hv<;>(try split at hv)<;>(try split at hv)<;>simp[aE]at hv
 case build t parts=>
  split at hv
  .rename_i hn;simp only[Ba,beq_iff_eq]at hn;have hp:parts=#[]:=Array.eq_empty_of_size_eq_zero hn.2;subst hp;simp only[aE,VX.ev,aB]at hv;subst hv;exact⟨.agg #[],VV _ _ (by rw[Array.map_empty];exact EA hn.1),by simp only[E'];exact⟨[],rfl,by simp[al],by simp⟩⟩
  split at hv
  .rename_i i z fs hz hfs;split at hv
   .rename_i hk;simp only[aE,Zq8]at hv;obtain⟨cells,hb,rfl⟩:=hv;obtain⟨y,h1,h2⟩:=run_build hs hz hfs (by simpa only[Ba,dX,Zq9]using hk) hb;exact⟨y,VV _ _ h1,h2⟩
   .simp[aE]at hv
  .rename_i i z k e hz hfs;split at hv
   .rename_i hk;simp only[aE,Zq8]at hv;obtain⟨cells,hb,rfl⟩:=hv;obtain⟨y,h1,h2⟩:=D7 hs hz hfs hk hb;exact⟨y,VV _ _ h1,h2⟩
   .simp[aE]at hv
  .simp[aE]at hv
 case store=>(repeat' split at hv)<;>simp[aE]at hv
 case load t x=>
  split at hv
  .rename_i hk;simp only[aE]at hv;obtain⟨z,h1,h2⟩:=zh hs.sat hk (R x) hv;exact⟨z,VV _ _ h1,h2⟩
  .simp[aE]at hv
 case binOp op t x y yt=>
  have hplain:∀(hp:ez st.s (.bin op (cx F.n x) (cx F.n y))) (hv:aE st.U st.s (.bin op (cx F.n x) (cx F.n y))=some v),
   ∃z,(do pure (Next.value (<-(do eqGuard op t x y (a.eval x) (a.eval y);binOp op t (a.eval x) (a.eval y):Sem Value))):Sem Next).run P w=.ok (.value z) w/\E' I (aA I st.U) w v z:=by
   intro hp hv;simp only[aE,ez]at hv hp;obtain⟨z,h1,h2⟩:=MP (P:=P) (t:=t) (xo:=x) (yo:=y) (R x) (R y) hp hv;exact⟨z,VV _ _ h1,h2⟩
  split at hv
  .rename_i ht;have key:∀neg,(op=if neg then .neq else .eql)->aE st.U st.s (.Zz neg (cx F.n x) (cx F.n y))=some v->
    ∃z,(do pure (Next.value (<-(do eqGuard op t x y (a.eval x) (a.eval y);binOp op t (a.eval x) (a.eval y):Sem Value))):Sem Next).run P w=.ok (.value z) w/\E' I (aA I st.U) w v z:=by
    intro neg X9 hv;simp only[aE]at hv;have hx:=R x;have hy:=R y;generalize (cx F.n x).ev st.s=xv at*;generalize (cx F.n y).ev st.s=yv at*;unfold binBV at hv;split at hv
    .rename_i a' b';simp only[E']at hx hy;simp only[aB]at hv;subst hv;rw[hx,hy];refine⟨.bool (if neg then !(a'==b')else a'==b'),VV _ _ ?_,by simp only[E']⟩;cases neg<;>simp only[eQ,if_false,if_true]at X9<;>subst X9
     .simp[eqGuard,run_eql_bool w t a' b' ht]
     .simp[eqGuard,run_neq_bool w t a' b' ht]
    .cases hv
   cases op<;>simp only[aE,reduceCtorEq]at hv
   .exact key false rfl (by simpa only[aE]using hv)
   .exact key true rfl (by simpa only[aE]using hv)
  .rename_i fs ht;split at hv
   .rename_i hflat;have key:∀neg,(op=if neg then .neq else .eql)->aE st.U st.s (.eqS neg (fs.toList.map λf=>rB P f.type) (cx F.n x) (cx F.n y))=some v->
     ∃z,(do pure (Next.value (<-(do eqGuard op t x y (a.eval x) (a.eval y);binOp op t (a.eval x) (a.eval y):Sem Value))):Sem Next).run P w=.ok (.value z) w/\E' I (aA I st.U) w v z:=by
     intro neg X9 hv;simp only[aE]at hv;obtain⟨z,h1,h2⟩:=MY (P:=P) ht hflat (R x) (R y) x y X9 hv;exact⟨z,VV _ _ h1,h2⟩
    cases op<;>simp only[aE,reduceCtorEq]at hv
    .exact key false rfl (by simpa only[aE]using hv)
    .exact key true rfl (by simpa only[aE]using hv)
   .simp[aE]at hv
  .rename_i h1 h2;split at hv
   .unfold jk at hv;split at hv
    .simp only[aE,VX.ev]at hv;unfold binBV at hv;split at hv
     .rename_i hx;cases hx
     .cases hv
    .simp[aE]at hv
   .rename_i hns;split at hv
    .split at hv
     .simp only[aE,VX.ev]at hv;unfold binBV at hv;split at hv
      .rename_i hx;cases hx
      .cases hv
     .simp[aE]at hv
    .rename_i hni;split at hv
     .split at hv
      .simp only[aE,VX.ev]at hv;unfold binBV at hv;split at hv
       .rename_i hx;cases hx
       .cases hv
      .simp[aE]at hv
     .rename_i hnf;split at hv
      .rename_i hnp;simp only[Ba]at hnp;obtain⟨hpt,Zw⟩:=hnp;unfold TP at hpt;split at hpt
       .rename_i e ht;unfold OG at Zw;split at Zw
        .split at hv
         .rename_i X9;simp only[aE]at hv;have hx:=R x;generalize (cx F.n x).ev st.s=xv at*;have hY:a.eval (.const (.pointer none))=.pointer none:=rfl;have key:∀q:Option Addr,a.eval x=.pointer q->∃z,(do pure (Next.value (<-(do eqGuard op t x (.const (.pointer none)) (a.eval x) (a.eval (.const (.pointer none)));binOp op t (a.eval x) (a.eval (.const (.pointer none))):Sem Value))):Sem Next).run P w=.ok (.value z) w/\z=.bool (if op=.neq then !q.isNone else q.isNone):=by
           intro q hq;rw[hq,hY];obtain⟨q1,q2⟩:=Ca (P:=P) w ht q;have hg:∀op,(eqGuard op t x (.const (.pointer none)) (.pointer q) (.pointer none)).run P w=.ok () w:=by intro op;simp[eqGuard]
           rcases X9 with rfl|rfl
           .exact⟨_,by simp only[Sem.run_bind,hg,Result.andThen_ok,q1];rfl,by simp⟩
           .exact⟨_,by simp only[Sem.run_bind,hg,Result.andThen_ok,q2];rfl,by simp⟩
          unfold Gm at hv;split at hv
          .simp only[E']at hx;simp only[aB]at hv;subst hv;obtain⟨z,h3,rfl⟩:=key none hx;refine⟨_,h3,?_⟩;rcases X9 with rfl|rfl<;>simp[E']
          .simp only[E']at hx;split at hx
           .simp only[aB]at hv;subst hv;obtain⟨z,h3,rfl⟩:=key _ hx.1;refine⟨_,h3,?_⟩;rcases X9 with rfl|rfl<;>simp[E']
           .exact hx.elim
          .simp only[E']at hx;obtain⟨b,off,hx,_⟩:=hx;simp only[aB]at hv;subst hv;obtain⟨z,h3,rfl⟩:=key _ hx;refine⟨_,h3,?_⟩;rcases X9 with rfl|rfl<;>simp[E']
          .cases hv
         .simp[aE]at hv
        .cases Zw
       .cases hpt
      .rename_i hnp;refine hplain ?_ hv;revert hp;split
       .rename_i h4;exact absurd h4 h1
       .rename_i fs h4;exact absurd h4 (h2 fs)
       .rw[av hns,av hni,av hnf,av hnp];exact id
 case nilCheck x=>
  simp only[aE]at hv;have hx:=R x;generalize (cx F.n x).ev st.s=xv at*;unfold gX at hv;split at hv
  .simp only[aB]at hv;subst hv;have YD:=hx;simp only[E']at YD;split at YD
   .exact⟨a.eval x,by simp[YD],hx⟩
   .exact YD.elim
  .simp only[aB]at hv;subst hv;have YD:=hx;simp only[E']at YD;obtain⟨b,off,e,_⟩:=YD;exact⟨a.eval x,by simp[e],hx⟩
  .simp only[aB]at hv;subst hv;have YD:=hx;simp only[E']at YD;obtain⟨Yf,e,_⟩:=YD;exact⟨a.eval x,by simp[e],hx⟩
  .simp only[aB]at hv;subst hv;have YD:=hx;simp only[E']at YD;obtain⟨y,e,_⟩:=YD;exact⟨a.eval x,by simp[e],hx⟩
  .cases hv
 case box=>split at hv<;>simp[aE]at hv
 case unOp op t x=>
  have hx:=R x;cases op<;>simp only[aE,reduceCtorEq]at hv<;>simp only[ez]at hp
  .split at hv
   .rename_i k n hn;simp only[hn]at hx hp;simp only[E']at hx;simp only[aB]at hv;subst hv;simp only[Yl]at hp;exact⟨.int k (0-n),VV _ _ (by simp only[hx,Op.unary,Op.intArith];rw[hp];rfl),by simp[E']⟩
   .cases hv
  .split at hv
   .rename_i b hb;rw[hb]at hx;simp only[E']at hx;simp only[aB]at hv;subst hv;exact⟨.bool (!b),VV _ _ (by simp[hx,Op.unary]),by simp[E']⟩
   .cases hv
 case convert src dst x=>
  split at hv
  .rename_i k1 k2 h1 h2;simp only[h1,h2]at hp;have hx:=R x;simp only[aE,ez]at hv hp;split at hv
   .rename_i k n hn;rw[hn]at hx hp;simp only[E']at hx;simp only[aB]at hv;subst hv;simp only[Yl]at hp;refine⟨.int k2 n,VV _ _ ?_,by simp[E']⟩;simp[Go.convert,run_underlying h1,run_underlying h2,hx,Conv.intToInt,hp]
   .cases hv
  .rename_i e h1 h2;split at hv
   .rename_i h3;have h3:P.underlying e=some (.int .u8):=by
     unfold u8T at h3;split at h3
     .assumption
     .cases h3
    simp only[aE]at hv;obtain⟨z,g1,g2⟩:=Ec (P:=P) hs.sat (R x) hv;refine⟨z,VV _ _ ?_,g2⟩;obtain⟨b,n,c,hX⟩:∃b n c,a.eval x=.slice b n c:=by
     have hx:=R x;unfold kB at hv;split at hv
     .rename_i YD;rw[YD]at hx;simp only[E']at hx;exact⟨_,_,_,hx⟩
     .rename_i YD;rw[YD]at hx;simp only[E']at hx;split at hx
      .exact hx.elim
      .exact⟨_,_,_,hx.1⟩
      .obtain⟨o,c,h,_⟩:=hx;exact⟨_,_,_,h⟩
     .cases hv
    rw[hX]at g1|-;cases b<;>simp[Go.convert,run_underlying h1,run_underlying h2,run_underlying h3,g1]
   .simp[aE]at hv
  .split at hv<;>simp[aE]at hv
 case makeFunc fn first caps=>
  cases fn
  case func f=>
   by_cases h0:first.size=0
   .simp only[ar h0,aE,aB]at hv;subst hv;refine⟨.func (.func f) #[] (caps.map a.eval),VV _ _ ?_,?_⟩
    .have:first=#[]:=Array.eq_empty_of_size_eq_zero h0
     subst this;simp[Instr.makeFunc]
    .simp only[E'];exact⟨caps.toList.map a.eval,by congr 1;apply Array.ext';simp,mC hs _⟩
   .have hv':aE st.U st.s (if first.size=0 then Yq.mkfn f (caps.toList.map (cx F.n))else if caps.size=0 then .more (.mkB f) (first.toList.map (cx F.n))else .bad)=some v:=hv;rw[av h0]at hv';by_cases h1:caps.size=0
    .rw[ar h1]at hv';simp only[aE,aB]at hv';subst hv';refine⟨.func (.func f) (first.map a.eval) #[],VV _ _ ?_,?_⟩
     .have:caps=#[]:=Array.eq_empty_of_size_eq_zero h1;subst this;simp[Instr.makeFunc]
     .simp only[E'];exact⟨first.toList.map a.eval,by congr 1;apply Array.ext';simp,mC hs _⟩
    .rw[av h1]at hv';simp only[aE,reduceCtorEq]at hv'
  all_goals simp[aE]at hv
 case slice t x lo hi mx=>
  split at hv
  .rename_i e ht;split at hv
   .rename_i hk;simp only[Ba,kS]at hk;simp only[aE]at hv;obtain⟨z,h1,h2⟩:=wU hs.sat ht hk.1 (R x) (xN hs lo) (xN hs hi) (xN hs mx)
     (by intro h;rcases hk.2 with h'|h'<;>cases mx<;>cases hi<;>simp_all) hv
    exact⟨z,VV _ _ h1,h2⟩
   .simp[aE]at hv
  .rename_i ht;split at hv
   .rename_i hm;simp only[aE]at hv;have hm':mx=none:=by simpa using hm
    subst hm';obtain⟨z,h1,h2⟩:=xC (P:=P) ht (R x) (xN hs lo) (xN hs hi) hv;exact⟨z,VV _ _ h1,h2⟩
   .simp[aE]at hv
  .simp[aE]at hv
 case fieldAddr s x f=>
  split at hv
  .rename_i fs hfs;split at hv
   .rename_i fd hfd;split at hv
    .rename_i hk;simp only[aE]at hv;obtain⟨z,h1,h2⟩:=Hp (P:=P) hfs hfd hk (R x) hv;exact⟨z,VV _ _ h1,h2⟩
    .simp[aE]at hv
   .simp[aE]at hv
  .simp[aE]at hv
 case field s x f=>
  split at hv
  .rename_i fs hfs;split at hv
   .rename_i fd hfd;split at hv
    .rename_i hk;have hx:=R x;simp only[aE]at hv;unfold HH at hv;split at hv
     .rename_i vs hvs;rw[hvs]at hx;simp only[E']at hx;obtain⟨Yf,hX,hr,h1⟩:=hx;obtain⟨z,hz,hrz⟩:=DP (P:=P) (w:=w) hk hr h1 hv;exact⟨z,VV _ _ (by simp[Instr.field,run_underlying hfs,hfd,hX,asAgg,hz]),hrz⟩
     .cases hv
    .simp[aE]at hv
   .simp[aE]at hv
  .simp[aE]at hv
 case indexAddr t x i=>
  split at hv
  .rename_i e ht;split at hv
   .rename_i hk;simp only[aE]at hv;obtain⟨z,h1,h2⟩:=GV hs.sat ht hk (R x) (R i) hv;exact⟨z,VV _ _ h1,h2⟩
   .simp[aE]at hv
  .rename_i k e ht;split at hv
   .rename_i hk;simp only[aE]at hv;obtain⟨z,h1,h2⟩:=D0 (P:=P) ht hk (R x) (R i) hv;exact⟨z,VV _ _ h1,h2⟩
   .simp[aE]at hv
  .simp[aE]at hv
 case index t x i=>
  split at hv
  .rename_i k e ht;split at hv
   .rename_i hk;simp only[aE]at hv;obtain⟨z,h1,h2⟩:=Hh (P:=P) ht hk (R x) (R i) hv;exact⟨z,VV _ _ h1,h2⟩
   .simp[aE]at hv
  .rename_i ht;simp only[aE]at hv;obtain⟨z,h1,h2⟩:=H0 (P:=P) ht (R x) (R i) hv;exact⟨z,VV _ _ h1,h2⟩
  .simp[aE]at hv
 case extract x i=>
  simp only[aE]at hv;have hx:=R x;unfold D8 at hv;split at hv
  .rename_i vs hvs;rw[hvs]at hx;simp only[E']at hx;obtain⟨Yf,hX,hr⟩:=hx;obtain⟨z,hz,hrz⟩:=hr.get hv;exact⟨z,VV _ _ (by simp[Instr.extract,hX,hz]),hrz⟩
  .cases hv
 case call c=>
  obtain⟨callee,args,argTypes⟩:=c;cases callee
  case value=>simp only[aE,reduceCtorEq]at hv
  case invoke=>simp only[aE,reduceCtorEq]at hv
  case builtin b=>
   cases b
   case delete=>simp only[]at hv;split at hv<;>(try split at hv)<;>simp[aE]at hv
   case copy=>simp only[]at hv;split at hv<;>(try split at hv)<;>(try split at hv)<;>simp[aE]at hv
   case len=>
    simp only[]at hv;split at hv
    .rename_i x t YE ht;have hx:=R x;have hargs':args=#[x]:=by apply Array.ext';simpa using YE
     have hlen:∀z,(Builtin.len_ argTypes o.type #[a.eval x]).run P w=.ok z w->
      (do let d <-resolve a.eval { callee:=.builtin .len,args:=args,argTypes:=argTypes } o.type;invoke d.target d.args:Sem Next).run P w=.ok (.value z) w:=by
      intro z hz;simp[resolve,invoke,Go.builtin,hargs',hz]
     have hty:Builtin.len_ argTypes o.type #[a.eval x]=Builtin.len_ #[t] o.type #[a.eval x]:=by
      simp[Builtin.len_,ht]
     split at hv
     .rename_i e he;obtain⟨z,h1,h2⟩:=Dj (P:=P) hx (by simpa only[aE]using hv) o.type (t:=t) (by simp[he]);exact⟨z,hlen z (hty▸h1),h2⟩
     .rename_i he;obtain⟨z,h1,h2⟩:=Dj (P:=P) hx (by simpa only[aE]using hv) o.type (t:=t) (by simp[he]);exact⟨z,hlen z (hty▸h1),h2⟩
     .simp[aE]at hv
    .simp[aE]at hv
   case cap=>
    simp only[]at hv;split at hv
    .rename_i x t YE ht;have hx:=R x;have hargs':args=#[x]:=by apply Array.ext';simpa using YE
     split at hv
     .rename_i hsl;obtain⟨e,he⟩:∃e,P.underlying t=some (.slice e):=by
       unfold zZ at hsl;split at hsl
       .rename_i e he;exact⟨e,he⟩
       .cases hsl
      simp only[aE,MO]at hv;split at hv
      .rename_i hn;rw[hn]at hx;simp only[E']at hx;simp only[aB]at hv;subst hv;refine⟨.int .i64 0,?_,by simp[E']⟩;simp[resolve,invoke,Go.builtin,hargs',Builtin.cap_,ht,run_underlying he,hx,goInt]
      .cases hv
     .simp[aE]at hv
    .simp[aE]at hv
   case min=>
    simp only[]at hv;split at hv
    .rename_i x y YE;have hargs':args=#[x,y]:=by apply Array.ext';simpa using YE
     obtain⟨z,h1,h2⟩:=tu (P:=P) (w:=w) (m:=false) argTypes o.type (R x) (R y) (by simpa only[aE]using hv);exact⟨z,by simpa[resolve,invoke,Go.builtin,hargs']using h1,h2⟩
    .simp[aE]at hv
   case max=>
    simp only[]at hv;split at hv
    .rename_i x y YE;have hargs':args=#[x,y]:=by apply Array.ext';simpa using YE
     obtain⟨z,h1,h2⟩:=tu (P:=P) (w:=w) (m:=true) argTypes o.type (R x) (R y) (by simpa only[aE]using hv);exact⟨z,by simpa[resolve,invoke,Go.builtin,hargs']using h1,h2⟩
    .simp[aE]at hv
   case clear=>
    simp only[]at hv;split at hv
    .split at hv
     .split at hv<;>simp[aE]at hv
     .simp[aE]at hv
    .simp[aE]at hv
   case append=>
    simp only[]at hv;split at hv
    .split at hv
     .split at hv
      .split at hv<;>simp[aE]at hv
      .simp[aE]at hv
     .split at hv
      .split at hv<;>simp[aE]at hv
      .split at hv<;>simp[aE]at hv
      .simp[aE]at hv
    .simp[aE]at hv
   all_goals simp[aE]at hv
variable {P:Program} {I:Mu} {ow:Nat->Prop} {w w':World}
def flat(rows:List V):List V:=rows.flatMap V.cells
def aN.append:∀{vs us:List V} {b off:Nat},aN I ow w (vs++us) b off↔aN I ow w vs b off/\aN I ow w us b (off+vs.length)
 |[],us,b,off=>by simp[aN]
 |v::vs,us,b,off=>by
  simp only[List.cons_append,aN,aN.append (vs:=vs),ZK];rw[show off+(vs.length+1)=off+1+vs.length by omega,and_assoc]
def jq:∀{rows:List V} {b off sz:Nat},aS I ow w rows b off sz↔(∀r∈rows,r.cells.length=sz)/\aN I ow w (flat rows) b off
 |[],b,off,sz=>by simp[aS,flat,aN]
 |r::rs,b,off,sz=>by
  have ih:=jq (rows:=rs) (b:=b) (off:=off+sz) (sz:=sz);simp only[aS,ih,dK];have e:flat (r::rs)=r.cells++flat rs:=by simp[flat]
  rw[e,aN.append];constructor
  .rintro⟨h1,h2,h3,h4⟩;exact⟨λx hx=>(cg.1 hx).elim (λe'=>e'▸h1) (h3 x),h2,by rw[h1];exact h4⟩
  .rintro⟨h1,h2,h3⟩;have h0:=h1 r (by simp);exact⟨h0,h2,λx hx=>h1 x (by simp[hx]),by rw[h0]at h3;exact h3⟩
def tI{rows:List V}{sz:Nat}(h:∀r∈rows,r.cells.length=sz):(flat rows).length=rows.length*sz:=by
 induction rows with
 |nil=>simp[flat]
 |cons r rs ih=>
  have e:flat (r::rs)=r.cells++flat rs:=by simp[flat]
  rw[e,gZ,h r (by simp),ih (λx hx=>h x (by simp[hx])),ZK,Nat.add_mul];omega
def gS(a b:List V):flat (a++b)=flat a++flat b:=by simp[flat]
def lj:∀{vs:List V} {xs:List Value} {b off:Nat},al I ow w vs xs->(∀u∈xs,u.oneCell'=true)->
 (∀(j:Nat) u,xs[j]?=some u->w.cell? ⟨b,off+j,none⟩=some u)->aN I ow w vs b off
 |[],_,_,_,_,_,_=>by simp[aN]
 |v::vs,l,b,off,h,h1,h2=>by
  simp only[al]at h;obtain⟨x,xs,rfl,h3,h4⟩:=h;simp only[aN];refine⟨⟨x,by simpa using h2 0 x (by simp),h3,h1 x (by simp)⟩,lj h4 (λu hu=>h1 u (by simp[hu])) ?_⟩;intro j u hu;have:=h2 (j+1) u (by simpa using hu)
  rwa [show off+(j+1)=off+1+j by omega]at this
def bt(U:af):Option Nat->af
 |none=>U
 |some i=>del U i
def yL{U:af}{o:Option Nat}{i:Nat}{x:Ob}(h:bt U o i=some x):U i=some x/\some i≠o:=by
 cases o with
 |none=>exact⟨h,by simp⟩
 |some k=>
  simp only[bt,del]at h;split at h
  .cases h
  .rename_i YA;exact⟨h,by simpa using YA⟩
def Sat.dr{w0:World}{Zo:Nat->Prop}{U:af}(h:Sat w0 Zo I U w):∃id,I id=.dr/\U id=none/\∀p,∃N,∀i,N<=i->(λk=>if k=id then p else I k:Mu) i=.dr:=by
 obtain⟨N,hN⟩:=h.fin;refine⟨N,hN N (YQ _),?_,λp=>⟨N+1,λi hi=>?_⟩⟩
 .cases ho:U N with
  |none=>rfl
  |some o=>
   have:=h.obj N o ho;rw[hN N (YQ _)]at this;exact this.elim
 .simp[show i≠N by omega,hN i (by omega)]
def Sat.renew{w0:World}{Zo:Nat->Prop}{U:af}(h:Sat w0 Zo I U w){row:Option Nat}(hg:w.grownBy w' row)(Yn:Option Nat)
 (hA:row=none\/∃i oA sz cap b,Yn=some i/\U i=some oA/\I i=.Zm b sz cap/\row=some b)
 (b sz cap:Nat)(cur:Array Value)(e:TypeId)(rows:List V)(xs:List Value)(hb:some b=row\/w.heap.size<=b)
 (hheap:w'.heap[b]?=some (.cells cur e (0,0)))(hsz:0<sz)(hcur:cur.size=cap*sz)(YK:rows.length<=cap)(hcap:cap<=maxLen)
 (hlen:∀r∈rows,r.cells.length=sz)(hx:al I (aA I U) w (flat rows) xs)(hone:∀u∈xs,u.oneCell'=true)
 (hpre:∀(j:Nat) u,xs[j]?=some u->cur[j]?=some u):
 ∃id,U id=none/\∃Y':Mu,Y' id=.Zm b sz cap/\cC I Y'/\Sat w0 Zo Y' (C' (bt U Yn) id ⟨e,sz,rows⟩) w'/\
  cD (aA I U) (aA Y' (C' (bt U Yn) id ⟨e,sz,rows⟩)) w w':=by
 obtain⟨id,O',YF,Zg⟩:=h.dr;refine⟨id,YF,λk=>if k=id then .Zm b sz cap else I k,by simp,λk hk=>?_,?_⟩
 .have:k≠id:=λe'=>hk (e'▸O');simp[this]
 .have hle:cC I (λk=>if k=id then .Zm b sz cap else I k):=λk hk=>by
   have:k≠id:=λe'=>hk (e'▸O');simp[this]
  have ZO:∀b',row=some b'->aA I U b':=λb' hb'=>by
   rcases hA with h1|⟨i,oA,sz',ZT,b'',h1,h2,h3,h4⟩
   .rw[h1]at hb';cases hb'
   .rw[h4]at hb';cases hb';exact⟨i,oA,sz',ZT,h2,h3⟩
  refine h.put hg ZO hle (Zg _) id ⟨e,sz,rows⟩ (λo ho=>?_) (λi o hi ho=>?_) (λb' sz' ZT hb'=>?_) (λhk=>?_)
  .simp[C']at ho;exact ho.symm
  .simp only[C',av hi]at ho;obtain⟨h1,h2⟩:=yL ho;refine⟨h1,λb' sz' ZT h3 h4=>?_⟩;rcases hA with h5|⟨iA,oA,szA,capA,bA,h5,h6,h7,h8⟩
   .rw[h5]at h4;cases h4
   .rw[h8]at h4;cases h4;have:=h.inj i iA o oA _ _ _ _ _ h1 h6 h3 h7;exact h2 (by rw[this,h5])
  .simp only[if_true,Pl.Zm.injEq]at hb';rw[<-hb'.1];exact hb
  .simp only[if_true,rk];refine .inl ⟨cur,hheap,trivial,hsz,hcur,YK,hcap,?_⟩;rw[jq];refine⟨hlen,lj (al.mono hle hk hg.size _ _ hx) hone ?_⟩;intro j u hu;rw[cell_of_row w' b _ cur e (0,0) hheap];simpa using hpre j u hu
def Sat.JZ{w0:World}{Zo:Nat->Prop}{U:af}(h:Sat w0 Zo I U w)(Yn:Option Nat)(e:TypeId)(sz:Nat):
 ∃id,U id=none/\∃Y':Mu,Y' id=.nil/\cC I Y'/\Sat w0 Zo Y' (C' (bt U Yn) id ⟨e,sz,[]⟩) w/\
  cD (aA I U) (aA Y' (C' (bt U Yn) id ⟨e,sz,[]⟩)) w w:=by
 obtain⟨id,O',YF,Zg⟩:=h.dr;have hle:cC I (λk=>if k=id then .nil else I k):=λk hk=>by
  have:k≠id:=λe'=>hk (e'▸O');simp[this]
 refine⟨id,YF,λk=>if k=id then .nil else I k,by simp,hle,?_⟩;refine h.put (row:=none) ⟨rfl,rfl,rfl,YQ _,λ_ _ _=>rfl⟩ (by simp) hle (Zg _) id ⟨e,sz,[]⟩ (λo ho=>?_) (λi o hi ho=>?_) (λb' sz' ZT hb'=>?_) (λhk=>?_)
 .simp[C']at ho;exact ho.symm
 .simp only[C',av hi]at ho;exact⟨(yL ho).1,by simp⟩
 .simp at hb'
 .simp[rk]
def Sat.change{w0:World}{Zo:Nat->Prop}{U:af}(h:Sat w0 Zo I U w){id b sz cap:Nat}{o:Ob}(ho:U id=some o)(O':I id=.Zm b sz cap)(hz:0<sz)
 (hg:w.grownBy w' (some b))(cur:Array Value)(rows:List V)(xs:List Value)
 (hheap:w'.heap[b]?=some (.cells cur o.elem (0,0)))(hcur:cur.size=cap*sz)(YK:rows.length<=cap)
 (hlen:∀r∈rows,r.cells.length=sz)(hx:al I (aA I U) w (flat rows) xs)(hone:∀u∈xs,u.oneCell'=true)
 (hpre:∀(j:Nat) u,xs[j]?=some u->cur[j]?=some u):
 Sat w0 Zo I (C' U id { o with rows:=rows }) w'/\cD (aA I U) (aA I (C' U id { o with rows:=rows })) w w':=by
 have hobat:=h.obj id o ho;rw[O']at hobat;obtain⟨_,_,h2,h3,_,_,h6,_⟩:=hobat.plain hz;refine h.put hg (λb' hb'=>by cases hb';exact⟨id,o,sz,cap,ho,O'⟩) (cC.refl _) h.fin id { o with rows:=rows } (λx YD=>by simp[C']at YD;exact YD.symm)
  (λi x hi YD=>?_) (λb' sz' ZT hb'=>?_) (λhk=>?_)
 .simp only[C',av hi]at YD;refine⟨YD,λb' sz' ZT h4 h5=>hi ?_⟩;cases h5;exact h.inj i id x o _ _ _ _ _ YD ho h4 O'
 .rw[O']at hb';cases hb';exact .inl rfl
 .rw[O'];refine .inl ⟨cur,hheap,h2,h3,hcur,YK,h6,?_⟩;rw[jq];refine⟨hlen,lj (al.mono (cC.refl _) hk hg.size _ _ hx) hone ?_⟩;intro j u hu;rw[cell_of_row w' b _ cur o.elem (0,0) hheap];simpa using hpre j u hu
def aO(s:Nat->V):Option Nat->V->Nat->V
 |none,_=>s
 |some d,v=>λi=>if i=d then v else s i
def cI.step{F:Fr}{Y':Mu}{st:St}{a:Act}{Z':af}(hs:cI F I st a w)(h1:Sat F.w0 F.Zo Y' Z' w')(h2:cC I Y')
 (h3:cD (aA I st.U) (aA Y' Z') w w')(h4:w.heap.size<=w'.heap.size){d:Option Tmp}{v:V}{x:Value}(hv:E' Y' (aA Y' Z') w' v x):
 cI F Y' ⟨aO st.s (d.filter (·<F.n)) v,Z'⟩ (a.put d x) w' where
 sat:=h1
 le:=hs.le.trans h2
 size:=by cases d<;>simp[Act.put,hs.size]
 book:=by
  have:=hs.book.gJ h3;cases d<;>simpa[Act.put]using this
 slot:=λi hi=>by
  have hold:=E'.mono h2 h3 h4 _ _ (hs.slot i hi);cases d with
  |none=>simpa[Act.put,aO]using hold
  |some d=>
   simp only[Act.put,Option.filter_some];by_cases hd:d<F.n
   .simp only[hd,decide_true,if_true,aO];by_cases O':i=d
    .subst O';simp only[if_true];rw[Zq7,Array.getElem?_setIfInBounds_self_of_lt (by rw[hs.size];exact hi)];exact hv
    .simp only[av O'];rw[Zq7,Array.getElem?_setIfInBounds_ne (λe=>O' e.symm),<-Zq7];exact hold
   .simp only[hd,decide_false,eQ,if_false,aO];rw[Zq7,Array.getElem?_setIfInBounds_ne (λ(e:d=i)=>hd (e▸hi)),<-Zq7];exact hold
def cI.pure{F:Fr}{st:St}{a:Act}(hs:cI F I st a w){d:Option Tmp}{v:V}{x:Value}(hv:E' I (aA I st.U) w v x):
 cI F I ⟨aO st.s (d.filter (·<F.n)) v,st.U⟩ (a.put d x) w:=
 hs.step hs.sat (cC.refl _) (λ_ _ h=>⟨h,rfl⟩) (YQ _) hv
variable {P:Program} {I:Mu} {ow:Nat->Prop} {w w':World}
def fk(r:V)(k sz:Nat)(x:V):Option V:=
 if x.cells.length=sz/\x.stays=true then
  (if k=0/\r.cells.length=sz then some x
   else if k+sz<=r.cells.length then some (.agg (r.cells.take k++x.cells++r.cells.drop (k+sz)))else none)
 else none
def xQ{r x r':V}{k sz:Nat}(h:fk r k sz x=some r'):x.cells.length=sz/\x.stays=true/\k+sz<=r.cells.length/\
 r'.cells=r.cells.take k++x.cells++r.cells.drop (k+sz):=by
 unfold fk at h;split at h
 .rename_i h1;split at h
  .rename_i h2;obtain⟨rfl,h3⟩:=h2;simp only[aB]at h;subst h;refine⟨h1.1,h1.2,by omega,?_⟩;simp[h3]
  .split at h
   .rename_i h3;simp only[aB]at h;subst h;exact⟨h1.1,h1.2,h3,by simp[V.cells]⟩
   .cases h
 .cases h
def Lk{rows:List V}{sz0:Nat}(hlen:∀r∈rows,r.cells.length=sz0){i:Nat}{r r':V}(hr:rows[i]?=some r){k sz:Nat}{xs:List V}
 (hk:k+sz<=sz0)(hc:r'.cells=r.cells.take k++xs++r.cells.drop (k+sz)):
 flat (rows.set i r')=(flat rows).take (i*sz0+k)++xs++(flat rows).drop (i*sz0+k+sz):=by
 induction rows generalizing i with
 |nil=>simp at hr
 |cons q rows ih=>
  have hq:=hlen q (by simp);have e:∀l,flat (q::l)=q.cells++flat l:=λl=>by simp[flat]
  cases i with
  |zero=>
   simp only[Sz,aB]at hr;subst hr;simp only[List.set_cons_zero,Nat.zero_mul,gY];rw[e,show flat (r'::rows)=r'.cells++flat rows by simp[flat],hc];rw[MN (by omega),Eu (by omega)];simp
  |succ i=>
   simp only[By]at hr;simp only[List.set_cons_succ];rw[e,e,ih (λx hx=>hlen x (by simp[hx])) hr];have e1:(i+1)*sz0+k=q.cells.length+(i*sz0+k):=by rw[hq,Nat.add_mul];omega
   have e2:(i+1)*sz0+k+sz=q.cells.length+(i*sz0+k+sz):=by omega
   rw[e1,show q.cells.length+(i*sz0+k)+sz=q.cells.length+(i*sz0+k+sz) by omega,List.take_length_add_append,List.drop_length_add_append];simp
def lE{α:Type}(l xs Yf:List α)(h:∀(j:Nat) u,xs[j]?=some u->l[j]?=some u)(o:Nat)(ho:o+Yf.length<=xs.length):
 ∀(j:Nat) u,(xs.take o++Yf++xs.drop (o+Yf.length))[j]?=some u->(l.take o++Yf++l.drop (o+Yf.length))[j]?=some u:=by
 have hl:xs.length<=l.length:=by
  rcases Nat.lt_or_ge l.length xs.length with h1|h1
  .have h2:=h l.length xs[l.length] (by simp[h1]);simp at h2
  .exact h1
 intro j u hu;simp only[lz]at hu|-;rw[OR]at hu|-;simp only[fY,Nat.min_eq_left (show o<=xs.length by omega),Nat.min_eq_left (show o<=l.length by omega)]at hu|-;split at hu
 .rename_i h1;rw[ar h1];rw[List.getElem?_take_of_lt h1]at hu|-;exact h j u hu
 .rename_i h1;rw[av h1];rw[OR]at hu|-;split at hu
  .rename_i h2;rw[ar h2];exact hu
  .rename_i h2;rw[av h2];rw[L5]at hu|-;exact h _ u hu
def aS.cur{rows:List V}{b sz:Nat}{cur:Array Value}{e:TypeId}{fr:Nat×Nat}(h:aS I ow w rows b 0 sz)(hc:w.heap[b]?=some (.cells cur e fr)):
 (∀r∈rows,r.cells.length=sz)/\∃xs,al I ow w (flat rows) xs/\(∀u∈xs,u.oneCell'=true)/\xs.length=rows.length*sz/\∀(j:Nat) u,xs[j]?=some u->cur.toList[j]?=some u:=by
 rw[jq]at h;obtain⟨h1,h2⟩:=h;obtain⟨xs,h3,h4,h5⟩:=h2.F7;refine⟨h1,xs,h3,h4,by rw[h3.length,tI h1],λj u hu=>?_⟩;have:=h5 j u hu;rw[cell_of_row w b _ cur e fr hc]at this;simpa using this
def tD{F:Fr}{st:St}{a:Act}(hs:cI F I st a w){o:Oper}{t:TypeId}{x y:Operand}(hoo:o.op=.store t x y)(hk:bL P t=true)
 {id i k:Nat}(h1:(cx F.n x).ev st.s=.ptr id i k){ob:Ob}(h2:st.U id=some ob){r r':V}(h3:ob.rows[i]?=some r)(h4:fk r k (P.cellsOf t) ((cx F.n y).ev st.s)=some r'):
 ∃w',(execOp a.eval o).run P w=.ok .skip w'/\cI F I ⟨aO st.s (o.dst.filter (·<F.n)) (.P' []),C' st.U id { ob with rows:=ob.rows.set i r' }⟩ (a.put o.dst undef) w':=by
 have R:=bH hs;obtain⟨c1,c2,c3,c4⟩:=xQ h4;have hx:=R x;have hy:=R y;rw[h1]at hx;simp only[E']at hx;split at hx
 .rename_i b szb cap O';have YV:=hs.sat.obj id ob h2;rw[O']at YV;obtain⟨hx,hz⟩:=hx;obtain⟨cur,e1,e2,e3,e4,e5,e6,e7⟩:=YV.plain hz;obtain⟨g1,xs,g2,g3,g4,g5⟩:=e7.cur e1;obtain⟨v1,v2⟩:=hy.cells c2;have vl:=hy.jU c2;have hr:r∈ob.rows:=vM h3;have hrl:=g1 r hr;have hilt:i<ob.rows.length:=(iT.1 h3).1;have hbound:i*szb+k+P.cellsOf t<=ob.rows.length*szb:=by
   have:(i+1)*szb<=ob.rows.length*szb:=Nat.mul_le_mul_right _ hilt;rw[Nat.add_mul]at this;omega
  have hbound2:ob.rows.length*szb<=cap*szb:=Nat.mul_le_mul_right _ e5;have hvl:(a.eval y).cells.toList.length=P.cellsOf t:=by rw[Array.length_toList,vl,c1]
  have Ys:=run_storeCells_at P b (i*szb+k) ob.elem (a.eval y).cells.toList 0 cur w e1 (by rw[hvl];omega) v2;simp only[Nat.add_zero]at Ys;refine⟨w.setRow b (cur.toList.take (i*szb+k)++(a.eval y).cells.toList++cur.toList.drop (i*szb+k+(a.eval y).cells.toList.length)).toArray,?_,?_⟩
  .unfold execOp;rw[hoo];simp only[Sem.run_bind,Instr.storeAt,hx,Instr.sureAddr,Sem.run_pure,Result.andThen_ok,storeVar,bW hk,Sem.run_ite,vl,c1,ne_eq,not_true_eq_false,if_false,Ys]
  .have hgrow:w.grownBy (w.setRow b (cur.toList.take (i*szb+k)++(a.eval y).cells.toList++cur.toList.drop (i*szb+k+(a.eval y).cells.toList.length)).toArray) (some b):=
    ⟨rfl,rfl,rfl,by simp,λkk _ hkk=>setRow_other w b kk _ (λe=>hkk (by rw[e]))⟩
   have hrows':∀q∈ob.rows.set i r',q.cells.length=szb:=by
    intro q hq;rcases List.mem_or_eq_of_mem_set hq with hq|rfl
    .exact g1 q hq
    .rw[c4];simp;omega
   have hflat:=Lk g1 h3 (k:=k) (sz:=P.cellsOf t) (xs:=V.cells ((cx F.n y).ev st.s)) (r':=r') (by omega) c4;have hch:=hs.sat.change h2 O' hz hgrow _ (ob.rows.set i r') (xs.take (i*szb+k)++(a.eval y).cells.toList++xs.drop (i*szb+k+(a.eval y).cells.toList.length))
    (setRow_heap w b cur _ ob.elem _ e1) (by simp only[List.size_toArray,gZ,fY,qF,Array.length_toList];rw[Array.length_toList]at hvl;omega) (by simpa using e5) hrows'
    (by rw[hflat,<-c1,<-v1.length];rw[show(a.eval y).cells.toList.length=(a.eval y).cells.toList.length from rfl];exact((g2.take _).append v1).append (g2.drop _))
    (by intro u hu
        simp only[dc]at hu;rcases hu with(hu|hu)|hu
        .exact g3 u (pz hu)
        .exact v2 u hu
        .exact g3 u (List.mem_of_mem_drop hu))
    (by intro j u hu
        have:=lE cur.toList xs _ g5 (i*szb+k) (by rw[hvl,g4];omega) j u hu;simpa using this)
   exact hs.step hch.1 (cC.refl _) hch.2 (by simp) (by simp only[E'];exact⟨[],rfl,by simp[al]⟩)
 .exact hx.elim
def gu{z:Value}(h:∀u∈z.cells.toList,u.oneCell'=true):(ofValue z).cells=z.cells.toList.map cellOf:=by
 unfold ofValue;split
 .rename_i cs;rw[ar (by simpa only[dX,Value.cells]using h)];simp[V.cells,Value.cells]
 .rename_i hz;have hc:z.cells=#[z]:=by cases z<;>simp_all [Value.cells]
  have h1:=h z (by simp[hc]);rw[hc];simpa using sM (I:=λ_=>.dr) (ow:=λ_=>True) (w:=default) (pU z) h1
def tP{F:Fr}{st:St}{a:Act}(hs:cI F I st a w){o:Oper}{t:TypeId}(hoo:o.op=.alloc t){i:TypeInfo}{z:Value}(hz:zeroOf P t=some (i,z)):
 ∃id,st.U id=none/\∃x w' Y',(execOp a.eval o).run P w=.ok (.value x) w'/\
  cI F Y' ⟨aO st.s (o.dst.filter (·<F.n)) (.ptr id 0 0),C' st.U id ⟨t,i.size,[ofValue z]⟩⟩ (a.put o.dst x) w':=by
 obtain⟨hi,hz0,hk,hzs,hone,hsz⟩:=ei hz;have ZP:=(du hk).2.2;have YZ:=gu hone;obtain⟨id,O',Y',h1,h2,h3,h4⟩:=hs.sat.renew (row:=none) (World.grownBy_alloc w (.cells z.cells t) none) none (.inl rfl) w.heap.size i.size 1 z.cells t [ofValue z] z.cells.toList (.inr (YQ _))
  (heap_alloc_new w _) (by omega) (by omega) (by simp) (by simp[maxLen]) (by intro r hr;simp at hr;subst hr;rw[YZ];simp[hzs])
  (by simp only[flat,At,List.flatMap_nil,lH,YZ];exact eK _) hone (by intro j u hu;simpa using hu)
 refine⟨id,O',.pointer (some ⟨w.heap.size,0,none⟩),w.alloc (.cells z.cells t),Y',?_,hs.step h3 h2 h4 (by simp) (by simp[E',h1];omega)⟩;unfold execOp;rw[hoo];simp[Instr.alloc,eo hz,newVar,newRow]
def wX{β:Type}(X:Nat×β->List Value)(sz:Nat):∀(ps:List (Nat×β)) (k:Nat) (l:List Value),ps.map (·.1)=List.range' k ps.length->
 (∀p∈ps,(X p).length=sz)->l.length=(k+ps.length)*sz->ps.foldl (λl p=>ec l (p.1*sz) (X p)) l=l.take (k*sz)++ps.flatMap X
 |[],k,l,_,_,hl=>by
  simp only[List.length_nil,Nat.add_zero]at hl;simp[<-hl]
 |p::ps,k,l,h,hX,hl=>by
  simp only[dS,ZK,List.range'_succ,List.cons.injEq]at h;obtain⟨h1,h2⟩:=h;have hp:=hX p (by simp);simp only[ZK]at hl;have hle:k*sz+sz<=l.length:=by
   rw[hl,<-Nat.add_one_mul];exact Nat.mul_le_mul_right _ (by omega)
  simp only[j5,At];rw[wX X sz ps (k+1) _ h2 (λq hq=>hX q (by simp[hq])) (by
   rw[lG _ _ _ (by rw[h1,hp];exact hle),hl];congr 1;omega)]
  rw[h1,ec,hp,Nat.add_one_mul];have e1:(l.take (k*sz)).length=k*sz:=by simp;omega
  have e2:k*sz+sz=(l.take (k*sz)++X p).length:=by rw[gZ,e1,hp]
  rw[e2,List.take_left];simp
def qW{F:Fr}{st:St}{a:Act}(hs:cI F I st a w){o:Oper}{t e:TypeId}{len:Nat}{parts:Array (Nat×Operand)}(hoo:o.op=.buildSlice t len parts)
 (ht:P.underlying t=some (.slice e)){i:TypeInfo}{z:Value}(hz:zeroOf P e=some (i,z))(hparts:parts.toList.map (·.1)=List.range len)(hlen:len*i.size<=16777216)
 (hx:∀x∈parts.toList.map (λp=>(cx F.n p.2).ev st.s),x.cells.length=i.size/\x.stays=true):
 ∃id,st.U id=none/\∃x w' Y',(execOp a.eval o).run P w=.ok (.value x) w'/\
  cI F Y' ⟨aO st.s (o.dst.filter (·<F.n)) (.own id 0 len),C' st.U id ⟨e,i.size,parts.toList.map λp=>(cx F.n p.2).ev st.s⟩⟩ (a.put o.dst x) w':=by
 obtain⟨hi,hz0,hk,hzs,hone,hsz⟩:=ei hz;have ZP:=(du hk).2.2;have hl:parts.toList.length=len:=by
  have:=congrArg List.length hparts;simpa using this
 have hX:∀p∈parts.toList,((cx F.n p.2).ev st.s).cells.length=i.size/\((cx F.n p.2).ev st.s).stays=true:=λp hp=>hx _ (by
  simp only[gg];exact⟨p,hp,rfl⟩)
 have hXl:∀p∈parts.toList,(a.eval p.2).cells.toList.length=i.size:=λp hp=>by
  rw[Array.length_toList,(bH hs p.2).jU (hX p hp).2,(hX p hp).1]
 have hzero:∃Z:Array Value,(len*i.size=0->Z=#[])/\(len*i.size≠0->Z=z.cells):=by
  by_cases h0:len*i.size=0
  .exact⟨#[],λ_=>rfl,λh=>absurd h0 h⟩
  .exact⟨z.cells,λh=>absurd h h0,λ_=>rfl⟩
 obtain⟨Z,hZ0,hZ1⟩:=hzero;obtain⟨cs,e1,e2,e3⟩:=oN (λk=>some (k*i.size,i.size)) ((parts.map λ(j,x)=>(j,a.eval x)).toList) ((Array.range (len*i.size)).map (Z[·%Z.size]!)) (by
  intro p hp;simp only[Array.toList_map,gg]at hp;obtain⟨q,hq,rfl⟩:=hp;refine⟨q.1*i.size,i.size,rfl,by simpa using hXl q hq,?_⟩;have:q.1∈List.range len:=by rw[<-hparts];exact gg.2 ⟨q,hq,rfl⟩
  simp only[List.mem_range]at this;simp only[Array.size_map,Array.size_range];rw[<-Nat.add_one_mul];exact Nat.mul_le_mul_right _ this)
 have hcs:cs.toList=parts.toList.flatMap λp=>(a.eval p.2).cells.toList:=by
  have e3':=e3;simp only[Array.toList_map,List.foldl_map,Option.map_some,Option.getD_some]at e3';rw[e3'];have:=wX (λp:Nat×Operand=>(a.eval p.2).cells.toList) i.size parts.toList 0 ((Array.range (len*i.size)).map (Z[·%Z.size]!)).toList
   (by rw[hparts,hl];exact List.range_eq_range') hXl (by simp[hl])
  simpa using this
 have hsize:cs.size=len*i.size:=by simpa using e2
 have hrep:∀(l:List (Nat×Operand)),(∀p∈l,((cx F.n p.2).ev st.s).stays=true)->al I (aA I st.U) w (flat (l.map λp=>(cx F.n p.2).ev st.s)) (l.flatMap λp=>(a.eval p.2).cells.toList)/\
  ∀u∈l.flatMap λp=>(a.eval p.2).cells.toList,u.oneCell'=true:=by
  intro l
  induction l with
  |nil=>intro _;simp[flat,al]
  |cons p l ih=>
   intro h;obtain⟨g1,g2⟩:=(bH hs p.2).cells (h p (by simp));obtain⟨g3,g4⟩:=ih (λq hq=>h q (by simp[hq]));refine⟨?_,?_⟩
   .simp only[flat,dS,At]at g3|-;exact g1.append g3
   .intro u hu;simp only[At,dc]at hu;rcases hu with hu|hu
    .exact g2 u hu
    .exact g4 u hu
 obtain⟨r1,r2⟩:=hrep parts.toList (λp hp=>(hX p hp).2);have hmax:len<=maxLen:=by
  have:len*1<=len*i.size:=Nat.mul_le_mul_left _ (by omega);simp only[maxLen];omega
 obtain⟨id,O',Y',h1,h2,h3,h4⟩:=hs.sat.renew (row:=none) (World.grownBy_alloc w (.cells cs e) none) none (.inl rfl) w.heap.size i.size len cs e
  (parts.toList.map λp=>(cx F.n p.2).ev st.s) cs.toList (.inr (YQ _))
  (heap_alloc_new w _) (by omega) hsize (by simp[hl]) hmax (by intro r hr;simp only[gg]at hr;obtain⟨p,hp,rfl⟩:=hr;exact(hX p hp).1)
  (by rw[hcs];exact r1) (by rw[hcs];exact r2) (by intro j u hu;simpa using hu)
 refine⟨id,O',.slice (some ⟨w.heap.size,0,none⟩) len len,w.alloc (.cells cs e),Y',?_,hs.step h3 h2 h4 (by simp) ?_⟩
 .have e1':=e1;simp only[Array.toList_map]at e1';unfold execOp;rw[hoo];simp only[Instr.buildSlice,Sem.run_bind,run_underlying ht,Result.andThen_ok,bW hk,<-hsz,Sem.run_ite];rw[av (by omega)];by_cases h0:len*i.size=0
  .rw[hZ0 h0]at e1';rw[ar h0];simp only[Sem.run_pure,Result.andThen_ok,Array.toList_map];rw[e1'];simp[newRow]
  .rw[hZ1 h0]at e1';rw[av h0];simp only[Sem.run_pure,Result.andThen_ok,Array.toList_map,eo hz];rw[e1'];simp[newRow]
 .simp only[E',h1];exact⟨0,len,rfl,YQ _,by omega,.inl (by omega),by omega⟩
def kC(z:Array Value)(n:Nat):(Builtin.zeroCells z n).toList=(List.replicate n z.toList).flatten:=by
 induction n with
 |zero=>simp[Builtin.zeroCells]
 |succ n ih=>
  rw[List.replicate_succ',List.flatten_append,<-ih];simp only[Builtin.zeroCells,Array.toList_map,Array.toList_range];rw[Nat.add_mul,Nat.one_mul,List.range_add,gl,List.map_map];congr 1;simp only[List.flatten_cons,List.flatten_nil,lH];apply List.ext_getElem
  .simp
  .intro i h1 h2;simp only[cL,List.length_range]at h1;simp[Nat.add_mod,Nat.mul_mod_left,Nat.mod_eq_of_lt h1,getElem!_pos,h1]
def wx(z:V)(n:Nat):flat (List.replicate n z)=(List.replicate n z.cells).flatten:=by
 simp[flat,List.flatMap]
def CV{F:Fr}{st:St}{a:Act}(hs:cI F I st a w){o:Oper}{t e:TypeId}{l c:Operand}(hoo:o.op=.makeSlice t l c)(heq:uM l c=true)
 (ht:P.underlying t=some (.slice e)){i:TypeInfo}{z:Value}(hz:zeroOf P e=some (i,z)){m:Int}(hm:(cx F.n l).ev st.s=.int .i64 m)(h0:0<=m)
 (hb:m.toNat*(i.bytes+1)<=140737488355328):
 ∃id,st.U id=none/\∃x w' Y',(execOp a.eval o).run P w=.ok (.value x) w'/\
  cI F Y' ⟨aO st.s (o.dst.filter (·<F.n)) (.own id 0 m.toNat),C' st.U id ⟨e,i.size,List.replicate m.toNat (ofValue z)⟩⟩ (a.put o.dst x) w':=by
 obtain⟨hi,hz0,hk,hzs,hone,hsz⟩:=ei hz;have ZP:=(du hk).2.2;have YZ:=gu hone;obtain⟨k,rfl⟩:∃k:Nat,m=k:=⟨m.toNat,by omega⟩
 simp only[eX]at hb|-;have hel:a.eval l=.int .i64 k:=by
  have:=bH hs l;rw[hm]at this;simpa[E']using this
 have hec:a.eval c=.int .i64 k:=by
  have:a.eval c=a.eval l:=by
   cases l<;>cases c<;>simp only[uM,eQ]at heq
   case tmp.tmp x y=>
    have:x=y:=by simpa using heq
    rw[this]
   case const.const x y=>
    split at heq
    .rename_i k1 a1 k2 b1 _ _;have:=of_decide_eq_true heq;rename_i e1 e2;simp_all
    .simp_all
    .cases heq
  rw[this,hel]
 have hkb:k*i.bytes<=140737488355328:=jI (Nat.mul_le_mul_left _ (by omega)) hb;have hk1:k<=140737488355328:=jI (Nat.le_mul_of_pos_right _ (by omega)) hb;have Yw:=run_make (P:=P) w t e i z ht hi hz0 .i64 .i64 k k (by omega) (by omega) (by
  have:((k*i.bytes:Nat):Int)<=140737488355328:=by omega
  rw[Int.natCast_mul]at this;rw[Int.mul_comm];omega) (by omega)
 have hmade:madeCells z.cells (k*i.size)=Builtin.zeroCells z.cells k:=by rw[madeCells,Builtin.zeroCells,hzs]
 simp only[eX]at Yw;rw[hmade]at Yw;have hl:=kC z.cells k;have hrep:∀n,al I (aA I st.U) w (flat (List.replicate n (ofValue z))) (List.replicate n z.cells.toList).flatten:=by
  intro n
  induction n with
  |zero=>simp[flat,al]
  |succ n ih=>
   simp only[List.replicate_succ,flat,At,List.flatten_cons]at ih|-;refine al.append ?_ ih;rw[YZ];exact eK _
 obtain⟨id,O',Y',h1,h2,h3,h4⟩:=hs.sat.renew (row:=none) (World.grownBy_alloc w (.cells (Builtin.zeroCells z.cells k) e) none) none (.inl rfl) w.heap.size i.size k (Builtin.zeroCells z.cells k) e
  (List.replicate k (ofValue z)) (Builtin.zeroCells z.cells k).toList (.inr (YQ _))
  (heap_alloc_new w _) (by omega) (by rw[size_zeroCells,hzs]) (by simp) (by simp only[maxLen];omega) (by
    intro r hr;rw[(List.mem_replicate.1 hr).2,YZ];simp[hzs])
  (by rw[hl];exact hrep k) (by
    rw[hl];intro u hu;simp only[List.mem_flatten,List.mem_replicate]at hu;obtain⟨l',⟨_,rfl⟩,hu⟩:=hu;exact hone u hu) (by intro j u hu;simpa using hu)
 refine⟨id,O',.slice (some ⟨w.heap.size,0,none⟩) k k,w.alloc (.cells (Builtin.zeroCells z.cells k) e),Y',?_,hs.step h3 h2 h4 (by simp) ?_⟩
 .unfold execOp;rw[hoo];simp only[hel,hec];simp[Yw]
 .simp only[E',h1];exact⟨0,k,rfl,YQ _,by omega,.inl (by omega),by omega⟩
variable {P:Program} {I:Mu} {ow:Nat->Prop} {w w':World}
def bz(U:af)(sz:Nat):V->Option (List V)
 |.own id off len=>match U id with
   |some ob=>if ob.sz=sz/\off+len<=ob.rows.length then some ((ob.rows.drop off).take len)else none
   |none=>none
 |.sl sz' rows=>if sz'=sz then some rows else none
 |.aC=>some []
 |.str s=>if sz=1 then some (s.map λb=>.int .u8 b.toNat)else none
 |_=>none
def bN(U:af)(e:TypeId)(sz:Nat):V->Option (List V×Option Nat)
 |.own id off len=>match U id with
   |some ob=>if ob.sz=sz/\ob.elem=e/\off=0/\len<=ob.rows.length then some (ob.rows.take len,some id)else none
   |none=>none
 |.aC=>some ([],none)
 |_=>none
def pJ{w0:World}{Zo:Nat->Prop}{U:af}(hsat:Sat w0 Zo I U w){sz:Nat}(hsz:0<sz){v:V}{x:Value}{rows:List V}(h:bz U sz v=some rows)
 (hx:E' I (aA I U) w v x):∃news,(∀w':World,(Builtin.lenOf x).run P w'=.ok rows.length w')/\(∀r∈rows,r.cells.length=sz)/\al I (aA I U) w (flat rows) news/\(∀u∈news,u.oneCell'=true)/\
   news.length=rows.length*sz/\∀w',(∀b off u,w.cell? ⟨b,off,none⟩=some u->w'.cell? ⟨b,off,none⟩=some u)->(Builtin.firstCells sz rows.length x).run P w'=.ok news.toArray w':=by
 have hmk:∀(rs:List V) (b off:Nat) (c:Nat),aS I (aA I U) w rs b off sz->x=.slice (some ⟨b,off,none⟩) rs.length c->rs=rows->
  ∃news,(∀w':World,(Builtin.lenOf x).run P w'=.ok rows.length w')/\(∀r∈rows,r.cells.length=sz)/\al I (aA I U) w (flat rows) news/\(∀u∈news,u.oneCell'=true)/\
  news.length=rows.length*sz/\∀w',(∀b off u,w.cell? ⟨b,off,none⟩=some u->w'.cell? ⟨b,off,none⟩=some u)->(Builtin.firstCells sz rows.length x).run P w'=.ok news.toArray w':=by
  rintro rs b off c hr rfl rfl;rw[jq]at hr;obtain⟨h1,h2⟩:=hr;obtain⟨news,h3,h4,h5⟩:=h2.F7;have hl:news.length=rs.length*sz:=by rw[h3.length,tI h1]
  refine⟨news,λ_=>rfl,h1,h3,h4,hl,λw' hw'=>?_⟩;exact run_firstCells_some (P:=P) w' sz rs.length ⟨b,off,none⟩ rs.length c news hl (λj v hv=>by rw[fK];exact hw' _ _ _ (h5 j v hv))
 have hnil:∀(a:Option Addr) (c:Nat),x=.slice a 0 c->rows=[]->
  ∃news,(∀w':World,(Builtin.lenOf x).run P w'=.ok rows.length w')/\(∀r∈rows,r.cells.length=sz)/\al I (aA I U) w (flat rows) news/\(∀u∈news,u.oneCell'=true)/\
  news.length=rows.length*sz/\∀w',(∀b off u,w.cell? ⟨b,off,none⟩=some u->w'.cell? ⟨b,off,none⟩=some u)->(Builtin.firstCells sz rows.length x).run P w'=.ok news.toArray w':=by
  rintro a c rfl rfl;refine⟨[],λ_=>rfl,by simp,by simp[flat,al],by simp,by simp,λw' _=>?_⟩;cases a<;>simp[Builtin.firstCells,loadCells,loadCellsFrom]
 unfold bz at h;split at h
 .rename_i id off len;split at h
  .rename_i ob YV;split at h
   .rename_i hc;simp only[aB]at h;simp only[E']at hx;have hobat:=hsat.obj id ob YV;have hlen:rows.length=len:=by rw[<-h];simp;omega
    split at hx
    .exact hx.elim
    .obtain⟨rfl,rfl,rfl⟩:=hx;exact hnil none 0 rfl (by rw[<-h];simp)
    .rename_i b szb cap O';obtain⟨o,c,rfl,hc1,hc2,hc3,hz⟩:=hx;by_cases h0:len=0
     .subst h0;exact hnil _ c rfl (xz hlen)
     .rw[O']at hobat;obtain⟨g1,g2,g3,g4,g5⟩:=hobat.rows hz;have ho:o=off*szb:=by
       rcases hc3 with hc3|hc3
       .exact hc3
       .omega
      subst ho;have hs:szb=sz:=by omega
      subst hs;have:=(g5.drop off).take len;rw[gY]at this;exact hmk _ b _ c this (by rw[h,hlen]) h
   .cases h
  .cases h
 .rename_i sz' X6;split at h
  .rename_i hsz';subst hsz';simp only[aB]at h;subst h;simp only[E']at hx;obtain⟨a,cap,rfl,hl,hr⟩:=hx;rcases hr with rfl|⟨b,off,rfl,hb,hs,hr⟩
   .exact hnil a cap rfl rfl
   .exact hmk X6 b off cap hr rfl rfl
  .cases h
 .simp only[aB]at h;subst h;simp only[E']at hx;exact hnil none 0 hx rfl
 .rename_i s;split at h
  .rename_i h1;simp only[aB]at h;subst h h1;simp only[E']at hx;subst hx;have hmap:∀l:List UInt8,al I (aA I U) w (flat (l.map λb=>V.int .u8 b.toNat)) (l.map λb=>Value.int .u8 b.toNat):=by
    intro l
    induction l with
    |nil=>simp[flat,al]
    |cons b l ih=>simp only[flat,dS,At,V.cells,List.singleton_append,al]at ih|-;exact⟨_,_,rfl,by simp[E'],ih⟩
   refine⟨s.map λb=>Value.int .u8 b.toNat,λ_=>by simp[Builtin.lenOf,ByteArray.size],by simp[V.cells],hmap s,by simp[Value.oneCell'],by simp,λw' _=>?_⟩;have:=Lib.run_firstCells_string (P:=P) w' 1 ⟨s.toArray⟩;simpa[ByteArray.size,Lib.strCells]using this
  .cases h
 .cases h
def uD(t t' ty e:TypeId)(i:TypeInfo)(ht:P.underlying t=some (.slice e))(ht':t'=t\/P.underlying t'=some .string)(hi:P.info? e=some i)
 (b sLen sCap:Nat)(cur:Array Value)(hg:w.heap[b]?=some (.cells cur e (0,0)))(Y:Value)(n:Nat)(news:List Value)(hl:(Builtin.lenOf Y).run P w=.ok n w)
 (hf:(Builtin.firstCells i.size n Y).run P w=.ok news.toArray w)(h1:∀u∈news,u.oneCell'=true)
 (hroom:sLen+n<=sCap)(hfit:sLen*i.size+news.length<=cur.size):
 (Builtin.append_ #[t,t'] ty #[.slice (some ⟨b,0,none⟩) sLen sCap,Y]).run P w=
   .ok (.slice (some ⟨b,0,none⟩) (sLen+n) sCap) (w.setRow b (cur.toList.take (sLen*i.size)++news++cur.toList.drop (sLen*i.size+news.length)).toArray):=by
 have Ys:=run_storeCells_at P b (sLen*i.size) e news 0 cur w hg (by simpa using hfit) h1;simp only[Nat.add_zero]at Ys;rcases ht' with rfl|ht'
 .simp[Builtin.append_,run_underlying ht,sizeOf,typeInfo,hi,hl,hroom,hf,Addr.add_lit,Ys]
 .simp[Builtin.append_,run_underlying ht,run_underlying ht',sizeOf,typeInfo,hi,hl,hroom,hf,Addr.add_lit,Ys]
def xF(t t' ty e:TypeId)(i:TypeInfo)(z:Value)(ht:P.underlying t=some (.slice e))(ht':t'=t\/P.underlying t'=some .string)(hi:P.info? e=some i)(hz:i.zero=some z)
 (ba:Option Addr)(sLen sCap:Nat)(olds:List Value)(hfo:(Builtin.firstCells i.size sLen (.slice ba sLen sCap)).run P w.drew=.ok olds.toArray w.drew)
 (Y:Value)(n:Nat)(news:List Value)(hl:(Builtin.lenOf Y).run P w=.ok n w)(hf:(Builtin.firstCells i.size n Y).run P w.drew=.ok news.toArray w.drew)
 (hg:sCap<sLen+n)(h63:((sLen+n:Nat):Int)<=9223372036854775807)(hfit:Builtin.nextslicecap (sLen+n) sCap*i.bytes<=281474976710656):
 (Builtin.append_ #[t,t'] ty #[.slice ba sLen sCap,Y]).run P w=
   .ok (.slice (some ⟨w.heap.size,0,none⟩) (sLen+n) (grownCap w (sLen+n) sCap e))
    (w.drew.alloc (.cells (olds.toArray++news.toArray++Builtin.zeroCells z.cells (grownCap w (sLen+n) sCap e-(sLen+n))) e)):=by
 have hn:¬(sLen+n<=sCap):=by omega
 have h63':¬(9223372036854775807<((sLen:Int)+(n:Int))):=by omega
 have h48':¬(281474976710656<Builtin.nextslicecap (sLen+n) sCap*i.bytes):=by omega
 rcases ht' with rfl|ht'
 .simp[Builtin.append_,run_underlying ht,sizeOf,typeInfo,zeroValue,hi,hz,hl,hn,h63',h48',Question.forced,hf,hfo,newRow,grownCap];congr 2;apply Array.ext';simp[lz]
 .simp[Builtin.append_,run_underlying ht,run_underlying ht',sizeOf,typeInfo,zeroValue,hi,hz,hl,hn,h63',h48',Question.forced,hf,hfo,newRow,grownCap];congr 2;apply Array.ext';simp[lz]
def tc{rows:List V}{sz:Nat}(h:∀r∈rows,r.cells.length=sz)(k:Nat):flat (rows.take k)=(flat rows).take (k*sz):=by
 induction rows generalizing k with
 |nil=>simp[flat]
 |cons r rs ih=>
  have e:∀l,flat (r::l)=r.cells++flat l:=λl=>by simp[flat]
  cases k with
  |zero=>simp[flat]
  |succ k=>
   rw[pA,e,e,ih (λx hx=>h x (by simp[hx])),Nat.add_mul,Nat.one_mul,Ej,<-h r (by simp),List.take_length_add_append]
def rI{F:Fr}{st:St}{a:Act}(hs:cI F I st a w){o:Oper}{t t' e:TypeId}{x y:Operand}{args:Array Operand}{argTypes:Array TypeId}
 (hoo:o.op=.call { callee:=.builtin .append,args:=args,argTypes:=argTypes })(YE:args=#[x,y])(hty:argTypes=#[t,t'])(ht':t'=t\/P.underlying t'=some .string)(ht:P.underlying t=some (.slice e))
 {i:TypeInfo}{z:Value}(hz:zeroOf P e=some (i,z)){base src:List V}{Yn:Option Nat}
 (hd:bN st.U e i.size ((cx F.n x).ev st.s)=some (base,Yn))(hsrc:bz st.U i.size ((cx F.n y).ev st.s)=some src)
 (hbytes:(base.length+src.length)*(i.bytes+1)<=140737488355328):
 ∃id,st.U id=none/\∃r w' Y',(execOp a.eval o).run P w=.ok (.value r) w'/\
  cI F Y' ⟨aO st.s (o.dst.filter (·<F.n)) (.own id 0 (base.length+src.length)),C' (bt st.U Yn) id ⟨e,i.size,base++src⟩⟩ (a.put o.dst r) w':=by
 obtain⟨hi,hz0,hk,hzs,hone,hszc⟩:=ei hz;have ZP:0<i.size:=by rw[hszc];exact(du hk).2.2
 have hbytes1:(base.length+src.length)*i.bytes<=140737488355328:=jI (Nat.mul_le_mul_left _ (by omega)) hbytes;have hbytes2:base.length+src.length<=140737488355328:=jI (Nat.le_mul_of_pos_right _ (by omega)) hbytes;obtain⟨news,hY,n1,n2,n3,n4,n5⟩:=pJ (P:=P) hs.sat ZP hsrc (bH hs y);have hexec:∀r w',(Builtin.append_ #[t,t'] o.type #[a.eval x,a.eval y]).run P w=.ok r w'->(execOp a.eval o).run P w=.ok (.value r) w':=by
  intro r w' h;unfold execOp;rw[hoo];subst YE hty;simp[resolve,invoke,Go.builtin,h]
 have hdrew:∀b off u,w.cell? ⟨b,off,none⟩=some u->w.drew.cell? ⟨b,off,none⟩=some u:=λ_ _ _ h=>h;have h63:base.length+src.length<=maxLen:=by simp only[maxLen];omega
 have h63':((base.length+src.length:Nat):Int)<=9223372036854775807:=by omega
 have hnew:∀(Yn:Option Nat) (ba:Option Addr) (old:Nat) (olds:List Value),old<base.length+src.length->a.eval x=.slice ba base.length old->
  (Builtin.firstCells i.size base.length (.slice ba base.length old)).run P w.drew=.ok olds.toArray w.drew->olds.length=base.length*i.size->
  (∀r∈base,r.cells.length=i.size)->al I (aA I st.U) w (flat base) olds->(∀u∈olds,u.oneCell'=true)->
  ∃id,st.U id=none/\∃r w' Y',(execOp a.eval o).run P w=.ok (.value r) w'/\
   cI F Y' ⟨aO st.s (o.dst.filter (·<F.n)) (.own id 0 (base.length+src.length)),C' (bt st.U Yn) id ⟨e,i.size,base++src⟩⟩ (a.put o.dst r) w':=by
  intro Yn ba old olds hold hX hfo hol hb1 Zl hb3;have Yw:=xF (P:=P) (w:=w) t t' o.type e i z ht ht' hi hz0 ba base.length old olds hfo (a.eval y) src.length news (hY w) (n5 w.drew hdrew) hold h63' (growslice_fits hold hbytes1);rw[<-hX]at Yw;have hge:=grownCap_ge w (base.length+src.length) old e;have hle:=grownCap_le_maxLen w (base.length+src.length) old e h63;have hlen2:(olds.toArray++news.toArray++Builtin.zeroCells z.cells (grownCap w (base.length+src.length) old e-(base.length+src.length))).size=grownCap w (base.length+src.length) old e*i.size:=by
   simp only[Array.size_append,List.size_toArray,size_zeroCells,hzs,hol,n4,<-Nat.add_mul];congr 1;omega
  obtain⟨id,O',Y',g1,g2,g3,g4⟩:=hs.sat.renew (row:=none)
   (w':=w.drew.alloc (.cells (olds.toArray++news.toArray++Builtin.zeroCells z.cells (grownCap w (base.length+src.length) old e-(base.length+src.length))) e))
   ⟨rfl,rfl,rfl,by simp,λk hk _=>heap_alloc_old w.drew _ k hk⟩ Yn (.inl rfl) w.heap.size i.size (grownCap w (base.length+src.length) old e) _ e (base++src) (olds++news)
   (.inr (YQ _)) (heap_alloc_new w.drew _) ZP hlen2 (by simpa using hge) hle
   (by intro r hr;rcases dc.1 hr with hr|hr;exact hb1 r hr;exact n1 r hr) (by rw[gS];exact Zl.append n2)
   (by intro u hu;rcases dc.1 hu with hu|hu;exact hb3 u hu;exact n3 u hu)
   (by intro j u hu
       have hj:=(iT.1 hu).1;rw[<-Array.getElem?_toList];simp only[Array.toList_append];rw[Ez (by simpa using hj)];exact hu)
  refine⟨id,O',_,_,Y',hexec _ _ Yw,hs.step g3 g2 g4 (by simp) ?_⟩;simp only[E',g1];exact⟨0,_,rfl,hge,by omega,.inl (by omega),by omega⟩
 have hnil:a.eval x=.slice none 0 0->base=[]->∃id,st.U id=none/\∃r w' Y',(execOp a.eval o).run P w=.ok (.value r) w'/\
  cI F Y' ⟨aO st.s (o.dst.filter (·<F.n)) (.own id 0 (base.length+src.length)),C' (bt st.U Yn) id ⟨e,i.size,base++src⟩⟩ (a.put o.dst r) w':=by
  rintro hX rfl;by_cases h0:src.length=0
  .have hsrc0:src=[]:=xz h0;subst hsrc0;obtain⟨id,O',Y',g1,g2,g3,g4⟩:=hs.sat.JZ Yn e i.size;have hf:=n5 w (λ_ _ _ h=>h);refine⟨id,O',.slice none 0 0,w,Y',hexec _ _ ?_,hs.step g3 g2 g4 (YQ _) (by simp[E',g1])⟩;rw[hX];have hl:=hY w;simp only[List.length_nil]at hf hl|-;rcases ht' with rfl|ht'
   .simp[Builtin.append_,run_underlying ht,sizeOf,typeInfo,hi,hl,hf]
   .simp[Builtin.append_,run_underlying ht,run_underlying ht',sizeOf,typeInfo,hi,hl,hf]
  .exact hnew Yn none 0 [] (by simp;omega) hX (by simp[Builtin.firstCells]) (by simp) (by simp) (by simp[flat,al]) (by simp)
 have hx:=bH hs x;unfold bN at hd;split at hd
 .rename_i id off len hxv;rw[hxv]at hx;split at hd
  .rename_i ob YV;split at hd
   .rename_i hc;obtain⟨c1,c2,rfl,c4⟩:=hc;simp only[aB,Prod.mk.injEq]at hd;obtain⟨rfl,rfl⟩:=hd;have hobat:=hs.sat.obj id ob YV;simp only[E']at hx;split at hx
    .exact hx.elim
    .rename_i O';obtain⟨hX,_,rfl⟩:=hx;exact hnil hX (by simp)
    .rename_i b szb cap O';obtain⟨off',c,hX,hc1,hc2,hc3,hz⟩:=hx;have ho:off'=0:=by
      rcases hc3 with hc3|hc3
      .simpa using hc3
      .exact absurd rfl hc3.2
     subst ho;rw[O']at hobat;obtain⟨cur,e1,e2,e3,e4,e5,e6,e7⟩:=hobat.plain hz;obtain⟨q1,xs,q2,q3,q4,q5⟩:=e7.cur e1;rw[c2]at e1;have hszb:szb=i.size:=by omega
     subst hszb;have ZE:(ob.rows.take len).length=len:=by simp;omega
     have holen:(xs.take (len*i.size)).length=len*i.size:=by
      rw[fY,q4];exact Nat.min_eq_left (Nat.mul_le_mul_right _ c4)
     have hb1:∀r∈ob.rows.take len,r.cells.length=i.size:=λr hr=>q1 r (pz hr);have Zl:al I (aA I st.U) w (flat (ob.rows.take len)) (xs.take (len*i.size)):=by rw[tc q1];exact q2.take _
     have hb3:∀u∈xs.take (len*i.size),u.oneCell'=true:=λu hu=>q3 u (pz hu);have hpre:∀(j:Nat) u,(xs.take (len*i.size))[j]?=some u->cur.toList[j]?=some u:=by
      intro j u hu;rw[List.getElem?_take]at hu;split at hu
      .exact q5 j u hu
      .cases hu
     by_cases hroom:len+src.length<=c
     .have hcap:len+src.length<=cap:=by omega
      have hfit:len*i.size+news.length<=cur.size:=by rw[n4,e4,<-Nat.add_mul];exact Nat.mul_le_mul_right _ hcap
      have hf:=n5 w (λ_ _ _ h=>h);have Yw:=uD (P:=P) (w:=w) t t' o.type e i ht ht' hi b len c cur e1 (a.eval y) src.length news (hY w) hf n3 hroom hfit;rw[<-hX]at Yw;obtain⟨ZD,hid',Y',g1,g2,g3,g4⟩:=hs.sat.renew (row:=some b)
       (w':=w.setRow b (cur.toList.take (len*i.size)++news++cur.toList.drop (len*i.size+news.length)).toArray)
       ⟨rfl,rfl,rfl,by simp,λk hk hkk=>setRow_other w b k _ (λe=>hkk (by rw[e]))⟩ (some id) (.inr ⟨id,ob,i.size,cap,b,rfl,YV,O',rfl⟩) b i.size cap _ e (ob.rows.take len++src)
       (xs.take (len*i.size)++news) (.inl rfl) (setRow_heap w b cur _ e _ e1) e3
       (by simp only[List.size_toArray,gZ,fY,qF,Array.length_toList];omega) (by rw[gZ,ZE];exact hcap) e6
       (by intro r hr;rcases dc.1 hr with hr|hr;exact hb1 r hr;exact n1 r hr) (by rw[gS];exact Zl.append n2)
       (by intro u hu;rcases dc.1 hu with hu|hu;exact hb3 u hu;exact n3 u hu)
       (by intro j u hu
           have hj:=(iT.1 hu).1;have htake:cur.toList.take (len*i.size)=xs.take (len*i.size):=by
            apply List.ext_getElem?;intro k;by_cases hk:k<len*i.size
            .have hkx:k<(xs.take (len*i.size)).length:=by omega
             rw[Zq6 hkx,List.getElem?_take_of_lt hk];exact hpre k _ (Zq6 hkx)
            .rw[rO (by simp;omega),rO (by omega)]
           rw[<-Array.getElem?_toList];simp only[];rw[htake,Ez (by simpa using hj)];exact hu)
      rw[ZE];refine⟨ZD,hid',_,_,Y',hexec _ _ Yw,hs.step g3 g2 g4 (by simp) ?_⟩;simp only[E',g1];exact⟨0,c,rfl,hroom,by omega,.inl (by omega),by omega⟩
     .refine hnew (some id) (some ⟨b,0,none⟩) c (xs.take (len*i.size)) (by rw[ZE];omega) (by rw[ZE];exact hX) ?_ (by rw[ZE];exact holen) hb1 Zl hb3;rw[ZE];refine run_firstCells_some (P:=P) w.drew i.size len ⟨b,0,none⟩ len c _ holen (λj u hu=>?_);rw[fK,gY,World.cell?_drew,cell_of_row w b j cur e (0,0) e1];simpa using hpre j u hu
   .cases hd
  .cases hd
 .rename_i hxv;rw[hxv]at hx;simp only[aB,Prod.mk.injEq]at hd;obtain⟨rfl,rfl⟩:=hd;simp only[E']at hx;exact hnil hx rfl
 .cases hd
def wa{F:Fr}{st:St}{a:Act}(hs:cI F I st a w){o:Oper}{t tn e:TypeId}{kn:IntKind}{x y:Operand}{args:Array Operand}{argTypes:Array TypeId}
 (hoo:o.op=.call { callee:=.builtin .append,args:=args,argTypes:=argTypes })(YE:args=#[x,y])(hty:argTypes=#[t,tn])(ht:P.underlying t=some (.slice e))(htn:P.underlying tn=some (.int kn))
 {i:TypeInfo}{z:Value}(hz:zeroOf P e=some (i,z))(hx:(cx F.n x).ev st.s=.aC){kq:IntKind}{m:Int}(hm:(cx F.n y).ev st.s=.int kq m)(h0:0<m)
 (hb:m.toNat*(i.bytes+1)<=140737488355328):
 ∃id,st.U id=none/\∃r w' Y',(execOp a.eval o).run P w=.ok (.value r) w'/\
  cI F Y' ⟨aO st.s (o.dst.filter (·<F.n)) (.own id 0 m.toNat),C' st.U id ⟨e,i.size,List.replicate m.toNat (ofValue z)⟩⟩ (a.put o.dst r) w':=by
 obtain⟨hi,hz0,hk,hzs,hone,hszc⟩:=ei hz;have ZP:0<i.size:=by rw[hszc];exact(du hk).2.2
 have YZ:=gu hone;obtain⟨k,rfl⟩:∃k:Nat,m=k:=⟨m.toNat,by omega⟩
 simp only[eX]at hb|-;have hkb:k*i.bytes<=140737488355328:=jI (Nat.mul_le_mul_left _ (by omega)) hb;have hk1:k<=140737488355328:=jI (Nat.le_mul_of_pos_right _ (by omega)) hb;have hX:a.eval x=.slice none 0 0:=by
  have:=bH hs x;rw[hx]at this;simpa[E']using this
 have hY:a.eval y=.int kq k:=by
  have:=bH hs y;rw[hm]at this;simpa[E']using this
 have Yw:=Lib.run_append_grow_zeros (P:=P) w t tn o.type e i z kq kn ht htn hi hz0 none 0 0 [] (run_firstCells_none w.drew i.size 0 0 0) k (by omega) ZP (by omega) (by omega) (by omega)
  (growslice_fits (by omega) (by rw[gY];exact hkb))
 rw[<-hX,<-hY,gY]at Yw;have hge:=grownCap_ge w k 0 e;have hle:=grownCap_le_maxLen w k 0 e (by simp only[maxLen];omega);have hl:=kC z.cells k;have hrep:∀n,al I (aA I st.U) w (flat (List.replicate n (ofValue z))) (List.replicate n z.cells.toList).flatten:=by
  intro n
  induction n with
  |zero=>simp[flat,al]
  |succ n ih=>
   simp only[List.replicate_succ,flat,At,List.flatten_cons]at ih|-;refine al.append ?_ ih;rw[YZ];exact eK _
 obtain⟨id,O',Y',g1,g2,g3,g4⟩:=hs.sat.renew (row:=none)
  (w':=w.drew.alloc (.cells (([]:List Value).toArray++Builtin.zeroCells z.cells k++Builtin.zeroCells z.cells (grownCap w k 0 e-k)) e))
  ⟨rfl,rfl,rfl,by simp,λk hk _=>heap_alloc_old w.drew _ k hk⟩ none (.inl rfl) w.heap.size i.size (grownCap w k 0 e) _ e (List.replicate k (ofValue z)) (Builtin.zeroCells z.cells k).toList
  (.inr (YQ _)) (heap_alloc_new w.drew _) ZP (by
    simp only[Array.size_append,List.size_toArray,size_zeroCells,hzs,List.length_nil,gY,<-Nat.add_mul];congr 1;omega) (by simpa using hge) hle
  (by
    intro r hr;rw[(List.mem_replicate.1 hr).2,YZ];simp[hzs]) (by rw[hl];exact hrep k)
  (by
    rw[hl];intro u hu;simp only[List.mem_flatten,List.mem_replicate]at hu;obtain⟨l',⟨_,rfl⟩,hu⟩:=hu;exact hone u hu)
  (by
    intro j u hu;have hj:=(iT.1 hu).1;rw[<-Array.getElem?_toList];simp only[Array.toList_append,kA];rw[Ez hj];exact hu)
 refine⟨id,O',.slice (some ⟨w.heap.size,0,none⟩) k (grownCap w k 0 e),_,Y',?_,hs.step g3 g2 g4 (by simp) ?_⟩
 .unfold execOp;rw[hoo];subst YE hty;simp[resolve,invoke,Go.builtin,Yw]
 .simp only[E',g1];exact⟨0,_,rfl,hge,by omega,.inl (by omega),by omega⟩
end Go.Vc
