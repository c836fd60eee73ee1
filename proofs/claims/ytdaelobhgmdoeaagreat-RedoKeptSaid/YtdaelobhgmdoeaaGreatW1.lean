/- Part 1 of the library of this proof. -/
import Derived.Calls
import Derived.Below
import Derived.Laws.AppendOwn
import Derived.Tactics
import Derived.ChangeKeysEq
import Derived.Orders
import Derived.Laws.MakeOwn
import Derived.Lib.AppendZerosOnto
import Derived.Lib.AppendStr
set_option linter.all false
set_option maxHeartbeats 8000000
namespace Go.Vc
def Oi{α:Type _}(a b:α):(some a=some b)=(a=b):=Option.some.injEq a b
def Ba(a b:Bool):((a&&b)=true)=(a=true/\b=true):=Bool.and_eq_true a b
def ZS:=@List.take_succ_eq_append_getElem
def XI:=@List.getElem_mem
def Xm:=@Nat.le_refl
def Xr:=@decide_eq_false
def XJ:=@decide_eq_true
def XX:=@List.length_cons
def ZF:=@List.getElem?_eq_getElem
def Zq7:=@Array.getD_eq_getD_getElem?
def Zq8:=@Option.map_eq_some_iff
def Zs:=@decide_eq_true_eq
def gF:=@List.drop_eq_getElem_cons
def dd:=@List.length_map
def jn:=@List.getElem?_eq_some_iff
def fG:=@Bool.false_eq_true
def MS:=@Nat.eq_of_beq_eq_true
def db:=@List.mem_cons
def fc:=@Int.toNat_natCast
def dD:=@List.mem_append
def eT:=@List.all_eq_true
def eo:=@List.map_cons
def lg:=@List.take_of_length_le
def iz:=@List.length_append
def oz:=@Array.getElem?_eq_some_iff
def iR:=@List.take_length
def gO:=@List.length_take
def gB:=@List.map_append
def ye:=@Nat.le_of_ble_eq_true
def pW:=@List.getD_eq_getElem?_getD
def rF:=@List.eq_nil_of_length_eq_zero
def oe:=@List.all_cons
def my:=@List.append_assoc
def jm:=@List.foldl_cons
def iV:=@Nat.zero_add
def j6:=@List.nil_append
def kX:=@Bool.or_eq_true
def px:=@List.take_succ_cons
def oE:=@List.getElem?_eq_none
def lO:=@List.append_nil
def aq:=@if_pos
def ao:=@if_neg
def Cv:=@List.getElem?_append_left
def KO:=@List.getElem?_append_right
def qX:=@List.getElem?_map
def oG:=@List.length_drop
def jV:=@List.mem_singleton
def uR:=@List.take_append_drop
def zN:=@List.drop_length
def vz:=@List.foldl_append
def LV:=@List.take_add_one
def qp:=@List.mem_of_mem_take
def Mg:=@List.getElem?_drop
def wV:=@List.drop_zero
def gM:=@List.mem_map
def L4:=@List.getElem?_cons_zero
def uP:=@List.getElem?_cons_succ
def xF:=@List.drop_eq_nil_of_le
def yk:=@List.mem_of_getElem?
def py:=@List.length_pos_iff
def jx:=@Nat.le_trans
def DK:=@Nat.add_comm
def PX:=@List.any_eq_true
def L8:=@List.getElem?_eq_none_iff
def Q7:=@List.getElem?_append
def AA:=@List.flatMap_cons
def tm:=@List.mem_filter
def MW:=@List.take_append_of_le_length
def Eb:=@List.drop_append_of_le_length
def Em:=@List.drop_succ_cons
def DE:=@List.getElem?_of_mem
def SF:=@Option.bind_eq_some_iff
def aI:=@Oi
def WE{p:Prop}(h:p:=by omega):p=True:=eq_true h
def O'{p:Prop}(h:¬p:=by omega):p=False:=eq_false h
inductive V where
 |undef
 |int (k:IntKind) (n:Int)
 |bool (b:Bool)
 |str (s:List UInt8)
 |ay
 |sl (sz:Nat) (rows:List V)
 |own (id off len:Nat)
 |ptr (id i k:Nat)
 |rp (v:V)
 |XY
 |fn (f:FuncId) (caps:List V)
 |bm (f:FuncId) (first:List V)
 |Xu
 |iface (t:TypeId) (v:V)
 |Xx
 |agg (cells:List V)
 |WJ (vs:List V)
 |raw (v:Value)
 |obj (o:Obj)
 |gp (id:Nat)
 |yl (id:Nat)
 |mp (id:Nat)
 deriving Inhabited
inductive Pl where
 |dC
 |nil
 |XK (b sz cap:Nat)
abbrev Mu:=Nat->Pl
structure Ob where
 elem:TypeId
 sz:Nat
 rows:List V
abbrev ag:=Nat->Option Ob
def V.cells:V->List V
 |.agg vs=>vs
 |v=>[v]
mutual
def E'(I:Mu)(ow:Nat->Prop)(w:World):V->Value->Prop
 |.undef,_=>True
 |.int k n,x=>x=.int k n
 |.bool b,x=>x=.bool b
 |.str s,x=>x=.string ⟨s.toArray⟩
 |.ay,x=>x=.slice none 0 0
 |.sl sz rows,x=>∃a cap,x=.slice a rows.length cap/\rows.length<=cap/\
   (rows=[]\/∃b off,a=some ⟨b,off,none⟩/\¬ow b/\0<sz/\aT I ow w rows b off sz)
 |.own id off len,x=>match I id with
   |.dC=>False
   |.nil=>x=.slice none 0 0/\off=0/\len=0
   |.XK b sz cap=>∃o c,x=.slice (some ⟨b,o,none⟩) len c/\len<=c/\off+c<=cap/\(o=off*sz\/c=0/\off≠0)/\0<sz
 |.ptr id i k,x=>match I id with
   |.XK b sz _=>x=.pointer (some ⟨b,i*sz+k,none⟩)/\0<sz
   |_=>False
 |.rp v,x=>∃b off,x=.pointer (some ⟨b,off,none⟩)/\b<w.heap.size/\(v.cells=[]\/¬ow b)/\br I ow w v b off
 |.XY,x=>x=.pointer none
 |.fn f caps,x=>∃WO,x=.func (.func f) #[] ⟨WO⟩/\ar I ow w caps WO
 |.bm f first,x=>∃WO,x=.func (.func f) ⟨WO⟩ #[]/\ar I ow w first WO
 |.Xu,x=>x=.nilFunc
 |.iface t v,x=>∃y,x=.iface t y/\E' I ow w v y
 |.Xx,x=>x=.nilIface
 |.agg vs,x=>∃WO,x=.agg ⟨WO⟩/\ar I ow w vs WO/\∀u∈WO,u.oneCell'=true
 |.WJ vs,x=>∃WO,x=.tuple ⟨WO⟩/\ar I ow w vs WO
 |.raw v,x=>x=v
 |.obj _,_=>False
 |.gp id,x=>match I id with
   |.XK b 0 _=>x=.pointer (some ⟨b,0,none⟩)
   |_=>False
 |.yl id,x=>match I id with
   |.XK b 0 _=>x=.func (.yield b) #[] #[]
   |_=>False
 |.mp id,x=>match I id with
   |.XK b 0 _=>x=.map (some b)
   |_=>False
/-- one by one -/
def ar(I:Mu)(ow:Nat->Prop)(w:World):List V->List Value->Prop
 |[],l=>l=[]
 |v::vs,l=>∃x xs,l=x::xs/\E' I ow w v x/\ar I ow w vs xs
/-- cells,one behind the other -/
def aO(I:Mu)(ow:Nat->Prop)(w:World):List V->Nat->Nat->Prop
 |[],_,_=>True
 |v::vs,b,off=>(∃x,w.cell? ⟨b,off,none⟩=some x/\E' I ow w v x/\x.oneCell'=true)/\aO I ow w vs b (off+1)
/-- an element -/
def br(I:Mu)(ow:Nat->Prop)(w:World):V->Nat->Nat->Prop
 |.agg vs,b,off=>aO I ow w vs b off
 |v,b,off=>∃x,w.cell? ⟨b,off,none⟩=some x/\E' I ow w v x/\x.oneCell'=true
/-- elements,one behind the other -/
def aT(I:Mu)(ow:Nat->Prop)(w:World):List V->Nat->Nat->Nat->Prop
 |[],_,_,_=>True
 |r::rs,b,off,sz=>r.cells.length=sz/\br I ow w r b off/\aT I ow w rs b (off+sz) sz
end
def dT(I:Mu)(ow:Nat->Prop)(w:World)(v:V)(b off:Nat):br I ow w v b off↔aO I ow w v.cells b off:=by
 cases v<;>simp[br,aO,V.cells]
def cI(I Y':Mu):Prop:=∀id,I id≠.dC->Y' id=I id
def cI.refl(I:Mu):cI I I:=λ_ _=>rfl
def cI.trans{I Y' Y'':Mu}(h:cI I Y')(h':cI Y' Y''):cI I Y'':=λid P'=>by
 have e:=h id P';rw[h' id (by rw[e];exact P'),e]
def cM(ow Zu:Nat->Prop)(w w':World):Prop:=∀b,b<w.heap.size->¬ow b->¬Zu b/\w'.heap[b]?=w.heap[b]?
def rW(ow Zu:Nat->Prop)(w w':World):Prop:=∀b,(∃off x,w.cell? ⟨b,off,none⟩=some x)->¬ow b->¬Zu b/\∀(off:Nat) (x:Value),w.cell? ⟨b,off,none⟩=some x->w'.cell? ⟨b,off,none⟩=some x
def eI{w w':World}{b:Nat}(h:w'.heap[b]?=w.heap[b]?)(off:Nat)(x:Value)(hx:w.cell? ⟨b,off,none⟩=some x):w'.cell? ⟨b,off,none⟩=some x:=by
 rw[World.cell?_of_block (w:=w) (w':=w') (a:=⟨b,off,none⟩) h];exact hx
def cM.toC{ow Zu:Nat->Prop}{w w':World}(h:cM ow Zu w w'):rW ow Zu w w':=λb ⟨off,x,hx⟩ hn=>by
 have hb:b<w.heap.size:=World.block_lt_of_cell? w _ hx;exact⟨(h b hb hn).1,eI (h b hb hn).2⟩
section
variable {I Y':Mu} {ow Zu:Nat->Prop} {w w':World} (hm:cI I Y') (hk:rW ow Zu w w') (hz:w.heap.size<=w'.heap.size)
include hm hk hz
mutual
def E'.bQ:∀(v:V) (x:Value),E' I ow w v x->E' Y' Zu w' v x
 |.undef,_,_=>by simp[E']
 |.int k n,x,h=>by simpa[E']using h
 |.bool b,x,h=>by simpa[E']using h
 |.str s,x,h=>by simpa[E']using h
 |.ay,x,h=>by simpa[E']using h
 |.sl sz rows,x,h=>by
  simp only[E']at h|-;obtain⟨a,cap,hx,hl,hr⟩:=h;refine⟨a,cap,hx,hl,?_⟩;rcases hr with hr|⟨b,off,ha,hb,hs,hr⟩
  .exact .inl hr
  .cases rows with
   |nil=>exact .inl rfl
   |cons r rs=>
    have H':∃o y,w.cell? ⟨b,o,none⟩=some y:=by
     have h2:=hr;simp only[aT]at h2;obtain⟨h1,h2,_⟩:=h2;rw[dT]at h2;cases hc:r.cells with
     |nil=>rw[hc]at h1;simp at h1;omega
     |cons c cs=>
      rw[hc]at h2;simp only[aO]at h2;obtain⟨⟨y,hy,_⟩,_⟩:=h2;exact⟨_,y,hy⟩
    exact .inr ⟨b,off,ha,(hk b H' hb).1,hs,aT.bQ (r::rs) b off sz (hk b H' hb).2 hr⟩
 |.own id off len,x,h=>by
  simp only[E']at h|-;cases P':I id with
  |dC=>rw[P']at h;exact h.elim
  |nil=>rw[hm id (by rw[P'];simp)];exact h
  |XK b sz cap=>rw[hm id (by rw[P'];simp)];exact h
 |.ptr id i k,x,h=>by
  simp only[E']at h|-;cases P':I id with
  |dC=>rw[P']at h;exact h.elim
  |nil=>rw[P']at h;exact h.elim
  |XK b sz cap=>rw[hm id (by rw[P'];simp)];exact h
 |.rp v,x,h=>by
  simp only[E']at h|-;obtain⟨b,off,hx,H',hb,hr⟩:=h;refine⟨b,off,hx,Nat.lt_of_lt_of_le H' hz,?_⟩;cases hc:v.cells with
  |nil=>
   refine⟨.inl rfl,?_⟩;rw[dT,hc];simp[aO]
  |cons c cs=>
   have h2:=hr;rw[dT,hc]at h2;simp only[aO]at h2;obtain⟨⟨y,hy,_⟩,_⟩:=h2;have Yc:=hk b ⟨_,y,hy⟩ (hb.resolve_left (by rw[hc];simp));exact⟨.inr Yc.1,br.bQ v b off Yc.2 hr⟩
 |.XY,x,h=>by simpa[E']using h
 |.fn f caps,x,h=>by
  simp only[E']at h|-;obtain⟨WO,hx,hr⟩:=h;exact⟨WO,hx,ar.bQ caps WO hr⟩
 |.bm f caps,x,h=>by
  simp only[E']at h|-;obtain⟨WO,hx,hr⟩:=h;exact⟨WO,hx,ar.bQ caps WO hr⟩
 |.Xu,x,h=>by simpa[E']using h
 |.iface t v,x,h=>by
  simp only[E']at h|-;obtain⟨y,hx,hr⟩:=h;exact⟨y,hx,E'.bQ v y hr⟩
 |.Xx,x,h=>by simpa[E']using h
 |.agg vs,x,h=>by
  simp only[E']at h|-;obtain⟨WO,hx,hr,h1⟩:=h;exact⟨WO,hx,ar.bQ vs WO hr,h1⟩
 |.WJ vs,x,h=>by
  simp only[E']at h|-;obtain⟨WO,hx,hr⟩:=h;exact⟨WO,hx,ar.bQ vs WO hr⟩
 |.raw v,x,h=>by simpa[E']using h
 |.obj o,x,h=>by simp[E']at h
 |.gp id,x,h=>by
  simp only[E']at h|-;cases P':I id with
  |dC=>rw[P']at h;exact h.elim
  |nil=>rw[P']at h;exact h.elim
  |XK b sz cap=>rw[hm id (by rw[P'];simp)];exact h
 |.yl id,x,h=>by
  simp only[E']at h|-;cases P':I id with
  |dC=>rw[P']at h;exact h.elim
  |nil=>rw[P']at h;exact h.elim
  |XK b sz cap=>rw[hm id (by rw[P'];simp)];exact h
 |.mp id,x,h=>by
  simp only[E']at h|-;cases P':I id with
  |dC=>rw[P']at h;exact h.elim
  |nil=>rw[P']at h;exact h.elim
  |XK b sz cap=>rw[hm id (by rw[P'];simp)];exact h
def ar.bQ:∀(vs:List V) (l:List Value),ar I ow w vs l->ar Y' Zu w' vs l
 |[],l,h=>by simpa[ar]using h
 |v::vs,l,h=>by
  simp only[ar]at h|-;obtain⟨x,xs,hx,h1,h2⟩:=h;exact⟨x,xs,hx,E'.bQ v x h1,ar.bQ vs xs h2⟩
def aO.bQ:∀(vs:List V) (b off:Nat),(∀(off:Nat) (x:Value),w.cell? ⟨b,off,none⟩=some x->w'.cell? ⟨b,off,none⟩=some x)->aO I ow w vs b off->aO Y' Zu w' vs b off
 |[],_,_,_,_=>by simp[aO]
 |v::vs,b,off,hb,h=>by
  simp only[aO]at h|-;obtain⟨⟨x,hx,h1,h2⟩,h3⟩:=h;exact⟨⟨x,hb _ _ hx,E'.bQ v x h1,h2⟩,aO.bQ vs b (off+1) hb h3⟩
def br.bQ:∀(v:V) (b off:Nat),(∀(off:Nat) (x:Value),w.cell? ⟨b,off,none⟩=some x->w'.cell? ⟨b,off,none⟩=some x)->br I ow w v b off->br Y' Zu w' v b off
 |.agg vs,b,off,hb,h=>by
  simp only[br]at h|-;exact aO.bQ vs b off hb h
 |.undef,b,off,hb,h=>by simp only[br]at h|-;obtain⟨x,hx,h1,h2⟩:=h;exact⟨x,hb _ _ hx,E'.bQ _ x h1,h2⟩
 |.int k n,b,off,hb,h=>by simp only[br]at h|-;obtain⟨x,hx,h1,h2⟩:=h;exact⟨x,hb _ _ hx,E'.bQ _ x h1,h2⟩
 |.bool t,b,off,hb,h=>by simp only[br]at h|-;obtain⟨x,hx,h1,h2⟩:=h;exact⟨x,hb _ _ hx,E'.bQ _ x h1,h2⟩
 |.str s,b,off,hb,h=>by simp only[br]at h|-;obtain⟨x,hx,h1,h2⟩:=h;exact⟨x,hb _ _ hx,E'.bQ _ x h1,h2⟩
 |.ay,b,off,hb,h=>by simp only[br]at h|-;obtain⟨x,hx,h1,h2⟩:=h;exact⟨x,hb _ _ hx,E'.bQ _ x h1,h2⟩
 |.sl sz rows,b,off,hb,h=>by simp only[br]at h|-;obtain⟨x,hx,h1,h2⟩:=h;exact⟨x,hb _ _ hx,E'.bQ _ x h1,h2⟩
 |.own id o len,b,off,hb,h=>by simp only[br]at h|-;obtain⟨x,hx,h1,h2⟩:=h;exact⟨x,hb _ _ hx,E'.bQ _ x h1,h2⟩
 |.ptr id i k,b,off,hb,h=>by simp only[br]at h|-;obtain⟨x,hx,h1,h2⟩:=h;exact⟨x,hb _ _ hx,E'.bQ _ x h1,h2⟩
 |.rp v,b,off,hb,h=>by simp only[br]at h|-;obtain⟨x,hx,h1,h2⟩:=h;exact⟨x,hb _ _ hx,E'.bQ _ x h1,h2⟩
 |.XY,b,off,hb,h=>by simp only[br]at h|-;obtain⟨x,hx,h1,h2⟩:=h;exact⟨x,hb _ _ hx,E'.bQ _ x h1,h2⟩
 |.fn f caps,b,off,hb,h=>by simp only[br]at h|-;obtain⟨x,hx,h1,h2⟩:=h;exact⟨x,hb _ _ hx,E'.bQ _ x h1,h2⟩
 |.bm f caps,b,off,hb,h=>by simp only[br]at h|-;obtain⟨x,hx,h1,h2⟩:=h;exact⟨x,hb _ _ hx,E'.bQ _ x h1,h2⟩
 |.Xu,b,off,hb,h=>by simp only[br]at h|-;obtain⟨x,hx,h1,h2⟩:=h;exact⟨x,hb _ _ hx,E'.bQ _ x h1,h2⟩
 |.iface t v,b,off,hb,h=>by simp only[br]at h|-;obtain⟨x,hx,h1,h2⟩:=h;exact⟨x,hb _ _ hx,E'.bQ _ x h1,h2⟩
 |.Xx,b,off,hb,h=>by simp only[br]at h|-;obtain⟨x,hx,h1,h2⟩:=h;exact⟨x,hb _ _ hx,E'.bQ _ x h1,h2⟩
 |.WJ vs,b,off,hb,h=>by simp only[br]at h|-;obtain⟨x,hx,h1,h2⟩:=h;exact⟨x,hb _ _ hx,E'.bQ _ x h1,h2⟩
 |.raw v,b,off,hb,h=>by simp only[br]at h|-;obtain⟨x,hx,h1,h2⟩:=h;exact⟨x,hb _ _ hx,E'.bQ _ x h1,h2⟩
 |.obj o',b,off,hb,h=>by simp only[br]at h|-;obtain⟨x,hx,h1,h2⟩:=h;exact⟨x,hb _ _ hx,E'.bQ _ x h1,h2⟩
 |.gp o',b,off,hb,h=>by simp only[br]at h|-;obtain⟨x,hx,h1,h2⟩:=h;exact⟨x,hb _ _ hx,E'.bQ _ x h1,h2⟩
 |.yl o',b,off,hb,h=>by simp only[br]at h|-;obtain⟨x,hx,h1,h2⟩:=h;exact⟨x,hb _ _ hx,E'.bQ _ x h1,h2⟩
 |.mp o',b,off,hb,h=>by simp only[br]at h|-;obtain⟨x,hx,h1,h2⟩:=h;exact⟨x,hb _ _ hx,E'.bQ _ x h1,h2⟩
def aT.bQ:∀(rs:List V) (b off sz:Nat),(∀(off:Nat) (x:Value),w.cell? ⟨b,off,none⟩=some x->w'.cell? ⟨b,off,none⟩=some x)->aT I ow w rs b off sz->aT Y' Zu w' rs b off sz
 |[],_,_,_,_,_=>by simp[aT]
 |r::rs,b,off,sz,hb,h=>by
  simp only[aT]at h|-;exact⟨h.1,br.bQ r b off hb h.2.1,aT.bQ rs b (off+sz) sz hb h.2.2⟩
end
end
section
variable {I Y':Mu} {ow Zu:Nat->Prop} {w w':World} (hm:cI I Y') (hk:cM ow Zu w w') (hz:w.heap.size<=w'.heap.size)
include hm hk hz
def E'.mono(v:V)(x:Value):E' I ow w v x->E' Y' Zu w' v x:=E'.bQ hm hk.toC hz v x
def ar.mono(vs:List V)(l:List Value):ar I ow w vs l->ar Y' Zu w' vs l:=ar.bQ hm hk.toC hz vs l
def br.mono(v:V)(b off:Nat)(hb:w'.heap[b]?=w.heap[b]?):br I ow w v b off->br Y' Zu w' v b off:=br.bQ hm hk.toC hz v b off (eI hb)
def aT.mono(rs:List V)(b off sz:Nat)(hb:w'.heap[b]?=w.heap[b]?):aT I ow w rs b off sz->aT Y' Zu w' rs b off sz:=aT.bQ hm hk.toC hz rs b off sz (eI hb)
end
def RU(_:World):Prop:=True
def az(I:Mu)(U:ag)(b:Nat):Prop:=∃id o sz cap,U id=some o/\I id=.XK b sz cap
def tmpsOf:Obj->List Value
 |.loop r=>r.tmps.toList
 |.map es _=>es.toList.map (·.val)
 |_=>[]
def rN(I:Mu)(ow:Nat->Prop)(w:World)(o:Ob):Pl->Prop
 |.dC=>False
 |.nil=>o.rows=[]
 |.XK b sz cap=>(∃cur,w.heap[b]?=some (.cells cur o.elem (0,0))/\o.sz=sz/\0<sz/\cur.size=cap*sz/\o.rows.length<=cap/\cap<=maxLen/\
   aT I ow w o.rows b 0 sz)\/(sz=0/\o.sz=0/\∃(ob:Obj) (env:List V),o.rows=.obj ob::env/\w.heap[b]?=some ob/\ar I ow w env (tmpsOf ob))
def SE(w:World)(ow:Nat->Prop):Prop:=∃b:World,RU b/\b.heap.size<=w.heap.size/\∀i,i<b.heap.size->¬ow i/\w.heap[i]?=b.heap[i]?
structure Sat(w0:World)(XN:Nat->Prop)(I:Mu)(U:ag)(w:World):Prop where
 size:w0.heap.size<=w.heap.size
 os:w.os=w0.os
 tape:w.tape=w0.tape
 output:w.output=w0.output
 same:∀b,b<w0.heap.size->¬XN b->w.heap[b]?=w0.heap[b]?
 fin:∃N,∀id,N<=id->I id=.dC
 inj:∀id YQ o o' b sz cap sz' Yw,U id=some o->U YQ=some o'->I id=.XK b sz cap->I YQ=.XK b sz' Yw->id=YQ
 obj:∀id o,U id=some o->rN I (az I U) w o (I id)
 fresh:∀b,az I U b->b<w0.heap.size->XN b
 glob:SE w0 XN
def Sat.rU{w0 w:World}{XN:Nat->Prop}{I:Mu}{U:ag}(h:Sat w0 XN I U w):SE w (az I U):=by
 obtain⟨b,h1,h2,h3⟩:=h.glob;refine⟨b,h1,jx h2 h.size,λi hi=>?_⟩;obtain⟨h4,h5⟩:=h3 i hi;exact⟨λho=>h4 (h.fresh i ho (Nat.lt_of_lt_of_le hi h2)),(h.same i (Nat.lt_of_lt_of_le hi h2) h4).trans h5⟩
def aa(Z' U:ag):Prop:=∀id o,Z' id=some o->U id=some o
def aa.refl(U:ag):aa U U:=λ_ _ h=>h
def aa.trans{a b c:ag}(h:aa a b)(h':aa b c):aa a c:=λid o e=>h' id o (h id o e)
def C'(U:ag)(id:Nat)(o:Ob):ag:=λi=>if i=id then some o else U i
def del(U:ag)(id:Nat):ag:=λi=>if i=id then none else U i
def aa.Ma{Z' U:ag}{id:Nat}{o:Ob}(h:aa Z' U)(P':Z' id=none):aa Z' (C' U id o):=λi u e=>by
 have W6:i≠id:=λe'=>by rw[e',P']at e;cases e
 simp[C',W6,h i u e]
def aa.AE(U:ag)(id:Nat):aa (del U id) U:=λi o e=>by
 unfold del at e;split at e
 .cases e
 .exact e
def az.sub{I:Mu}{U Z':ag}(h:aa Z' U){b:Nat}(hb:az I Z' b):az I U b:=by
 obtain⟨id,o,sz,cap,h1,h2⟩:=hb;exact⟨id,o,sz,cap,h id o h1,h2⟩
def cM.sub{I:Mu}{U Z':ag}(w:World)(h:aa Z' U):cM (az I U) (az I Z') w w:=
 λ_ _ hn=>⟨λhb=>hn (hb.sub h),rfl⟩
def rN.bQ{I Y':Mu}{ow Zu:Nat->Prop}{w w':World}(hm:cI I Y')(hk:rW ow Zu w w')(hz:w.heap.size<=w'.heap.size){o:Ob}{p:Pl}
 (hb:∀b sz cap,p=.XK b sz cap->w'.heap[b]?=w.heap[b]?)(h:rN I ow w o p):rN Y' Zu w' o p:=by
 cases p with
 |dC=>exact h
 |nil=>exact h
 |XK b sz cap=>
  have e:=hb b sz cap rfl;rcases h with⟨cur,h1,h2,h3,h4,h5,h6,h7⟩|⟨h1,h2,ob,env,h3,h4,h5⟩
  .exact .inl ⟨cur,e.trans h1,h2,h3,h4,h5,h6,aT.bQ hm hk hz _ _ _ _ (eI e) h7⟩
  .exact .inr ⟨h1,h2,ob,env,h3,e.trans h4,ar.bQ hm hk hz _ _ h5⟩
def rN.mono{I Y':Mu}{ow Zu:Nat->Prop}{w w':World}(hm:cI I Y')(hk:cM ow Zu w w')(hz:w.heap.size<=w'.heap.size){o:Ob}{p:Pl}
 (hb:∀b sz cap,p=.XK b sz cap->w'.heap[b]?=w.heap[b]?)(h:rN I ow w o p):rN Y' Zu w' o p:=h.bQ hm hk.toC hz hb
def rN.plain{I:Mu}{ow:Nat->Prop}{w:World}{o:Ob}{b sz cap:Nat}(h:rN I ow w o (.XK b sz cap))(hz:0<sz):∃cur,w.heap[b]?=some (.cells cur o.elem (0,0))/\o.sz=sz/\0<sz/\cur.size=cap*sz/\o.rows.length<=cap/\cap<=maxLen/\
 aT I ow w o.rows b 0 sz:=by
 rcases h with h|⟨h1,_⟩
 .exact h
 .omega
def rN.rows{I:Mu}{ow:Nat->Prop}{w:World}{o:Ob}{b sz cap:Nat}(h:rN I ow w o (.XK b sz cap))(hz:0<sz):o.sz=sz/\0<sz/\o.rows.length<=cap/\cap<=maxLen/\aT I ow w o.rows b 0 sz:=by
 obtain⟨cur,h1,h2,h3,h4,h5,h6,h7⟩:=h.plain hz;exact⟨h2,h3,h5,h6,h7⟩
def Sat.drop{w0 w:World}{XN:Nat->Prop}{I:Mu}{U Z':ag}(h:Sat w0 XN I U w)(hs:aa Z' U):Sat w0 XN I Z' w where
 size:=h.size
 os:=h.os
 tape:=h.tape
 output:=h.output
 same:=h.same
 fin:=h.fin
 inj:=λid YQ o o' b sz cap sz' Yw h1 h2 h3 h4=>h.inj id YQ o o' b sz cap sz' Yw (hs _ _ h1) (hs _ _ h2) h3 h4
 obj:=λid o ho=>(h.obj id o (hs _ _ ho)).mono (cI.refl I) (cM.sub w hs) (Xm _) (λ_ _ _ _=>rfl)
 fresh:=λb hb=>h.fresh b (hb.sub hs)
 glob:=h.glob
def az.lt{w0 w:World}{XN:Nat->Prop}{I:Mu}{U:ag}(h:Sat w0 XN I U w){b:Nat}(hb:az I U b):b<w.heap.size:=by
 obtain⟨id,o,sz,cap,h1,h2⟩:=hb;have:=h.obj id o h1;rw[h2]at this;rcases this with⟨cur,h3,_⟩|⟨_,_,ob,_,_,h3,_⟩<;>exact(oz.1 h3).1
def Sat.put{w0 w w':World}{XN:Nat->Prop}{I Y':Mu}{U Z':ag}{row:Option Nat}(h:Sat w0 XN I U w)(hg:w.grownBy w' row)
 (Yd:∀b,row=some b->az I U b)(hμ:cI I Y')(XL:∃N,∀id,N<=id->Y' id=.dC)(id0:Nat)(ob:Ob)
 (hZ':∀o,Z' id0=some o->o=ob)
 (hold:∀id o,id≠id0->Z' id=some o->U id=some o/\∀b sz cap,I id=.XK b sz cap->some b≠row)
 (hpl:∀b sz cap,Y' id0=.XK b sz cap->some b=row\/w.heap.size<=b)
 (Xz:cM (az I U) (az Y' Z') w w'->rN Y' (az Y' Z') w' ob (Y' id0)):
 Sat w0 XN Y' Z' w'/\cM (az I U) (az Y' Z') w w':=by
 have hborn:∀id o,U id=some o->Y' id=I id:=λid o ho=>hμ id (λe=>by
  have:=h.obj id o ho;rw[e]at this;exact this)
 have howned:∀b,az Y' Z' b->az I U b\/w.heap.size<=b:=by
  rintro b ⟨id,o,sz,cap,h1,h2⟩;by_cases P':id=id0
  .subst P';rcases hpl b sz cap h2 with h3|h3
   .exact .inl (Yd b h3.symm)
   .exact .inr h3
  .obtain⟨h3,_⟩:=hold id o P' h1;exact .inl ⟨id,o,sz,cap,h3,(hborn id o h3)▸h2⟩
 have hk:cM (az I U) (az Y' Z') w w':=λb hb hn=>⟨λho=>by
  rcases howned b ho with h1|h1
  .exact hn h1
  .omega,hg.block b hb (λe=>hn (Yd b e.symm))⟩
 refine⟨⟨jx h.size hg.size,hg.os.trans h.os,hg.tape.trans h.tape,hg.output.trans h.output,?_,XL,?_,?_,?_,h.glob⟩,hk⟩
 .intro b hb hn;have h1:¬az I U b:=λho=>hn (h.fresh b ho hb);rw[(hk b (Nat.lt_of_lt_of_le hb h.size) h1).2,h.same b hb hn]
 .intro id YQ o o' b sz cap sz' Yw h1 h2 h3 h4;by_cases e:id=id0
  .by_cases e':YQ=id0
   .rw[e,e']
   .exfalso;obtain⟨h5,h6⟩:=hold YQ o' e' h2;have h7:=(hborn YQ o' h5)▸h4;subst e;rcases hpl b sz cap h3 with h8|h8
    .exact h6 b sz' Yw h7 h8
    .have:=az.lt h ⟨YQ,o',sz',Yw,h5,h7⟩;omega
  .obtain⟨h5,h6⟩:=hold id o e h1;have h7:=(hborn id o h5)▸h3;by_cases e':YQ=id0
   .exfalso;subst e';rcases hpl b sz' Yw h4 with h8|h8
    .exact h6 b sz cap h7 h8
    .have:=az.lt h ⟨id,o,sz,cap,h5,h7⟩;omega
   .obtain⟨h5',_⟩:=hold YQ o' e' h2;exact h.inj id YQ o o' b sz cap sz' Yw h5 h5' h7 ((hborn YQ o' h5')▸h4)
 .intro id o ho;by_cases e:id=id0
  .subst e;rw[hZ' o ho];exact Xz hk
  .obtain⟨h5,h6⟩:=hold id o e ho;rw[hborn id o h5];refine(h.obj id o h5).mono hμ hk hg.size (λb sz cap hp=>hg.block b ?_ (h6 b sz cap hp));exact az.lt h ⟨id,o,sz,cap,h5,hp⟩
 .intro b hb H';rcases howned b hb with h1|h1
  .exact h.fresh b h1 H'
  .have:=h.size;omega
structure Fr where
 w0:World
 XN:Nat->Prop
 X0:Mu
 n:Nat
 rd:Option (Nat×Loop)
structure Lr(F:Fr)(ow:Nat->Prop)(ds:List Deferred)(w:World):Prop where
 rnd:∀l r,F.rd=some (l,r)->w.heap[l]?=some (.loop r)/\¬ow l
 marks:∃Ds:List Nat,ds=Ds.map (λD=>{ target:=.collected D,args:=#[] })/\Ds.Nodup/\∀D∈Ds,F.w0.heap.size<=D/\w.heap[D]?=some (.deferred (some []))/\¬ow D
def Lr.lV{F:Fr}{ow Zu:Nat->Prop}{ds:List Deferred}{w w':World}(h:Lr F ow ds w)(hk:cM ow Zu w w'):Lr F Zu ds w' where
 rnd:=λl r e=>by
  obtain⟨h1,h2⟩:=h.rnd l r e;have h3:=hk l (oz.1 h1).1 h2;exact⟨h3.2.trans h1,h3.1⟩
 marks:=by
  obtain⟨Ds,h1,h2,h3⟩:=h.marks;refine⟨Ds,h1,h2,λD hD=>?_⟩;obtain⟨g1,g2,g3⟩:=h3 D hD;have h4:=hk D (oz.1 g2).1 g3;exact⟨g1,h4.2.trans g2,h4.1⟩
structure St where
 s:Nat->V
 U:ag
structure cQ(F:Fr)(I:Mu)(st:St)(a:Act)(w:World):Prop where
 sat:Sat F.w0 F.XN I st.U w
 le:cI F.X0 I
 size:a.tmps.size=F.n
 book:Lr F (az I st.U) a.defers w
 slot:∀i,i<F.n->E' I (az I st.U) w (st.s i) (a.tmps.getD i undef)
def eE(F:Fr)(st:St)(a:Act)(w:World):Prop:=∃I,cQ F I st a w
def uw(P:Program)(f:FuncId)(args:List V)(U:ag)(Post:V->ag->Prop):Prop:=
 ∀I w WO,Sat w (az I U) I U w->ar I (az I U) w args WO->Calls P f WO.toArray w λe w'=>
  ∃r Z' Y' val,e=.returned val/\Post r Z'/\cI I Y'/\Sat w (az I U) Y' Z' w'/\E' Y' (az Y' Z') w' r val
def uw.mono{P:Program}{f:FuncId}{args:List V}{U:ag}{Post Post':V->ag->Prop}(h:uw P f args U Post)
 (hp:∀r Z',Post r Z'->Post' r Z'):uw P f args U Post':=λI w WO hs hr=>
 (h I w WO hs hr).mono λ_ _ ⟨r,Z',Y',val,h1,h2,h3⟩=>⟨r,Z',Y',val,h1,hp _ _ h2,h3⟩
inductive VX where
 |t (n:Nat)
 |c (v:V)
def cellOf:Value->V
 |.int k n=>.int k n
 |.bool b=>.bool b
 |.string s=>.str s.data.toList
 |.slice a n c=>if a=none/\n=0/\c=0 then .ay else .raw (.slice a n c)
 |.pointer a=>if a=none then .XY else .raw (.pointer a)
 |.nilFunc=>.Xu
 |.nilIface=>.Xx
 |v=>.raw v
def ofValue:Value->V
 |.agg cs=>if cs.toList.all (·.oneCell')then .agg (cs.toList.map cellOf)else .raw (.agg cs)
 |v=>cellOf v
inductive MOp where
 |mkI (t:TypeId)
 |mkB (f:FuncId)
 |nilP (neg:Bool)
 |wu
 |xp
 |cpy (sz:Nat)
 |tas (t:TypeId) (ok:Bool) (zero:V)
 |inv (tbl:List (TypeId×FuncId))
 |mkMap
 |Hp
 |tB (ok:Bool) (zero:V)
 |delM
inductive W5 where
 |more (m:MOp) (xs:List VX)
 |W1 (x:VX)
 |pick (c a b:VX)
 |bin (op:BinOp) (x y:VX)
 |not (x:VX)
 |neg (x:VX)
 |len (str:Bool) (x:VX)
 |fld (agg:Bool) (off sz:Nat) (x:VX)
 |W7 (agg:Bool) (off sz:Nat) (x:VX)
 |ZG (Yg:Nat) (x i:VX)
 |idxAA (agg:Bool) (n Yg:Nat) (x i:VX)
 |idxV (agg:Bool) (n Yg:Nat) (x i:VX)
 |idxS (x i:VX)
 |load (agg:Bool) (sz:Nat) (x:VX)
 |slice (Yg:Nat) (x:VX) (lo hi mx:Option VX)
 |sliceS (x:VX) (lo hi:Option VX)
 |ext (i:Nat) (x:VX)
 |mkfn (f:FuncId) (caps:List VX)
 |convI (k:IntKind) (x:VX)
 |nilCheck (x:VX)
 |YU (neg:Bool) (x y:VX)
 |eqS (neg:Bool) (ks:List Nat) (x y:VX)
 |minmax (max:Bool) (x y:VX)
 |bstr (x:VX)
 |box (elem sz:Nat) (x:VX)
 |clear (sz:Nat) (zero:V) (x:VX)
 |alloc (elem sz:Nat) (zero:V)
 |store (sz:Nat) (a x:VX)
 |fk (elem sz:Nat) (parts:List VX)
 |build (zero:List V) (parts:List (Nat×Nat×VX))
 |append (elem sz bytes:Nat) (a b:VX)
 |cap (x:VX)
 |mk (elem sz bytes:Nat) (zero:V) (n:VX)
 |appz (elem sz bytes:Nat) (zero:V) (a n:VX)
 |call (f:VX) (args:List VX)
 |rngS (rune:Bool) (x:VX)
 |nxtS (x:VX)
 |bad
structure aD where
 dst:Option Nat
 op:W5
 g:Option (VX×Bool)
inductive bG where
 |skip
 |Za (draw:Bool) (l:List aD)
 |seq (a b:bG)
 |cond (c:VX) (a b:bG)
 |block (id:Nat) (a:bG)
 |loop (a:bG)
 |exit (id:Nat)
 |ret
 |ej (g:VX) (ps:List Nat) (a b:bG)
 |regA (l:List aD) (W2:List (List Nat))
 |uM (l e:List aD)
 |bad
def bf:W5->Nat
 |.call ..=>1
 |.store ..=>2
 |.alloc ..|.box ..|.fk ..|.append ..|.mk ..|.appz ..=>3
 |.clear ..|.rngS ..|.nxtS _|.bad=>4
 |.more (.mkI _) _|.more (.mkB _) _|.more (.tas ..) _|.more (.nilP _) _=>0
 |.more ..=>4
 |_=>0
def W5.xs:W5->List VX
 |.W1 x|.not x|.neg x|.len _ x|.fld _ _ _ x|.W7 _ _ _ x|.load _ _ x|.ext _ x|.convI _ x|.nilCheck x|.bstr x|.box _ _ x|.clear _ _ x|.cap x|.mk _ _ _ _ x|.rngS _ x|.nxtS x=>[x]
 |.bin _ x y|.ZG _ x y|.idxAA _ _ _ x y|.idxV _ _ _ x y|.idxS x y|.YU _ x y|.eqS _ _ x y|.minmax _ x y|.store _ x y|.append _ _ _ x y|.appz _ _ _ _ x y=>[x,y]
 |.pick x y z=>[x,y,z]
 |.slice _ x lo hi mx=>x::(lo.toList++hi.toList++mx.toList)
 |.sliceS x lo hi=>x::(lo.toList++hi.toList)
 |.mkfn _ xs=>xs
 |.more _ xs=>xs
 |.fk _ _ xs=>xs
 |.build _ ps=>ps.map (·.2.2)
 |.call f xs=>f::xs
 |.alloc ..|.bad=>[]
def VX.MI:VX->Option Nat
 |.t d=>some d
 |.c _=>none
def aD.mz(i:aD):List Nat:=(i.op.xs++(i.g.map (·.1)).toList).filterMap VX.MI
def lD:W5->Bool
 |.load ..|.ZG ..|.slice ..|.bstr ..=>false
 |op=>bf op==0
def Er(A B:aD):Bool:=
 (match A.dst with
  |some d=>!B.mz.contains d&&B.dst != some d
  |none=>true)&&
 (match B.dst with
  |some d=>!A.mz.contains d
  |none=>true)
def fF(i:aD):Bool:=decide (bf i.op<=1)
def uI(i:aD):Bool:=bf i.op==2||bf i.op==3
def mkI(i:aD):Bool:=match i.op with
 |.alloc ..|.box ..|.fk ..|.mk ..=>true
 |_=>false
def Ht(i:aD):Bool:=match i.op with
 |.alloc ..|.box ..|.fk ..|.append ..|.mk ..=>true
 |_=>false
def kD(i:aD):Bool:=bf i.op==0
def iH(A B:aD):Bool:=Er A B&&((fF A&&fF B)||(uI A&&lD B.op)||(lD A.op&&uI B)||(fF A&&mkI B)||(Ht A&&kD B)||(Ht A&&mkI B))
def Qq(P:Program)(a b:TypeId):Bool:=match P.underlying a,P.underlying b with
 |some (.int _),some .string=>true
 |_,_=>false
section comp
variable (P:Program) (n:Nat)
def cx:Operand->VX
 |.tmp t=>if t<n then .t t else .c (.WJ [])
 |.const v=>.c (ofValue v)
 |.func f=>.c (.fn f [])
 |.global g=>.c (.raw (.pointer (some ⟨g,0,none⟩)))
def fw(t:TypeId):Bool:=match P.underlying t with
 |some (.struct _)|some (.array _ _)=>true
 |_=>false
def bO(t:TypeId):Bool:=(P.info? t).isSome&&(P.underlying t).isSome&&P.cellsOf t != 0
def zeroOf(e:TypeId):Option (TypeInfo×Value):=match P.info? e with
 |some i=>match i.zero with
  |some z=>if bO P e&&z.cells.size==i.size&&z.cells.toList.all (·.oneCell')then some (i,z)else none
  |none=>none
 |none=>none
def pK(t:TypeId):Bool:=match P.underlying t,P.info? t with
 |some (.struct fs),some i=>fs.size==0&&(i.size==0&&(match i.zero with
  |some (.agg z)=>z.size==0
  |_=>false))
 |_,_=>false
def u8T(t:TypeId):Bool:=match P.underlying t with
 |some (.int .u8)=>true
 |_=>false
def KD(t:TypeId):Bool:=match P.underlying t with
 |some (.int _)|some .bool|some .string=>true
 |_=>false
def ri(t:TypeId):Nat:=match P.underlying t with
 |some (.int _)=>0
 |some .bool=>1
 |some .string=>2
 |_=>3
def IE(t:TypeId)(fs:Array Field):Bool:=
 (fs.toList.map (·.offset)==List.range fs.size)&&(fs.toList.all λf=>KD P f.type&&f.name != "_"&&bO P f.type)&&!P.stoodInHeld t&&!P.eqGuardType P.depth t
def Sd:Value->Bool
 |.slice none _ _=>true
 |_=>false
def Gx:Operand->Bool
 |.const v=>Sd v
 |_=>false
def cy(op:BinOp)(x:VX)(y:Operand):W5:=if op=.eql/\Gx y=true then .YU false x (.c (.iface 0 .undef))else .bad
def AL(t:TypeId):Bool:=match P.underlying t with
 |some (.slice _)=>true
 |_=>false
def vP(t:TypeId):Bool:=match P.underlying t with
 |some (.interface _)=>true
 |_=>false
def Si:Operand->Bool
 |.const .nilIface=>true
 |_=>false
def Nx(t:TypeId):Bool:=match P.underlying t with
 |some (.func _ _ _)=>true
 |_=>false
def Nb:Operand->Bool
 |.const .nilFunc=>true
 |_=>false
def Th(t:TypeId):Bool:=match P.underlying t with
 |some (.pointer _)=>true
 |_=>false
def Nt:Operand->Bool
 |.const (.pointer none)=>true
 |_=>false
def B1(t:TypeId):Option TypeId:=match P.underlying t with
 |some (.map k e)=>match P.underlying k with
  |some (.int _)=>some e
  |_=>none
 |_=>none
def Sa(name:String)(t:TypeId):Option FuncId:=match P.info? t with
 |some i=>match i.methods.find? (·.name==name)with
  |some m=>if m.path.isEmpty then match m.func,P.underlying t with
     |some (f,true),some (.pointer _)=>some f
     |some (_,false),some (.pointer _)=>none
     |some (f,false),some _=>some f
     |_,_=>none
   else none
  |none=>none
 |none=>none
def Qx(name:String):List (TypeId×FuncId):=(List.range P.types.size).filterMap λt=>(Sa P name t).map λf=>(t,f)
def u6:Operand->Operand->Bool
 |.tmp a,.tmp b=>a==b
 |.const (.int k a),.const (.int k' b)=>decide (k=k'/\a=b)
 |_,_=>false
def WX:Op->W5
 |.move x|.assign x=>.W1 (cx n x)
 |.pick c a b=>.pick (cx n c) (cx n a) (cx n b)
 |.binOp op t x y _=>match P.underlying t with
   |some .bool=>match op with
    |.eql=>.YU false (cx n x) (cx n y)
    |.neq=>.YU true (cx n x) (cx n y)
    |_=>.bad
   |some (.struct fs)=>if IE P t fs then match op with
    |.eql=>.eqS false (fs.toList.map λf=>ri P f.type) (cx n x) (cx n y)
    |.neq=>.eqS true (fs.toList.map λf=>ri P f.type) (cx n x) (cx n y)
    |_=>.bad
    else .bad
   |_=>if AL P t then cy op (cx n x) y else if vP P t then(if(op=.eql\/op=.neq)/\Si y=true then .YU (op==.neq) (cx n x) (.c (.iface 1 .undef))else .bad)else if Nx P t then(if(op=.eql\/op=.neq)/\Nb y=true then .YU (op==.neq) (cx n x) (.c (.iface 2 .undef))else .bad)else if Th P t&&Nt y then(if op=.eql\/op=.neq then .more (.nilP (op==.neq)) [cx n x]else .bad)else .bin op (cx n x) (cx n y)
 |.nilCheck x=>.nilCheck (cx n x)
 |.box e x=>if bO P e then .box e (P.cellsOf e) (cx n x)else .bad
 |.unOp .not _ x=>.not (cx n x)
 |.unOp .neg _ x=>.neg (cx n x)
 |.field s x f=>match P.underlying s with
   |some (.struct fs)=>match fs[f]? with
    |some fd=>if bO P fd.type then .fld (fw P fd.type) fd.offset (P.cellsOf fd.type) (cx n x)else .bad
    |none=>.bad
   |_=>.bad
 |.fieldAddr s x f=>match P.underlying s with
   |some (.struct fs)=>match fs[f]? with
    |some fd=>if bO P fd.type then .W7 (fw P fd.type) fd.offset (P.cellsOf fd.type) (cx n x)else .bad
    |none=>.bad
   |_=>.bad
 |.indexAddr t x i=>match P.underlying t with
   |some (.slice e)=>if bO P e then .ZG (P.cellsOf e) (cx n x) (cx n i)else .bad
   |some (.array k e)=>if bO P e then .idxAA (fw P e) k (P.cellsOf e) (cx n x) (cx n i)else .bad
   |_=>.bad
 |.index t x i=>match P.underlying t with
   |some (.array k e)=>if bO P e then .idxV (fw P e) k (P.cellsOf e) (cx n x) (cx n i)else .bad
   |some .string=>.idxS (cx n x) (cx n i)
   |_=>.bad
 |.load t x=>if bO P t then .load (fw P t) (P.cellsOf t) (cx n x)else .bad
 |.slice t x lo hi mx=>match P.underlying t with
   |some (.slice e)=>if bO P e&&(mx.isNone||hi.isSome)then .slice (P.cellsOf e) (cx n x) (lo.map (cx n)) (hi.map (cx n)) (mx.map (cx n))else .bad
   |some .string=>if mx.isNone then .sliceS (cx n x) (lo.map (cx n)) (hi.map (cx n))else .bad
   |_=>.bad
 |.extract x i=>.ext i (cx n x)
 |.makeFunc (.func f) first caps=>if first.size=0 then .mkfn f (caps.toList.map (cx n))else if caps.size=0 then .more (.mkB f) (first.toList.map (cx n))else .bad
 |.convert src dst x=>match P.underlying src,P.underlying dst with
   |some (.int _),some (.int k)=>.convI k (cx n x)
   |some (.slice e),some .string=>if u8T P e then .bstr (cx n x)else .bad
   |_,_=>if Qq P src dst then .rngS true (cx n x)else .bad
 |.alloc e=>match zeroOf P e with
   |some (i,z)=>.alloc e i.size (ofValue z)
   |none=>if pK P e then .more .wu []else .bad
 |.store t a x=>if bO P t then .store (P.cellsOf t) (cx n a) (cx n x)else if pK P t then .more .xp [cx n a,cx n x]else .bad
 |.buildSlice t len parts=>match P.underlying t with
   |some (.slice e)=>match zeroOf P e with
    |some (i,_)=>if parts.toList.map (·.1)=List.range len/\len*i.size<=16777216 then .fk e i.size (parts.toList.map λp=>cx n p.2)else .bad
    |none=>.bad
   |_=>.bad
 |.build t parts=>if pK P t&&parts.size==0 then .W1 (.c (.agg []))else match zeroOf P t,P.underlying t with
   |some (_,.agg z),some (.struct fs)=>
    if(fs.toList.all λf=>bO P f.type)&&(parts.toList.all λp=>decide (p.1<fs.size))then
     .build (z.toList.map cellOf) (parts.toList.map λp=>(((fs[p.1]?).map (·.offset)).getD 0,((fs[p.1]?).map λf=>P.cellsOf f.type).getD 0,cx n p.2))
    else .bad
   |some (_,.agg z),some (.array _ e)=>if bO P e then .build (z.toList.map cellOf) (parts.toList.map λp=>(p.1*P.cellsOf e,P.cellsOf e,cx n p.2))else .bad
   |_,_=>.bad
 |.call { callee:=.builtin .len,args,argTypes }=>match args.toList,argTypes[0]? with
   |[x],some t=>match P.underlying t with
    |some (.slice _)=>.len false (cx n x)
    |some .string=>.len true (cx n x)
    |_=>.bad
   |_,_=>.bad
 |.call { callee:=.builtin .append,args,argTypes }=>match args.toList,argTypes.toList with
   |[a,b],[t,t']=>if t=t' then match P.underlying t with
    |some (.slice e)=>match zeroOf P e with
     |some (i,_)=>.append e i.size i.bytes (cx n a) (cx n b)
     |none=>.bad
    |_=>.bad
    else match P.underlying t,P.underlying t' with
    |some (.slice e),some (.int _)=>match zeroOf P e with
     |some (i,z)=>.appz e i.size i.bytes (ofValue z) (cx n a) (cx n b)
     |none=>.bad
    |some (.slice e),some .string=>match zeroOf P e with
     |some (i,_)=>.append e i.size i.bytes (cx n a) (cx n b)
     |none=>.bad
    |_,_=>.bad
   |_,_=>.bad
 |.makeSlice t l c=>match P.underlying t with
   |some (.slice e)=>match zeroOf P e with
    |some (i,z)=>if u6 l c then .mk e i.size i.bytes (ofValue z) (cx n l)else .bad
    |none=>.bad
   |_=>.bad
 |.call { callee:=.builtin .cap,args,argTypes }=>match args.toList,argTypes[0]? with
   |[x],some t=>if AL P t then .cap (cx n x)else .bad
   |_,_=>.bad
 |.call { callee:=.builtin .min,args,.. }=>match args.toList with
   |[x,y]=>.minmax false (cx n x) (cx n y)
   |_=>.bad
 |.call { callee:=.builtin .max,args,.. }=>match args.toList with
   |[x,y]=>.minmax true (cx n x) (cx n y)
   |_=>.bad
 |.call { callee:=.builtin .clear,args,argTypes }=>match args.toList,argTypes[0]? with
   |[x],some t=>match P.underlying t with
    |some (.slice e)=>match zeroOf P e with
     |some (i,z)=>.clear i.size (ofValue z) (cx n x)
     |none=>.bad
    |_=>.bad
   |_,_=>.bad
 |.call { callee:=.builtin .copy,args,argTypes }=>match args.toList,argTypes[0]? with
   |[x,y],some t=>match P.underlying t with
    |some (.slice e)=>if bO P e then .more (.cpy (P.cellsOf e)) [cx n x,cx n y]else .bad
    |_=>.bad
   |_,_=>.bad
 |.call { callee:=.value f,args,.. }=>.call (cx n f) (args.toList.map (cx n))
 |.range t x=>match P.underlying t with
   |some .string=>.rngS false (cx n x)
   |_=>.bad
 |.makeInterface t x=>if(P.underlying t).isSome&&!vP P t then .more (.mkI t) [cx n x]else .bad
 |.typeAssert x _ t ok=>if vP P t then .bad else match zeroOf P t with
   |some (_,z)=>.more (.tas t ok (ofValue z)) [cx n x]
   |none=>if pK P t then .more (.tas t ok (.agg [])) [cx n x]else .bad
 |.call { callee:=.invoke r name,args,.. }=>.more (.inv (Qx P name)) (cx n r::args.toList.map (cx n))
 |.makeMap t r=>if r.isNone&&(B1 P t).isSome then .more .mkMap []else .bad
 |.insert t m k x|.mapUpdate t m k x=>if(B1 P t).isSome then .more .Hp [cx n m,cx n k,cx n x]else .bad
 |.lookup t x i ok=>match B1 P t with
   |some e=>match zeroOf P e with
    |some (_,z)=>.more (.tB ok (ofValue z)) [cx n x,cx n i]
    |none=>.bad
   |none=>.bad
 |.call { callee:=.builtin .delete,args,argTypes }=>match args.toList,argTypes[0]? with
   |[m,k],some t=>if(B1 P t).isSome then .more .delM [cx n m,cx n k]else .bad
   |_,_=>.bad
 |.next it b=>if b=true then .nxtS (cx n it)else .bad
 |_=>.bad
def bM(all:Array Oper)(o:Oper):aD where
 dst:=o.dst.filter (·<n)
 op:=WX P n o.op
 g:=o.guard.map λ(j,want)=>(match(all[j]?).bind (·.dst)with
  |some d=>if d<n then .t d else .c (.WJ [])
  |none=>.c (.WJ []),want)
def E5(ops:Array Oper)(k:Nat)(A':Array Bool):Bool:=match ops[k]? with
 |some ok=>(List.range ops.size).all λj=>j==k||A'.getD j true||(match ops[j]? with
    |some oj=>((Region.before ops).getD j 0).testBit k||iH (bM P n ops ok) (bM P n ops oj)
    |none=>true)
 |none=>false
def xW(ops:Array Oper):Nat->Nat->Array Bool->Bool
 |0,_,A'=>(Region.ready .any ops A').isEmpty
 |m+1,k,A'=>(Region.ready .any ops A').contains k&&E5 P n ops k A'&&xW ops m (k+1) (A'.setIfInBounds k true)
def K7(l:List aD):Bool:=l.any λi=>match i.op with
 |.append _ _ _ (.t d) _=>l.any λj=>j.dst==some d&&(match j.op with|.call ..=>true|_=>false)
 |_=>false
def B9(l:List aD)(d:Nat):Option W5:=(l.find? λj=>j.dst==some d).map (·.op)
def zP:Option W5->Bool
 |some (.call ..)=>true
 |_=>false
def KM(l:List aD):Bool:=l.any λi=>match i.op with
 |.append _ _ _ (.t d) (.t v)=>zP (B9 l v)&&(match B9 l d with
  |some (.append _ _ _ _ (.t w))=>zP (B9 l w)
  |_=>false)
 |.call (.t f) _=>match B9 l f with
  |some (.idxV _ _ _ (.t a) _)=>zP (B9 l a)
  |_=>false
 |_=>false
def yO(l:List aD):Bool:=K7 l||KM l||
 (l.any λi=>match i.op with|.call ..=>true|_=>false)&&(l.any λi=>match i.op with|.nilCheck _=>true|_=>false)&&l.any λi=>match i.op with|.store ..=>true|_=>false
def qd(ops:Array Oper):Bool:=P.follows .mixedOrders&&(!(yO (ops.toList.map (bM P n ops)))&&xW P n ops ops.size 0 (Array.replicate ops.size false))
def Ix(ops:Array Oper)(m:Nat):Nat->Nat->Array Bool->Bool
 |0,_,A'=>decide (Region.ready .any ops A'=[m])&&(Region.ready .any ops (A'.setIfInBounds m true)).isEmpty
 |f+1,k,A'=>((Region.ready .any ops A').contains k&&(decide (k≠m)&&((Region.before ops).getD m 0).testBit k))&&(E5 P n ops k A'&&Ix ops m f (k+1) (A'.setIfInBounds k true))
def MJ:aD->Bool
 |⟨_,.call ..,_⟩=>true
 |_=>false
def AM(ops:Array Oper):Bool:=P.follows .mixedOrders&&(decide (0<ops.size)&&(((ops.toList.drop (ops.size-1)).map (bM P n ops)).any MJ&&(!(yO ((ops.toList.take (ops.size-1)).map (bM P n ops)))&&Ix P n ops (ops.size-1) (ops.size-1) 0 (Array.replicate ops.size false))))
def dk:Code->bG
 |.skip=>.skip
 |.region _ ops draw=>if draw&&AM P n ops then .uM ((ops.toList.take (ops.size-1)).map (bM P n ops)) ((ops.toList.drop (ops.size-1)).map (bM P n ops))else if draw&&!(qd P n ops)then .regA (ops.toList.map (bM P n ops)) (ops.toList.map λo=>(o.after.toList.filter (Region.binds .any)).map (·.on))else .Za draw (ops.toList.map (bM P n ops))
 |.seq a b=>.seq (dk a) (dk b)
 |.cond c a b=>.cond (cx n c) (dk a) (dk b)
 |.block id a=>.block id (dk a)
 |.loop a=>.loop (dk a)
 |.exit id=>.exit id
 |.ret=>.ret
 |.rangeFunc g ps a c=>.ej (cx n g) ps.toList (dk a) (dk c)
 |_=>.bad
end comp
def VX.ev(s:Nat->V):VX->V
 |.t n=>s n
 |.c v=>v
def WR(k:IntKind)(n:Int):Prop:=k.wrap n=n
def dV(op:BinOp)(k:IntKind)(a b:Int):Option V:=
 match op with
 |.add=>some (.int k (a+b))
 |.sub=>some (.int k (a-b))
 |.mul=>some (.int k (a*b))
 |.quo=>if b=0 then none else some (.int k (a.tdiv b))
 |.rem=>if b=0 then none else some (.int k (a.tmod b))
 |.eql=>some (.bool (decide (a=b)))
 |.neq=>some (.bool (decide (a≠b)))
 |.lss=>some (.bool (decide (a<b)))
 |.leq=>some (.bool (decide (a<=b)))
 |.gtr=>some (.bool (decide (a>b)))
 |.geq=>some (.bool (decide (a>=b)))
 |.and=>some (.int k (k.wrap (BitVec.ofInt k.bits a &&& BitVec.ofInt k.bits b).toNat))
 |.or=>some (.int k (k.wrap (BitVec.ofInt k.bits a ||| BitVec.ofInt k.bits b).toNat))
 |.shl=>if b<0 then none else some (.int k (k.wrap (a*2^(min b.toNat k.bits))))
 |.shr=>if b<0 then none else some (.int k (a.fdiv (2^(min b.toNat k.bits))))
 |_=>none
def iJ(op:BinOp)(k:IntKind)(a b:Int):Prop:=
 match op with
 |.add=>WR k (a+b)
 |.sub=>WR k (a-b)
 |.mul=>WR k (a*b)
 |.quo=>WR k (a.tdiv b)
 |_=>True
def qv(op:BinOp)(a b:List UInt8):Option V:=
 match op with
 |.add=>some (.str (a++b))
 |.eql=>some (.bool (decide (a=b)))
 |.neq=>some (.bool (decide (a≠b)))
 |_=>none
def wh(op:BinOp)(a b:List UInt8):Prop:=
 match op with
 |.add=>a.length+b.length<=9223372036854775807
 |_=>True
def x8(op:BinOp):V->V->Option V
 |.int k a,.int k' b=>if k=k' then dV op k a b else none
 |.str a,.str b=>qv op a b
 |_,_=>none
def qe(op:BinOp):V->V->Prop
 |.int k a,.int _ b=>iJ op k a b
 |.str a,.str b=>wh op a b
 |_,_=>True
def da(agg:Bool)(off sz:Nat)(vs:List V):Option V:=
 if agg then some (.agg ((vs.drop off).take sz))else vs[off]?
def Mr:V->Option V
 |.ay=>some (.int .i64 0)
 |_=>none
def cP:Bool->V->Option V
 |false,.own _ _ n=>some (.int .i64 n)
 |false,.sl _ rows=>some (.int .i64 rows.length)
 |false,.ay=>some (.int .i64 0)
 |true,.str s=>some (.int .i64 s.length)
 |_,_=>none
def Hc(agg:Bool)(off sz:Nat):V->Option V
 |.agg vs=>da agg off sz vs
 |_=>none
def lx(agg:Bool)(off sz:Nat):V->Option V
 |.ptr id i k=>some (.ptr id i (k+off))
 |.rp v=>(da agg off sz v.cells).map .rp
 |_=>none
def bp(U:ag)(Yg:Nat):V->V->Option V
 |.own id off len,.int _ j=>match U id with
   |some ob=>if ob.sz=Yg/\0<=j/\j<len then some (.ptr id (off+j.toNat) 0)else none
   |none=>none
 |.sl sz rows,.int _ j=>if sz=Yg/\0<=j then match rows[j.toNat]? with
   |some r=>some (.rp r)
   |none=>none
   else none
 |_,_=>none
def nr(agg:Bool)(n Yg:Nat):V->V->Option V
 |.ptr id i k,.int _ j=>if 0<=j/\j<n then some (.ptr id i (k+j.toNat*Yg))else none
 |.rp v,.int _ j=>if 0<=j/\j<n then(da agg (j.toNat*Yg) Yg v.cells).map .rp else none
 |_,_=>none
def ue(agg:Bool)(n Yg:Nat):V->V->Option V
 |.agg vs,.int _ j=>if 0<=j/\j<n then da agg (j.toNat*Yg) Yg vs else none
 |_,_=>none
def rk:V->V->Option V
 |.str s,.int _ j=>if 0<=j then match s[j.toNat]? with
   |some b=>some (.int .u8 b.toNat)
   |none=>none
   else none
 |_,_=>none
def bF(U:ag)(agg:Bool)(sz:Nat):V->Option V
 |.ptr id i k=>match U id with
   |some ob=>match ob.rows[i]? with
    |some r=>if agg then(if k=0/\r.cells.length=sz then some (.agg r.cells)else if k+sz<=r.cells.length then some (.agg ((r.cells.drop k).take sz))else none)
       else r.cells[k]?
    |none=>none
   |none=>none
 |.rp v=>if agg then(if v.cells.length=sz then some (.agg v.cells)else none)else match v with
   |.agg _=>none
   |v=>some v
 |_=>none
def bX(d:Int):Option V->Option Int
 |none=>some d
 |some (.int _ j)=>some j
 |_=>none
def yd(U:ag)(id Yg:Nat):Bool:=match U id with
 |some ob=>ob.sz==Yg
 |none=>false
def eK(U:ag)(Yg:Nat)(x:V)(lo hi mx:Option V):Option V:=
 match x with
 |.own id off len=>match bX 0 lo,bX len hi,bX len mx with
   |some l,some h,some m=>if 0<=l/\l<=h/\h<=m/\m<=len/\yd U id Yg=true then some (.own id (off+l.toNat) (h.toNat-l.toNat))else none
   |_,_,_=>none
 |.sl sz rows=>match bX 0 lo,bX rows.length hi,bX rows.length mx with
   |some l,some h,some m=>if 0<=l/\l<=h/\h<=m/\m<=rows.length/\sz=Yg then some (.sl sz ((rows.drop l.toNat).take (h.toNat-l.toNat)))else none
   |_,_,_=>none
 |.ay=>match bX 0 lo,bX 0 hi,bX 0 mx with
   |some l,some h,some m=>if l=0/\h=0/\m=0 then some .ay else none
   |_,_,_=>none
 |_=>none
def lE(x:V)(lo hi:Option V):Option V:=
 match x with
 |.str s=>match bX 0 lo,bX s.length hi with
   |some l,some h=>if 0<=l/\l<=h/\h<=s.length then some (.str ((s.drop l.toNat).take (h.toNat-l.toNat)))else none
   |_,_=>none
 |_=>none
def ei{α:Type}(l:List α)(off:Nat)(xs:List α):List α:=l.take off++xs++l.drop (off+xs.length)
def V.stays:V->Bool
 |.undef=>false
 |.WJ _=>false
 |.raw v=>v.oneCell'
 |_=>true
def jH(zero:List V):List (Nat×Nat×V)->Option (List V)
 |[]=>some zero
 |(off,sz,x)::r=>if x.cells.length=sz/\x.stays=true/\off+sz<=zero.length then jH (ei zero off x.cells) r else none
def DV(i:Nat):V->Option V
 |.WJ vs=>vs[i]?
 |_=>none
def jh:V->V->Option Bool
 |.int k a,.int k' b=>if k=k' then some (decide (a=b))else none
 |.bool a,.bool b=>some (a==b)
 |.str a,.str b=>some (decide (a=b))
 |_,_=>none
def fo:List V->List V->Option Bool
 |[],[]=>some true
 |v::vs,u::us=>match jh v u,fo vs us with
   |some a,some b=>some (a&&b)
   |_,_=>none
 |_,_=>none
def iM:List Nat->List V->Bool
 |[],[]=>true
 |0::ks,.int _ _::vs=>iM ks vs
 |1::ks,.bool _::vs=>iM ks vs
 |2::ks,.str _::vs=>iM ks vs
 |_,_=>false
def mW(neg:Bool)(ks:List Nat):V->V->Option V
 |.agg vs,.agg us=>if iM ks vs=true/\us.length=vs.length then match fo vs us with
   |some b=>some (.bool (if neg then !b else b))
   |none=>none
   else none
 |_,_=>none
def binBV(neg:Bool):V->V->Option V
 |.bool a,.bool b=>some (.bool (if neg then !(a==b)else a==b))
 |_,_=>none
def mN(max:Bool):V->V->Option V
 |.int k a,.int k' b=>if k=k' then some (.int k (if max then(if b>a then b else a)else(if b<a then b else a)))else none
 |_,_=>none
def byteOf:V->Option UInt8
 |.int .u8 n=>some (UInt8.ofNat n.toNat)
 |_=>none
def bytesOf:List V->Option (List UInt8)
 |[]=>some []
 |v::vs=>match byteOf v,bytesOf vs with
   |some b,some l=>some (b::l)
   |_,_=>none
def ky(U:ag):V->Option V
 |.ay=>some (.str [])
 |.own id off len=>match U id with
   |some ob=>if ob.sz=1/\off+len<=ob.rows.length then(bytesOf ((ob.rows.drop off).take len)).map .str else none
   |none=>none
 |_=>none
def ia:V->Option V
 |.ptr id i k=>some (.ptr id i k)
 |.rp v=>some (.rp v)
 |.fn f caps=>some (.fn f caps)
 |.iface t v=>some (.iface t v)
 |_=>none
def FG(neg:Bool):V->Option V
 |.XY=>some (.bool (!neg))
 |.ptr _ _ _=>some (.bool neg)
 |.rp _=>some (.bool neg)
 |_=>none
def Ij(t:TypeId)(ok:Bool)(zero:V):V->Option V
 |.iface t' v=>if t'=t then some (if ok then .WJ [v,.bool true]else v)else(if ok then some (.WJ [zero,.bool false])else none)
 |.Xx=>if ok then some (.WJ [zero,.bool false])else none
 |_=>none
def aF(U:ag)(s:Nat->V):W5->Option V
 |.W1 x=>some (x.ev s)
 |.pick c a b=>match c.ev s with
   |.bool t=>some (if t then a.ev s else b.ev s)
   |_=>none
 |.bin op x y=>x8 op (x.ev s) (y.ev s)
 |.not x=>match x.ev s with
   |.bool b=>some (.bool (!b))
   |_=>none
 |.neg x=>match x.ev s with
   |.int k a=>some (.int k (0-a))
   |_=>none
 |.len b x=>cP b (x.ev s)
 |.cap x=>Mr (x.ev s)
 |.fld agg off sz x=>Hc agg off sz (x.ev s)
 |.W7 agg off sz x=>lx agg off sz (x.ev s)
 |.ZG Yg x i=>bp U Yg (x.ev s) (i.ev s)
 |.idxAA agg n Yg x i=>nr agg n Yg (x.ev s) (i.ev s)
 |.idxV agg n Yg x i=>ue agg n Yg (x.ev s) (i.ev s)
 |.idxS x i=>rk (x.ev s) (i.ev s)
 |.load agg sz x=>bF U agg sz (x.ev s)
 |.slice Yg x lo hi mx=>eK U Yg (x.ev s) (lo.map (·.ev s)) (hi.map (·.ev s)) (mx.map (·.ev s))
 |.sliceS x lo hi=>lE (x.ev s) (lo.map (·.ev s)) (hi.map (·.ev s))
 |.nilCheck x=>ia (x.ev s)
 |.YU neg x y=>binBV neg (x.ev s) (y.ev s)
 |.eqS neg ks x y=>mW neg ks (x.ev s) (y.ev s)
 |.minmax m x y=>mN m (x.ev s) (y.ev s)
 |.bstr x=>ky U (x.ev s)
 |.ext i x=>DV i (x.ev s)
 |.build zero parts=>(jH zero (parts.map λp=>(p.1,p.2.1,p.2.2.ev s))).map .agg
 |.mkfn f caps=>some (.fn f (caps.map (·.ev s)))
 |.more (.mkI t) [x]=>some (.iface t (x.ev s))
 |.more (.mkB f) xs=>some (.bm f (xs.map (·.ev s)))
 |.more (.tas t ok z) [x]=>Ij t ok z (x.ev s)
 |.more (.nilP neg) [x]=>FG neg (x.ev s)
 |.convI k x=>match x.ev s with
   |.int _ a=>some (.int k a)
   |_=>none
 |_=>none
def ez(s:Nat->V):W5->Prop
 |.bin op x y=>qe op (x.ev s) (y.ev s)
 |.neg x=>match x.ev s with
   |.int k a=>WR k (0-a)
   |_=>True
 |.convI k x=>match x.ev s with
   |.int _ a=>WR k a
   |_=>True
 |_=>True
variable {P:Program} {I:Mu} {ow:Nat->Prop} {w:World}
def rI{α:Type}[DecidableEq α][BEq α][LawfulBEq α](a b:α):(a==b)=decide (a=b):=by by_cases h:a=b<;>simp[h]
def K0{α:Type}[DecidableEq α][BEq α][LawfulBEq α](a b:α):(a != b)=decide (a≠b):=by by_cases h:a=b<;>simp[h]
def fZ(b off j:Nat):(⟨b,off,none⟩:Addr).add j=⟨b,off+j,none⟩:=by
 unfold Addr.add;split<;>simp_all
def ar.length:∀{vs:List V} {l:List Value},ar I ow w vs l->l.length=vs.length
 |[],l,h=>by simp[ar]at h;simp[h]
 |v::vs,l,h=>by
  simp only[ar]at h;obtain⟨x,xs,rfl,_,h2⟩:=h;simp[ar.length h2]
def ar.get:∀{vs:List V} {l:List Value} {i:Nat} {v:V},ar I ow w vs l->vs[i]?=some v->∃x,l[i]?=some x/\E' I ow w v x
 |[],l,i,v,_,h=>by simp at h
 |u::vs,l,i,v,h,hv=>by
  simp only[ar]at h;obtain⟨x,xs,rfl,h1,h2⟩:=h;cases i with
  |zero=>simp at hv;subst hv;exact⟨x,by simp,h1⟩
  |succ i=>simpa using ar.get h2 (by simpa using hv)
def ar.drop:∀{vs:List V} {l:List Value} (k:Nat),ar I ow w vs l->ar I ow w (vs.drop k) (l.drop k)
 |[],l,k,h=>by simp[ar]at h;subst h;simp[ar]
 |v::vs,l,0,h=>by simpa using h
 |v::vs,l,k+1,h=>by
  simp only[ar]at h;obtain⟨x,xs,rfl,h1,h2⟩:=h;simpa using ar.drop k h2
def ar.take:∀{vs:List V} {l:List Value} (k:Nat),ar I ow w vs l->ar I ow w (vs.take k) (l.take k)
 |[],l,k,h=>by simp[ar]at h;subst h;simp[ar]
 |v::vs,l,0,h=>by simp[ar]
 |v::vs,l,k+1,h=>by
  simp only[ar]at h;obtain⟨x,xs,rfl,h1,h2⟩:=h;simp only[px,ar];exact⟨x,_,rfl,h1,ar.take k h2⟩
def aO.get:∀{vs:List V} {b off k:Nat} {v:V},aO I ow w vs b off->vs[k]?=some v->
 ∃x,w.cell? ⟨b,off+k,none⟩=some x/\E' I ow w v x/\x.oneCell'=true
 |[],_,_,_,_,_,h=>by simp at h
 |u::vs,b,off,k,v,h,hv=>by
  simp only[aO]at h;cases k with
  |zero=>simp at hv;subst hv;exact h.1
  |succ k=>
   have:=aO.get (k:=k) h.2 (by simpa using hv)
   rwa [show off+1+k=off+(k+1) by omega]at this
def aO.drop:∀{vs:List V} {b off:Nat} (k:Nat),aO I ow w vs b off->aO I ow w (vs.drop k) b (off+k)
 |[],_,_,_,_=>by simp[aO]
 |u::vs,b,off,0,h=>by simpa using h
 |u::vs,b,off,k+1,h=>by
  simp only[aO]at h;have:=aO.drop k h.2;rw[show off+1+k=off+(k+1) by omega]at this;simpa using this
def aO.take:∀{vs:List V} {b off:Nat} (k:Nat),aO I ow w vs b off->aO I ow w (vs.take k) b off
 |[],_,_,_,_=>by simp[aO]
 |u::vs,b,off,0,h=>by simp[aO]
 |u::vs,b,off,k+1,h=>by
  simp only[aO]at h;simp only[px,aO];exact⟨h.1,aO.take k h.2⟩
def aO.E2:∀{vs:List V} {b off:Nat},aO I ow w vs b off->
 ∃xs,ar I ow w vs xs/\(∀u∈xs,u.oneCell'=true)/\∀(j:Nat) u,xs[j]?=some u->w.cell? ⟨b,off+j,none⟩=some u
 |[],_,_,_=>⟨[],by simp[ar],by simp,by simp⟩
 |v::vs,b,off,h=>by
  simp only[aO]at h;obtain⟨⟨x,h1,h2,h3⟩,h4⟩:=h;obtain⟨xs,h5,h6,h7⟩:=aO.E2 h4;refine⟨x::xs,by simp only[ar];exact⟨x,xs,rfl,h2,h5⟩,by simpa using⟨h3,h6⟩,?_⟩;intro j u hu;cases j with
  |zero=>simp at hu;subst hu;exact h1
  |succ j=>
   have:=h7 j u (by simpa using hu)
   rwa [show off+1+j=off+(j+1) by omega]at this
def aT.get:∀{rows:List V} {b off sz i:Nat} {r:V},aT I ow w rows b off sz->rows[i]?=some r->
 r.cells.length=sz/\aO I ow w r.cells b (off+i*sz)
 |[],_,_,_,_,_,_,h=>by simp at h
 |u::rows,b,off,sz,i,r,h,hr=>by
  simp only[aT]at h;cases i with
  |zero=>simp at hr;subst hr;exact⟨h.1,by simpa using(dT ..).1 h.2.1⟩
  |succ i=>
   have:=aT.get (i:=i) h.2.2 (by simpa using hr)
   rwa [show off+sz+i*sz=off+(i+1)*sz by rw[Nat.add_mul];omega]at this
def aT.drop:∀{rows:List V} {b off sz:Nat} (k:Nat),aT I ow w rows b off sz->aT I ow w (rows.drop k) b (off+k*sz) sz
 |[],_,_,_,_,_=>by simp[aT]
 |u::rows,b,off,sz,0,h=>by simpa using h
 |u::rows,b,off,sz,k+1,h=>by
  simp only[aT]at h;have:=aT.drop k h.2.2;rw[show off+sz+k*sz=off+(k+1)*sz by rw[Nat.add_mul];omega]at this;simpa using this
def aT.take:∀{rows:List V} {b off sz:Nat} (k:Nat),aT I ow w rows b off sz->aT I ow w (rows.take k) b off sz
 |[],_,_,_,_,_=>by simp[aT]
 |u::rows,b,off,sz,0,h=>by simp[aT]
 |u::rows,b,off,sz,k+1,h=>by
  simp only[aT]at h;simp only[px,aT];exact⟨h.1,h.2.1,aT.take k h.2.2⟩
def pU(v:Value):E' I ow w (cellOf v) v:=by
 cases v<;>simp only[cellOf]<;>(try split)<;>simp_all [E']
def fg:∀(l:List Value),ar I ow w (l.map cellOf) l
 |[]=>by simp[ar]
 |v::l=>by simp only[eo,ar];exact⟨v,l,rfl,pU v,fg l⟩
def ot(v:Value):E' I ow w (ofValue v) v:=by
 unfold ofValue;split
 .rename_i cs;split
  .rename_i h;simp only[E'];exact⟨cs.toList,by simp,fg _,λu hu=>eT.1 h u hu⟩
  .simp[E']
 .exact pU v
def rY{t:TypeId}(h:(P.underlying t).isSome):(isAgg t).run P w=.ok (fw P t) w:=by
 obtain⟨d,hd⟩:=Option.isSome_iff_exists.1 h;unfold isAgg fw;simp only[Sem.run_bind,run_underlying hd,Result.andThen_ok,hd];cases d<;>rfl
def dz{t:TypeId}(h:bO P t=true):(P.underlying t).isSome/\(∃i,P.info? t=some i/\i.size=P.cellsOf t)/\0<P.cellsOf t:=by
 simp only[bO,Ba,bne_iff_ne]at h;obtain⟨⟨h1,h2⟩,h3⟩:=h;obtain⟨i,hi⟩:=Option.isSome_iff_exists.1 h1;exact⟨h2,⟨i,hi,by simp[Program.cellsOf,hi]⟩,by omega⟩
def cc{t:TypeId}(h:bO P t=true):(sizeOf t).run P w=.ok (P.cellsOf t) w:=by
 obtain⟨_,⟨i,hi,_⟩,_⟩:=dz h;exact run_sizeOf w hi
def Bh{t:TypeId}(h:bO P t=true){WO:List Value}{vs:List V}{off:Nat}{v:V}(hr:ar I ow w vs WO)
 (h1:∀u∈WO,u.oneCell'=true)(hv:da (fw P t) off (P.cellsOf t) vs=some v):
 ∃x,(part t ⟨WO⟩ off).run P w=.ok x w/\E' I ow w v x:=by
 unfold part;simp only[Sem.run_bind,rY (dz h).1,Result.andThen_ok];unfold da at hv;cases ZT:fw P t
 .simp only[ZT,fG,if_false]at hv|-;obtain⟨x,hx,hrx⟩:=hr.get hv;have:(⟨WO⟩:Array Value)[off]?=some x:=by simpa using hx
  exact⟨x,by simp[this],hrx⟩
 .simp only[ZT,if_true,aI]at hv|-;subst hv;refine⟨.agg ((⟨WO⟩:Array Value).extract off (off+P.cellsOf t)),by simp[cc h],?_⟩;simp only[E'];refine⟨(WO.drop off).take (P.cellsOf t),?_,(hr.drop off).take _,λu hu=>h1 u (List.mem_of_mem_drop (qp hu))⟩;have e:(⟨WO⟩:Array Value)=WO.toArray:=rfl;rw[e,List.extract_toArray];simp
def ju{t:TypeId}(h:bO P t=true){vs:List V}{b off:Nat}(hr:aO I ow w vs b off){v:V}
 (hv:(if fw P t then(if vs.length=P.cellsOf t then some (V.agg vs)else none)else vs[0]?)=some v):
 ∃x,(loadVar t ⟨b,off,none⟩).run P w=.ok x w/\E' I ow w v x:=by
 unfold loadVar;simp only[Sem.run_bind,rY (dz h).1,Result.andThen_ok];cases ZT:fw P t
 .simp only[ZT,fG,if_false]at hv|-;obtain⟨x,hx,h1,h2⟩:=hr.get hv;exact⟨x,by simp[show w.cell? ⟨b,off,none⟩=some x by simpa using hx],h1⟩
 .simp only[ZT,if_true]at hv|-;split at hv
  .rename_i hl;simp only[aI]at hv;subst hv;obtain⟨xs,h1,h2,h3⟩:=hr.E2;have hlen:xs.length=P.cellsOf t:=by rw[h1.length,hl]
   refine⟨.agg xs.toArray,?_,by simp only[E'];exact⟨xs,rfl,h1,h2⟩⟩;simp only[Sem.run_bind,cc h,Result.andThen_ok];rw[<-hlen,run_loadCells_list (P:=P) w ⟨b,off,none⟩ xs (λj u hu=>by rw[fZ];exact h3 j u hu)];simp
  .cases hv
def ML{op:BinOp}{t:TypeId}{x y v:V}{X Y:Value}{xo yo:Operand}(hx:E' I ow w x X)(hy:E' I ow w y Y)(hp:qe op x y)
 (hv:x8 op x y=some v):∃z,(do eqGuard op t xo yo X Y;binOp op t X Y:Sem Value).run P w=.ok z w/\E' I ow w v z:=by
 unfold x8 at hv;split at hv
 .rename_i k a k' b;split at hv
  .rename_i hk;subst hk;simp only[E']at hx hy;subst hx hy;simp only[qe]at hp;have hg:(eqGuard op t xo yo (.int k a) (.int k b)).run P w=.ok () w:=by
    unfold eqGuard;simp
   simp only[Sem.run_bind,hg,Result.andThen_ok];cases op<;>simp only[dV,reduceCtorEq]at hv<;>simp only[iJ]at hp<;>
    first
    |(split at hv
      .cases hv
      .rename_i hb;simp only[aI]at hv;subst hv
       first
       |exact⟨_,by simp only[binOp,Op.shift,ao hb];rfl,by simp[E']⟩
       |simp_all [binOp,Op.intDiv,E',WR])
    |(simp only[aI]at hv;subst hv;simp_all [binOp,Op.intArith,Op.intCmp,Op.intBits,E',WR,rI,K0])
  .cases hv
 .rename_i a b;simp only[E']at hx hy;subst hx hy;simp only[qe]at hp;have hg:(eqGuard op t xo yo (.string ⟨a.toArray⟩) (.string ⟨b.toArray⟩)).run P w=.ok () w:=by
   unfold eqGuard;simp
  simp only[Sem.run_bind,hg,Result.andThen_ok];have Zb:∀l:List UInt8,(⟨l.toArray⟩:ByteArray).size=l.length:=λl=>by simp[ByteArray.size]
  have hl:∀l:List UInt8,(⟨l.toArray⟩:ByteArray).toList=l:=λl=>by rw[ByteArray.toList_eq]
  cases op<;>simp only[qv,reduceCtorEq]at hv<;>simp only[wh]at hp<;>simp only[aI]at hv<;>subst hv
  .refine⟨.string (⟨a.toArray⟩++⟨b.toArray⟩),?_,?_⟩
   .simp only[binOp,Op.stringOp,Zb];rw[ao (by simp[IntKind.max,IntKind.signed,IntKind.bits];omega)];simp
   .simp only[E'];congr 1
  .exact⟨.bool (decide (a=b)),by simp[binOp,Op.stringOp,hl,rI],by simp[E']⟩
  .exact⟨.bool (decide (a≠b)),by simp[binOp,Op.stringOp,hl,rI],by simp[E']⟩
 .cases hv
def tt{s:TypeId}{fs:Array Field}{f:Nat}{fd:Field}(hs:P.underlying s=some (.struct fs))(hf:fs[f]?=some fd)(hk:bO P fd.type=true)
 (b o:Nat):(Instr.fieldAt s (.pointer (some ⟨b,o,none⟩)) f).run P w=.ok (.pointer (some ⟨b,o+fd.offset,none⟩)) w:=by
 have W6:P.cellsOf fd.type≠0:=Nat.pos_iff_ne_zero.1 (dz hk).2.2;simp[Instr.fieldAt,run_underlying hs,hf,Instr.sureAddr,fieldPlace,cc hk,W6,fZ]
def GO{s:TypeId}{fs:Array Field}{f:Nat}{fd:Field}(hs:P.underlying s=some (.struct fs))(hf:fs[f]?=some fd)(hk:bO P fd.type=true)
 {x v:V}{X:Value}(hx:E' I ow w x X)(hv:lx (fw P fd.type) fd.offset (P.cellsOf fd.type) x=some v):
 ∃z,(Instr.fieldAt s X f).run P w=.ok z w/\E' I ow w v z:=by
 unfold lx at hv;split at hv
 .rename_i id i k;simp only[aI]at hv;subst hv;simp only[E']at hx;split at hx
  .rename_i b sz cap P';obtain⟨rfl,Zb⟩:=hx;exact⟨_,tt hs hf hk b _,by simp only[E',P'];simp[Nat.add_assoc,Zb]⟩
  .exact hx.elim
 .rename_i u;simp only[E']at hx;obtain⟨b,off,rfl,H',hb,hr⟩:=hx;rw[dT]at hr;refine⟨_,tt hs hf hk b off,?_⟩;cases G':da (fw P fd.type) fd.offset (P.cellsOf fd.type) u.cells with
  |none=>simp[G']at hv
  |some y=>
   simp only[G',Option.map_some,aI]at hv;subst hv;simp only[E'];have hb':y.cells=[]\/¬ow b:=hb.imp (λhu=>by
    rw[hu]at G';unfold da at G';split at G'
    .simp only[List.drop_nil,List.take_nil,aI]at G';rw[<-G'];rfl
    .simp at G') id
   refine⟨b,off+fd.offset,rfl,H',hb',?_⟩;rw[dT];unfold da at G';split at G'
   .simp only[aI]at G';subst G';simp only[V.cells];exact(hr.drop _).take _
   .obtain⟨z,h1,h2,h3⟩:=hr.get G';have hy:y.cells=[y]:=by
     cases y<;>simp only[V.cells];simp only[E']at h2;obtain⟨WO,rfl,_⟩:=h2;simp[Value.oneCell']at h3
    rw[hy];simp only[aO,and_true];exact⟨z,h1,h2,h3⟩
 .cases hv
def tp{y:V}{z:Value}(h2:E' I ow w y z)(h3:z.oneCell'=true):y.cells=[y]:=by
 cases y<;>simp only[V.cells];simp only[E']at h2;obtain⟨WO,rfl,_⟩:=h2;simp[Value.oneCell']at h3
def DM{u y:V}{agg:Bool}{o sz b off:Nat}(H':b<w.heap.size)(hb:u.cells=[]\/¬ow b)(hr:aO I ow w u.cells b off)(G':da agg o sz u.cells=some y):
 E' I ow w (.rp y) (.pointer (some ⟨b,off+o,none⟩)):=by
 simp only[E'];have hb':y.cells=[]\/¬ow b:=hb.imp (λhu=>by
  rw[hu]at G';unfold da at G';split at G'
  .simp only[List.drop_nil,List.take_nil,aI]at G';rw[<-G'];rfl
  .simp at G') id
 refine⟨b,off+o,rfl,H',hb',?_⟩;rw[dT];unfold da at G';split at G'
 .simp only[aI]at G';subst G';simp only[V.cells];exact(hr.drop _).take _
 .obtain⟨z,h1,h2,h3⟩:=hr.get G';rw[tp h2 h3];simp only[aO,and_true];exact⟨z,h1,h2,h3⟩
def F7{w0:World}{XN:Nat->Prop}{U:ag}(Zm:Sat w0 XN I U w){t e:TypeId}(ht:P.underlying t=some (.slice e))(hk:bO P e=true)
 {x y v:V}{X Y:Value}(hx:E' I (az I U) w x X)(hy:E' I (az I U) w y Y)(hv:bp U (P.cellsOf e) x y=some v):
 ∃z,(Instr.indexAt t X Y).run P w=.ok z w/\E' I (az I U) w v z:=by
 unfold bp at hv;split at hv
 .rename_i id off len k j;split at hv
  .rename_i ob Xz;split at hv
   .rename_i hc;obtain⟨Zb,h0,h1⟩:=hc;simp only[aI]at hv;subst hv;simp only[E']at hx hy;subst hy;have Yx:=Zm.obj id ob Xz;split at hx
    .exact hx.elim
    .obtain⟨rfl,rfl,rfl⟩:=hx;exfalso;simp at h1;omega
    .rename_i b sz cap P';obtain⟨o,c,rfl,hc1,hc2,ZC,hz⟩:=hx;rw[P']at Yx;obtain⟨cur,_,hsz2,_⟩:=Yx.plain hz;have ho:o=off*sz:=by
      rcases ZC with ZC|ZC
      .exact ZC
      .omega
     subst ho;refine⟨.pointer (some ⟨b,off*sz+j.toNat*P.cellsOf e,none⟩),?_,?_⟩
     .simp[Instr.indexAt,asIntOf,run_underlying ht,h0,h1,cc hk,fZ]
     .simp only[E',P'];rw[<-Zb,hsz2,Nat.add_mul];simp[hz]
   .cases hv
  .cases hv
 .rename_i sz rows k j;split at hv
  .rename_i h0;obtain⟨rfl,h0⟩:=h0;split at hv
   .rename_i r hr;simp only[aI]at hv;subst hv;simp only[E']at hx hy;subst hy;obtain⟨a,cap,rfl,hcap,hrest⟩:=hx;have H':j.toNat<rows.length:=by
     have:=jn.1 hr;exact this.1
    rcases hrest with rfl|⟨b,off,rfl,hb,Zb,Xo⟩
    .simp at H'
    .obtain⟨h1,h2⟩:=Xo.get hr;refine⟨.pointer (some ⟨b,off+j.toNat*P.cellsOf e,none⟩),?_,?_⟩
     .have:j<(rows.length:Int):=by omega
      simp[Instr.indexAt,asIntOf,run_underlying ht,h0,this,cc hk,fZ]
     .simp only[E'];refine⟨b,_,rfl,?_,.inr hb,(dT ..).2 h2⟩;cases hc:r.cells with
      |nil=>rw[hc]at h1;simp at h1;omega
      |cons c cs=>
       rw[hc]at h2;simp only[aO]at h2;obtain⟨⟨y,hy,_⟩,_⟩:=h2;exact World.block_lt_of_cell? w _ hy
   .cases hv
  .cases hv
 .cases hv
def DI{t e:TypeId}{n:Nat}(ht:P.underlying t=some (.array n e))(hk:bO P e=true)
 {x y v:V}{X Y:Value}(hx:E' I ow w x X)(hy:E' I ow w y Y)(hv:nr (fw P e) n (P.cellsOf e) x y=some v):
 ∃z,(Instr.indexAt t X Y).run P w=.ok z w/\E' I ow w v z:=by
 unfold nr at hv;split at hv
 .rename_i id i k kk j;split at hv
  .rename_i hc;simp only[aI]at hv;subst hv;simp only[E']at hx hy;subst hy;split at hx
   .rename_i b sz cap P';obtain⟨rfl,Zb⟩:=hx;refine⟨.pointer (some ⟨b,i*sz+k+j.toNat*P.cellsOf e,none⟩),?_,by simp only[E',P'];simp[Nat.add_assoc,Zb]⟩;simp[Instr.indexAt,asIntOf,run_underlying ht,hc,cc hk,fZ,Instr.sureAddr]
   .exact hx.elim
  .cases hv
 .rename_i u kk j;split at hv
  .rename_i hc;simp only[E']at hx hy;subst hy;obtain⟨b,off,rfl,H',hb,hr⟩:=hx;rw[dT]at hr;cases G':da (fw P e) (j.toNat*P.cellsOf e) (P.cellsOf e) u.cells with
   |none=>simp[G']at hv
   |some y=>
    simp only[G',Option.map_some,aI]at hv;subst hv;refine⟨_,?_,DM H' hb hr G'⟩;simp[Instr.indexAt,asIntOf,run_underlying ht,hc,cc hk,fZ,Instr.sureAddr]
  .cases hv
 .cases hv
def GD{t e:TypeId}{n:Nat}(ht:P.underlying t=some (.array n e))(hk:bO P e=true)
 {x y v:V}{X Y:Value}(hx:E' I ow w x X)(hy:E' I ow w y Y)(hv:ue (fw P e) n (P.cellsOf e) x y=some v):
 ∃z,(Instr.index t X Y).run P w=.ok z w/\E' I ow w v z:=by
 unfold ue at hv;split at hv
 .rename_i vs kk j;split at hv
  .rename_i hc;simp only[E']at hx hy;subst hy;obtain⟨WO,rfl,hr,h1⟩:=hx;obtain⟨z,hz,hrz⟩:=Bh (w:=w) hk hr h1 hv;exact⟨z,by simp[Instr.index,asIntOf,run_underlying ht,hc,cc hk,hz],hrz⟩
  .cases hv
 .cases hv
def Gt{t:TypeId}(ht:P.underlying t=some .string)
 {x y v:V}{X Y:Value}(hx:E' I ow w x X)(hy:E' I ow w y Y)(hv:rk x y=some v):
 ∃z,(Instr.index t X Y).run P w=.ok z w/\E' I ow w v z:=by
 unfold rk at hv;split at hv
 .rename_i s k j;split at hv
  .rename_i h0;split at hv
   .rename_i b hb;simp only[aI]at hv;subst hv;simp only[E']at hx hy;subst hx hy;have e:(⟨s.toArray⟩:ByteArray)[j.toNat]?=some b:=by
     have:=jn.1 hb;obtain⟨h1,h2⟩:=this;rw[getElem?_pos (h:=by simpa[ByteArray.size]using h1)];simp[<-h2,ByteArray.getElem_eq_getElem_data]
    exact⟨.int .u8 b.toNat,by simp[Instr.index,asIntOf,run_underlying ht,h0,e],by simp[E']⟩
   .cases hv
  .cases hv
 .cases hv
variable {P:Program} {I:Mu} {ow:Nat->Prop} {w:World}
def y9{w0:World}{XN:Nat->Prop}{U:ag}(Zm:Sat w0 XN I U w){t:TypeId}(hk:bO P t=true)
 {x v:V}{X:Value}(hx:E' I (az I U) w x X)(hv:bF U (fw P t) (P.cellsOf t) x=some v):
 ∃z,(Instr.loadAt t X).run P w=.ok z w/\E' I (az I U) w v z:=by
 unfold bF at hv;split at hv
 .rename_i id i k;split at hv
  .rename_i ob Xz;split at hv
   .rename_i r hr;have Yx:=Zm.obj id ob Xz;simp only[E']at hx;split at hx
    .rename_i b sz cap P';obtain⟨rfl,Zb⟩:=hx;rw[P']at Yx;obtain⟨_,_,_,_,Xo⟩:=Yx.rows Zb;obtain⟨hl,hcells⟩:=Xo.get hr;simp only[iV]at hcells;have hd:=hcells.drop k;cases ZT:fw P t
     .simp only[ZT,fG,if_false]at hv;obtain⟨z,hz,hrz⟩:=ju (P:=P) hk hd (v:=v) (by simp only[ZT,fG,if_false];simpa using hv);exact⟨z,by simp[Instr.loadAt,Instr.sureAddr,hz],hrz⟩
     .simp only[ZT,if_true]at hv;split at hv
      .rename_i hc;obtain⟨rfl,hlen⟩:=hc;simp only[aI]at hv;subst hv;obtain⟨z,hz,hrz⟩:=ju (P:=P) hk hd (v:=.agg r.cells) (by simp[ZT,hlen]);exact⟨z,by simpa[Instr.loadAt,Instr.sureAddr]using hz,hrz⟩
      .split at hv
       .rename_i hle;simp only[aI]at hv;subst hv;obtain⟨z,hz,hrz⟩:=ju (P:=P) hk (hd.take (P.cellsOf t)) (v:=.agg ((r.cells.drop k).take (P.cellsOf t)))
         (by rw[aq ZT,aq (by simp;omega)])
        exact⟨z,by simp[Instr.loadAt,Instr.sureAddr,hz],hrz⟩
       .cases hv
    .exact hx.elim
   .cases hv
  .cases hv
 .rename_i u;simp only[E']at hx;obtain⟨b,off,rfl,H',hb,hr⟩:=hx;rw[dT]at hr;cases ZT:fw P t
  .simp only[ZT,fG,if_false]at hv;have hv':u=v/\u.cells=[u]:=by
    cases u<;>simp_all [V.cells]
   obtain⟨rfl,hc⟩:=hv';rw[hc]at hr;obtain⟨z,hz,hrz⟩:=ju (P:=P) hk hr (v:=u) (by simp[ZT]);exact⟨z,by simp[Instr.loadAt,Instr.sureAddr,hz],hrz⟩
  .simp only[ZT,if_true]at hv;split at hv
   .rename_i hl;simp only[aI]at hv;subst hv;obtain⟨z,hz,hrz⟩:=ju (P:=P) hk hr (v:=.agg u.cells) (by simp[ZT,hl]);exact⟨z,by simp[Instr.loadAt,Instr.sureAddr,hz],hrz⟩
   .cases hv
 .cases hv
def n7{d:Int}{o:Option V}{O:Option Value}(ho:match o,O with|none,none=>True|some v,some x=>E' I ow w v x|_,_=>False){j:Int}
 (hj:bX d o=some j):(o=none/\O=none/\j=d)\/∃k,o=some (.int k j)/\O=some (.int k j):=by
 unfold bX at hj;split at hj
 .simp only[aI]at hj;cases O with
  |none=>exact .inl ⟨rfl,rfl,hj.symm⟩
  |some x=>exact ho.elim
 .rename_i k j';simp only[aI]at hj;subst hj;cases O with
  |none=>exact ho.elim
  |some x=>
   simp only[E']at ho;subst ho;exact .inr ⟨k,rfl,rfl⟩
 .cases hj
def jK(I:Mu)(ow:Nat->Prop)(w:World)(o:Option V)(O:Option Value):Prop:=
 match o,O with|none,none=>True|some v,some x=>E' I ow w v x|_,_=>False
def dq(k:IntKind)(i:Int)(y:Nat)(code:BoundsCode)(h0:0<=i)(h1:i<=y):
 (Instr.sliceBound (.int k i) y code).run P w=.ok i.toNat w:=by
 simp[Instr.sliceBound,asIntOf,h0,h1]
def fB{n c:Nat}{lo hi mx:Option V}{LO HI MX:Option Value}(h1:jK I ow w lo LO)(h2:jK I ow w hi HI)(h3:jK I ow w mx MX)
 {l h m:Int}(hl:bX 0 lo=some l)(hh:bX n hi=some h)(hm:bX n mx=some m)(h0:0<=l)(h01:l<=h)(h12:h<=m)(h23:m<=n)(hnc:n<=c)
 (hmh:mx≠none->hi≠none)(s:Bool):
 ∃m',(Instr.sliceBounds s n c LO HI MX).run P w=.ok (l.toNat,h.toNat,m') w/\h.toNat<=m'/\m'<=c:=by
 rcases n7 h3 hm with⟨_,rfl,rfl⟩|⟨km,rfl,rfl⟩
 .refine⟨c,?_,by omega,Xm _⟩;rcases n7 h2 hh with⟨_,rfl,rfl⟩|⟨kh,_,rfl⟩<;>rcases n7 h1 hl with⟨_,rfl,rfl⟩|⟨kl,_,rfl⟩<;>
   simp only[Instr.sliceBounds,Sem.run_bind,Sem.run_pure,Result.andThen_ok]
  .simp
  .rw[dq kl l n _ h0 (by omega)];simp
  .rw[dq kh h c _ (by omega) (by omega)];simp
  .rw[dq kh h c _ (by omega) (by omega)];simp only[Result.andThen_ok];rw[dq kl l h.toNat _ h0 (by omega)];simp
 .refine⟨m.toNat,?_,by omega,by omega⟩;rcases n7 h2 hh with⟨rfl,rfl,rfl⟩|⟨kh,_,rfl⟩
  .exact absurd rfl (hmh (by simp))
  .rcases n7 h1 hl with⟨_,rfl,rfl⟩|⟨kl,_,rfl⟩<;>
    simp only[Instr.sliceBounds,Sem.run_bind,Sem.run_pure,Result.andThen_ok]
   .rw[dq km m c _ (by omega) (by omega)];simp only[Result.andThen_ok];rw[dq kh h m.toNat _ (by omega) (by omega)];simp
   .rw[dq km m c _ (by omega) (by omega)];simp only[Result.andThen_ok];rw[dq kh h m.toNat _ (by omega) (by omega)];simp only[Result.andThen_ok];rw[dq kl l h.toNat _ h0 (by omega)];simp
def vU{w0:World}{XN:Nat->Prop}{U:ag}(Zm:Sat w0 XN I U w){t e:TypeId}(ht:P.underlying t=some (.slice e))(hk:bO P e=true)
 {x v:V}{X:Value}(hx:E' I ow w x X){lo hi mx:Option V}{LO HI MX:Option Value}(h1:jK I ow w lo LO)(h2:jK I ow w hi HI)(h3:jK I ow w mx MX)
 (hmh:mx≠none->hi≠none)(hv:eK U (P.cellsOf e) x lo hi mx=some v):
 ∃z,(Instr.sliceAt t X LO HI MX).run P w=.ok z w/\E' I ow w v z:=by
 have Zd:∀(a:Option Addr) (n c:Nat) (r:Nat×Nat×Nat),(Instr.sliceBounds true n c LO HI MX).run P w=.ok r w->
  (Instr.sliceAt t (.slice a n c) LO HI MX).run P w=.ok (.slice (if r.2.2=r.1 then a else a.map (·.add (r.1*P.cellsOf e))) (r.2.1-r.1) (r.2.2-r.1)) w:=by
  intro a n c r hr;simp[Instr.sliceAt,Instr.slice,run_underlying ht,hr,cc hk]
 cases x with
 |own id off len=>
  simp only[eK]at hv;split at hv
  .rename_i l h m hl hh hm;split at hv
   .rename_i hc;obtain⟨c0,c1,c2,c3,c4⟩:=hc;simp only[aI]at hv;subst hv;simp only[E']at hx;split at hx
    .exact hx.elim
    .rename_i P';obtain⟨rfl,rfl,rfl⟩:=hx;obtain⟨m',hr,hm1,hm2⟩:=fB (P:=P) (c:=0) h1 h2 h3 hl hh hm c0 c1 c2 c3 (Xm _) hmh true;refine⟨_,Zd none 0 0 _ hr,?_⟩;simp only[E',P'];have:h.toNat=0:=by omega
     have:l.toNat=0:=by omega
     simp_all;omega
    .rename_i b sz cap P';obtain⟨o,c,rfl,hc1,hc2,ZC,hz⟩:=hx;obtain⟨m',hr,hm1,hm2⟩:=fB (P:=P) (c:=c) h1 h2 h3 hl hh hm c0 c1 c2 c3 hc1 hmh true;refine⟨_,Zd _ len c _ hr,?_⟩;have hsz':sz=P.cellsOf e:=by
      cases Xz:U id with
      |none=>simp[yd,Xz]at c4
      |some ob=>
       simp only[yd,Xz,beq_iff_eq]at c4;have:=Zm.obj id ob Xz;rw[P']at this;exact(this.rows hz).1.symm.trans c4
     simp only[E',P'];by_cases e':m'=l.toNat
     .rw[aq e'];refine⟨o,m'-l.toNat,rfl,by omega,by omega,?_,hz⟩;by_cases h0:off+l.toNat=0
      .left;have h1:off=0:=by omega
       rcases ZC with ZC|ZC
       .rw[h0,ZC,h1]
       .exact absurd h1 ZC.2
      .exact .inr ⟨by omega,h0⟩
     .rw[ao e'];simp only[Option.map_some,fZ];refine⟨o+l.toNat*P.cellsOf e,m'-l.toNat,rfl,by omega,by omega,.inl ?_,hz⟩;rcases ZC with ZC|ZC
      .rw[ZC,hsz',Nat.add_mul]
      .omega
   .cases hv
  .cases hv
 |sl sz rows=>
  simp only[eK]at hv;split at hv
  .rename_i l h m hl hh hm;split at hv
   .rename_i hc;obtain⟨c0,c1,c2,c3,rfl⟩:=hc;simp only[aI]at hv;subst hv;simp only[E']at hx;obtain⟨a,cap,rfl,hcap,hrest⟩:=hx;obtain⟨m',hr,hm1,hm2⟩:=fB (P:=P) (c:=cap) h1 h2 h3 hl hh hm c0 c1 c2 c3 hcap hmh true;refine⟨_,Zd _ _ cap _ hr,?_⟩;simp only[E'];have hlen:((rows.drop l.toNat).take (h.toNat-l.toNat)).length=h.toNat-l.toNat:=by simp;omega
    refine⟨_,_,by rw[hlen],by omega,?_⟩;by_cases e':m'=l.toNat
    .left;have:h.toNat-l.toNat=0:=by omega
     rw[this];simp
    .rw[ao e'];rcases hrest with rfl|⟨b,off,rfl,hb,hs,Xo⟩
     .left;simp
     .exact .inr ⟨b,off+l.toNat*P.cellsOf e,by simp[fZ],hb,hs,(Xo.drop _).take _⟩
   .cases hv
  .cases hv
 |ay=>
  simp only[eK]at hv;split at hv
  .rename_i l h m hl hh hm;split at hv
   .rename_i hc;obtain⟨rfl,rfl,rfl⟩:=hc;simp only[aI]at hv;subst hv;simp only[E']at hx;subst hx;obtain⟨m',hr,hm1,hm2⟩:=fB (P:=P) (n:=0) (c:=0) h1 h2 h3 hl hh hm (by omega) (by omega) (by omega) (by simp) (Xm _) hmh true;refine⟨_,Zd none 0 0 _ hr,?_⟩;simp[E'];omega
   .cases hv
  .cases hv
 |_=>simp[eK]at hv
def vL{t:TypeId}(ht:P.underlying t=some .string){x v:V}{X:Value}(hx:E' I ow w x X){lo hi:Option V}{LO HI:Option Value}(h1:jK I ow w lo LO)(h2:jK I ow w hi HI)
 (hv:lE x lo hi=some v):
 ∃z,(Instr.sliceAt t X LO HI none).run P w=.ok z w/\E' I ow w v z:=by
 unfold lE at hv;split at hv
 case h_2=>cases hv
 rename_i s;split at hv
 .rename_i l h hl hh;split at hv
  .rename_i hc;obtain⟨c0,c1,c2⟩:=hc;simp only[aI]at hv;subst hv;simp only[E']at hx;subst hx;have Zb:(⟨s.toArray⟩:ByteArray).size=s.length:=by simp[ByteArray.size]
   obtain⟨m',hr,hm1,hm2⟩:=fB (P:=P) (w:=w) (n:=s.length) (c:=s.length) (mx:=none) (MX:=none) h1 h2 (by simp[jK]) hl hh (m:=s.length) (by simp[bX]) c0 c1 c2 (Int.le_refl _) (Xm _) (by simp) false;refine⟨.string ((⟨s.toArray⟩:ByteArray).extract l.toNat h.toNat),?_,?_⟩
   .simp[Instr.sliceAt,Instr.slice,run_underlying ht,Zb,hr]
   .simp only[E'];congr 1;apply ByteArray.ext;simp[ByteArray.data_extract]
  .cases hv
 .cases hv
def bU{F:Fr}{st:St}{a:Act}(hs:cQ F I st a w)(x:Operand):E' I (az I st.U) w ((cx F.n x).ev st.s) (a.eval x):=by
 cases x with
 |tmp t=>
  by_cases ht:t<F.n
  .simp only[cx,Act.eval,aq ht];exact hs.slot t ht
  .have hle:a.tmps.size<=t:=by rw[hs.size];exact Nat.le_of_not_lt ht
   simp only[cx,Act.eval,ao ht,VX.ev,E'];exact⟨[],by rw[Zq7,Array.getElem?_eq_none hle];rfl,by simp[ar]⟩
 |const v=>exact ot v
 |global g=>simp[cx,VX.ev,Act.eval,E']
 |func f=>simp[cx,VX.ev,Act.eval,E',ar]
def oY{F:Fr}{st:St}{a:Act}(hs:cQ F I st a w):∀(l:List Operand),ar I (az I st.U) w ((l.map (cx F.n)).map (·.ev st.s)) (l.map a.eval)
 |[]=>by simp[ar]
 |x::l=>by simp only[eo,ar];exact⟨_,_,rfl,bU hs x,oY hs l⟩
def vV{F:Fr}{st:St}{a:Act}(hs:cQ F I st a w)(o:Option Operand):jK I (az I st.U) w ((o.map (cx F.n)).map (·.ev st.s)) (o.map a.eval):=by
 cases o with
 |none=>simp[jK]
 |some x=>simpa[jK]using bU hs x
def ar.append:∀{vs us:List V} {l m:List Value},ar I ow w vs l->ar I ow w us m->ar I ow w (vs++us) (l++m)
 |[],us,l,m,h,h'=>by simp[ar]at h;subst h;simpa using h'
 |v::vs,us,l,m,h,h'=>by
  simp only[ar]at h;obtain⟨x,xs,rfl,h1,h2⟩:=h;simp only[List.cons_append,ar];exact⟨x,xs++m,rfl,h1,h2.append h'⟩
def E'.one{v:V}{x:Value}(h:E' I ow w v x)(hs:v.stays=true)(ha:∀vs,v≠.agg vs):x.oneCell'=true:=by
 cases v<;>simp only[E']at h<;>(try simp[V.stays]at hs)
 case agg vs=>exact absurd rfl (ha vs)
 case sl=>obtain⟨a,c,rfl,_⟩:=h;rfl
 case own=>
  split at h
  .exact h.elim
  .rw[h.1];rfl
  .obtain⟨o,c,rfl,_⟩:=h;rfl
 case ptr=>
  split at h
  .rw[h.1];rfl
  .exact h.elim
 case gp=>
  split at h
  .rw[h];rfl
  .exact h.elim
 case yl=>
  split at h
  .rw[h];rfl
  .exact h.elim
 case mp=>
  split at h
  .rw[h];rfl
  .exact h.elim
 case rp=>obtain⟨b,o,rfl,_⟩:=h;rfl
 case fn=>obtain⟨WO,rfl,_⟩:=h;rfl
 case bm=>obtain⟨WO,rfl,_⟩:=h;rfl
 case iface=>obtain⟨y,rfl,_⟩:=h;rfl
 all_goals first|(subst h;rfl)|(subst h;exact hs)
def E'.cells{v:V}{x:Value}(h:E' I ow w v x)(hs:v.stays=true):ar I ow w v.cells x.cells.toList/\∀u∈x.cells.toList,u.oneCell'=true:=by
 by_cases ha:∃vs,v=.agg vs
 .obtain⟨vs,rfl⟩:=ha;simp only[E']at h;obtain⟨WO,rfl,h1,h2⟩:=h;exact⟨by simpa[V.cells,Value.cells]using h1,by simpa[Value.cells]using h2⟩
 .have h1:=h.one hs (λvs e=>ha ⟨vs,e⟩);have hc:x.cells=#[x]:=by cases x<;>simp_all [Value.cells,Value.oneCell']
  have hv:v.cells=[v]:=tp h h1;rw[hc,hv];simp only[ar];exact⟨⟨x,[],rfl,h,rfl⟩,by simpa using h1⟩
def E'.j4{v:V}{x:Value}(h:E' I ow w v x)(hs:v.stays=true):x.cells.size=v.cells.length:=by
 have:=(h.cells hs).1.length;simpa using this
def BK(off:Nat):∀(vs:List Value) (k:Nat) (cs:Array Value),off+k+vs.length<=cs.size->
 ((vs.zipIdx k).foldl (λcs (p:Value×Nat)=>cs.setIfInBounds (off+p.2) p.1) cs).toList=ei cs.toList (off+k) vs
 |[],k,cs,_=>by simp[ei]
 |v::vs,k,cs,h=>by
  simp only[XX]at h;simp only[List.zipIdx_cons,jm];rw[BK off vs (k+1) _ (by simp;omega)];have hk:off+k<cs.toList.length:=by simp;omega
  simp only[ei,Array.toList_setIfInBounds,XX];rw[List.set_eq_take_append_cons_drop,aq hk];have e1:(cs.toList.take (off+k)).length=off+k:=by simp;omega
  rw[show off+(k+1)=(cs.toList.take (off+k)).length+1 by omega,List.take_length_add_append,show(cs.toList.take (off+k)).length+1+vs.length=(cs.toList.take (off+k)).length+(1+vs.length) by omega,
   List.drop_length_add_append]
  simp[List.drop_drop,DK,Nat.add_left_comm,Nat.add_assoc]
def lQ{α:Type}(l:List α)(off:Nat)(xs:List α)(h:off+xs.length<=l.length):(ei l off xs).length=l.length:=by
 simp[ei];omega
def pr(place:Nat->Option (Nat×Nat)):∀(parts:List (Nat×Value)) (cells:Array Value),
 (∀p∈parts,∃off sz,place p.1=some (off,sz)/\p.2.cells.size=sz/\off+sz<=cells.size)->
 ∃cs,Instr.fill place cells parts=some cs/\cs.size=cells.size/\cs.toList=parts.foldl (λl p=>ei l (((place p.1).map (·.1)).getD 0) p.2.cells.toList) cells.toList
 |[],cells,_=>⟨cells,rfl,rfl,rfl⟩
 |(i,v)::rest,cells,h=>by
  obtain⟨off,sz,h1,h2,h3⟩:=h (i,v) (by simp);simp only at h1 h2;have hs:(v.cells.zipIdx.foldl (λcs (p:Value×Nat)=>cs.setIfInBounds (off+p.2) p.1) cells).toList=ei cells.toList off v.cells.toList:=by
   have:=BK off v.cells.toList 0 cells (by simp;omega);rw[<-Array.foldl_toList,Array.toList_zipIdx];simpa using this
  have Zb:(v.cells.zipIdx.foldl (λcs (p:Value×Nat)=>cs.setIfInBounds (off+p.2) p.1) cells).size=cells.size:=by
   have:=congrArg List.length hs;rw[lQ _ _ _ (by simp;omega)]at this;simpa using this
  obtain⟨cs,h4,h5,h6⟩:=pr place rest _ (λp hp=>by
   obtain⟨off',sz',g1,g2,g3⟩:=h p (by simp[hp]);exact⟨off',sz',g1,g2,by rw[Zb];exact g3⟩)
  refine⟨cs,?_,by rw[h5,Zb],?_⟩
  .simp only[Instr.fill,h1];rw[ao (by simp;omega)];exact h4
  .rw[h6,hs];simp[h1]
def Bp{b:Bool}{x v:V}{X:Value}(hx:E' I ow w x X)(hv:cP b x=some v){t:TypeId}(ty:TypeId)
 (ht:if b then P.underlying t=some .string else∃e,P.underlying t=some (.slice e)):
 ∃z,(Builtin.len_ #[t] ty #[X]).run P w=.ok z w/\E' I ow w v z:=by
 cases b
 .simp only[fG,if_false]at ht;obtain⟨e,ht⟩:=ht;have Zd:∀a n c,(Builtin.len_ #[t] ty #[.slice a n c]).run P w=.ok (.int .i64 n) w:=λa n c=>by simp[Builtin.len_,run_underlying ht,goInt]
  cases x<;>simp only[cP,reduceCtorEq,aI]at hv<;>subst hv<;>simp only[E']at hx
  .subst hx;exact⟨_,Zd _ _ _,by simp[E']⟩
  .obtain⟨a,cap,rfl,_⟩:=hx;exact⟨_,Zd _ _ _,by simp[E']⟩
  .split at hx
   .exact hx.elim
   .obtain⟨rfl,_,rfl⟩:=hx;exact⟨_,Zd _ _ _,by simp[E']⟩
   .obtain⟨o,c,rfl,_⟩:=hx;exact⟨_,Zd _ _ _,by simp[E']⟩
 .simp only[if_true]at ht;cases x<;>simp only[cP,reduceCtorEq,aI]at hv;subst hv;simp only[E']at hx;subst hx;exact⟨_,by simp[Builtin.len_,run_underlying ht,goInt];rfl,by simp[E',ByteArray.size]⟩
def eH{t:TypeId}{i:TypeInfo}{z:Value}(h:zeroOf P t=some (i,z)):P.info? t=some i/\i.zero=some z/\bO P t=true/\z.cells.size=i.size/\
 (∀u∈z.cells.toList,u.oneCell'=true)/\i.size=P.cellsOf t:=by
 unfold zeroOf at h;split at h
 .rename_i i' hi;split at h
  .rename_i z' hz;split at h
   .rename_i hc;simp only[aI,Prod.mk.injEq]at h;obtain⟨rfl,rfl⟩:=h;simp only[Ba,beq_iff_eq,eT]at hc;exact⟨hi,hz,hc.1.1,hc.1.2,hc.2,by simp[Program.cellsOf,hi]⟩
   .cases h
  .cases h
 .cases h
def dP{t:TypeId}{i:TypeInfo}{z:Value}(h:zeroOf P t=some (i,z)):(zeroValue t).run P w=.ok z w:=by
 obtain⟨h1,h2,_⟩:=eH h;simp[zeroValue,typeInfo,h1,h2]
def pd{t:TypeId}(h:pK P t=true):∃i,P.underlying t=some (.struct #[])/\P.info? t=some i/\i.size=0/\i.zero=some (.agg #[]):=by
 unfold pK at h;split at h
 .rename_i fs i h1 h2;simp only[Ba,beq_iff_eq]at h;obtain⟨h3,h4,h5⟩:=h;split at h5
  .rename_i z hz;have e1:fs=#[]:=Array.eq_empty_of_size_eq_zero h3;have e2:z=#[]:=Array.eq_empty_of_size_eq_zero (by simpa using h5);exact⟨i,by rw[h1,e1],h2,h4,by rw[hz,e2]⟩
  .cases h5
 .cases h
def sI{t:TypeId}(h:pK P t=true):(zeroValue t).run P w=.ok (.agg #[]) w:=by
 obtain⟨i,_,h1,_,h2⟩:=pd h;simp[zeroValue,typeInfo,h1,h2]
def Ej{t:TypeId}(h:pK P t=true):(Instr.build t #[]).run P w=.ok (.agg #[]) w:=by
 obtain⟨i,h0,h1,_,h2⟩:=pd h;simp[Instr.build,sI h,run_underlying h0,Value.cells,Instr.fill]
def ar.ei{vs us:List V}{l m:List Value}(off:Nat)(h:ar I ow w vs l)(h':ar I ow w us m):ar I ow w (ei vs off us) (Vc.ei l off m):=by
 unfold Vc.ei;rw[h'.length];exact((h.take off).append h').append (h.drop _)
def qs{α:Type}(off sz:α->Nat)(v:α->V)(x:α->Value):∀{l:List α} {zero cells:List V} {zs:List Value},
 jH zero (l.map λp=>(off p,sz p,v p))=some cells->ar I ow w zero zs->(∀p∈l,E' I ow w (v p) (x p))->
 ar I ow w cells (l.foldl (λacc p=>Vc.ei acc (off p) (x p).cells.toList) zs)/\
 ((∀u∈zs,u.oneCell'=true)->∀u∈l.foldl (λacc p=>Vc.ei acc (off p) (x p).cells.toList) zs,u.oneCell'=true)/\
 ∀p∈l,(x p).cells.size=sz p/\off p+sz p<=zero.length
 |[],zero,cells,zs,h,hz,hp=>by
  simp only[List.map_nil,jH,aI]at h;subst h;simpa using hz
 |p::r,zero,cells,zs,h,hz,hp=>by
  simp only[eo,jH]at h;split at h
  .rename_i hc;have h1:=hp p (by simp);obtain⟨g1,g2⟩:=h1.cells hc.2.1;have hl:=h1.j4 hc.2.1;obtain⟨ih1,ih2,ih3⟩:=qs off sz v x h (hz.ei (off p) g1) (λq hq=>hp q (by simp[hq]));refine⟨by simpa using ih1,λh0=>?_,λq hq=>?_⟩
   .refine ih2 ?_;intro u hu;simp only[Vc.ei,dD]at hu;rcases hu with(hu|hu)|hu
    .exact h0 u (qp hu)
    .exact g2 u hu
    .exact h0 u (List.mem_of_mem_drop hu)
   .rcases db.1 hq with rfl|hq
    .exact⟨by rw[hl,hc.1],hc.2.2⟩
    .have:=ih3 q hq;rw[lQ _ _ _ (by omega)]at this;exact this
  .cases h
def run_places(fs:Array Field)(h:∀f∈fs.toList,bO P f.type=true):
 (fs.mapM (λf=>Functor.map (Prod.mk f.offset) (sizeOf f.type):Field->Sem (Nat×Nat))).run P w=.ok (fs.map λf=>(f.offset,P.cellsOf f.type)) w:=by
 rw[Array.mapM_eq_mapM_toList];have:∀(l:List Field),(∀f∈l,bO P f.type=true)->
  (l.mapM (λf=>Functor.map (Prod.mk f.offset) (sizeOf f.type):Field->Sem (Nat×Nat))).run P w=.ok (l.map λf=>(f.offset,P.cellsOf f.type)) w:=by
  intro l
  induction l with
  |nil=>intro _;simp
  |cons f l ih=>
   intro hl;simp[cc (hl f (by simp)),ih (λx hx=>hl x (by simp[hx]))]
 simp[this fs.toList (by simpa using h)];apply Array.ext';simp
def run_build{F:Fr}{st:St}{a:Act}(hs:cQ F I st a w){t:TypeId}{i:TypeInfo}{z:Array Value}{fs:Array Field}(hz:zeroOf P t=some (i,.agg z))
 (Yu:P.underlying t=some (.struct fs)){parts:Array (Nat×Operand)}(hk:(∀f∈fs.toList,bO P f.type=true)/\∀p∈parts.toList,p.1<fs.size){cells:List V}
 (hb:jH (z.toList.map cellOf) ((parts.toList.map λp=>(((fs[p.1]?).map (·.offset)).getD 0,((fs[p.1]?).map λf=>P.cellsOf f.type).getD 0,cx F.n p.2)).map λp=>(p.1,p.2.1,p.2.2.ev st.s))=some cells):
 ∃y,(Instr.build t (parts.map λ(i,x)=>(i,a.eval x))).run P w=.ok y w/\E' I (az I st.U) w (.agg cells) y:=by
 obtain⟨_,_,_,_,Yo,_⟩:=eH hz;rw[List.map_map]at hb;obtain⟨g1,g2,g3⟩:=qs (I:=I) (ow:=az I st.U) (w:=w) (λp:Nat×Operand=>((fs[p.1]?).map (·.offset)).getD 0) (λp=>((fs[p.1]?).map λf=>P.cellsOf f.type).getD 0)
  (λp=>(cx F.n p.2).ev st.s) (λp=>a.eval p.2) hb (fg z.toList) (λp _=>bU hs p.2)
 obtain⟨cs,e1,e2,e3⟩:=pr (λk=>(fs.map λf=>(f.offset,P.cellsOf f.type))[k]?) ((parts.map λ(i,x)=>(i,a.eval x)).toList) z (by
  intro p hp;simp only[Array.toList_map,gM]at hp;obtain⟨q,hq,rfl⟩:=hp;have H':=hk.2 q hq;obtain⟨q1,q2⟩:=g3 q hq;have ZU:fs[q.1]?=some fs[q.1]:=by simp[H']
  simp only[ZU,Option.map_some,Option.getD_some]at q1 q2;exact⟨fs[q.1].offset,P.cellsOf fs[q.1].type,by simp[ZU],q1,by simpa using q2⟩)
 refine⟨.agg cs,?_,?_⟩
 .simp only[Array.toList_map,Array.getElem?_map]at e1;simp[Instr.build,dP hz,run_underlying Yu,run_places fs (by simpa using hk.1),Value.cells];rw[e1];rfl
 .have hlist:cs.toList=parts.toList.foldl (λacc p=>Vc.ei acc (((fs[p.1]?).map (·.offset)).getD 0) (a.eval p.2).cells.toList) z.toList:=by
   rw[e3,Array.toList_map,List.foldl_map];congr 1;funext acc p;congr 1;cases hp:fs[p.1]?<;>simp[hp]
  simp only[E'];refine⟨cs.toList,rfl,?_,?_⟩
  .rw[hlist];exact g1
  .rw[hlist];exact g2 (by simpa[Value.cells]using Yo)
def Ed{F:Fr}{st:St}{a:Act}(hs:cQ F I st a w){t e:TypeId}{k:Nat}{i:TypeInfo}{z:Array Value}(hz:zeroOf P t=some (i,.agg z))
 (Yu:P.underlying t=some (.array k e)){parts:Array (Nat×Operand)}(hk:bO P e=true){cells:List V}
 (hb:jH (z.toList.map cellOf) ((parts.toList.map λp=>(p.1*P.cellsOf e,P.cellsOf e,cx F.n p.2)).map λp=>(p.1,p.2.1,p.2.2.ev st.s))=some cells):
 ∃y,(Instr.build t (parts.map λ(i,x)=>(i,a.eval x))).run P w=.ok y w/\E' I (az I st.U) w (.agg cells) y:=by
 obtain⟨_,_,_,_,Yo,_⟩:=eH hz;rw[List.map_map]at hb;obtain⟨g1,g2,g3⟩:=qs (I:=I) (ow:=az I st.U) (w:=w) (λp:Nat×Operand=>p.1*P.cellsOf e) (λ_=>P.cellsOf e)
  (λp=>(cx F.n p.2).ev st.s) (λp=>a.eval p.2) hb (fg z.toList) (λp _=>bU hs p.2)
 obtain⟨cs,e1,e2,e3⟩:=pr (λi=>some (i*P.cellsOf e,P.cellsOf e)) ((parts.map λ(i,x)=>(i,a.eval x)).toList) z (by
  intro p hp;simp only[Array.toList_map,gM]at hp;obtain⟨q,hq,rfl⟩:=hp;obtain⟨q1,q2⟩:=g3 q hq;exact⟨q.1*P.cellsOf e,P.cellsOf e,rfl,q1,by simpa using q2⟩)
 refine⟨.agg cs,?_,?_⟩
 .simp only[Array.toList_map]at e1;simp[Instr.build,dP hz,run_underlying Yu,cc hk,Value.cells];rw[e1];rfl
 .have hlist:cs.toList=parts.toList.foldl (λacc p=>Vc.ei acc (p.1*P.cellsOf e) (a.eval p.2).cells.toList) z.toList:=by
   rw[e3,Array.toList_map,List.foldl_map];rfl
  simp only[E'];refine⟨cs.toList,rfl,?_,?_⟩
  .rw[hlist];exact g1
  .rw[hlist];exact g2 (by simpa[Value.cells]using Yo)
def DP(msg:String)(vs:List V)(bs:List UInt8)(l:List Value)(hb:bytesOf vs=some bs)(hr:ar I ow w vs l)(s0:ByteArray):
 (forIn l s0 (λc s=>match c with
   |.int .u8 n=>pure (ForInStep.yield (s.push (UInt8.ofNat n.toNat)))
   |_=>(do stuck msg;pure (ForInStep.yield s))):Sem ByteArray).run P w=.ok ⟨s0.data++bs.toArray⟩ w:=by
 induction vs generalizing bs l s0 with
 |nil=>
  simp only[bytesOf,aI]at hb;simp only[ar]at hr;subst hb hr;simp
 |cons v vs ih=>
  simp only[bytesOf]at hb;split at hb
  .rename_i b l' h1 h2;simp only[aI]at hb;subst hb;simp only[ar]at hr;obtain⟨x,xs,rfl,h3,h4⟩:=hr;unfold byteOf at h1;split at h1
   .rename_i n;simp only[aI]at h1;simp only[E']at h3;subst h3 h1;simp only[List.forIn_cons,Sem.run_bind,Sem.run_pure,Result.andThen_ok];rw[ih l' xs h2 h4];simp[ByteArray.push]
   .cases h1
  .cases hb
def tZ:∀{rows:List V} {bs:List UInt8} {b off:Nat},aT I ow w rows b off 1->bytesOf rows=some bs->
 ∃xs,ar I ow w rows xs/\xs.length=rows.length/\∀(j:Nat) u,xs[j]?=some u->w.cell? ⟨b,off+j,none⟩=some u
 |[],_,_,_,_,_=>⟨[],by simp[ar],rfl,by simp⟩
 |v::vs,bs,b,off,h,hb=>by
  simp only[bytesOf]at hb;split at hb
  .rename_i c l h1 h2;simp only[aT]at h;obtain⟨_,h3,h4⟩:=h;have h5:∃x,w.cell? ⟨b,off,none⟩=some x/\E' I ow w v x:=by
    unfold byteOf at h1;split at h1
    .simp only[br]at h3;obtain⟨x,g1,g2,_⟩:=h3;exact⟨x,g1,g2⟩
    .cases h1
   obtain⟨x,g1,g2⟩:=h5;obtain⟨xs,i1,i2,i3⟩:=tZ h4 h2;refine⟨x::xs,by simp only[ar];exact⟨x,xs,rfl,g2,i1⟩,by simp[i2],λj u hu=>?_⟩;cases j with
   |zero=>simp at hu;subst hu;exact g1
   |succ j=>
    have:=i3 j u (by simpa using hu)
    rwa [show off+1+j=off+(j+1) by omega]at this
  .cases hb
def D1{w0:World}{XN:Nat->Prop}{U:ag}(Zm:Sat w0 XN I U w){x v:V}{X:Value}(hx:E' I (az I U) w x X)(hv:ky U x=some v):
 ∃z,(Conv.bytesToString X).run P w=.ok z w/\E' I (az I U) w v z:=by
 unfold ky at hv;split at hv
 .simp only[E']at hx;simp only[aI]at hv;subst hx hv;exact⟨_,rfl,by simp only[E'];rfl⟩
 .rename_i id off len;split at hv
  .rename_i ob Xz;split at hv
   .rename_i hc;simp only[Zq8]at hv;obtain⟨bs,hb,rfl⟩:=hv;have Yx:=Zm.obj id ob Xz;simp only[E']at hx;split at hx
    .exact hx.elim
    .obtain⟨rfl,_,rfl⟩:=hx;simp only[List.take_zero,bytesOf,aI]at hb;subst hb;exact⟨_,rfl,by simp only[E'];rfl⟩
    .rename_i b szb cap P';obtain⟨o,c,rfl,hc1,hc2,ZC,hz⟩:=hx;rw[P']at Yx;obtain⟨g1,g2,g3,g4,g5⟩:=Yx.rows hz;by_cases h0:len=0
     .subst h0;simp only[List.take_zero,bytesOf,aI]at hb;subst hb;exact⟨_,by simp[Conv.bytesToString,loadCells,loadCellsFrom];rfl,by simp only[E'];rfl⟩
     .have ho:o=off*szb:=by
       rcases ZC with ZC|ZC
       .exact ZC
       .omega
      have hs:szb=1:=by omega
      subst ho;subst hs;have hr:=(g5.drop off).take len;rw[iV,Nat.mul_one]at hr;obtain⟨xs,i1,i2,i3⟩:=tZ hr hb;have hl:xs.length=len:=by rw[i2];simp;omega
      refine⟨.string ⟨bs.toArray⟩,?_,by simp only[E']⟩;have hld:=run_loadCells_list (P:=P) w ⟨b,off,none⟩ xs (λj u hu=>by rw[fZ];exact i3 j u hu);rw[hl]at hld;have hp:=λmsg=>DP (P:=P) msg _ bs xs hb i1 .empty;simp only[Conv.bytesToString,Nat.mul_one,Sem.run_bind,hld,Result.andThen_ok];rw[List.forIn_toArray];rw[show(.string ⟨bs.toArray⟩:Value)=.string ⟨ByteArray.empty.data++bs.toArray⟩ by rw[show ByteArray.empty.data=#[]from rfl,Array.empty_append]];have key:∀r:Result ByteArray,r=.ok ⟨ByteArray.empty.data++bs.toArray⟩ w->(r.andThen λa w'=>Sem.run P (pure (Value.string a)) w')=.ok (.string ⟨ByteArray.empty.data++bs.toArray⟩) w:=by
       rintro r rfl;simp
      exact key _ (hp _)
   .cases hv
  .cases hv
 .cases hv
def tR{m:Bool}{x y v:V}{X Y:Value}(ts:Array TypeId)(t:TypeId)(hx:E' I ow w x X)(hy:E' I ow w y Y)(hv:mN m x y=some v):
 ∃z,(if m then(do pure (Next.value (<-Builtin.max_ ts t #[X,Y])):Sem Next)else(do pure (Next.value (<-Builtin.min_ ts t #[X,Y])))).run P w=.ok (.value z) w/\E' I ow w v z:=by
 unfold mN at hv;split at hv
 .rename_i k a k' b;split at hv
  .simp only[E']at hx hy;simp only[aI]at hv;subst hv hx hy;cases m
   .exact⟨_,by simp[Builtin.min_,Builtin.min2];rfl,by simp[E']⟩
   .exact⟨_,by simp[Builtin.max_,Builtin.max2];rfl,by simp[E']⟩
  .cases hv
 .cases hv
def Am{x y:V}{X Y:Value}{b:Bool}(hx:E' I ow w x X)(hy:E' I ow w y Y)(hv:jh x y=some b){t:TypeId}(ht:KD P t=true)(d:Nat)
 (hty:(∃k,P.underlying t=some (.int k))->∃k n,x=.int k n)(htb:P.underlying t=some .bool->∃c,x=.bool c)(hts:P.underlying t=some .string->∃c,x=.str c):
 (Op.equalIn (d+1) t X Y).run P w=.ok b w:=by
 unfold KD at ht;split at ht
 .rename_i k hk;obtain⟨k1,n1,rfl⟩:=hty ⟨k,hk⟩;cases y<;>simp only[jh,reduceCtorEq]at hv;split at hv
  .rename_i hkk;simp only[aI]at hv;simp only[E']at hx hy;subst hx hy hv hkk;rw[run_equalIn_int w d t _ _ _ _ hk,rI]
  .cases hv
 .rename_i hk;obtain⟨c,rfl⟩:=htb hk;cases y<;>simp only[jh,reduceCtorEq,aI]at hv;simp only[E']at hx hy;subst hx hy hv;exact run_equalIn_bool' w d t _ _ hk
 .rename_i hk;obtain⟨c,rfl⟩:=hts hk;cases y<;>simp only[jh,reduceCtorEq,aI]at hv;simp only[E']at hx hy;subst hx hy hv;rw[run_equalIn_string w d t _ _ hk];simp[ByteArray.toList_eq,rI]
 .cases ht
def kA(P:Program)(t:TypeId)(x:V):Bool:=match P.underlying t,x with
 |some (.int _),.int _ _=>true
 |some .bool,.bool _=>true
 |some .string,.str _=>true
 |_,_=>false
def oT{xs ys:List Value}{vs us:List V}(hx:ar I ow w vs xs)(hy:ar I ow w us ys)(d:Nat):∀(fl:List Field) (k:Nat) (b:Bool),
 fl.map (·.offset)=List.range' k fl.length->(∀f∈fl,KD P f.type=true/\f.name≠"_"/\bO P f.type=true)->(∀(j:Nat) f v,fl[j]?=some f->vs[k+j]?=some v->kA P f.type v=true)->
 vs.length=k+fl.length->us.length=k+fl.length->
 fo (vs.drop k) (us.drop k)=some b->(Op.eqFields (d+1) ⟨xs⟩ ⟨ys⟩ fl).run P w=.ok b w
 |[],k,b,_,_,_,h1,h2,h=>by
  simp only[List.length_nil,Nat.add_zero]at h1 h2;rw[List.drop_of_length_le (by omega),List.drop_of_length_le (by omega)]at h;simp only[fo,aI]at h;subst h;simp[Op.eqFields]
 |f::fl,k,b,ho,hf,hc,h1,h2,h=>by
  simp only[XX]at h1 h2;simp only[eo,XX,List.range'_succ,List.cons.injEq]at ho;obtain⟨e1,e2⟩:=ho;obtain⟨f1,f2,f3⟩:=hf f (by simp);have hkv:k<vs.length:=by omega
  have hku:k<us.length:=by omega
  rw[gF hkv,gF hku]at h;simp only[fo]at h;split at h
  .rename_i c b' hcell hrest;simp only[aI]at h;obtain⟨X,hX,hrX⟩:=hx.get (i:=k) (by rw[ZF hkv]);obtain⟨Y,hY,hrY⟩:=hy.get (i:=k) (by rw[ZF hku]);have ZT:fw P f.type=false:=by
    unfold KD at f1;unfold fw;split at f1<;>simp_all
   have hp:∀(l:List Value) (Z:Value),l[k]?=some Z->(part f.type ⟨l⟩ f.offset).run P w=.ok Z w:=by
    intro l Z hZ;have:(⟨l⟩:Array Value)[k]?=some Z:=by simpa using hZ
    simp[part,rY (dz f3).1,ZT,e1,this]
   have ZH:=hc 0 f _ (by simp) (by rw[Nat.add_zero,ZF hkv]);have heq:=Am (P:=P) hrX hrY hcell f1 d
    (by rintro⟨kk,hkk⟩;unfold kA at ZH;rw[hkk]at ZH;generalize vs[k]=z at*;cases z<;>simp at ZH;exact⟨_,_,rfl⟩)
    (by intro hkk;unfold kA at ZH;rw[hkk]at ZH;generalize vs[k]=z at*;cases z<;>simp at ZH;exact⟨_,rfl⟩)
    (by intro hkk;unfold kA at ZH;rw[hkk]at ZH;generalize vs[k]=z at*;cases z<;>simp at ZH;exact⟨_,rfl⟩)
   simp only[Op.eqFields,f2,ne_eq,not_false_eq_true,if_true,Sem.run_bind,hp xs X hX,hp ys Y hY,Result.andThen_ok,heq];cases c
   .simp at h;subst h;simp
   .simp only[Bool.true_and]at h;subst h;simp only[Bool.not_true,fG,if_false];exact oT hx hy d fl (k+1) b' e2 (λg hg=>hf g (by simp[hg])) (λj g v hg hv=>hc (j+1) g v (by simpa using hg) (by rw[show k+(j+1)=k+1+j by omega];exact hv)) (by omega) (by omega) hrest
  .cases h
def tA:∀(fl:List Field) (vs:List V),iM (fl.map λf=>ri P f.type) vs=true->
 vs.length=fl.length/\∀(j:Nat) f v,fl[j]?=some f->vs[j]?=some v->kA P f.type v=true
 |[],[],_=>by simp
 |[],_::_,h=>by simp[iM]at h
 |f::fl,[],h=>by
  simp only[eo]at h;generalize ri P f.type=q at h;revert h
  match q with
  |0=>simp[iM]
  |1=>simp[iM]
  |2=>simp[iM]
  |n+3=>simp[iM]
 |f::fl,v::vs,h=>by
  have key:kA P f.type v=true/\iM (fl.map λf=>ri P f.type) vs=true:=by
   simp only[eo]at h;generalize (fl.map λf=>ri P f.type)=ks at h|-;unfold ri at h;unfold kA;cases hd:P.underlying f.type with
   |none=>rw[hd]at h;simp[iM]at h
   |some d=>
    rw[hd]at h;cases d<;>cases v<;>simp_all [iM]
  obtain⟨k1,k2⟩:=key;obtain⟨h1,h2⟩:=tA fl vs k2;refine⟨by simp[h1],λj g u hg hu=>?_⟩;cases j with
  |zero=>simp at hg hu;subst hg hu;exact k1
  |succ j=>exact h2 j g u (by simpa using hg) (by simpa using hu)
def MD{t:TypeId}{fs:Array Field}(ht:P.underlying t=some (.struct fs))(hf:IE P t fs=true){neg:Bool}{x y v:V}{X Y:Value}(hx:E' I ow w x X)(hy:E' I ow w y Y)
 (xo yo:Operand){op:BinOp}(WN:op=if neg then .neq else .eql)(hv:mW neg (fs.toList.map λf=>ri P f.type) x y=some v):
 ∃z,(do eqGuard op t xo yo X Y;binOp op t X Y:Sem Value).run P w=.ok z w/\E' I ow w v z:=by
 unfold mW at hv;split at hv
 .rename_i vs us;split at hv
  .rename_i ZH;split at hv
   .rename_i b hb;simp only[aI]at hv;subst hv;simp only[E']at hx hy;obtain⟨xs,rfl,hx1,_⟩:=hx;obtain⟨ys,rfl,hy1,_⟩:=hy;simp only[IE,Ba,beq_iff_eq,Bool.not_eq_true',eT,bne_iff_ne,ne_eq]at hf;obtain⟨⟨⟨f1,f2⟩,f3⟩,f4⟩:=hf;obtain⟨g3,g2⟩:=ZH;obtain⟨g1,g4⟩:=tA (P:=P) fs.toList vs g3;have hfo:P.fieldsOf t=fs:=by simp[Program.fieldsOf,ht]
    have hE:=oT (P:=P) hx1 hy1 9998 fs.toList 0 b (by rw[f1];simp[List.range_eq_range']) (λf hf=>⟨(f2 f hf).1.1,(f2 f hf).1.2,(f2 f hf).2⟩)
     (λj f v hj hv=>by
       rw[iV]at hv;exact g4 j f v hj hv) (by omega) (by omega) (by simpa using hb)
    have Xi:(Op.equalIn 10000 t (.agg ⟨xs⟩) (.agg ⟨ys⟩)).run P w=.ok b w:=by
     rw[run_equalIn_struct w 9999 t _ _ (by rw[hfo];exact ht) f3,hfo];exact hE
    have hgd:=run_eqGuard_agg (P:=P) w op t xo yo ⟨xs⟩ ⟨ys⟩ f4;refine⟨.bool (if neg then !b else b),?_,by simp[E']⟩;simp only[Sem.run_bind,hgd,Result.andThen_ok];cases neg<;>simp only[fG,if_false,if_true]at WN|-<;>subst WN
    .rw[run_eql_struct,Xi];rfl
    .rw[run_neq_struct,Xi];rfl
   .cases hv
  .cases hv
 .cases hv
def Cb{P:Program}(w:World){t e:TypeId}(ht:P.underlying t=some (.pointer e))(q:Option Addr):
 (binOp .eql t (.pointer q) (.pointer none)).run P w=.ok (.bool q.isNone) w/\(binOp .neq t (.pointer q) (.pointer none)).run P w=.ok (.bool (!q.isNone)) w:=by
 have he:(Op.equal t (.pointer q) (.pointer none)).run P w=.ok q.isNone w:=by
  unfold Op.equal;rw[show Op.maxDepth=9999+1 from rfl];generalize 9999=d;cases q<;>simp[Op.equalIn,run_underlying ht]
 exact⟨by simp[binOp,he],by simp[binOp,he]⟩
def tY{F:Fr}{st:St}{a:Act}(hs:cQ F I st a w)(o:Oper){v:V}(hp:ez st.s (WX P F.n o.op))(hv:aF st.U st.s (WX P F.n o.op)=some v):
 ∃z,(execOp a.eval o).run P w=.ok (.value z) w/\E' I (az I st.U) w v z:=by
 have R:=bU hs;have VV:∀(x:Sem Value) (z:Value),x.run P w=.ok z w->(do pure (.value (<-x)):Sem Next).run P w=.ok (.value z) w:=λx z h=>by simp[h]
 unfold execOp;cases ho:o.op
 all_goals rw[ho]at hp hv;simp only[WX]at hp hv
 all_goals try (simp only[aF,reduceCtorEq]at hv;done)
 case move x=>simp only[aF,aI]at hv;subst hv;exact⟨_,rfl,R x⟩
 case assign x=>simp only[aF,aI]at hv;subst hv;exact⟨_,rfl,R x⟩
 case pick c x y=>
  simp only[aF]at hv;have hc:=R c;split at hv
  .rename_i t ht;rw[ht]at hc;simp only[E']at hc;simp only[aI]at hv;subst hv;cases t
   .exact⟨_,by simp[hc,asBool],R y⟩
   .exact⟨_,by simp[hc,asBool],R x⟩
  .cases hv
 case alloc=>(repeat' split at hv)<;>simp[aF]at hv
 case range=>split at hv<;>simp[aF]at hv
 case makeMap=>split at hv<;>simp[aF]at hv
 case insert=>split at hv<;>simp[aF]at hv
 case mapUpdate=>split at hv<;>simp[aF]at hv
 case lookup=>split at hv<;>(try split at hv)<;>simp[aF]at hv
 case makeInterface t x=>
  split at hv
  .rename_i hc;simp only[Ba,Bool.not_eq_true']at hc;simp only[aF,aI]at hv;subst hv;refine⟨.iface t (a.eval x),?_,by simp only[E'];exact⟨_,rfl,R x⟩⟩;refine VV _ _ ?_;cases hu:P.underlying t with
   |none=>rw[hu]at hc;simp at hc
   |some d=>
    cases d
    case interface ms=>simp[vP,hu]at hc
    all_goals simp[Instr.makeInterface,run_underlying hu]
  .simp[aF]at hv
 case typeAssert x xt t ok=>
  split at hv
  .simp[aF]at hv
  .rename_i hi;obtain⟨zv,z,hzv,hzr,hus,hv⟩:∃(zv:V) (z:Value),(zeroValue t).run P w=.ok z w/\E' I (az I st.U) w zv z/\(P.underlying t).isSome=true/\aF st.U st.s (.more (.tas t ok zv) [cx F.n x])=some v:=by
    split at hv
    .rename_i i z hz;refine⟨_,z,dP hz,ot z,?_,hv⟩;have hk:=(eH hz).2.2.1;simp only[bO,Ba]at hk;exact hk.1.2
    .split at hv
     .rename_i hn;obtain⟨_,h0,_⟩:=pd hn;exact⟨.agg [],.agg #[],sI hn,by simp only[E'];exact⟨[],rfl,by simp[ar],by simp⟩,by rw[h0];rfl,hv⟩
     .simp[aF]at hv
   .simp only[aF]at hv;have hx:=R x;obtain⟨d,hu,YK⟩:∃d,P.underlying t=some d/\∀ms,d≠.interface ms:=by
     cases hu:P.underlying t with
     |none=>simp[hu]at hus
     |some d=>exact⟨d,rfl,λms e=>hi (by simp[vP,hu,e])⟩
    have hfail:ok=true->(∀xx:Value,(Instr.typeAssert xx xt t ok).run P w=(do pure (Value.tuple #[<-zeroValue t,.bool false]):Sem Value).run P w->(Instr.typeAssert xx xt t ok).run P w=.ok (.tuple #[z,.bool false]) w):=λ_ xx h=>by
     rw[h];simp[hzv]
    unfold Ij at hv;split at hv
    .rename_i t' v' hxv;rw[hxv]at hx;simp only[E']at hx;obtain⟨y,hy,hry⟩:=hx;by_cases ht:t'=t
     .subst ht;rw[aq rfl]at hv;simp only[aI]at hv;subst hv;cases ok
      .refine⟨y,VV _ _ ?_,hry⟩;rw[hy];cases d
       case interface ms=>exact absurd rfl (YK ms)
       all_goals simp[Instr.typeAssert,run_underlying hu]
      .refine⟨.tuple #[y,.bool true],VV _ _ ?_,by simp only[if_true,E'];exact⟨_,rfl,by simp only[ar,E'];exact⟨_,_,rfl,hry,_,_,rfl,rfl,rfl⟩⟩⟩;rw[hy];cases d
       case interface ms=>exact absurd rfl (YK ms)
       all_goals simp[Instr.typeAssert,run_underlying hu]
     .rw[ao ht]at hv;cases ok
      .simp at hv
      .simp only[if_true,aI]at hv;subst hv;refine⟨.tuple #[z,.bool false],VV _ _ (hfail rfl _ ?_),by simp only[E'];exact⟨_,rfl,by simp only[ar,E'];exact⟨_,_,rfl,hzr,_,_,rfl,rfl,rfl⟩⟩⟩;rw[hy];cases d
       case interface ms=>exact absurd rfl (YK ms)
       all_goals simp[Instr.typeAssert,run_underlying hu,ht]
    .rename_i hxv;rw[hxv]at hx;simp only[E']at hx;cases ok
     .simp at hv
     .simp only[if_true,aI]at hv;subst hv;refine⟨.tuple #[z,.bool false],VV _ _ (hfail rfl _ ?_),by simp only[E'];exact⟨_,rfl,by simp only[ar,E'];exact⟨_,_,rfl,hzr,_,_,rfl,rfl,rfl⟩⟩⟩;rw[hx];cases d
      case interface ms=>exact absurd rfl (YK ms)
      all_goals simp[Instr.typeAssert,run_underlying hu]
    .cases hv
 case next it b=>cases b<;>simp[aF]at hv
 case buildSlice=>split at hv<;>(try split at hv)<;>(try split at hv)<;>simp[aF]at hv
 case makeSlice=>split at hv<;>(try split at hv)<;>(try split at hv)<;>simp[aF]at hv
 case build t parts=>
  split at hv
  .rename_i hn;simp only[Ba,beq_iff_eq]at hn;have hp:parts=#[]:=Array.eq_empty_of_size_eq_zero hn.2;subst hp;simp only[aF,VX.ev,aI]at hv;subst hv;exact⟨.agg #[],VV _ _ (by rw[Array.map_empty];exact Ej hn.1),by simp only[E'];exact⟨[],rfl,by simp[ar],by simp⟩⟩
  split at hv
  .rename_i i z fs hz Yu;split at hv
   .rename_i hk;simp only[aF,Zq8]at hv;obtain⟨cells,hb,rfl⟩:=hv;obtain⟨y,h1,h2⟩:=run_build hs hz Yu (by simpa only[Ba,eT,Zs]using hk) hb;exact⟨y,VV _ _ h1,h2⟩
   .simp[aF]at hv
  .rename_i i z k e hz Yu;split at hv
   .rename_i hk;simp only[aF,Zq8]at hv;obtain⟨cells,hb,rfl⟩:=hv;obtain⟨y,h1,h2⟩:=Ed hs hz Yu hk hb;exact⟨y,VV _ _ h1,h2⟩
   .simp[aF]at hv
  .simp[aF]at hv
 case store=>(repeat' split at hv)<;>simp[aF]at hv
 case load t x=>
  split at hv
  .rename_i hk;simp only[aF]at hv;obtain⟨z,h1,h2⟩:=y9 hs.sat hk (R x) hv;exact⟨z,VV _ _ h1,h2⟩
  .simp[aF]at hv
 case binOp op t x y yt=>
  have hplain:∀(hp:ez st.s (.bin op (cx F.n x) (cx F.n y))) (hv:aF st.U st.s (.bin op (cx F.n x) (cx F.n y))=some v),
   ∃z,(do pure (Next.value (<-(do eqGuard op t x y (a.eval x) (a.eval y);binOp op t (a.eval x) (a.eval y):Sem Value))):Sem Next).run P w=.ok (.value z) w/\E' I (az I st.U) w v z:=by
   intro hp hv;simp only[aF,ez]at hv hp;obtain⟨z,h1,h2⟩:=ML (P:=P) (t:=t) (xo:=x) (yo:=y) (R x) (R y) hp hv;exact⟨z,VV _ _ h1,h2⟩
  split at hv
  .rename_i ht;have key:∀neg,(op=if neg then .neq else .eql)->aF st.U st.s (.YU neg (cx F.n x) (cx F.n y))=some v->
    ∃z,(do pure (Next.value (<-(do eqGuard op t x y (a.eval x) (a.eval y);binOp op t (a.eval x) (a.eval y):Sem Value))):Sem Next).run P w=.ok (.value z) w/\E' I (az I st.U) w v z:=by
    intro neg WN hv;simp only[aF]at hv;have hx:=R x;have hy:=R y;generalize (cx F.n x).ev st.s=xv at*;generalize (cx F.n y).ev st.s=yv at*;unfold binBV at hv;split at hv
    .rename_i a' b';simp only[E']at hx hy;simp only[aI]at hv;subst hv;rw[hx,hy];refine⟨.bool (if neg then !(a'==b')else a'==b'),VV _ _ ?_,by simp only[E']⟩;cases neg<;>simp only[fG,if_false,if_true]at WN<;>subst WN
     .simp[eqGuard,run_eql_bool w t a' b' ht]
     .simp[eqGuard,run_neq_bool w t a' b' ht]
    .cases hv
   cases op<;>simp only[aF,reduceCtorEq]at hv
   .exact key false rfl (by simpa only[aF]using hv)
   .exact key true rfl (by simpa only[aF]using hv)
  .rename_i fs ht;split at hv
   .rename_i hflat;have key:∀neg,(op=if neg then .neq else .eql)->aF st.U st.s (.eqS neg (fs.toList.map λf=>ri P f.type) (cx F.n x) (cx F.n y))=some v->
     ∃z,(do pure (Next.value (<-(do eqGuard op t x y (a.eval x) (a.eval y);binOp op t (a.eval x) (a.eval y):Sem Value))):Sem Next).run P w=.ok (.value z) w/\E' I (az I st.U) w v z:=by
     intro neg WN hv;simp only[aF]at hv;obtain⟨z,h1,h2⟩:=MD (P:=P) ht hflat (R x) (R y) x y WN hv;exact⟨z,VV _ _ h1,h2⟩
    cases op<;>simp only[aF,reduceCtorEq]at hv
    .exact key false rfl (by simpa only[aF]using hv)
    .exact key true rfl (by simpa only[aF]using hv)
   .simp[aF]at hv
  .rename_i h1 h2;split at hv
   .unfold cy at hv;split at hv
    .simp only[aF,VX.ev]at hv;unfold binBV at hv;split at hv
     .rename_i hx;cases hx
     .cases hv
    .simp[aF]at hv
   .rename_i hns;split at hv
    .split at hv
     .simp only[aF,VX.ev]at hv;unfold binBV at hv;split at hv
      .rename_i hx;cases hx
      .cases hv
     .simp[aF]at hv
    .rename_i hni;split at hv
     .split at hv
      .simp only[aF,VX.ev]at hv;unfold binBV at hv;split at hv
       .rename_i hx;cases hx
       .cases hv
      .simp[aF]at hv
     .rename_i hnf;split at hv
      .rename_i hnp;simp only[Ba]at hnp;obtain⟨hpt,XP⟩:=hnp;unfold Th at hpt;split at hpt
       .rename_i e ht;unfold Nt at XP;split at XP
        .split at hv
         .rename_i WN;simp only[aF]at hv;have hx:=R x;generalize (cx F.n x).ev st.s=xv at*;have hY:a.eval (.const (.pointer none))=.pointer none:=rfl;have key:∀q:Option Addr,a.eval x=.pointer q->∃z,(do pure (Next.value (<-(do eqGuard op t x (.const (.pointer none)) (a.eval x) (a.eval (.const (.pointer none)));binOp op t (a.eval x) (a.eval (.const (.pointer none))):Sem Value))):Sem Next).run P w=.ok (.value z) w/\z=.bool (if op=.neq then !q.isNone else q.isNone):=by
           intro q hq;rw[hq,hY];obtain⟨q1,q2⟩:=Cb (P:=P) w ht q;have hg:∀op,(eqGuard op t x (.const (.pointer none)) (.pointer q) (.pointer none)).run P w=.ok () w:=by intro op;simp[eqGuard]
           rcases WN with rfl|rfl
           .exact⟨_,by simp only[Sem.run_bind,hg,Result.andThen_ok,q1];rfl,by simp⟩
           .exact⟨_,by simp only[Sem.run_bind,hg,Result.andThen_ok,q2];rfl,by simp⟩
          unfold FG at hv;split at hv
          .simp only[E']at hx;simp only[aI]at hv;subst hv;obtain⟨z,h3,rfl⟩:=key none hx;refine⟨_,h3,?_⟩;rcases WN with rfl|rfl<;>simp[E']
          .simp only[E']at hx;split at hx
           .simp only[aI]at hv;subst hv;obtain⟨z,h3,rfl⟩:=key _ hx.1;refine⟨_,h3,?_⟩;rcases WN with rfl|rfl<;>simp[E']
           .exact hx.elim
          .simp only[E']at hx;obtain⟨b,off,hx,_⟩:=hx;simp only[aI]at hv;subst hv;obtain⟨z,h3,rfl⟩:=key _ hx;refine⟨_,h3,?_⟩;rcases WN with rfl|rfl<;>simp[E']
          .cases hv
         .simp[aF]at hv
        .cases XP
       .cases hpt
      .rename_i hnp;refine hplain ?_ hv;revert hp;split
       .rename_i h4;exact absurd h4 h1
       .rename_i fs h4;exact absurd h4 (h2 fs)
       .rw[ao hns,ao hni,ao hnf,ao hnp];exact id
 case nilCheck x=>
  simp only[aF]at hv;have hx:=R x;generalize (cx F.n x).ev st.s=xv at*;unfold ia at hv;split at hv
  .simp only[aI]at hv;subst hv;have W8:=hx;simp only[E']at W8;split at W8
   .exact⟨a.eval x,by simp[W8],hx⟩
   .exact W8.elim
  .simp only[aI]at hv;subst hv;have W8:=hx;simp only[E']at W8;obtain⟨b,off,e,_⟩:=W8;exact⟨a.eval x,by simp[e],hx⟩
  .simp only[aI]at hv;subst hv;have W8:=hx;simp only[E']at W8;obtain⟨WO,e,_⟩:=W8;exact⟨a.eval x,by simp[e],hx⟩
  .simp only[aI]at hv;subst hv;have W8:=hx;simp only[E']at W8;obtain⟨y,e,_⟩:=W8;exact⟨a.eval x,by simp[e],hx⟩
  .cases hv
 case box=>split at hv<;>simp[aF]at hv
 case unOp op t x=>
  have hx:=R x;cases op<;>simp only[aF,reduceCtorEq]at hv<;>simp only[ez]at hp
  .split at hv
   .rename_i k n hn;simp only[hn]at hx hp;simp only[E']at hx;simp only[aI]at hv;subst hv;simp only[WR]at hp;exact⟨.int k (0-n),VV _ _ (by simp only[hx,Op.unary,Op.intArith];rw[hp];rfl),by simp[E']⟩
   .cases hv
  .split at hv
   .rename_i b hb;rw[hb]at hx;simp only[E']at hx;simp only[aI]at hv;subst hv;exact⟨.bool (!b),VV _ _ (by simp[hx,Op.unary]),by simp[E']⟩
   .cases hv
 case convert src dst x=>
  split at hv
  .rename_i k1 k2 h1 h2;simp only[h1,h2]at hp;have hx:=R x;simp only[aF,ez]at hv hp;split at hv
   .rename_i k n hn;rw[hn]at hx hp;simp only[E']at hx;simp only[aI]at hv;subst hv;simp only[WR]at hp;refine⟨.int k2 n,VV _ _ ?_,by simp[E']⟩;simp[Go.convert,run_underlying h1,run_underlying h2,hx,Conv.intToInt,hp]
   .cases hv
  .rename_i e h1 h2;split at hv
   .rename_i h3;have h3:P.underlying e=some (.int .u8):=by
     unfold u8T at h3;split at h3
     .assumption
     .cases h3
    simp only[aF]at hv;obtain⟨z,g1,g2⟩:=D1 (P:=P) hs.sat (R x) hv;refine⟨z,VV _ _ ?_,g2⟩;obtain⟨b,n,c,hX⟩:∃b n c,a.eval x=.slice b n c:=by
     have hx:=R x;unfold ky at hv;split at hv
     .rename_i W8;rw[W8]at hx;simp only[E']at hx;exact⟨_,_,_,hx⟩
     .rename_i W8;rw[W8]at hx;simp only[E']at hx;split at hx
      .exact hx.elim
      .exact⟨_,_,_,hx.1⟩
      .obtain⟨o,c,h,_⟩:=hx;exact⟨_,_,_,h⟩
     .cases hv
    rw[hX]at g1|-;cases b<;>simp[Go.convert,run_underlying h1,run_underlying h2,run_underlying h3,g1]
   .simp[aF]at hv
  .split at hv<;>simp[aF]at hv
 case makeFunc fn first caps=>
  cases fn
  case func f=>
   by_cases h0:first.size=0
   .simp only[aq h0,aF,aI]at hv;subst hv;refine⟨.func (.func f) #[] (caps.map a.eval),VV _ _ ?_,?_⟩
    .have:first=#[]:=Array.eq_empty_of_size_eq_zero h0
     subst this;simp[Instr.makeFunc]
    .simp only[E'];exact⟨caps.toList.map a.eval,by congr 1;apply Array.ext';simp,oY hs _⟩
   .have hv':aF st.U st.s (if first.size=0 then W5.mkfn f (caps.toList.map (cx F.n))else if caps.size=0 then .more (.mkB f) (first.toList.map (cx F.n))else .bad)=some v:=hv;rw[ao h0]at hv';by_cases h1:caps.size=0
    .rw[aq h1]at hv';simp only[aF,aI]at hv';subst hv';refine⟨.func (.func f) (first.map a.eval) #[],VV _ _ ?_,?_⟩
     .have:caps=#[]:=Array.eq_empty_of_size_eq_zero h1;subst this;simp[Instr.makeFunc]
     .simp only[E'];exact⟨first.toList.map a.eval,by congr 1;apply Array.ext';simp,oY hs _⟩
    .rw[ao h1]at hv';simp only[aF,reduceCtorEq]at hv'
  all_goals simp[aF]at hv
 case slice t x lo hi mx=>
  split at hv
  .rename_i e ht;split at hv
   .rename_i hk;simp only[Ba,kX]at hk;simp only[aF]at hv;obtain⟨z,h1,h2⟩:=vU hs.sat ht hk.1 (R x) (vV hs lo) (vV hs hi) (vV hs mx)
     (by intro h;rcases hk.2 with h'|h'<;>cases mx<;>cases hi<;>simp_all) hv
    exact⟨z,VV _ _ h1,h2⟩
   .simp[aF]at hv
  .rename_i ht;split at hv
   .rename_i hm;simp only[aF]at hv;have hm':mx=none:=by simpa using hm
    subst hm';obtain⟨z,h1,h2⟩:=vL (P:=P) ht (R x) (vV hs lo) (vV hs hi) hv;exact⟨z,VV _ _ h1,h2⟩
   .simp[aF]at hv
  .simp[aF]at hv
 case fieldAddr s x f=>
  split at hv
  .rename_i fs Yu;split at hv
   .rename_i fd hfd;split at hv
    .rename_i hk;simp only[aF]at hv;obtain⟨z,h1,h2⟩:=GO (P:=P) Yu hfd hk (R x) hv;exact⟨z,VV _ _ h1,h2⟩
    .simp[aF]at hv
   .simp[aF]at hv
  .simp[aF]at hv
 case field s x f=>
  split at hv
  .rename_i fs Yu;split at hv
   .rename_i fd hfd;split at hv
    .rename_i hk;have hx:=R x;simp only[aF]at hv;unfold Hc at hv;split at hv
     .rename_i vs hvs;rw[hvs]at hx;simp only[E']at hx;obtain⟨WO,hX,hr,h1⟩:=hx;obtain⟨z,hz,hrz⟩:=Bh (P:=P) (w:=w) hk hr h1 hv;exact⟨z,VV _ _ (by simp[Instr.field,run_underlying Yu,hfd,hX,asAgg,hz]),hrz⟩
     .cases hv
    .simp[aF]at hv
   .simp[aF]at hv
  .simp[aF]at hv
 case indexAddr t x i=>
  split at hv
  .rename_i e ht;split at hv
   .rename_i hk;simp only[aF]at hv;obtain⟨z,h1,h2⟩:=F7 hs.sat ht hk (R x) (R i) hv;exact⟨z,VV _ _ h1,h2⟩
   .simp[aF]at hv
  .rename_i k e ht;split at hv
   .rename_i hk;simp only[aF]at hv;obtain⟨z,h1,h2⟩:=DI (P:=P) ht hk (R x) (R i) hv;exact⟨z,VV _ _ h1,h2⟩
   .simp[aF]at hv
  .simp[aF]at hv
 case index t x i=>
  split at hv
  .rename_i k e ht;split at hv
   .rename_i hk;simp only[aF]at hv;obtain⟨z,h1,h2⟩:=GD (P:=P) ht hk (R x) (R i) hv;exact⟨z,VV _ _ h1,h2⟩
   .simp[aF]at hv
  .rename_i ht;simp only[aF]at hv;obtain⟨z,h1,h2⟩:=Gt (P:=P) ht (R x) (R i) hv;exact⟨z,VV _ _ h1,h2⟩
  .simp[aF]at hv
 case extract x i=>
  simp only[aF]at hv;have hx:=R x;unfold DV at hv;split at hv
  .rename_i vs hvs;rw[hvs]at hx;simp only[E']at hx;obtain⟨WO,hX,hr⟩:=hx;obtain⟨z,hz,hrz⟩:=hr.get hv;exact⟨z,VV _ _ (by simp[Instr.extract,hX,hz]),hrz⟩
  .cases hv
 case call c=>
  obtain⟨callee,args,argTypes⟩:=c;cases callee
  case value=>simp only[aF,reduceCtorEq]at hv
  case invoke=>simp only[aF,reduceCtorEq]at hv
  case builtin b=>
   cases b
   case delete=>simp only[]at hv;split at hv<;>(try split at hv)<;>simp[aF]at hv
   case copy=>simp only[]at hv;split at hv<;>(try split at hv)<;>(try split at hv)<;>simp[aF]at hv
   case len=>
    simp only[]at hv;split at hv
    .rename_i x t XA ht;have hx:=R x;have hargs':args=#[x]:=by apply Array.ext';simpa using XA
     have hlen:∀z,(Builtin.len_ argTypes o.type #[a.eval x]).run P w=.ok z w->
      (do let d <-resolve a.eval { callee:=.builtin .len,args:=args,argTypes:=argTypes } o.type;invoke d.target d.args:Sem Next).run P w=.ok (.value z) w:=by
      intro z hz;simp[resolve,invoke,Go.builtin,hargs',hz]
     have hty:Builtin.len_ argTypes o.type #[a.eval x]=Builtin.len_ #[t] o.type #[a.eval x]:=by
      simp[Builtin.len_,ht]
     split at hv
     .rename_i e he;obtain⟨z,h1,h2⟩:=Bp (P:=P) hx (by simpa only[aF]using hv) o.type (t:=t) (by simp[he]);exact⟨z,hlen z (hty▸h1),h2⟩
     .rename_i he;obtain⟨z,h1,h2⟩:=Bp (P:=P) hx (by simpa only[aF]using hv) o.type (t:=t) (by simp[he]);exact⟨z,hlen z (hty▸h1),h2⟩
     .simp[aF]at hv
    .simp[aF]at hv
   case cap=>
    simp only[]at hv;split at hv
    .rename_i x t XA ht;have hx:=R x;have hargs':args=#[x]:=by apply Array.ext';simpa using XA
     split at hv
     .rename_i hsl;obtain⟨e,he⟩:∃e,P.underlying t=some (.slice e):=by
       unfold AL at hsl;split at hsl
       .rename_i e he;exact⟨e,he⟩
       .cases hsl
      simp only[aF,Mr]at hv;split at hv
      .rename_i hn;rw[hn]at hx;simp only[E']at hx;simp only[aI]at hv;subst hv;refine⟨.int .i64 0,?_,by simp[E']⟩;simp[resolve,invoke,Go.builtin,hargs',Builtin.cap_,ht,run_underlying he,hx,goInt]
      .cases hv
     .simp[aF]at hv
    .simp[aF]at hv
   case min=>
    simp only[]at hv;split at hv
    .rename_i x y XA;have hargs':args=#[x,y]:=by apply Array.ext';simpa using XA
     obtain⟨z,h1,h2⟩:=tR (P:=P) (w:=w) (m:=false) argTypes o.type (R x) (R y) (by simpa only[aF]using hv);exact⟨z,by simpa[resolve,invoke,Go.builtin,hargs']using h1,h2⟩
    .simp[aF]at hv
   case max=>
    simp only[]at hv;split at hv
    .rename_i x y XA;have hargs':args=#[x,y]:=by apply Array.ext';simpa using XA
     obtain⟨z,h1,h2⟩:=tR (P:=P) (w:=w) (m:=true) argTypes o.type (R x) (R y) (by simpa only[aF]using hv);exact⟨z,by simpa[resolve,invoke,Go.builtin,hargs']using h1,h2⟩
    .simp[aF]at hv
   case clear=>
    simp only[]at hv;split at hv
    .split at hv
     .split at hv<;>simp[aF]at hv
     .simp[aF]at hv
    .simp[aF]at hv
   case append=>
    simp only[]at hv;split at hv
    .split at hv
     .split at hv
      .split at hv<;>simp[aF]at hv
      .simp[aF]at hv
     .split at hv
      .split at hv<;>simp[aF]at hv
      .split at hv<;>simp[aF]at hv
      .simp[aF]at hv
    .simp[aF]at hv
   all_goals simp[aF]at hv
variable {P:Program} {I:Mu} {ow:Nat->Prop} {w w':World}
def flat(rows:List V):List V:=rows.flatMap V.cells
def aO.append:∀{vs us:List V} {b off:Nat},aO I ow w (vs++us) b off↔aO I ow w vs b off/\aO I ow w us b (off+vs.length)
 |[],us,b,off=>by simp[aO]
 |v::vs,us,b,off=>by
  simp only[List.cons_append,aO,aO.append (vs:=vs),XX];rw[show off+(vs.length+1)=off+1+vs.length by omega,and_assoc]
def jy:∀{rows:List V} {b off sz:Nat},aT I ow w rows b off sz↔(∀r∈rows,r.cells.length=sz)/\aO I ow w (flat rows) b off
 |[],b,off,sz=>by simp[aT,flat,aO]
 |r::rs,b,off,sz=>by
  have ih:=jy (rows:=rs) (b:=b) (off:=off+sz) (sz:=sz);simp only[aT,ih,dT];have e:flat (r::rs)=r.cells++flat rs:=by simp[flat]
  rw[e,aO.append];constructor
  .rintro⟨h1,h2,h3,h4⟩;exact⟨λx hx=>(db.1 hx).elim (λe'=>e'▸h1) (h3 x),h2,by rw[h1];exact h4⟩
  .rintro⟨h1,h2,h3⟩;have h0:=h1 r (by simp);exact⟨h0,h2,λx hx=>h1 x (by simp[hx]),by rw[h0]at h3;exact h3⟩
def tK{rows:List V}{sz:Nat}(h:∀r∈rows,r.cells.length=sz):(flat rows).length=rows.length*sz:=by
 induction rows with
 |nil=>simp[flat]
 |cons r rs ih=>
  have e:flat (r::rs)=r.cells++flat rs:=by simp[flat]
  rw[e,iz,h r (by simp),ih (λx hx=>h x (by simp[hx])),XX,Nat.add_mul];omega
def ic(a b:List V):flat (a++b)=flat a++flat b:=by simp[flat]
def lu:∀{vs:List V} {xs:List Value} {b off:Nat},ar I ow w vs xs->(∀u∈xs,u.oneCell'=true)->
 (∀(j:Nat) u,xs[j]?=some u->w.cell? ⟨b,off+j,none⟩=some u)->aO I ow w vs b off
 |[],_,_,_,_,_,_=>by simp[aO]
 |v::vs,l,b,off,h,h1,h2=>by
  simp only[ar]at h;obtain⟨x,xs,rfl,h3,h4⟩:=h;simp only[aO];refine⟨⟨x,by simpa using h2 0 x (by simp),h3,h1 x (by simp)⟩,lu h4 (λu hu=>h1 u (by simp[hu])) ?_⟩;intro j u hu;have:=h2 (j+1) u (by simpa using hu)
  rwa [show off+(j+1)=off+1+j by omega]at this
def bz(U:ag):Option Nat->ag
 |none=>U
 |some i=>del U i
def yG{U:ag}{o:Option Nat}{i:Nat}{x:Ob}(h:bz U o i=some x):U i=some x/\some i≠o:=by
 cases o with
 |none=>exact⟨h,by simp⟩
 |some k=>
  simp only[bz,del]at h;split at h
  .cases h
  .rename_i W6;exact⟨h,by simpa using W6⟩
def Sat.dC{w0:World}{XN:Nat->Prop}{U:ag}(h:Sat w0 XN I U w):∃id,I id=.dC/\U id=none/\∀p,∃N,∀i,N<=i->(λk=>if k=id then p else I k:Mu) i=.dC:=by
 obtain⟨N,hN⟩:=h.fin;refine⟨N,hN N (Xm _),?_,λp=>⟨N+1,λi hi=>?_⟩⟩
 .cases ho:U N with
  |none=>rfl
  |some o=>
   have:=h.obj N o ho;rw[hN N (Xm _)]at this;exact this.elim
 .simp[show i≠N by omega,hN i (by omega)]
def Sat.renew{w0:World}{XN:Nat->Prop}{U:ag}(h:Sat w0 XN I U w){row:Option Nat}(hg:w.grownBy w' row)(WW:Option Nat)
 (hA:row=none\/∃i oA sz cap b,WW=some i/\U i=some oA/\I i=.XK b sz cap/\row=some b)
 (b sz cap:Nat)(cur:Array Value)(e:TypeId)(rows:List V)(xs:List Value)(hb:some b=row\/w.heap.size<=b)
 (hheap:w'.heap[b]?=some (.cells cur e (0,0)))(Zb:0<sz)(hcur:cur.size=cap*sz)(Xo:rows.length<=cap)(hcap:cap<=maxLen)
 (hlen:∀r∈rows,r.cells.length=sz)(hx:ar I (az I U) w (flat rows) xs)(Yo:∀u∈xs,u.oneCell'=true)
 (hpre:∀(j:Nat) u,xs[j]?=some u->cur[j]?=some u):
 ∃id,U id=none/\∃Y':Mu,Y' id=.XK b sz cap/\cI I Y'/\Sat w0 XN Y' (C' (bz U WW) id ⟨e,sz,rows⟩) w'/\
  cM (az I U) (az Y' (C' (bz U WW) id ⟨e,sz,rows⟩)) w w':=by
 obtain⟨id,P',W4,XL⟩:=h.dC;refine⟨id,W4,λk=>if k=id then .XK b sz cap else I k,by simp,λk hk=>?_,?_⟩
 .have:k≠id:=λe'=>hk (e'▸P');simp[this]
 .have hle:cI I (λk=>if k=id then .XK b sz cap else I k):=λk hk=>by
   have:k≠id:=λe'=>hk (e'▸P');simp[this]
  have Yd:∀b',row=some b'->az I U b':=λb' hb'=>by
   rcases hA with h1|⟨i,oA,sz',Yw,b'',h1,h2,h3,h4⟩
   .rw[h1]at hb';cases hb'
   .rw[h4]at hb';cases hb';exact⟨i,oA,sz',Yw,h2,h3⟩
  refine h.put hg Yd hle (XL _) id ⟨e,sz,rows⟩ (λo ho=>?_) (λi o hi ho=>?_) (λb' sz' Yw hb'=>?_) (λhk=>?_)
  .simp[C']at ho;exact ho.symm
  .simp only[C',ao hi]at ho;obtain⟨h1,h2⟩:=yG ho;refine⟨h1,λb' sz' Yw h3 h4=>?_⟩;rcases hA with h5|⟨iA,oA,szA,capA,bA,h5,h6,h7,h8⟩
   .rw[h5]at h4;cases h4
   .rw[h8]at h4;cases h4;have:=h.inj i iA o oA _ _ _ _ _ h1 h6 h3 h7;exact h2 (by rw[this,h5])
  .simp only[if_true,Pl.XK.injEq]at hb';rw[<-hb'.1];exact hb
  .simp only[if_true,rN];refine .inl ⟨cur,hheap,trivial,Zb,hcur,Xo,hcap,?_⟩;rw[jy];refine⟨hlen,lu (ar.mono hle hk hg.size _ _ hx) Yo ?_⟩;intro j u hu;rw[cell_of_row w' b _ cur e (0,0) hheap];simpa using hpre j u hu
def Sat.H6{w0:World}{XN:Nat->Prop}{U:ag}(h:Sat w0 XN I U w)(WW:Option Nat)(e:TypeId)(sz:Nat):
 ∃id,U id=none/\∃Y':Mu,Y' id=.nil/\cI I Y'/\Sat w0 XN Y' (C' (bz U WW) id ⟨e,sz,[]⟩) w/\
  cM (az I U) (az Y' (C' (bz U WW) id ⟨e,sz,[]⟩)) w w:=by
 obtain⟨id,P',W4,XL⟩:=h.dC;have hle:cI I (λk=>if k=id then .nil else I k):=λk hk=>by
  have:k≠id:=λe'=>hk (e'▸P');simp[this]
 refine⟨id,W4,λk=>if k=id then .nil else I k,by simp,hle,?_⟩;refine h.put (row:=none) ⟨rfl,rfl,rfl,Xm _,λ_ _ _=>rfl⟩ (by simp) hle (XL _) id ⟨e,sz,[]⟩ (λo ho=>?_) (λi o hi ho=>?_) (λb' sz' Yw hb'=>?_) (λhk=>?_)
 .simp[C']at ho;exact ho.symm
 .simp only[C',ao hi]at ho;exact⟨(yG ho).1,by simp⟩
 .simp at hb'
 .simp[rN]
def Sat.change{w0:World}{XN:Nat->Prop}{U:ag}(h:Sat w0 XN I U w){id b sz cap:Nat}{o:Ob}(ho:U id=some o)(P':I id=.XK b sz cap)(hz:0<sz)
 (hg:w.grownBy w' (some b))(cur:Array Value)(rows:List V)(xs:List Value)
 (hheap:w'.heap[b]?=some (.cells cur o.elem (0,0)))(hcur:cur.size=cap*sz)(Xo:rows.length<=cap)
 (hlen:∀r∈rows,r.cells.length=sz)(hx:ar I (az I U) w (flat rows) xs)(Yo:∀u∈xs,u.oneCell'=true)
 (hpre:∀(j:Nat) u,xs[j]?=some u->cur[j]?=some u):
 Sat w0 XN I (C' U id { o with rows:=rows }) w'/\cM (az I U) (az I (C' U id { o with rows:=rows })) w w':=by
 have Yx:=h.obj id o ho;rw[P']at Yx;obtain⟨_,_,h2,h3,_,_,h6,_⟩:=Yx.plain hz;refine h.put hg (λb' hb'=>by cases hb';exact⟨id,o,sz,cap,ho,P'⟩) (cI.refl _) h.fin id { o with rows:=rows } (λx W8=>by simp[C']at W8;exact W8.symm)
  (λi x hi W8=>?_) (λb' sz' Yw hb'=>?_) (λhk=>?_)
 .simp only[C',ao hi]at W8;refine⟨W8,λb' sz' Yw h4 h5=>hi ?_⟩;cases h5;exact h.inj i id x o _ _ _ _ _ W8 ho h4 P'
 .rw[P']at hb';cases hb';exact .inl rfl
 .rw[P'];refine .inl ⟨cur,hheap,h2,h3,hcur,Xo,h6,?_⟩;rw[jy];refine⟨hlen,lu (ar.mono (cI.refl _) hk hg.size _ _ hx) Yo ?_⟩;intro j u hu;rw[cell_of_row w' b _ cur o.elem (0,0) hheap];simpa using hpre j u hu
def aQ(s:Nat->V):Option Nat->V->Nat->V
 |none,_=>s
 |some d,v=>λi=>if i=d then v else s i
def cQ.step{F:Fr}{Y':Mu}{st:St}{a:Act}{Z':ag}(hs:cQ F I st a w)(h1:Sat F.w0 F.XN Y' Z' w')(h2:cI I Y')
 (h3:cM (az I st.U) (az Y' Z') w w')(h4:w.heap.size<=w'.heap.size){d:Option Tmp}{v:V}{x:Value}(hv:E' Y' (az Y' Z') w' v x):
 cQ F Y' ⟨aQ st.s (d.filter (·<F.n)) v,Z'⟩ (a.put d x) w' where
 sat:=h1
 le:=hs.le.trans h2
 size:=by cases d<;>simp[Act.put,hs.size]
 book:=by
  have:=hs.book.lV h3;cases d<;>simpa[Act.put]using this
 slot:=λi hi=>by
  have hold:=E'.mono h2 h3 h4 _ _ (hs.slot i hi);cases d with
  |none=>simpa[Act.put,aQ]using hold
  |some d=>
   simp only[Act.put,Option.filter_some];by_cases hd:d<F.n
   .simp only[hd,decide_true,if_true,aQ];by_cases P':i=d
    .subst P';simp only[if_true];rw[Zq7,Array.getElem?_setIfInBounds_self_of_lt (by rw[hs.size];exact hi)];exact hv
    .simp only[ao P'];rw[Zq7,Array.getElem?_setIfInBounds_ne (λe=>P' e.symm),<-Zq7];exact hold
   .simp only[hd,decide_false,fG,if_false,aQ];rw[Zq7,Array.getElem?_setIfInBounds_ne (λ(e:d=i)=>hd (e▸hi)),<-Zq7];exact hold
def cQ.pure{F:Fr}{st:St}{a:Act}(hs:cQ F I st a w){d:Option Tmp}{v:V}{x:Value}(hv:E' I (az I st.U) w v x):
 cQ F I ⟨aQ st.s (d.filter (·<F.n)) v,st.U⟩ (a.put d x) w:=
 hs.step hs.sat (cI.refl _) (λ_ _ h=>⟨h,rfl⟩) (Xm _) hv
variable {P:Program} {I:Mu} {ow:Nat->Prop} {w w':World}
def ec(r:V)(k sz:Nat)(x:V):Option V:=
 if x.cells.length=sz/\x.stays=true then
  (if k=0/\r.cells.length=sz then some x
   else if k+sz<=r.cells.length then some (.agg (r.cells.take k++x.cells++r.cells.drop (k+sz)))else none)
 else none
def xY{r x r':V}{k sz:Nat}(h:ec r k sz x=some r'):x.cells.length=sz/\x.stays=true/\k+sz<=r.cells.length/\
 r'.cells=r.cells.take k++x.cells++r.cells.drop (k+sz):=by
 unfold ec at h;split at h
 .rename_i h1;split at h
  .rename_i h2;obtain⟨rfl,h3⟩:=h2;simp only[aI]at h;subst h;refine⟨h1.1,h1.2,by omega,?_⟩;simp[h3]
  .split at h
   .rename_i h3;simp only[aI]at h;subst h;exact⟨h1.1,h1.2,h3,by simp[V.cells]⟩
   .cases h
 .cases h
def Iw{rows:List V}{sz0:Nat}(hlen:∀r∈rows,r.cells.length=sz0){i:Nat}{r r':V}(hr:rows[i]?=some r){k sz:Nat}{xs:List V}
 (hk:k+sz<=sz0)(hc:r'.cells=r.cells.take k++xs++r.cells.drop (k+sz)):
 flat (rows.set i r')=(flat rows).take (i*sz0+k)++xs++(flat rows).drop (i*sz0+k+sz):=by
 induction rows generalizing i with
 |nil=>simp at hr
 |cons q rows ih=>
  have hq:=hlen q (by simp);have e:∀l,flat (q::l)=q.cells++flat l:=λl=>by simp[flat]
  cases i with
  |zero=>
   simp only[L4,aI]at hr;subst hr;simp only[List.set_cons_zero,Nat.zero_mul,iV];rw[e,show flat (r'::rows)=r'.cells++flat rows by simp[flat],hc];rw[MW (by omega),Eb (by omega)];simp
  |succ i=>
   simp only[uP]at hr;simp only[List.set_cons_succ];rw[e,e,ih (λx hx=>hlen x (by simp[hx])) hr];have e1:(i+1)*sz0+k=q.cells.length+(i*sz0+k):=by rw[hq,Nat.add_mul];omega
   have e2:(i+1)*sz0+k+sz=q.cells.length+(i*sz0+k+sz):=by omega
   rw[e1,show q.cells.length+(i*sz0+k)+sz=q.cells.length+(i*sz0+k+sz) by omega,List.take_length_add_append,List.drop_length_add_append];simp
def lJ{α:Type}(l xs WO:List α)(h:∀(j:Nat) u,xs[j]?=some u->l[j]?=some u)(o:Nat)(ho:o+WO.length<=xs.length):
 ∀(j:Nat) u,(xs.take o++WO++xs.drop (o+WO.length))[j]?=some u->(l.take o++WO++l.drop (o+WO.length))[j]?=some u:=by
 have hl:xs.length<=l.length:=by
  rcases Nat.lt_or_ge l.length xs.length with h1|h1
  .have h2:=h l.length xs[l.length] (by simp[h1]);simp at h2
  .exact h1
 intro j u hu;simp only[my]at hu|-;rw[Q7]at hu|-;simp only[gO,Nat.min_eq_left (show o<=xs.length by omega),Nat.min_eq_left (show o<=l.length by omega)]at hu|-;split at hu
 .rename_i h1;rw[aq h1];rw[List.getElem?_take_of_lt h1]at hu|-;exact h j u hu
 .rename_i h1;rw[ao h1];rw[Q7]at hu|-;split at hu
  .rename_i h2;rw[aq h2];exact hu
  .rename_i h2;rw[ao h2];rw[Mg]at hu|-;exact h _ u hu
def aT.cur{rows:List V}{b sz:Nat}{cur:Array Value}{e:TypeId}{fr:Nat×Nat}(h:aT I ow w rows b 0 sz)(hc:w.heap[b]?=some (.cells cur e fr)):
 (∀r∈rows,r.cells.length=sz)/\∃xs,ar I ow w (flat rows) xs/\(∀u∈xs,u.oneCell'=true)/\xs.length=rows.length*sz/\∀(j:Nat) u,xs[j]?=some u->cur.toList[j]?=some u:=by
 rw[jy]at h;obtain⟨h1,h2⟩:=h;obtain⟨xs,h3,h4,h5⟩:=h2.E2;refine⟨h1,xs,h3,h4,by rw[h3.length,tK h1],λj u hu=>?_⟩;have:=h5 j u hu;rw[cell_of_row w b _ cur e fr hc]at this;simpa using this
def tF{F:Fr}{st:St}{a:Act}(hs:cQ F I st a w){o:Oper}{t:TypeId}{x y:Operand}(hoo:o.op=.store t x y)(hk:bO P t=true)
 {id i k:Nat}(h1:(cx F.n x).ev st.s=.ptr id i k){ob:Ob}(h2:st.U id=some ob){r r':V}(h3:ob.rows[i]?=some r)(h4:ec r k (P.cellsOf t) ((cx F.n y).ev st.s)=some r'):
 ∃w',(execOp a.eval o).run P w=.ok .skip w'/\cQ F I ⟨aQ st.s (o.dst.filter (·<F.n)) (.WJ []),C' st.U id { ob with rows:=ob.rows.set i r' }⟩ (a.put o.dst undef) w':=by
 have R:=bU hs;obtain⟨c1,c2,c3,c4⟩:=xY h4;have hx:=R x;have hy:=R y;rw[h1]at hx;simp only[E']at hx;split at hx
 .rename_i b szb cap P';have Xz:=hs.sat.obj id ob h2;rw[P']at Xz;obtain⟨hx,hz⟩:=hx;obtain⟨cur,e1,e2,e3,e4,e5,e6,e7⟩:=Xz.plain hz;obtain⟨g1,xs,g2,g3,g4,g5⟩:=e7.cur e1;obtain⟨v1,v2⟩:=hy.cells c2;have vl:=hy.j4 c2;have hr:r∈ob.rows:=yk h3;have hrl:=g1 r hr;have hilt:i<ob.rows.length:=(jn.1 h3).1;have hbound:i*szb+k+P.cellsOf t<=ob.rows.length*szb:=by
   have:(i+1)*szb<=ob.rows.length*szb:=Nat.mul_le_mul_right _ hilt;rw[Nat.add_mul]at this;omega
  have hbound2:ob.rows.length*szb<=cap*szb:=Nat.mul_le_mul_right _ e5;have hvl:(a.eval y).cells.toList.length=P.cellsOf t:=by rw[Array.length_toList,vl,c1]
  have WY:=run_storeCells_at P b (i*szb+k) ob.elem (a.eval y).cells.toList 0 cur w e1 (by rw[hvl];omega) v2;simp only[Nat.add_zero]at WY;refine⟨w.setRow b (cur.toList.take (i*szb+k)++(a.eval y).cells.toList++cur.toList.drop (i*szb+k+(a.eval y).cells.toList.length)).toArray,?_,?_⟩
  .unfold execOp;rw[hoo];simp only[Sem.run_bind,Instr.storeAt,hx,Instr.sureAddr,Sem.run_pure,Result.andThen_ok,storeVar,cc hk,Sem.run_ite,vl,c1,ne_eq,not_true_eq_false,if_false,WY]
  .have hgrow:w.grownBy (w.setRow b (cur.toList.take (i*szb+k)++(a.eval y).cells.toList++cur.toList.drop (i*szb+k+(a.eval y).cells.toList.length)).toArray) (some b):=
    ⟨rfl,rfl,rfl,by simp,λkk _ hkk=>setRow_other w b kk _ (λe=>hkk (by rw[e]))⟩
   have hrows':∀q∈ob.rows.set i r',q.cells.length=szb:=by
    intro q hq;rcases List.mem_or_eq_of_mem_set hq with hq|rfl
    .exact g1 q hq
    .rw[c4];simp;omega
   have hflat:=Iw g1 h3 (k:=k) (sz:=P.cellsOf t) (xs:=V.cells ((cx F.n y).ev st.s)) (r':=r') (by omega) c4;have hch:=hs.sat.change h2 P' hz hgrow _ (ob.rows.set i r') (xs.take (i*szb+k)++(a.eval y).cells.toList++xs.drop (i*szb+k+(a.eval y).cells.toList.length))
    (setRow_heap w b cur _ ob.elem _ e1) (by simp only[List.size_toArray,iz,gO,oG,Array.length_toList];rw[Array.length_toList]at hvl;omega) (by simpa using e5) hrows'
    (by rw[hflat,<-c1,<-v1.length];rw[show(a.eval y).cells.toList.length=(a.eval y).cells.toList.length from rfl];exact((g2.take _).append v1).append (g2.drop _))
    (by intro u hu
        simp only[dD]at hu;rcases hu with(hu|hu)|hu
        .exact g3 u (qp hu)
        .exact v2 u hu
        .exact g3 u (List.mem_of_mem_drop hu))
    (by intro j u hu
        have:=lJ cur.toList xs _ g5 (i*szb+k) (by rw[hvl,g4];omega) j u hu;simpa using this)
   exact hs.step hch.1 (cI.refl _) hch.2 (by simp) (by simp only[E'];exact⟨[],rfl,by simp[ar]⟩)
 .exact hx.elim
def gS{z:Value}(h:∀u∈z.cells.toList,u.oneCell'=true):(ofValue z).cells=z.cells.toList.map cellOf:=by
 unfold ofValue;split
 .rename_i cs;rw[aq (by simpa only[eT,Value.cells]using h)];simp[V.cells,Value.cells]
 .rename_i hz;have hc:z.cells=#[z]:=by cases z<;>simp_all [Value.cells]
  have h1:=h z (by simp[hc]);rw[hc];simpa using tp (I:=λ_=>.dC) (ow:=λ_=>True) (w:=default) (pU z) h1
def tI{F:Fr}{st:St}{a:Act}(hs:cQ F I st a w){o:Oper}{t:TypeId}(hoo:o.op=.alloc t){i:TypeInfo}{z:Value}(hz:zeroOf P t=some (i,z)):
 ∃id,st.U id=none/\∃x w' Y',(execOp a.eval o).run P w=.ok (.value x) w'/\
  cQ F Y' ⟨aQ st.s (o.dst.filter (·<F.n)) (.ptr id 0 0),C' st.U id ⟨t,i.size,[ofValue z]⟩⟩ (a.put o.dst x) w':=by
 obtain⟨hi,hz0,hk,hzs,Yo,Zb⟩:=eH hz;have Ye:=(dz hk).2.2;have XH:=gS Yo;obtain⟨id,P',Y',h1,h2,h3,h4⟩:=hs.sat.renew (row:=none) (World.grownBy_alloc w (.cells z.cells t) none) none (.inl rfl) w.heap.size i.size 1 z.cells t [ofValue z] z.cells.toList (.inr (Xm _))
  (heap_alloc_new w _) (by omega) (by omega) (by simp) (by simp[maxLen]) (by intro r hr;simp at hr;subst hr;rw[XH];simp[hzs])
  (by simp only[flat,AA,List.flatMap_nil,lO,XH];exact fg _) Yo (by intro j u hu;simpa using hu)
 refine⟨id,P',.pointer (some ⟨w.heap.size,0,none⟩),w.alloc (.cells z.cells t),Y',?_,hs.step h3 h2 h4 (by simp) (by simp[E',h1];omega)⟩;unfold execOp;rw[hoo];simp[Instr.alloc,dP hz,newVar,newRow]
def wM{β:Type}(X:Nat×β->List Value)(sz:Nat):∀(ps:List (Nat×β)) (k:Nat) (l:List Value),ps.map (·.1)=List.range' k ps.length->
 (∀p∈ps,(X p).length=sz)->l.length=(k+ps.length)*sz->ps.foldl (λl p=>ei l (p.1*sz) (X p)) l=l.take (k*sz)++ps.flatMap X
 |[],k,l,_,_,hl=>by
  simp only[List.length_nil,Nat.add_zero]at hl;simp[<-hl]
 |p::ps,k,l,h,hX,hl=>by
  simp only[eo,XX,List.range'_succ,List.cons.injEq]at h;obtain⟨h1,h2⟩:=h;have hp:=hX p (by simp);simp only[XX]at hl;have hle:k*sz+sz<=l.length:=by
   rw[hl,<-Nat.add_one_mul];exact Nat.mul_le_mul_right _ (by omega)
  simp only[jm,AA];rw[wM X sz ps (k+1) _ h2 (λq hq=>hX q (by simp[hq])) (by
   rw[lQ _ _ _ (by rw[h1,hp];exact hle),hl];congr 1;omega)]
  rw[h1,ei,hp,Nat.add_one_mul];have e1:(l.take (k*sz)).length=k*sz:=by simp;omega
  have e2:k*sz+sz=(l.take (k*sz)++X p).length:=by rw[iz,e1,hp]
  rw[e2,List.take_left];simp
def qN{F:Fr}{st:St}{a:Act}(hs:cQ F I st a w){o:Oper}{t e:TypeId}{len:Nat}{parts:Array (Nat×Operand)}(hoo:o.op=.buildSlice t len parts)
 (ht:P.underlying t=some (.slice e)){i:TypeInfo}{z:Value}(hz:zeroOf P e=some (i,z))(hparts:parts.toList.map (·.1)=List.range len)(hlen:len*i.size<=16777216)
 (hx:∀x∈parts.toList.map (λp=>(cx F.n p.2).ev st.s),x.cells.length=i.size/\x.stays=true):
 ∃id,st.U id=none/\∃x w' Y',(execOp a.eval o).run P w=.ok (.value x) w'/\
  cQ F Y' ⟨aQ st.s (o.dst.filter (·<F.n)) (.own id 0 len),C' st.U id ⟨e,i.size,parts.toList.map λp=>(cx F.n p.2).ev st.s⟩⟩ (a.put o.dst x) w':=by
 obtain⟨hi,hz0,hk,hzs,Yo,Zb⟩:=eH hz;have Ye:=(dz hk).2.2;have hl:parts.toList.length=len:=by
  have:=congrArg List.length hparts;simpa using this
 have hX:∀p∈parts.toList,((cx F.n p.2).ev st.s).cells.length=i.size/\((cx F.n p.2).ev st.s).stays=true:=λp hp=>hx _ (by
  simp only[gM];exact⟨p,hp,rfl⟩)
 have hXl:∀p∈parts.toList,(a.eval p.2).cells.toList.length=i.size:=λp hp=>by
  rw[Array.length_toList,(bU hs p.2).j4 (hX p hp).2,(hX p hp).1]
 have hzero:∃Z:Array Value,(len*i.size=0->Z=#[])/\(len*i.size≠0->Z=z.cells):=by
  by_cases h0:len*i.size=0
  .exact⟨#[],λ_=>rfl,λh=>absurd h0 h⟩
  .exact⟨z.cells,λh=>absurd h h0,λ_=>rfl⟩
 obtain⟨Z,hZ0,hZ1⟩:=hzero;obtain⟨cs,e1,e2,e3⟩:=pr (λk=>some (k*i.size,i.size)) ((parts.map λ(j,x)=>(j,a.eval x)).toList) ((Array.range (len*i.size)).map (Z[·%Z.size]!)) (by
  intro p hp;simp only[Array.toList_map,gM]at hp;obtain⟨q,hq,rfl⟩:=hp;refine⟨q.1*i.size,i.size,rfl,by simpa using hXl q hq,?_⟩;have:q.1∈List.range len:=by rw[<-hparts];exact gM.2 ⟨q,hq,rfl⟩
  simp only[List.mem_range]at this;simp only[Array.size_map,Array.size_range];rw[<-Nat.add_one_mul];exact Nat.mul_le_mul_right _ this)
 have hcs:cs.toList=parts.toList.flatMap λp=>(a.eval p.2).cells.toList:=by
  have e3':=e3;simp only[Array.toList_map,List.foldl_map,Option.map_some,Option.getD_some]at e3';rw[e3'];have:=wM (λp:Nat×Operand=>(a.eval p.2).cells.toList) i.size parts.toList 0 ((Array.range (len*i.size)).map (Z[·%Z.size]!)).toList
   (by rw[hparts,hl];exact List.range_eq_range') hXl (by simp[hl])
  simpa using this
 have hsize:cs.size=len*i.size:=by simpa using e2
 have Zn:∀(l:List (Nat×Operand)),(∀p∈l,((cx F.n p.2).ev st.s).stays=true)->ar I (az I st.U) w (flat (l.map λp=>(cx F.n p.2).ev st.s)) (l.flatMap λp=>(a.eval p.2).cells.toList)/\
  ∀u∈l.flatMap λp=>(a.eval p.2).cells.toList,u.oneCell'=true:=by
  intro l
  induction l with
  |nil=>intro _;simp[flat,ar]
  |cons p l ih=>
   intro h;obtain⟨g1,g2⟩:=(bU hs p.2).cells (h p (by simp));obtain⟨g3,g4⟩:=ih (λq hq=>h q (by simp[hq]));refine⟨?_,?_⟩
   .simp only[flat,eo,AA]at g3|-;exact g1.append g3
   .intro u hu;simp only[AA,dD]at hu;rcases hu with hu|hu
    .exact g2 u hu
    .exact g4 u hu
 obtain⟨r1,r2⟩:=Zn parts.toList (λp hp=>(hX p hp).2);have hmax:len<=maxLen:=by
  have:len*1<=len*i.size:=Nat.mul_le_mul_left _ (by omega);simp only[maxLen];omega
 obtain⟨id,P',Y',h1,h2,h3,h4⟩:=hs.sat.renew (row:=none) (World.grownBy_alloc w (.cells cs e) none) none (.inl rfl) w.heap.size i.size len cs e
  (parts.toList.map λp=>(cx F.n p.2).ev st.s) cs.toList (.inr (Xm _))
  (heap_alloc_new w _) (by omega) hsize (by simp[hl]) hmax (by intro r hr;simp only[gM]at hr;obtain⟨p,hp,rfl⟩:=hr;exact(hX p hp).1)
  (by rw[hcs];exact r1) (by rw[hcs];exact r2) (by intro j u hu;simpa using hu)
 refine⟨id,P',.slice (some ⟨w.heap.size,0,none⟩) len len,w.alloc (.cells cs e),Y',?_,hs.step h3 h2 h4 (by simp) ?_⟩
 .have e1':=e1;simp only[Array.toList_map]at e1';unfold execOp;rw[hoo];simp only[Instr.buildSlice,Sem.run_bind,run_underlying ht,Result.andThen_ok,cc hk,<-Zb,Sem.run_ite];rw[ao (by omega)];by_cases h0:len*i.size=0
  .rw[hZ0 h0]at e1';rw[aq h0];simp only[Sem.run_pure,Result.andThen_ok,Array.toList_map];rw[e1'];simp[newRow]
  .rw[hZ1 h0]at e1';rw[ao h0];simp only[Sem.run_pure,Result.andThen_ok,Array.toList_map,dP hz];rw[e1'];simp[newRow]
 .simp only[E',h1];exact⟨0,len,rfl,Xm _,by omega,.inl (by omega),by omega⟩
def kz(z:Array Value)(n:Nat):(Builtin.zeroCells z n).toList=(List.replicate n z.toList).flatten:=by
 induction n with
 |zero=>simp[Builtin.zeroCells]
 |succ n ih=>
  rw[List.replicate_succ',List.flatten_append,<-ih];simp only[Builtin.zeroCells,Array.toList_map,Array.toList_range];rw[Nat.add_mul,Nat.one_mul,List.range_add,gB,List.map_map];congr 1;simp only[List.flatten_cons,List.flatten_nil,lO];apply List.ext_getElem
  .simp
  .intro i h1 h2;simp only[dd,List.length_range]at h1;simp[Nat.add_mod,Nat.mul_mod_left,Nat.mod_eq_of_lt h1,getElem!_pos,h1]
def wR(z:V)(n:Nat):flat (List.replicate n z)=(List.replicate n z.cells).flatten:=by
 simp[flat,List.flatMap]
def Bv{F:Fr}{st:St}{a:Act}(hs:cQ F I st a w){o:Oper}{t e:TypeId}{l c:Operand}(hoo:o.op=.makeSlice t l c)(heq:u6 l c=true)
 (ht:P.underlying t=some (.slice e)){i:TypeInfo}{z:Value}(hz:zeroOf P e=some (i,z)){m:Int}(hm:(cx F.n l).ev st.s=.int .i64 m)(h0:0<=m)
 (hb:m.toNat*(i.bytes+1)<=140737488355328):
 ∃id,st.U id=none/\∃x w' Y',(execOp a.eval o).run P w=.ok (.value x) w'/\
  cQ F Y' ⟨aQ st.s (o.dst.filter (·<F.n)) (.own id 0 m.toNat),C' st.U id ⟨e,i.size,List.replicate m.toNat (ofValue z)⟩⟩ (a.put o.dst x) w':=by
 obtain⟨hi,hz0,hk,hzs,Yo,Zb⟩:=eH hz;have Ye:=(dz hk).2.2;have XH:=gS Yo;obtain⟨k,rfl⟩:∃k:Nat,m=k:=⟨m.toNat,by omega⟩
 simp only[fc]at hb|-;have hel:a.eval l=.int .i64 k:=by
  have:=bU hs l;rw[hm]at this;simpa[E']using this
 have hec:a.eval c=.int .i64 k:=by
  have:a.eval c=a.eval l:=by
   cases l<;>cases c<;>simp only[u6,fG]at heq
   case tmp.tmp x y=>
    have:x=y:=by simpa using heq
    rw[this]
   case const.const x y=>
    split at heq
    .rename_i k1 a1 k2 b1 _ _;have:=of_decide_eq_true heq;rename_i e1 e2;simp_all
    .simp_all
    .cases heq
  rw[this,hel]
 have hkb:k*i.bytes<=140737488355328:=jx (Nat.mul_le_mul_left _ (by omega)) hb;have Zv:k<=140737488355328:=jx (Nat.le_mul_of_pos_right _ (by omega)) hb;have Xi:=run_make (P:=P) w t e i z ht hi hz0 .i64 .i64 k k (by omega) (by omega) (by
  have:((k*i.bytes:Nat):Int)<=140737488355328:=by omega
  rw[Int.natCast_mul]at this;rw[Int.mul_comm];omega) (by omega)
 have hmade:madeCells z.cells (k*i.size)=Builtin.zeroCells z.cells k:=by rw[madeCells,Builtin.zeroCells,hzs]
 simp only[fc]at Xi;rw[hmade]at Xi;have hl:=kz z.cells k;have Zn:∀n,ar I (az I st.U) w (flat (List.replicate n (ofValue z))) (List.replicate n z.cells.toList).flatten:=by
  intro n
  induction n with
  |zero=>simp[flat,ar]
  |succ n ih=>
   simp only[List.replicate_succ,flat,AA,List.flatten_cons]at ih|-;refine ar.append ?_ ih;rw[XH];exact fg _
 obtain⟨id,P',Y',h1,h2,h3,h4⟩:=hs.sat.renew (row:=none) (World.grownBy_alloc w (.cells (Builtin.zeroCells z.cells k) e) none) none (.inl rfl) w.heap.size i.size k (Builtin.zeroCells z.cells k) e
  (List.replicate k (ofValue z)) (Builtin.zeroCells z.cells k).toList (.inr (Xm _))
  (heap_alloc_new w _) (by omega) (by rw[size_zeroCells,hzs]) (by simp) (by simp only[maxLen];omega) (by
    intro r hr;rw[(List.mem_replicate.1 hr).2,XH];simp[hzs])
  (by rw[hl];exact Zn k) (by
    rw[hl];intro u hu;simp only[List.mem_flatten,List.mem_replicate]at hu;obtain⟨l',⟨_,rfl⟩,hu⟩:=hu;exact Yo u hu) (by intro j u hu;simpa using hu)
 refine⟨id,P',.slice (some ⟨w.heap.size,0,none⟩) k k,w.alloc (.cells (Builtin.zeroCells z.cells k) e),Y',?_,hs.step h3 h2 h4 (by simp) ?_⟩
 .unfold execOp;rw[hoo];simp only[hel,hec];simp[Xi]
 .simp only[E',h1];exact⟨0,k,rfl,Xm _,by omega,.inl (by omega),by omega⟩
variable {P:Program} {I:Mu} {ow:Nat->Prop} {w w':World}
def bI(U:ag)(sz:Nat):V->Option (List V)
 |.own id off len=>match U id with
   |some ob=>if ob.sz=sz/\off+len<=ob.rows.length then some ((ob.rows.drop off).take len)else none
   |none=>none
 |.sl sz' rows=>if sz'=sz then some rows else none
 |.ay=>some []
 |.str s=>if sz=1 then some (s.map λb=>.int .u8 b.toNat)else none
 |_=>none
def bV(U:ag)(e:TypeId)(sz:Nat):V->Option (List V×Option Nat)
 |.own id off len=>match U id with
   |some ob=>if ob.sz=sz/\ob.elem=e/\off=0/\len<=ob.rows.length then some (ob.rows.take len,some id)else none
   |none=>none
 |.ay=>some ([],none)
 |_=>none
def pC{w0:World}{XN:Nat->Prop}{U:ag}(Zm:Sat w0 XN I U w){sz:Nat}(Zb:0<sz){v:V}{x:Value}{rows:List V}(h:bI U sz v=some rows)
 (hx:E' I (az I U) w v x):∃news,(∀w':World,(Builtin.lenOf x).run P w'=.ok rows.length w')/\(∀r∈rows,r.cells.length=sz)/\ar I (az I U) w (flat rows) news/\(∀u∈news,u.oneCell'=true)/\
   news.length=rows.length*sz/\∀w',(∀b off u,w.cell? ⟨b,off,none⟩=some u->w'.cell? ⟨b,off,none⟩=some u)->(Builtin.firstCells sz rows.length x).run P w'=.ok news.toArray w':=by
 have hmk:∀(rs:List V) (b off:Nat) (c:Nat),aT I (az I U) w rs b off sz->x=.slice (some ⟨b,off,none⟩) rs.length c->rs=rows->
  ∃news,(∀w':World,(Builtin.lenOf x).run P w'=.ok rows.length w')/\(∀r∈rows,r.cells.length=sz)/\ar I (az I U) w (flat rows) news/\(∀u∈news,u.oneCell'=true)/\
  news.length=rows.length*sz/\∀w',(∀b off u,w.cell? ⟨b,off,none⟩=some u->w'.cell? ⟨b,off,none⟩=some u)->(Builtin.firstCells sz rows.length x).run P w'=.ok news.toArray w':=by
  rintro rs b off c hr rfl rfl;rw[jy]at hr;obtain⟨h1,h2⟩:=hr;obtain⟨news,h3,h4,h5⟩:=h2.E2;have hl:news.length=rs.length*sz:=by rw[h3.length,tK h1]
  refine⟨news,λ_=>rfl,h1,h3,h4,hl,λw' hw'=>?_⟩;exact run_firstCells_some (P:=P) w' sz rs.length ⟨b,off,none⟩ rs.length c news hl (λj v hv=>by rw[fZ];exact hw' _ _ _ (h5 j v hv))
 have hnil:∀(a:Option Addr) (c:Nat),x=.slice a 0 c->rows=[]->
  ∃news,(∀w':World,(Builtin.lenOf x).run P w'=.ok rows.length w')/\(∀r∈rows,r.cells.length=sz)/\ar I (az I U) w (flat rows) news/\(∀u∈news,u.oneCell'=true)/\
  news.length=rows.length*sz/\∀w',(∀b off u,w.cell? ⟨b,off,none⟩=some u->w'.cell? ⟨b,off,none⟩=some u)->(Builtin.firstCells sz rows.length x).run P w'=.ok news.toArray w':=by
  rintro a c rfl rfl;refine⟨[],λ_=>rfl,by simp,by simp[flat,ar],by simp,by simp,λw' _=>?_⟩;cases a<;>simp[Builtin.firstCells,loadCells,loadCellsFrom]
 unfold bI at h;split at h
 .rename_i id off len;split at h
  .rename_i ob Xz;split at h
   .rename_i hc;simp only[aI]at h;simp only[E']at hx;have Yx:=Zm.obj id ob Xz;have hlen:rows.length=len:=by rw[<-h];simp;omega
    split at hx
    .exact hx.elim
    .obtain⟨rfl,rfl,rfl⟩:=hx;exact hnil none 0 rfl (by rw[<-h];simp)
    .rename_i b szb cap P';obtain⟨o,c,rfl,hc1,hc2,ZC,hz⟩:=hx;by_cases h0:len=0
     .subst h0;exact hnil _ c rfl (rF hlen)
     .rw[P']at Yx;obtain⟨g1,g2,g3,g4,g5⟩:=Yx.rows hz;have ho:o=off*szb:=by
       rcases ZC with ZC|ZC
       .exact ZC
       .omega
      subst ho;have hs:szb=sz:=by omega
      subst hs;have:=(g5.drop off).take len;rw[iV]at this;exact hmk _ b _ c this (by rw[h,hlen]) h
   .cases h
  .cases h
 .rename_i sz' WM;split at h
  .rename_i hsz';subst hsz';simp only[aI]at h;subst h;simp only[E']at hx;obtain⟨a,cap,rfl,hl,hr⟩:=hx;rcases hr with rfl|⟨b,off,rfl,hb,hs,hr⟩
   .exact hnil a cap rfl rfl
   .exact hmk WM b off cap hr rfl rfl
  .cases h
 .simp only[aI]at h;subst h;simp only[E']at hx;exact hnil none 0 hx rfl
 .rename_i s;split at h
  .rename_i h1;simp only[aI]at h;subst h h1;simp only[E']at hx;subst hx;have hmap:∀l:List UInt8,ar I (az I U) w (flat (l.map λb=>V.int .u8 b.toNat)) (l.map λb=>Value.int .u8 b.toNat):=by
    intro l
    induction l with
    |nil=>simp[flat,ar]
    |cons b l ih=>simp only[flat,eo,AA,V.cells,List.singleton_append,ar]at ih|-;exact⟨_,_,rfl,by simp[E'],ih⟩
   refine⟨s.map λb=>Value.int .u8 b.toNat,λ_=>by simp[Builtin.lenOf,ByteArray.size],by simp[V.cells],hmap s,by simp[Value.oneCell'],by simp,λw' _=>?_⟩;have:=Lib.run_firstCells_string (P:=P) w' 1 ⟨s.toArray⟩;simpa[ByteArray.size,Lib.strCells]using this
  .cases h
 .cases h
def uN(t t' ty e:TypeId)(i:TypeInfo)(ht:P.underlying t=some (.slice e))(ht':t'=t\/P.underlying t'=some .string)(hi:P.info? e=some i)
 (b Zo sCap:Nat)(cur:Array Value)(hg:w.heap[b]?=some (.cells cur e (0,0)))(Y:Value)(n:Nat)(news:List Value)(hl:(Builtin.lenOf Y).run P w=.ok n w)
 (hf:(Builtin.firstCells i.size n Y).run P w=.ok news.toArray w)(h1:∀u∈news,u.oneCell'=true)
 (hroom:Zo+n<=sCap)(ZH:Zo*i.size+news.length<=cur.size):
 (Builtin.append_ #[t,t'] ty #[.slice (some ⟨b,0,none⟩) Zo sCap,Y]).run P w=
   .ok (.slice (some ⟨b,0,none⟩) (Zo+n) sCap) (w.setRow b (cur.toList.take (Zo*i.size)++news++cur.toList.drop (Zo*i.size+news.length)).toArray):=by
 have WY:=run_storeCells_at P b (Zo*i.size) e news 0 cur w hg (by simpa using ZH) h1;simp only[Nat.add_zero]at WY;rcases ht' with rfl|ht'
 .simp[Builtin.append_,run_underlying ht,sizeOf,typeInfo,hi,hl,hroom,hf,Addr.add_lit,WY]
 .simp[Builtin.append_,run_underlying ht,run_underlying ht',sizeOf,typeInfo,hi,hl,hroom,hf,Addr.add_lit,WY]
def vG(t t' ty e:TypeId)(i:TypeInfo)(z:Value)(ht:P.underlying t=some (.slice e))(ht':t'=t\/P.underlying t'=some .string)(hi:P.info? e=some i)(hz:i.zero=some z)
 (ba:Option Addr)(Zo sCap:Nat)(olds:List Value)(hfo:(Builtin.firstCells i.size Zo (.slice ba Zo sCap)).run P w.drew=.ok olds.toArray w.drew)
 (Y:Value)(n:Nat)(news:List Value)(hl:(Builtin.lenOf Y).run P w=.ok n w)(hf:(Builtin.firstCells i.size n Y).run P w.drew=.ok news.toArray w.drew)
 (hg:sCap<Zo+n)(h63:((Zo+n:Nat):Int)<=9223372036854775807)(ZH:Builtin.nextslicecap (Zo+n) sCap*i.bytes<=281474976710656):
 (Builtin.append_ #[t,t'] ty #[.slice ba Zo sCap,Y]).run P w=
   .ok (.slice (some ⟨w.heap.size,0,none⟩) (Zo+n) (grownCap w (Zo+n) sCap e))
    (w.drew.alloc (.cells (olds.toArray++news.toArray++Builtin.zeroCells z.cells (grownCap w (Zo+n) sCap e-(Zo+n))) e)):=by
 have hn:¬(Zo+n<=sCap):=by omega
 have h63':¬(9223372036854775807<((Zo:Int)+(n:Int))):=by omega
 have h48':¬(281474976710656<Builtin.nextslicecap (Zo+n) sCap*i.bytes):=by omega
 rcases ht' with rfl|ht'
 .simp[Builtin.append_,run_underlying ht,sizeOf,typeInfo,zeroValue,hi,hz,hl,hn,h63',h48',Question.forced,hf,hfo,newRow,grownCap];congr 2;apply Array.ext';simp[my]
 .simp[Builtin.append_,run_underlying ht,run_underlying ht',sizeOf,typeInfo,zeroValue,hi,hz,hl,hn,h63',h48',Question.forced,hf,hfo,newRow,grownCap];congr 2;apply Array.ext';simp[my]
def sD{rows:List V}{sz:Nat}(h:∀r∈rows,r.cells.length=sz)(k:Nat):flat (rows.take k)=(flat rows).take (k*sz):=by
 induction rows generalizing k with
 |nil=>simp[flat]
 |cons r rs ih=>
  have e:∀l,flat (r::l)=r.cells++flat l:=λl=>by simp[flat]
  cases k with
  |zero=>simp[flat]
  |succ k=>
   rw[px,e,e,ih (λx hx=>h x (by simp[hx])),Nat.add_mul,Nat.one_mul,DK,<-h r (by simp),List.take_length_add_append]
def qZ{F:Fr}{st:St}{a:Act}(hs:cQ F I st a w){o:Oper}{t t' e:TypeId}{x y:Operand}{args:Array Operand}{argTypes:Array TypeId}
 (hoo:o.op=.call { callee:=.builtin .append,args:=args,argTypes:=argTypes })(XA:args=#[x,y])(hty:argTypes=#[t,t'])(ht':t'=t\/P.underlying t'=some .string)(ht:P.underlying t=some (.slice e))
 {i:TypeInfo}{z:Value}(hz:zeroOf P e=some (i,z)){base src:List V}{WW:Option Nat}
 (hd:bV st.U e i.size ((cx F.n x).ev st.s)=some (base,WW))(hsrc:bI st.U i.size ((cx F.n y).ev st.s)=some src)
 (hbytes:(base.length+src.length)*(i.bytes+1)<=140737488355328):
 ∃id,st.U id=none/\∃r w' Y',(execOp a.eval o).run P w=.ok (.value r) w'/\
  cQ F Y' ⟨aQ st.s (o.dst.filter (·<F.n)) (.own id 0 (base.length+src.length)),C' (bz st.U WW) id ⟨e,i.size,base++src⟩⟩ (a.put o.dst r) w':=by
 obtain⟨hi,hz0,hk,hzs,Yo,hszc⟩:=eH hz;have Ye:0<i.size:=by rw[hszc];exact(dz hk).2.2
 have hbytes1:(base.length+src.length)*i.bytes<=140737488355328:=jx (Nat.mul_le_mul_left _ (by omega)) hbytes;have hbytes2:base.length+src.length<=140737488355328:=jx (Nat.le_mul_of_pos_right _ (by omega)) hbytes;obtain⟨news,hY,n1,n2,n3,n4,n5⟩:=pC (P:=P) hs.sat Ye hsrc (bU hs y);have hexec:∀r w',(Builtin.append_ #[t,t'] o.type #[a.eval x,a.eval y]).run P w=.ok r w'->(execOp a.eval o).run P w=.ok (.value r) w':=by
  intro r w' h;unfold execOp;rw[hoo];subst XA hty;simp[resolve,invoke,Go.builtin,h]
 have hdrew:∀b off u,w.cell? ⟨b,off,none⟩=some u->w.drew.cell? ⟨b,off,none⟩=some u:=λ_ _ _ h=>h;have h63:base.length+src.length<=maxLen:=by simp only[maxLen];omega
 have h63':((base.length+src.length:Nat):Int)<=9223372036854775807:=by omega
 have hnew:∀(WW:Option Nat) (ba:Option Addr) (old:Nat) (olds:List Value),old<base.length+src.length->a.eval x=.slice ba base.length old->
  (Builtin.firstCells i.size base.length (.slice ba base.length old)).run P w.drew=.ok olds.toArray w.drew->olds.length=base.length*i.size->
  (∀r∈base,r.cells.length=i.size)->ar I (az I st.U) w (flat base) olds->(∀u∈olds,u.oneCell'=true)->
  ∃id,st.U id=none/\∃r w' Y',(execOp a.eval o).run P w=.ok (.value r) w'/\
   cQ F Y' ⟨aQ st.s (o.dst.filter (·<F.n)) (.own id 0 (base.length+src.length)),C' (bz st.U WW) id ⟨e,i.size,base++src⟩⟩ (a.put o.dst r) w':=by
  intro WW ba old olds hold hX hfo hol hb1 XW hb3;have Xi:=vG (P:=P) (w:=w) t t' o.type e i z ht ht' hi hz0 ba base.length old olds hfo (a.eval y) src.length news (hY w) (n5 w.drew hdrew) hold h63' (growslice_fits hold hbytes1);rw[<-hX]at Xi;have hge:=grownCap_ge w (base.length+src.length) old e;have hle:=grownCap_le_maxLen w (base.length+src.length) old e h63;have hlen2:(olds.toArray++news.toArray++Builtin.zeroCells z.cells (grownCap w (base.length+src.length) old e-(base.length+src.length))).size=grownCap w (base.length+src.length) old e*i.size:=by
   simp only[Array.size_append,List.size_toArray,size_zeroCells,hzs,hol,n4,<-Nat.add_mul];congr 1;omega
  obtain⟨id,P',Y',g1,g2,g3,g4⟩:=hs.sat.renew (row:=none)
   (w':=w.drew.alloc (.cells (olds.toArray++news.toArray++Builtin.zeroCells z.cells (grownCap w (base.length+src.length) old e-(base.length+src.length))) e))
   ⟨rfl,rfl,rfl,by simp,λk hk _=>heap_alloc_old w.drew _ k hk⟩ WW (.inl rfl) w.heap.size i.size (grownCap w (base.length+src.length) old e) _ e (base++src) (olds++news)
   (.inr (Xm _)) (heap_alloc_new w.drew _) Ye hlen2 (by simpa using hge) hle
   (by intro r hr;rcases dD.1 hr with hr|hr;exact hb1 r hr;exact n1 r hr) (by rw[ic];exact XW.append n2)
   (by intro u hu;rcases dD.1 hu with hu|hu;exact hb3 u hu;exact n3 u hu)
   (by intro j u hu
       have hj:=(jn.1 hu).1;rw[<-Array.getElem?_toList];simp only[Array.toList_append];rw[Cv (by simpa using hj)];exact hu)
  refine⟨id,P',_,_,Y',hexec _ _ Xi,hs.step g3 g2 g4 (by simp) ?_⟩;simp only[E',g1];exact⟨0,_,rfl,hge,by omega,.inl (by omega),by omega⟩
 have hnil:a.eval x=.slice none 0 0->base=[]->∃id,st.U id=none/\∃r w' Y',(execOp a.eval o).run P w=.ok (.value r) w'/\
  cQ F Y' ⟨aQ st.s (o.dst.filter (·<F.n)) (.own id 0 (base.length+src.length)),C' (bz st.U WW) id ⟨e,i.size,base++src⟩⟩ (a.put o.dst r) w':=by
  rintro hX rfl;by_cases h0:src.length=0
  .have hsrc0:src=[]:=rF h0;subst hsrc0;obtain⟨id,P',Y',g1,g2,g3,g4⟩:=hs.sat.H6 WW e i.size;have hf:=n5 w (λ_ _ _ h=>h);refine⟨id,P',.slice none 0 0,w,Y',hexec _ _ ?_,hs.step g3 g2 g4 (Xm _) (by simp[E',g1])⟩;rw[hX];have hl:=hY w;simp only[List.length_nil]at hf hl|-;rcases ht' with rfl|ht'
   .simp[Builtin.append_,run_underlying ht,sizeOf,typeInfo,hi,hl,hf]
   .simp[Builtin.append_,run_underlying ht,run_underlying ht',sizeOf,typeInfo,hi,hl,hf]
  .exact hnew WW none 0 [] (by simp;omega) hX (by simp[Builtin.firstCells]) (by simp) (by simp) (by simp[flat,ar]) (by simp)
 have hx:=bU hs x;unfold bV at hd;split at hd
 .rename_i id off len hxv;rw[hxv]at hx;split at hd
  .rename_i ob Xz;split at hd
   .rename_i hc;obtain⟨c1,c2,rfl,c4⟩:=hc;simp only[aI,Prod.mk.injEq]at hd;obtain⟨rfl,rfl⟩:=hd;have Yx:=hs.sat.obj id ob Xz;simp only[E']at hx;split at hx
    .exact hx.elim
    .rename_i P';obtain⟨hX,_,rfl⟩:=hx;exact hnil hX (by simp)
    .rename_i b szb cap P';obtain⟨off',c,hX,hc1,hc2,ZC,hz⟩:=hx;have ho:off'=0:=by
      rcases ZC with ZC|ZC
      .simpa using ZC
      .exact absurd rfl ZC.2
     subst ho;rw[P']at Yx;obtain⟨cur,e1,e2,e3,e4,e5,e6,e7⟩:=Yx.plain hz;obtain⟨q1,xs,q2,q3,q4,q5⟩:=e7.cur e1;rw[c2]at e1;have hszb:szb=i.size:=by omega
     subst hszb;have XU:(ob.rows.take len).length=len:=by simp;omega
     have holen:(xs.take (len*i.size)).length=len*i.size:=by
      rw[gO,q4];exact Nat.min_eq_left (Nat.mul_le_mul_right _ c4)
     have hb1:∀r∈ob.rows.take len,r.cells.length=i.size:=λr hr=>q1 r (qp hr);have XW:ar I (az I st.U) w (flat (ob.rows.take len)) (xs.take (len*i.size)):=by rw[sD q1];exact q2.take _
     have hb3:∀u∈xs.take (len*i.size),u.oneCell'=true:=λu hu=>q3 u (qp hu);have hpre:∀(j:Nat) u,(xs.take (len*i.size))[j]?=some u->cur.toList[j]?=some u:=by
      intro j u hu;rw[List.getElem?_take]at hu;split at hu
      .exact q5 j u hu
      .cases hu
     by_cases hroom:len+src.length<=c
     .have hcap:len+src.length<=cap:=by omega
      have ZH:len*i.size+news.length<=cur.size:=by rw[n4,e4,<-Nat.add_mul];exact Nat.mul_le_mul_right _ hcap
      have hf:=n5 w (λ_ _ _ h=>h);have Xi:=uN (P:=P) (w:=w) t t' o.type e i ht ht' hi b len c cur e1 (a.eval y) src.length news (hY w) hf n3 hroom ZH;rw[<-hX]at Xi;obtain⟨YQ,hid',Y',g1,g2,g3,g4⟩:=hs.sat.renew (row:=some b)
       (w':=w.setRow b (cur.toList.take (len*i.size)++news++cur.toList.drop (len*i.size+news.length)).toArray)
       ⟨rfl,rfl,rfl,by simp,λk hk hkk=>setRow_other w b k _ (λe=>hkk (by rw[e]))⟩ (some id) (.inr ⟨id,ob,i.size,cap,b,rfl,Xz,P',rfl⟩) b i.size cap _ e (ob.rows.take len++src)
       (xs.take (len*i.size)++news) (.inl rfl) (setRow_heap w b cur _ e _ e1) e3
       (by simp only[List.size_toArray,iz,gO,oG,Array.length_toList];omega) (by rw[iz,XU];exact hcap) e6
       (by intro r hr;rcases dD.1 hr with hr|hr;exact hb1 r hr;exact n1 r hr) (by rw[ic];exact XW.append n2)
       (by intro u hu;rcases dD.1 hu with hu|hu;exact hb3 u hu;exact n3 u hu)
       (by intro j u hu
           have hj:=(jn.1 hu).1;have htake:cur.toList.take (len*i.size)=xs.take (len*i.size):=by
            apply List.ext_getElem?;intro k;by_cases hk:k<len*i.size
            .have hkx:k<(xs.take (len*i.size)).length:=by omega
             rw[ZF hkx,List.getElem?_take_of_lt hk];exact hpre k _ (ZF hkx)
            .rw[oE (by simp;omega),oE (by omega)]
           rw[<-Array.getElem?_toList];simp only[];rw[htake,Cv (by simpa using hj)];exact hu)
      rw[XU];refine⟨YQ,hid',_,_,Y',hexec _ _ Xi,hs.step g3 g2 g4 (by simp) ?_⟩;simp only[E',g1];exact⟨0,c,rfl,hroom,by omega,.inl (by omega),by omega⟩
     .refine hnew (some id) (some ⟨b,0,none⟩) c (xs.take (len*i.size)) (by rw[XU];omega) (by rw[XU];exact hX) ?_ (by rw[XU];exact holen) hb1 XW hb3;rw[XU];refine run_firstCells_some (P:=P) w.drew i.size len ⟨b,0,none⟩ len c _ holen (λj u hu=>?_);rw[fZ,iV,World.cell?_drew,cell_of_row w b j cur e (0,0) e1];simpa using hpre j u hu
   .cases hd
  .cases hd
 .rename_i hxv;rw[hxv]at hx;simp only[aI,Prod.mk.injEq]at hd;obtain⟨rfl,rfl⟩:=hd;simp only[E']at hx;exact hnil hx rfl
 .cases hd
def xE{F:Fr}{st:St}{a:Act}(hs:cQ F I st a w){o:Oper}{t tn e:TypeId}{kn:IntKind}{x y:Operand}{args:Array Operand}{argTypes:Array TypeId}
 (hoo:o.op=.call { callee:=.builtin .append,args:=args,argTypes:=argTypes })(XA:args=#[x,y])(hty:argTypes=#[t,tn])(ht:P.underlying t=some (.slice e))(htn:P.underlying tn=some (.int kn))
 {i:TypeInfo}{z:Value}(hz:zeroOf P e=some (i,z))(hx:(cx F.n x).ev st.s=.ay){kq:IntKind}{m:Int}(hm:(cx F.n y).ev st.s=.int kq m)(h0:0<m)
 (hb:m.toNat*(i.bytes+1)<=140737488355328):
 ∃id,st.U id=none/\∃r w' Y',(execOp a.eval o).run P w=.ok (.value r) w'/\
  cQ F Y' ⟨aQ st.s (o.dst.filter (·<F.n)) (.own id 0 m.toNat),C' st.U id ⟨e,i.size,List.replicate m.toNat (ofValue z)⟩⟩ (a.put o.dst r) w':=by
 obtain⟨hi,hz0,hk,hzs,Yo,hszc⟩:=eH hz;have Ye:0<i.size:=by rw[hszc];exact(dz hk).2.2
 have XH:=gS Yo;obtain⟨k,rfl⟩:∃k:Nat,m=k:=⟨m.toNat,by omega⟩
 simp only[fc]at hb|-;have hkb:k*i.bytes<=140737488355328:=jx (Nat.mul_le_mul_left _ (by omega)) hb;have Zv:k<=140737488355328:=jx (Nat.le_mul_of_pos_right _ (by omega)) hb;have hX:a.eval x=.slice none 0 0:=by
  have:=bU hs x;rw[hx]at this;simpa[E']using this
 have hY:a.eval y=.int kq k:=by
  have:=bU hs y;rw[hm]at this;simpa[E']using this
 have Xi:=Lib.run_append_grow_zeros (P:=P) w t tn o.type e i z kq kn ht htn hi hz0 none 0 0 [] (run_firstCells_none w.drew i.size 0 0 0) k (by omega) Ye (by omega) (by omega) (by omega)
  (growslice_fits (by omega) (by rw[iV];exact hkb))
 rw[<-hX,<-hY,iV]at Xi;have hge:=grownCap_ge w k 0 e;have hle:=grownCap_le_maxLen w k 0 e (by simp only[maxLen];omega);have hl:=kz z.cells k;have Zn:∀n,ar I (az I st.U) w (flat (List.replicate n (ofValue z))) (List.replicate n z.cells.toList).flatten:=by
  intro n
  induction n with
  |zero=>simp[flat,ar]
  |succ n ih=>
   simp only[List.replicate_succ,flat,AA,List.flatten_cons]at ih|-;refine ar.append ?_ ih;rw[XH];exact fg _
 obtain⟨id,P',Y',g1,g2,g3,g4⟩:=hs.sat.renew (row:=none)
  (w':=w.drew.alloc (.cells (([]:List Value).toArray++Builtin.zeroCells z.cells k++Builtin.zeroCells z.cells (grownCap w k 0 e-k)) e))
  ⟨rfl,rfl,rfl,by simp,λk hk _=>heap_alloc_old w.drew _ k hk⟩ none (.inl rfl) w.heap.size i.size (grownCap w k 0 e) _ e (List.replicate k (ofValue z)) (Builtin.zeroCells z.cells k).toList
  (.inr (Xm _)) (heap_alloc_new w.drew _) Ye (by
    simp only[Array.size_append,List.size_toArray,size_zeroCells,hzs,List.length_nil,iV,<-Nat.add_mul];congr 1;omega) (by simpa using hge) hle
  (by
    intro r hr;rw[(List.mem_replicate.1 hr).2,XH];simp[hzs]) (by rw[hl];exact Zn k)
  (by
    rw[hl];intro u hu;simp only[List.mem_flatten,List.mem_replicate]at hu;obtain⟨l',⟨_,rfl⟩,hu⟩:=hu;exact Yo u hu)
  (by
    intro j u hu;have hj:=(jn.1 hu).1;rw[<-Array.getElem?_toList];simp only[Array.toList_append,j6];rw[Cv hj];exact hu)
 refine⟨id,P',.slice (some ⟨w.heap.size,0,none⟩) k (grownCap w k 0 e),_,Y',?_,hs.step g3 g2 g4 (by simp) ?_⟩
 .unfold execOp;rw[hoo];subst XA hty;simp[resolve,invoke,Go.builtin,Xi]
 .simp only[E',g1];exact⟨0,_,rfl,hge,by omega,.inl (by omega),by omega⟩
end Go.Vc
