import Derived.Calls
import Derived.Below
import Derived.Laws.AppendOwn
import Derived.Tactics
import Derived.ChangeKeysEq
import Derived.Orders
import Derived.Laws.MakeOwn
import Derived.Lib.AppendZerosOnto
import Derived.Lib.AppendStr
set_option linter.all false
set_option maxHeartbeats 8000000
namespace Go.Vc
def Oi{α:Type _}(a b:α):(some a=some b)=(a=b):=Option.some.injEq a b
def Ba(a b:Bool):((a&&b)=true)=(a=true/\b=true):=Bool.and_eq_true a b
def Vn:=@List.take_succ_eq_append_getElem
def SU:=@List.getElem_mem
def SD:=@Nat.le_refl
def TE:=@decide_eq_false
def Tv:=@decide_eq_true
def Uf:=@List.length_cons
def V7:=@List.getElem?_eq_getElem
def VJ:=@Array.getD_eq_getD_getElem?
def Zq8:=@Option.map_eq_some_iff
def US:=@decide_eq_true_eq
def jt:=@List.drop_eq_getElem_cons
def dO:=@List.length_map
def rz:=@List.getElem?_eq_some_iff
def jb:=@Bool.false_eq_true
def ew:=@List.mem_cons
def gM:=@Int.toNat_natCast
def gl:=@List.mem_append
def gj:=@List.all_eq_true
def ga:=@List.map_cons
def qq:=@List.take_of_length_le
def kL:=@List.length_append
def ny:=@Array.getElem?_eq_some_iff
def iC:=@List.take_length
def mf:=@List.length_take
def fw:=@List.map_append
def yd:=@List.getD_eq_getElem?_getD
def td:=@List.eq_nil_of_length_eq_zero
def yD:=@List.all_cons
def mY:=@List.append_assoc
def jW:=@List.foldl_cons
def kQ:=@Nat.zero_add
def lS:=@List.nil_append
def kI:=@Bool.or_eq_true
def DX:=@List.take_succ_cons
def tm:=@List.getElem?_eq_none
def kr:=@List.append_nil
def aI:=@if_pos
def aK:=@if_neg
def Iu:=@List.getElem?_append_left
def KQ:=@List.getElem?_append_right
def tg:=@List.getElem?_map
def D5:=@List.length_drop
def kc:=@List.mem_singleton
def Bb:=@List.take_append_drop
def uY:=@List.drop_length
def nj:=@List.foldl_append
def Kw:=@List.take_add_one
def ym:=@List.mem_of_mem_take
def K9:=@List.getElem?_drop
def Gg:=@List.drop_zero
def iE:=@List.mem_map
def E4:=@List.mem_reverse
def EU:=@List.getElem?_cons_zero
def GM:=@List.getElem?_cons_succ
def HA:=@List.drop_eq_nil_of_le
def F0:=@List.mem_of_getElem?
def Bi:=@List.length_pos_iff
def mN:=@Nat.le_trans
def B9:=@Nat.add_comm
def KL:=@List.any_eq_true
def KB:=@List.getElem?_append
def yb:=@List.flatMap_cons
def xR:=@List.mem_filter
def M3:=@List.take_append_of_le_length
def zS:=@List.drop_append_of_le_length
def II:=@List.getElem?_of_mem
def bh:=@Oi
def RX{p:Prop}(h:p:=by omega):p=True:=eq_true h
def H'{p:Prop}(h:¬p:=by omega):p=False:=eq_false h
def sX:List (List Nat)->List (Nat×List Nat)->List (List Nat)
 |d,[]=>d
 |d,(i,r)::t=>sX (d.set i r) t
def qT{a b:Nat}(h:a<b):((a:Int)<(b:Int))=True:=RX
def qF{a b:Nat}(h:¬a<b):((a:Int)<(b:Int))=False:=H'
inductive V where
 |undef
 |int (k:IntKind) (n:Int)
 |bool (b:Bool)
 |str (s:List UInt8)
 |bl
 |sl (sz:Nat) (rows:List V)
 |own (id off len:Nat)
 |ptr (id i k:Nat)
 |rp (v:V)
 |V'
 |fn (f:FuncId) (caps:List V)
 |bm (f:FuncId) (first:List V)
 |TG
 |iface (t:TypeId) (v:V)
 |Tw
 |agg (cells:List V)
 |Sa (vs:List V)
 |raw (v:Value)
 |obj (o:Obj)
 |gp (id:Nat)
 |yl (id:Nat)
 |mp (id:Nat)
 deriving Inhabited
inductive Pl where
 |dY
 |nil
 |SZ (b sz cap:Nat)
abbrev Mu:=Nat->Pl
structure Ob where
 elem:TypeId
 sz:Nat
 rows:List V
abbrev al:=Nat->Option Ob
def V.cells:V->List V
 |.agg vs=>vs
 |v=>[v]
mutual
def E'(I:Mu)(ow:Nat->Prop)(w:World):V->Value->Prop
 |.undef,_=>True
 |.int k n,x=>x=.int k n
 |.bool b,x=>x=.bool b
 |.str s,x=>x=.string ⟨s.toArray⟩
 |.bl,x=>x=.slice none 0 0
 |.sl sz rows,x=>∃a cap,x=.slice a rows.length cap/\rows.length<=cap/\
   (rows=[]\/∃b off,a=some ⟨b,off,none⟩/\¬ow b/\0<sz/\bc I ow w rows b off sz)
 |.own id off len,x=>match I id with
   |.dY=>False
   |.nil=>x=.slice none 0 0/\off=0/\len=0
   |.SZ b sz cap=>∃o c,x=.slice (some ⟨b,o,none⟩) len c/\len<=c/\off+c<=cap/\(o=off*sz\/c=0/\off≠0)/\0<sz
 |.ptr id i k,x=>match I id with
   |.SZ b sz _=>x=.pointer (some ⟨b,i*sz+k,none⟩)/\0<sz
   |_=>False
 |.rp v,x=>∃b off,x=.pointer (some ⟨b,off,none⟩)/\b<w.heap.size/\(v.cells=[]\/¬ow b)/\bz I ow w v b off
 |.V',x=>x=.pointer none
 |.fn f caps,x=>∃R6,x=.func (.func f) #[] ⟨R6⟩/\aB I ow w caps R6
 |.bm f first,x=>∃R6,x=.func (.func f) ⟨R6⟩ #[]/\aB I ow w first R6
 |.TG,x=>x=.nilFunc
 |.iface t v,x=>∃y,x=.iface t y/\E' I ow w v y
 |.Tw,x=>x=.nilIface
 |.agg vs,x=>∃R6,x=.agg ⟨R6⟩/\aB I ow w vs R6/\∀u∈R6,u.oneCell'=true
 |.Sa vs,x=>∃R6,x=.tuple ⟨R6⟩/\aB I ow w vs R6
 |.raw v,x=>x=v
 |.obj _,_=>False
 |.gp id,x=>match I id with
   |.SZ b 0 _=>x=.pointer (some ⟨b,0,none⟩)
   |_=>False
 |.yl id,x=>match I id with
   |.SZ b 0 _=>x=.func (.yield b) #[] #[]
   |_=>False
 |.mp id,x=>match I id with
   |.SZ b 0 _=>x=.map (some b)
   |_=>False
/-- one by one -/
def aB(I:Mu)(ow:Nat->Prop)(w:World):List V->List Value->Prop
 |[],l=>l=[]
 |v::vs,l=>∃x xs,l=x::xs/\E' I ow w v x/\aB I ow w vs xs
/-- cells,one behind the other -/
def aW(I:Mu)(ow:Nat->Prop)(w:World):List V->Nat->Nat->Prop
 |[],_,_=>True
 |v::vs,b,off=>(∃x,w.cell? ⟨b,off,none⟩=some x/\E' I ow w v x/\x.oneCell'=true)/\aW I ow w vs b (off+1)
/-- an element -/
def bz(I:Mu)(ow:Nat->Prop)(w:World):V->Nat->Nat->Prop
 |.agg vs,b,off=>aW I ow w vs b off
 |v,b,off=>∃x,w.cell? ⟨b,off,none⟩=some x/\E' I ow w v x/\x.oneCell'=true
/-- elements,one behind the other -/
def bc(I:Mu)(ow:Nat->Prop)(w:World):List V->Nat->Nat->Nat->Prop
 |[],_,_,_=>True
 |r::rs,b,off,sz=>r.cells.length=sz/\bz I ow w r b off/\bc I ow w rs b (off+sz) sz
end
def ei(I:Mu)(ow:Nat->Prop)(w:World)(v:V)(b off:Nat):bz I ow w v b off↔aW I ow w v.cells b off:=by
 cases v<;>simp[bz,aW,V.cells]
def dG(I Y':Mu):Prop:=∀id,I id≠.dY->Y' id=I id
def dG.refl(I:Mu):dG I I:=λ_ _=>rfl
def dG.trans{I Y' Y'':Mu}(h:dG I Y')(h':dG Y' Y''):dG I Y'':=λid L'=>by
 have e:=h id L';rw[h' id (by rw[e];exact L'),e]
def dB(ow T1:Nat->Prop)(w w':World):Prop:=∀b,b<w.heap.size->¬ow b->¬T1 b/\w'.heap[b]?=w.heap[b]?
def rA(ow T1:Nat->Prop)(w w':World):Prop:=∀b,(∃off x,w.cell? ⟨b,off,none⟩=some x)->¬ow b->¬T1 b/\∀(off:Nat) (x:Value),w.cell? ⟨b,off,none⟩=some x->w'.cell? ⟨b,off,none⟩=some x
def fJ{w w':World}{b:Nat}(h:w'.heap[b]?=w.heap[b]?)(off:Nat)(x:Value)(hx:w.cell? ⟨b,off,none⟩=some x):w'.cell? ⟨b,off,none⟩=some x:=by
 rw[World.cell?_of_block (w:=w) (w':=w') (a:=⟨b,off,none⟩) h];exact hx
def dB.toC{ow T1:Nat->Prop}{w w':World}(h:dB ow T1 w w'):rA ow T1 w w':=λb ⟨off,x,hx⟩ hn=>by
 have hb:b<w.heap.size:=World.block_lt_of_cell? w _ hx;exact⟨(h b hb hn).1,fJ (h b hb hn).2⟩
section
variable {I Y':Mu} {ow T1:Nat->Prop} {w w':World} (hm:dG I Y') (hk:rA ow T1 w w') (hz:w.heap.size<=w'.heap.size)
include hm hk hz
mutual
def E'.bY:∀(v:V) (x:Value),E' I ow w v x->E' Y' T1 w' v x
 |.undef,_,_=>by simp[E']
 |.int k n,x,h=>by simpa[E']using h
 |.bool b,x,h=>by simpa[E']using h
 |.str s,x,h=>by simpa[E']using h
 |.bl,x,h=>by simpa[E']using h
 |.sl sz rows,x,h=>by
  simp only[E']at h|-;obtain⟨a,cap,hx,hl,hr⟩:=h;refine⟨a,cap,hx,hl,?_⟩;rcases hr with hr|⟨b,off,ha,hb,hs,hr⟩
  .exact .inl hr
  .cases rows with
   |nil=>exact .inl rfl
   |cons r rs=>
    have u':∃o y,w.cell? ⟨b,o,none⟩=some y:=by
     have h2:=hr;simp only[bc]at h2;obtain⟨h1,h2,_⟩:=h2;rw[ei]at h2;cases hc:r.cells with
     |nil=>rw[hc]at h1;simp at h1;omega
     |cons c cs=>
      rw[hc]at h2;simp only[aW]at h2;obtain⟨⟨y,hy,_⟩,_⟩:=h2;exact⟨_,y,hy⟩
    exact .inr ⟨b,off,ha,(hk b u' hb).1,hs,bc.bY (r::rs) b off sz (hk b u' hb).2 hr⟩
 |.own id off len,x,h=>by
  simp only[E']at h|-;cases L':I id with
  |dY=>rw[L']at h;exact h.elim
  |nil=>rw[hm id (by rw[L'];simp)];exact h
  |SZ b sz cap=>rw[hm id (by rw[L'];simp)];exact h
 |.ptr id i k,x,h=>by
  simp only[E']at h|-;cases L':I id with
  |dY=>rw[L']at h;exact h.elim
  |nil=>rw[L']at h;exact h.elim
  |SZ b sz cap=>rw[hm id (by rw[L'];simp)];exact h
 |.rp v,x,h=>by
  simp only[E']at h|-;obtain⟨b,off,hx,u',hb,hr⟩:=h;refine⟨b,off,hx,Nat.lt_of_lt_of_le u' hz,?_⟩;cases hc:v.cells with
  |nil=>
   refine⟨.inl rfl,?_⟩;rw[ei,hc];simp[aW]
  |cons c cs=>
   have h2:=hr;rw[ei,hc]at h2;simp only[aW]at h2;obtain⟨⟨y,hy,_⟩,_⟩:=h2;have TP:=hk b ⟨_,y,hy⟩ (hb.resolve_left (by rw[hc];simp));exact⟨.inr TP.1,bz.bY v b off TP.2 hr⟩
 |.V',x,h=>by simpa[E']using h
 |.fn f caps,x,h=>by
  simp only[E']at h|-;obtain⟨R6,hx,hr⟩:=h;exact⟨R6,hx,aB.bY caps R6 hr⟩
 |.bm f caps,x,h=>by
  simp only[E']at h|-;obtain⟨R6,hx,hr⟩:=h;exact⟨R6,hx,aB.bY caps R6 hr⟩
 |.TG,x,h=>by simpa[E']using h
 |.iface t v,x,h=>by
  simp only[E']at h|-;obtain⟨y,hx,hr⟩:=h;exact⟨y,hx,E'.bY v y hr⟩
 |.Tw,x,h=>by simpa[E']using h
 |.agg vs,x,h=>by
  simp only[E']at h|-;obtain⟨R6,hx,hr,h1⟩:=h;exact⟨R6,hx,aB.bY vs R6 hr,h1⟩
 |.Sa vs,x,h=>by
  simp only[E']at h|-;obtain⟨R6,hx,hr⟩:=h;exact⟨R6,hx,aB.bY vs R6 hr⟩
 |.raw v,x,h=>by simpa[E']using h
 |.obj o,x,h=>by simp[E']at h
 |.gp id,x,h=>by
  simp only[E']at h|-;cases L':I id with
  |dY=>rw[L']at h;exact h.elim
  |nil=>rw[L']at h;exact h.elim
  |SZ b sz cap=>rw[hm id (by rw[L'];simp)];exact h
 |.yl id,x,h=>by
  simp only[E']at h|-;cases L':I id with
  |dY=>rw[L']at h;exact h.elim
  |nil=>rw[L']at h;exact h.elim
  |SZ b sz cap=>rw[hm id (by rw[L'];simp)];exact h
 |.mp id,x,h=>by
  simp only[E']at h|-;cases L':I id with
  |dY=>rw[L']at h;exact h.elim
  |nil=>rw[L']at h;exact h.elim
  |SZ b sz cap=>rw[hm id (by rw[L'];simp)];exact h
def aB.bY:∀(vs:List V) (l:List Value),aB I ow w vs l->aB Y' T1 w' vs l
 |[],l,h=>by simpa[aB]using h
 |v::vs,l,h=>by
  simp only[aB]at h|-;obtain⟨x,xs,hx,h1,h2⟩:=h;exact⟨x,xs,hx,E'.bY v x h1,aB.bY vs xs h2⟩
def aW.bY:∀(vs:List V) (b off:Nat),(∀(off:Nat) (x:Value),w.cell? ⟨b,off,none⟩=some x->w'.cell? ⟨b,off,none⟩=some x)->aW I ow w vs b off->aW Y' T1 w' vs b off
 |[],_,_,_,_=>by simp[aW]
 |v::vs,b,off,hb,h=>by
  simp only[aW]at h|-;obtain⟨⟨x,hx,h1,h2⟩,h3⟩:=h;exact⟨⟨x,hb _ _ hx,E'.bY v x h1,h2⟩,aW.bY vs b (off+1) hb h3⟩
def bz.bY:∀(v:V) (b off:Nat),(∀(off:Nat) (x:Value),w.cell? ⟨b,off,none⟩=some x->w'.cell? ⟨b,off,none⟩=some x)->bz I ow w v b off->bz Y' T1 w' v b off
 |.agg vs,b,off,hb,h=>by
  simp only[bz]at h|-;exact aW.bY vs b off hb h
 |.undef,b,off,hb,h=>by simp only[bz]at h|-;obtain⟨x,hx,h1,h2⟩:=h;exact⟨x,hb _ _ hx,E'.bY _ x h1,h2⟩
 |.int k n,b,off,hb,h=>by simp only[bz]at h|-;obtain⟨x,hx,h1,h2⟩:=h;exact⟨x,hb _ _ hx,E'.bY _ x h1,h2⟩
 |.bool t,b,off,hb,h=>by simp only[bz]at h|-;obtain⟨x,hx,h1,h2⟩:=h;exact⟨x,hb _ _ hx,E'.bY _ x h1,h2⟩
 |.str s,b,off,hb,h=>by simp only[bz]at h|-;obtain⟨x,hx,h1,h2⟩:=h;exact⟨x,hb _ _ hx,E'.bY _ x h1,h2⟩
 |.bl,b,off,hb,h=>by simp only[bz]at h|-;obtain⟨x,hx,h1,h2⟩:=h;exact⟨x,hb _ _ hx,E'.bY _ x h1,h2⟩
 |.sl sz rows,b,off,hb,h=>by simp only[bz]at h|-;obtain⟨x,hx,h1,h2⟩:=h;exact⟨x,hb _ _ hx,E'.bY _ x h1,h2⟩
 |.own id o len,b,off,hb,h=>by simp only[bz]at h|-;obtain⟨x,hx,h1,h2⟩:=h;exact⟨x,hb _ _ hx,E'.bY _ x h1,h2⟩
 |.ptr id i k,b,off,hb,h=>by simp only[bz]at h|-;obtain⟨x,hx,h1,h2⟩:=h;exact⟨x,hb _ _ hx,E'.bY _ x h1,h2⟩
 |.rp v,b,off,hb,h=>by simp only[bz]at h|-;obtain⟨x,hx,h1,h2⟩:=h;exact⟨x,hb _ _ hx,E'.bY _ x h1,h2⟩
 |.V',b,off,hb,h=>by simp only[bz]at h|-;obtain⟨x,hx,h1,h2⟩:=h;exact⟨x,hb _ _ hx,E'.bY _ x h1,h2⟩
 |.fn f caps,b,off,hb,h=>by simp only[bz]at h|-;obtain⟨x,hx,h1,h2⟩:=h;exact⟨x,hb _ _ hx,E'.bY _ x h1,h2⟩
 |.bm f caps,b,off,hb,h=>by simp only[bz]at h|-;obtain⟨x,hx,h1,h2⟩:=h;exact⟨x,hb _ _ hx,E'.bY _ x h1,h2⟩
 |.TG,b,off,hb,h=>by simp only[bz]at h|-;obtain⟨x,hx,h1,h2⟩:=h;exact⟨x,hb _ _ hx,E'.bY _ x h1,h2⟩
 |.iface t v,b,off,hb,h=>by simp only[bz]at h|-;obtain⟨x,hx,h1,h2⟩:=h;exact⟨x,hb _ _ hx,E'.bY _ x h1,h2⟩
 |.Tw,b,off,hb,h=>by simp only[bz]at h|-;obtain⟨x,hx,h1,h2⟩:=h;exact⟨x,hb _ _ hx,E'.bY _ x h1,h2⟩
 |.Sa vs,b,off,hb,h=>by simp only[bz]at h|-;obtain⟨x,hx,h1,h2⟩:=h;exact⟨x,hb _ _ hx,E'.bY _ x h1,h2⟩
 |.raw v,b,off,hb,h=>by simp only[bz]at h|-;obtain⟨x,hx,h1,h2⟩:=h;exact⟨x,hb _ _ hx,E'.bY _ x h1,h2⟩
 |.obj o',b,off,hb,h=>by simp only[bz]at h|-;obtain⟨x,hx,h1,h2⟩:=h;exact⟨x,hb _ _ hx,E'.bY _ x h1,h2⟩
 |.gp o',b,off,hb,h=>by simp only[bz]at h|-;obtain⟨x,hx,h1,h2⟩:=h;exact⟨x,hb _ _ hx,E'.bY _ x h1,h2⟩
 |.yl o',b,off,hb,h=>by simp only[bz]at h|-;obtain⟨x,hx,h1,h2⟩:=h;exact⟨x,hb _ _ hx,E'.bY _ x h1,h2⟩
 |.mp o',b,off,hb,h=>by simp only[bz]at h|-;obtain⟨x,hx,h1,h2⟩:=h;exact⟨x,hb _ _ hx,E'.bY _ x h1,h2⟩
def bc.bY:∀(rs:List V) (b off sz:Nat),(∀(off:Nat) (x:Value),w.cell? ⟨b,off,none⟩=some x->w'.cell? ⟨b,off,none⟩=some x)->bc I ow w rs b off sz->bc Y' T1 w' rs b off sz
 |[],_,_,_,_,_=>by simp[bc]
 |r::rs,b,off,sz,hb,h=>by
  simp only[bc]at h|-;exact⟨h.1,bz.bY r b off hb h.2.1,bc.bY rs b (off+sz) sz hb h.2.2⟩
end
end
section
variable {I Y':Mu} {ow T1:Nat->Prop} {w w':World} (hm:dG I Y') (hk:dB ow T1 w w') (hz:w.heap.size<=w'.heap.size)
include hm hk hz
def E'.mono(v:V)(x:Value):E' I ow w v x->E' Y' T1 w' v x:=E'.bY hm hk.toC hz v x
def aB.mono(vs:List V)(l:List Value):aB I ow w vs l->aB Y' T1 w' vs l:=aB.bY hm hk.toC hz vs l
def bz.mono(v:V)(b off:Nat)(hb:w'.heap[b]?=w.heap[b]?):bz I ow w v b off->bz Y' T1 w' v b off:=bz.bY hm hk.toC hz v b off (fJ hb)
def bc.mono(rs:List V)(b off sz:Nat)(hb:w'.heap[b]?=w.heap[b]?):bc I ow w rs b off sz->bc Y' T1 w' rs b off sz:=bc.bY hm hk.toC hz rs b off sz (fJ hb)
end
def OQ(_:World):Prop:=True
def aO(I:Mu)(U:al)(b:Nat):Prop:=∃id o sz cap,U id=some o/\I id=.SZ b sz cap
def tmpsOf:Obj->List Value
 |.loop r=>r.tmps.toList
 |.map es _=>es.toList.map (·.val)
 |.mapIter (some b) _ _ _=>[.map (some b)]
 |_=>[]
def nb(I:Mu)(ow:Nat->Prop)(w:World)(o:Ob):Pl->Prop
 |.dY=>False
 |.nil=>o.rows=[]
 |.SZ b sz cap=>(∃cur,w.heap[b]?=some (.cells cur o.elem (0,0))/\o.sz=sz/\0<sz/\cur.size=cap*sz/\o.rows.length<=cap/\cap<=maxLen/\
   bc I ow w o.rows b 0 sz)\/(sz=0/\o.sz=0/\∃(ob:Obj) (env:List V),o.rows=.obj ob::env/\w.heap[b]?=some ob/\aB I ow w env (tmpsOf ob))
def Oc(w:World)(ow:Nat->Prop):Prop:=∃b:World,OQ b/\b.heap.size<=w.heap.size/\∀i,i<b.heap.size->¬ow i/\w.heap[i]?=b.heap[i]?
structure Sat(w0:World)(Tg:Nat->Prop)(I:Mu)(U:al)(w:World):Prop where
 size:w0.heap.size<=w.heap.size
 os:w.os=w0.os
 tape:w.tape=w0.tape
 output:w.output=w0.output
 same:∀b,b<w0.heap.size->¬Tg b->w.heap[b]?=w0.heap[b]?
 fin:∃N,∀id,N<=id->I id=.dY
 inj:∀id UA o o' b sz cap UP Tz,U id=some o->U UA=some o'->I id=.SZ b sz cap->I UA=.SZ b UP Tz->id=UA
 obj:∀id o,U id=some o->nb I (aO I U) w o (I id)
 fresh:∀b,aO I U b->b<w0.heap.size->Tg b
 Va:Oc w0 Tg
def Sat.ns{w0 w:World}{Tg:Nat->Prop}{I:Mu}{U:al}(h:Sat w0 Tg I U w):Oc w (aO I U):=by
 obtain⟨b,h1,h2,h3⟩:=h.Va;refine⟨b,h1,mN h2 h.size,λi hi=>?_⟩;obtain⟨h4,h5⟩:=h3 i hi;exact⟨λho=>h4 (h.fresh i ho (Nat.lt_of_lt_of_le hi h2)),(h.same i (Nat.lt_of_lt_of_le hi h2) h4).trans h5⟩
def aa(Z' U:al):Prop:=∀id o,Z' id=some o->U id=some o
def aa.refl(U:al):aa U U:=λ_ _ h=>h
def aa.trans{a b c:al}(h:aa a b)(h':aa b c):aa a c:=λid o e=>h' id o (h id o e)
def C'(U:al)(id:Nat)(o:Ob):al:=λi=>if i=id then some o else U i
def del(U:al)(id:Nat):al:=λi=>if i=id then none else U i
def aa.HT{Z' U:al}{id:Nat}{o:Ob}(h:aa Z' U)(L':Z' id=none):aa Z' (C' U id o):=λi u e=>by
 have Sh:i≠id:=λe'=>by rw[e',L']at e;cases e
 simp[C',Sh,h i u e]
def aa.x7(U:al)(id:Nat):aa (del U id) U:=λi o e=>by
 unfold del at e;split at e
 .cases e
 .exact e
def aO.sub{I:Mu}{U Z':al}(h:aa Z' U){b:Nat}(hb:aO I Z' b):aO I U b:=by
 obtain⟨id,o,sz,cap,h1,h2⟩:=hb;exact⟨id,o,sz,cap,h id o h1,h2⟩
def dB.sub{I:Mu}{U Z':al}(w:World)(h:aa Z' U):dB (aO I U) (aO I Z') w w:=
 λ_ _ hn=>⟨λhb=>hn (hb.sub h),rfl⟩
def nb.bY{I Y':Mu}{ow T1:Nat->Prop}{w w':World}(hm:dG I Y')(hk:rA ow T1 w w')(hz:w.heap.size<=w'.heap.size){o:Ob}{p:Pl}
 (hb:∀b sz cap,p=.SZ b sz cap->w'.heap[b]?=w.heap[b]?)(h:nb I ow w o p):nb Y' T1 w' o p:=by
 cases p with
 |dY=>exact h
 |nil=>exact h
 |SZ b sz cap=>
  have e:=hb b sz cap rfl;rcases h with⟨cur,h1,h2,h3,h4,h5,h6,h7⟩|⟨h1,h2,ob,env,h3,h4,h5⟩
  .exact .inl ⟨cur,e.trans h1,h2,h3,h4,h5,h6,bc.bY hm hk hz _ _ _ _ (fJ e) h7⟩
  .exact .inr ⟨h1,h2,ob,env,h3,e.trans h4,aB.bY hm hk hz _ _ h5⟩
def nb.mono{I Y':Mu}{ow T1:Nat->Prop}{w w':World}(hm:dG I Y')(hk:dB ow T1 w w')(hz:w.heap.size<=w'.heap.size){o:Ob}{p:Pl}
 (hb:∀b sz cap,p=.SZ b sz cap->w'.heap[b]?=w.heap[b]?)(h:nb I ow w o p):nb Y' T1 w' o p:=h.bY hm hk.toC hz hb
def nb.plain{I:Mu}{ow:Nat->Prop}{w:World}{o:Ob}{b sz cap:Nat}(h:nb I ow w o (.SZ b sz cap))(hz:0<sz):∃cur,w.heap[b]?=some (.cells cur o.elem (0,0))/\o.sz=sz/\0<sz/\cur.size=cap*sz/\o.rows.length<=cap/\cap<=maxLen/\
 bc I ow w o.rows b 0 sz:=by
 rcases h with h|⟨h1,_⟩
 .exact h
 .omega
def nb.rows{I:Mu}{ow:Nat->Prop}{w:World}{o:Ob}{b sz cap:Nat}(h:nb I ow w o (.SZ b sz cap))(hz:0<sz):o.sz=sz/\0<sz/\o.rows.length<=cap/\cap<=maxLen/\bc I ow w o.rows b 0 sz:=by
 obtain⟨cur,h1,h2,h3,h4,h5,h6,h7⟩:=h.plain hz;exact⟨h2,h3,h5,h6,h7⟩
def Sat.drop{w0 w:World}{Tg:Nat->Prop}{I:Mu}{U Z':al}(h:Sat w0 Tg I U w)(hs:aa Z' U):Sat w0 Tg I Z' w where
 size:=h.size
 os:=h.os
 tape:=h.tape
 output:=h.output
 same:=h.same
 fin:=h.fin
 inj:=λid UA o o' b sz cap UP Tz h1 h2 h3 h4=>h.inj id UA o o' b sz cap UP Tz (hs _ _ h1) (hs _ _ h2) h3 h4
 obj:=λid o ho=>(h.obj id o (hs _ _ ho)).mono (dG.refl I) (dB.sub w hs) (SD _) (λ_ _ _ _=>rfl)
 fresh:=λb hb=>h.fresh b (hb.sub hs)
 Va:=h.Va
def aO.lt{w0 w:World}{Tg:Nat->Prop}{I:Mu}{U:al}(h:Sat w0 Tg I U w){b:Nat}(hb:aO I U b):b<w.heap.size:=by
 obtain⟨id,o,sz,cap,h1,h2⟩:=hb;have:=h.obj id o h1;rw[h2]at this;rcases this with⟨cur,h3,_⟩|⟨_,_,ob,_,_,h3,_⟩<;>exact(ny.1 h3).1
def Sat.put{w0 w w':World}{Tg:Nat->Prop}{I Y':Mu}{U Z':al}{row:Option Nat}(h:Sat w0 Tg I U w)(hg:w.grownBy w' row)
 (TH:∀b,row=some b->aO I U b)(hμ:dG I Y')(SO:∃N,∀id,N<=id->Y' id=.dY)(XO:Nat)(ob:Ob)
 (hZ':∀o,Z' XO=some o->o=ob)
 (hold:∀id o,id≠XO->Z' id=some o->U id=some o/\∀b sz cap,I id=.SZ b sz cap->some b≠row)
 (Wr:∀b sz cap,Y' XO=.SZ b sz cap->some b=row\/w.heap.size<=b)
 (TT:dB (aO I U) (aO Y' Z') w w'->nb Y' (aO Y' Z') w' ob (Y' XO)):
 Sat w0 Tg Y' Z' w'/\dB (aO I U) (aO Y' Z') w w':=by
 have TQ:∀id o,U id=some o->Y' id=I id:=λid o ho=>hμ id (λe=>by
  have:=h.obj id o ho;rw[e]at this;exact this)
 have howned:∀b,aO Y' Z' b->aO I U b\/w.heap.size<=b:=by
  rintro b ⟨id,o,sz,cap,h1,h2⟩;by_cases L':id=XO
  .subst L';rcases Wr b sz cap h2 with h3|h3
   .exact .inl (TH b h3.symm)
   .exact .inr h3
  .obtain⟨h3,_⟩:=hold id o L' h1;exact .inl ⟨id,o,sz,cap,h3,(TQ id o h3)▸h2⟩
 have hk:dB (aO I U) (aO Y' Z') w w':=λb hb hn=>⟨λho=>by
  rcases howned b ho with h1|h1
  .exact hn h1
  .omega,hg.block b hb (λe=>hn (TH b e.symm))⟩
 refine⟨⟨mN h.size hg.size,hg.os.trans h.os,hg.tape.trans h.tape,hg.output.trans h.output,?_,SO,?_,?_,?_,h.Va⟩,hk⟩
 .intro b hb hn;have h1:¬aO I U b:=λho=>hn (h.fresh b ho hb);rw[(hk b (Nat.lt_of_lt_of_le hb h.size) h1).2,h.same b hb hn]
 .intro id UA o o' b sz cap UP Tz h1 h2 h3 h4;by_cases e:id=XO
  .by_cases e':UA=XO
   .rw[e,e']
   .exfalso;obtain⟨h5,h6⟩:=hold UA o' e' h2;have h7:=(TQ UA o' h5)▸h4;subst e;rcases Wr b sz cap h3 with h8|h8
    .exact h6 b UP Tz h7 h8
    .have:=aO.lt h ⟨UA,o',UP,Tz,h5,h7⟩;omega
  .obtain⟨h5,h6⟩:=hold id o e h1;have h7:=(TQ id o h5)▸h3;by_cases e':UA=XO
   .exfalso;subst e';rcases Wr b UP Tz h4 with h8|h8
    .exact h6 b sz cap h7 h8
    .have:=aO.lt h ⟨id,o,sz,cap,h5,h7⟩;omega
   .obtain⟨h5',_⟩:=hold UA o' e' h2;exact h.inj id UA o o' b sz cap UP Tz h5 h5' h7 ((TQ UA o' h5')▸h4)
 .intro id o ho;by_cases e:id=XO
  .subst e;rw[hZ' o ho];exact TT hk
  .obtain⟨h5,h6⟩:=hold id o e ho;rw[TQ id o h5];refine(h.obj id o h5).mono hμ hk hg.size (λb sz cap hp=>hg.block b ?_ (h6 b sz cap hp));exact aO.lt h ⟨id,o,sz,cap,h5,hp⟩
 .intro b hb u';rcases howned b hb with h1|h1
  .exact h.fresh b h1 u'
  .have:=h.size;omega
structure Fr where
 w0:World
 Tg:Nat->Prop
 X0:Mu
 n:Nat
 rd:Option (Nat×Loop)
structure Jj(F:Fr)(ow:Nat->Prop)(ds:List Deferred)(w:World):Prop where
 rnd:∀l r,F.rd=some (l,r)->w.heap[l]?=some (.loop r)/\¬ow l
 marks:∃Ds:List Nat,ds=Ds.map (λD=>{ target:=.collected D,args:=#[] })/\Ds.Nodup/\∀D∈Ds,F.w0.heap.size<=D/\w.heap[D]?=some (.deferred (some []))/\¬ow D
def Jj.wj{F:Fr}{ow T1:Nat->Prop}{ds:List Deferred}{w w':World}(h:Jj F ow ds w)(hk:dB ow T1 w w'):Jj F T1 ds w' where
 rnd:=λl r e=>by
  obtain⟨h1,h2⟩:=h.rnd l r e;have h3:=hk l (ny.1 h1).1 h2;exact⟨h3.2.trans h1,h3.1⟩
 marks:=by
  obtain⟨Ds,h1,h2,h3⟩:=h.marks;refine⟨Ds,h1,h2,λD hD=>?_⟩;obtain⟨g1,g2,g3⟩:=h3 D hD;have h4:=hk D (ny.1 g2).1 g3;exact⟨g1,h4.2.trans g2,h4.1⟩
structure St where
 s:Nat->V
 U:al
structure dS(F:Fr)(I:Mu)(st:St)(a:Act)(w:World):Prop where
 sat:Sat F.w0 F.Tg I st.U w
 le:dG F.X0 I
 size:a.tmps.size=F.n
 book:Jj F (aO I st.U) a.defers w
 slot:∀i,i<F.n->E' I (aO I st.U) w (st.s i) (a.tmps.getD i undef)
def fB(F:Fr)(st:St)(a:Act)(w:World):Prop:=∃I,dS F I st a w
def sC(P:Program)(f:FuncId)(args:List V)(U:al)(Post:V->al->Prop):Prop:=
 ∀I w R6,Sat w (aO I U) I U w->aB I (aO I U) w args R6->Calls P f R6.toArray w λe w'=>
  ∃r Z' Y' val,e=.returned val/\Post r Z'/\dG I Y'/\Sat w (aO I U) Y' Z' w'/\E' Y' (aO Y' Z') w' r val
def sC.mono{P:Program}{f:FuncId}{args:List V}{U:al}{Post Ws:V->al->Prop}(h:sC P f args U Post)
 (hp:∀r Z',Post r Z'->Ws r Z'):sC P f args U Ws:=λI w R6 hs hr=>
 (h I w R6 hs hr).mono λ_ _ ⟨r,Z',Y',val,h1,h2,h3⟩=>⟨r,Z',Y',val,h1,hp _ _ h2,h3⟩
inductive VX where
 |t (n:Nat)
 |c (v:V)
def cellOf:Value->V
 |.int k n=>.int k n
 |.bool b=>.bool b
 |.string s=>.str s.data.toList
 |.slice a n c=>if a=none/\n=0/\c=0 then .bl else .raw (.slice a n c)
 |.pointer a=>if a=none then .V' else .raw (.pointer a)
 |.nilFunc=>.TG
 |.nilIface=>.Tw
 |v=>.raw v
def ofValue:Value->V
 |.agg cs=>if cs.toList.all (·.oneCell')then .agg (cs.toList.map cellOf)else .raw (.agg cs)
 |v=>cellOf v
inductive MOp where
 |mkI (t:TypeId)
 |mkB (f:FuncId)
 |nilP (neg:Bool)
 |alloc0
 |store0
 |cpy (sz:Nat)
 |tas (t:TypeId) (ok:Bool) (zero:V)
 |inv (tbl:List (TypeId×FuncId))
 |mkMap
 |oJ
 |lookM (ok:Bool) (zero:V)
 |delM
 |insS (kt:TypeId)
 |XP (kt:TypeId) (ok:Bool) (zero:V)
 |rngM
 |nxtM
 |entM
inductive SH where
 |more (m:MOp) (xs:List VX)
 |Wa (x:VX)
 |pick (c a b:VX)
 |bin (op:BinOp) (x y:VX)
 |not (x:VX)
 |neg (x:VX)
 |len (str:Bool) (x:VX)
 |fld (agg:Bool) (off sz:Nat) (x:VX)
 |fldA (agg:Bool) (off sz:Nat) (x:VX)
 |Ye (U5:Nat) (x i:VX)
 |idxAA (agg:Bool) (n U5:Nat) (x i:VX)
 |idxV (agg:Bool) (n U5:Nat) (x i:VX)
 |idxS (x i:VX)
 |load (agg:Bool) (sz:Nat) (x:VX)
 |slice (U5:Nat) (x:VX) (lo hi mx:Option VX)
 |Yf (x:VX) (lo hi:Option VX)
 |ext (i:Nat) (x:VX)
 |mkfn (f:FuncId) (caps:List VX)
 |convI (k:IntKind) (x:VX)
 |nilCheck (x:VX)
 |Vr (neg:Bool) (x y:VX)
 |eqS (neg:Bool) (ks:List Nat) (x y:VX)
 |Yg (max:Bool) (x y:VX)
 |ZV (x:VX)
 |box (elem sz:Nat) (x:VX)
 |clear (sz:Nat) (zero:V) (x:VX)
 |alloc (elem sz:Nat) (zero:V)
 |store (sz:Nat) (a x:VX)
 |iW (elem sz:Nat) (parts:List VX)
 |build (zero:List V) (parts:List (Nat×Nat×VX))
 |append (elem sz bytes:Nat) (a b:VX)
 |cap (x:VX)
 |mk (elem sz bytes:Nat) (zero:V) (n:VX)
 |Yh (elem sz bytes:Nat) (zero:V) (a n:VX)
 |call (f:VX) (args:List VX)
 |rngS (rune:Bool) (x:VX)
 |nxtS (x:VX)
 |bad
structure aU where
 dst:Option Nat
 op:SH
 g:Option (VX×Bool)
inductive bV where
 |skip
 |Wb (draw:Bool) (l:List aU)
 |seq (a b:bV)
 |cond (c:VX) (a b:bV)
 |block (id:Nat) (a:bV)
 |loop (a:bV)
 |exit (id:Nat)
 |ret
 |gX (g:VX) (ps:List Nat) (a b:bV)
 |WY (l:List aU) (Sv:List (List Nat))
 |xQ (l e:List aU)
 |bad
def bp:SH->Nat
 |.call ..=>1
 |.store ..=>2
 |.alloc ..|.box ..|.iW ..|.append ..|.mk ..|.Yh ..=>3
 |.clear ..|.rngS ..|.nxtS _|.bad=>4
 |.more (.mkI _) _|.more (.mkB _) _|.more (.tas ..) _|.more (.nilP _) _=>0
 |.more ..=>4
 |_=>0
def SH.xs:SH->List VX
 |.Wa x|.not x|.neg x|.len _ x|.fld _ _ _ x|.fldA _ _ _ x|.load _ _ x|.ext _ x|.convI _ x|.nilCheck x|.ZV x|.box _ _ x|.clear _ _ x|.cap x|.mk _ _ _ _ x|.rngS _ x|.nxtS x=>[x]
 |.bin _ x y|.Ye _ x y|.idxAA _ _ _ x y|.idxV _ _ _ x y|.idxS x y|.Vr _ x y|.eqS _ _ x y|.Yg _ x y|.store _ x y|.append _ _ _ x y|.Yh _ _ _ _ x y=>[x,y]
 |.pick x y z=>[x,y,z]
 |.slice _ x lo hi mx=>x::(lo.toList++hi.toList++mx.toList)
 |.Yf x lo hi=>x::(lo.toList++hi.toList)
 |.mkfn _ xs=>xs
 |.more _ xs=>xs
 |.iW _ _ xs=>xs
 |.build _ ps=>ps.map (·.2.2)
 |.call f xs=>f::xs
 |.alloc ..|.bad=>[]
def VX.IP:VX->Option Nat
 |.t d=>some d
 |.c _=>none
def aU.l3(i:aU):List Nat:=(i.op.xs++(i.g.map (·.1)).toList).filterMap VX.IP
def lp:SH->Bool
 |.load ..|.Ye ..|.slice ..|.ZV ..=>false
 |op=>bp op==0
def Cj(A B:aU):Bool:=
 (match A.dst with
  |some d=>!B.l3.contains d&&B.dst != some d
  |none=>true)&&
 (match B.dst with
  |some d=>!A.l3.contains d
  |none=>true)
def gC(i:aU):Bool:=decide (bp i.op<=1)
def tr(i:aU):Bool:=bp i.op==2||bp i.op==3
def mkI(i:aU):Bool:=match i.op with
 |.alloc ..|.box ..|.iW ..|.mk ..=>true
 |_=>false
def Dy(i:aU):Bool:=match i.op with
 |.alloc ..|.box ..|.iW ..|.append ..|.mk ..=>true
 |_=>false
def kZ(i:aU):Bool:=bp i.op==0
def jg(A B:aU):Bool:=Cj A B&&((gC A&&gC B)||(tr A&&lp B.op)||(lp A.op&&tr B)||(gC A&&mkI B)||(Dy A&&kZ B)||(Dy A&&mkI B))
def Lm(P:Program)(a b:TypeId):Bool:=match P.underlying a,P.underlying b with
 |some (.int _),some .string=>true
 |_,_=>false
section comp
variable (P:Program) (n:Nat)
def cx:Operand->VX
 |.tmp t=>if t<n then .t t else .c (.Sa [])
 |.const v=>.c (ofValue v)
 |.func f=>.c (.fn f [])
 |.global g=>.c (.raw (.pointer (some ⟨g,0,none⟩)))
def fX(t:TypeId):Bool:=match P.underlying t with
 |some (.struct _)|some (.array _ _)=>true
 |_=>false
def cg(t:TypeId):Bool:=(P.info? t).isSome&&(P.underlying t).isSome&&P.cellsOf t != 0
def zeroOf(e:TypeId):Option (TypeInfo×Value):=match P.info? e with
 |some i=>match i.zero with
  |some z=>if cg P e&&z.cells.size==i.size&&z.cells.toList.all (·.oneCell')then some (i,z)else none
  |none=>none
 |none=>none
def rV(t:TypeId):Bool:=match P.underlying t,P.info? t with
 |some (.struct fs),some i=>fs.size==0&&(i.size==0&&(match i.zero with
  |some (.agg z)=>z.size==0
  |_=>false))
 |_,_=>false
def u8T(t:TypeId):Bool:=match P.underlying t with
 |some (.int .u8)=>true
 |_=>false
def GB(t:TypeId):Bool:=match P.underlying t with
 |some (.int _)|some .bool|some .string=>true
 |_=>false
def qh(t:TypeId):Nat:=match P.underlying t with
 |some (.int _)=>0
 |some .bool=>1
 |some .string=>2
 |_=>3
def Hv(t:TypeId)(fs:Array Field):Bool:=
 (fs.toList.map (·.offset)==List.range fs.size)&&(fs.toList.all λf=>GB P f.type&&f.name != "_"&&cg P f.type)&&!P.stoodInHeld t&&!P.eqGuardType P.depth t
def Np:Value->Bool
 |.slice none _ _=>true
 |_=>false
def DB:Operand->Bool
 |.const v=>Np v
 |_=>false
def cU(op:BinOp)(x:VX)(y:Operand):SH:=if op=.eql/\DB y=true then .Vr false x (.c (.iface 0 .undef))else .bad
def xO(t:TypeId):Bool:=match P.underlying t with
 |some (.slice _)=>true
 |_=>false
def vH(t:TypeId):Bool:=match P.underlying t with
 |some (.interface _)=>true
 |_=>false
def NO:Operand->Bool
 |.const .nilIface=>true
 |_=>false
def Mb(t:TypeId):Bool:=match P.underlying t with
 |some (.func _ _ _)=>true
 |_=>false
def NC:Operand->Bool
 |.const .nilFunc=>true
 |_=>false
def Oh(t:TypeId):Bool:=match P.underlying t with
 |some (.pointer _)=>true
 |_=>false
def JM:Operand->Bool
 |.const (.pointer none)=>true
 |_=>false
def Gj(t:TypeId):Option TypeId:=match P.underlying t with
 |some (.map k e)=>match P.underlying k with
  |some (.int _)=>some e
  |_=>none
 |_=>none
def uC(t:TypeId):Option (TypeId×TypeId):=match P.underlying t with
 |some (.map k e)=>match P.underlying k with
  |some (.struct _)=>some (k,e)
  |_=>none
 |_=>none
def OV(name:String)(t:TypeId):Option FuncId:=match P.info? t with
 |some i=>match i.methods.find? (·.name==name)with
  |some m=>if m.path.isEmpty then match m.func,P.underlying t with
     |some (f,true),some (.pointer _)=>some f
     |some (_,false),some (.pointer _)=>none
     |some (f,false),some _=>some f
     |_,_=>none
   else none
  |none=>none
 |none=>none
def Ki(name:String):List (TypeId×FuncId):=(List.range P.types.size).filterMap λt=>(OV P name t).map λf=>(t,f)
def tI:Operand->Operand->Bool
 |.tmp a,.tmp b=>a==b
 |.const (.int k a),.const (.int k' b)=>decide (k=k'/\a=b)
 |_,_=>false
def SC:Op->SH
 |.move x|.assign x=>.Wa (cx n x)
 |.pick c a b=>.pick (cx n c) (cx n a) (cx n b)
 |.binOp op t x y _=>match P.underlying t with
   |some .bool=>match op with
    |.eql=>.Vr false (cx n x) (cx n y)
    |.neq=>.Vr true (cx n x) (cx n y)
    |_=>.bad
   |some (.struct fs)=>if Hv P t fs then match op with
    |.eql=>.eqS false (fs.toList.map λf=>qh P f.type) (cx n x) (cx n y)
    |.neq=>.eqS true (fs.toList.map λf=>qh P f.type) (cx n x) (cx n y)
    |_=>.bad
    else .bad
   |_=>if xO P t then cU op (cx n x) y else if vH P t then(if(op=.eql\/op=.neq)/\NO y=true then .Vr (op==.neq) (cx n x) (.c (.iface 1 .undef))else .bad)else if Mb P t then(if(op=.eql\/op=.neq)/\NC y=true then .Vr (op==.neq) (cx n x) (.c (.iface 2 .undef))else .bad)else if Oh P t&&JM y then(if op=.eql\/op=.neq then .more (.nilP (op==.neq)) [cx n x]else .bad)else .bin op (cx n x) (cx n y)
 |.nilCheck x=>.nilCheck (cx n x)
 |.box e x=>if cg P e then .box e (P.cellsOf e) (cx n x)else .bad
 |.unOp .not _ x=>.not (cx n x)
 |.unOp .neg _ x=>.neg (cx n x)
 |.field s x f=>match P.underlying s with
   |some (.struct fs)=>match fs[f]? with
    |some fd=>if cg P fd.type then .fld (fX P fd.type) fd.offset (P.cellsOf fd.type) (cx n x)else .bad
    |none=>.bad
   |_=>.bad
 |.fieldAddr s x f=>match P.underlying s with
   |some (.struct fs)=>match fs[f]? with
    |some fd=>if cg P fd.type then .fldA (fX P fd.type) fd.offset (P.cellsOf fd.type) (cx n x)else .bad
    |none=>.bad
   |_=>.bad
 |.indexAddr t x i=>match P.underlying t with
   |some (.slice e)=>if cg P e then .Ye (P.cellsOf e) (cx n x) (cx n i)else .bad
   |some (.array k e)=>if cg P e then .idxAA (fX P e) k (P.cellsOf e) (cx n x) (cx n i)else .bad
   |_=>.bad
 |.index t x i=>match P.underlying t with
   |some (.array k e)=>if cg P e then .idxV (fX P e) k (P.cellsOf e) (cx n x) (cx n i)else .bad
   |some .string=>.idxS (cx n x) (cx n i)
   |_=>.bad
 |.load t x=>if cg P t then .load (fX P t) (P.cellsOf t) (cx n x)else .bad
 |.slice t x lo hi mx=>match P.underlying t with
   |some (.slice e)=>if cg P e&&(mx.isNone||hi.isSome)then .slice (P.cellsOf e) (cx n x) (lo.map (cx n)) (hi.map (cx n)) (mx.map (cx n))else .bad
   |some .string=>if mx.isNone then .Yf (cx n x) (lo.map (cx n)) (hi.map (cx n))else .bad
   |_=>.bad
 |.extract x i=>.ext i (cx n x)
 |.makeFunc (.func f) first caps=>if first.size=0 then .mkfn f (caps.toList.map (cx n))else if caps.size=0 then .more (.mkB f) (first.toList.map (cx n))else .bad
 |.convert src dst x=>match P.underlying src,P.underlying dst with
   |some (.int _),some (.int k)=>.convI k (cx n x)
   |some (.slice e),some .string=>if u8T P e then .ZV (cx n x)else .bad
   |_,_=>if Lm P src dst then .rngS true (cx n x)else .bad
 |.alloc e=>match zeroOf P e with
   |some (i,z)=>.alloc e i.size (ofValue z)
   |none=>if rV P e then .more .alloc0 []else .bad
 |.store t a x=>if cg P t then .store (P.cellsOf t) (cx n a) (cx n x)else if rV P t then .more .store0 [cx n a,cx n x]else .bad
 |.buildSlice t len parts=>match P.underlying t with
   |some (.slice e)=>match zeroOf P e with
    |some (i,_)=>if parts.toList.map (·.1)=List.range len/\len*i.size<=16777216 then .iW e i.size (parts.toList.map λp=>cx n p.2)else .bad
    |none=>.bad
   |_=>.bad
 |.build t parts=>if rV P t&&parts.size==0 then .Wa (.c (.agg []))else match zeroOf P t,P.underlying t with
   |some (_,.agg z),some (.struct fs)=>
    if(fs.toList.all λf=>cg P f.type)&&(parts.toList.all λp=>decide (p.1<fs.size))then
     .build (z.toList.map cellOf) (parts.toList.map λp=>(((fs[p.1]?).map (·.offset)).getD 0,((fs[p.1]?).map λf=>P.cellsOf f.type).getD 0,cx n p.2))
    else .bad
   |some (_,.agg z),some (.array _ e)=>if cg P e then .build (z.toList.map cellOf) (parts.toList.map λp=>(p.1*P.cellsOf e,P.cellsOf e,cx n p.2))else .bad
   |_,_=>.bad
 |.call { callee:=.builtin .len,args,argTypes }=>match args.toList,argTypes[0]? with
   |[x],some t=>match P.underlying t with
    |some (.slice _)=>.len false (cx n x)
    |some .string=>.len true (cx n x)
    |_=>.bad
   |_,_=>.bad
 |.call { callee:=.builtin .append,args,argTypes }=>match args.toList,argTypes.toList with
   |[a,b],[t,t']=>if t=t' then match P.underlying t with
    |some (.slice e)=>match zeroOf P e with
     |some (i,_)=>.append e i.size i.bytes (cx n a) (cx n b)
     |none=>.bad
    |_=>.bad
    else match P.underlying t,P.underlying t' with
    |some (.slice e),some (.int _)=>match zeroOf P e with
     |some (i,z)=>.Yh e i.size i.bytes (ofValue z) (cx n a) (cx n b)
     |none=>.bad
    |some (.slice e),some .string=>match zeroOf P e with
     |some (i,_)=>.append e i.size i.bytes (cx n a) (cx n b)
     |none=>.bad
    |_,_=>.bad
   |_,_=>.bad
 |.makeSlice t l c=>match P.underlying t with
   |some (.slice e)=>match zeroOf P e with
    |some (i,z)=>if tI l c then .mk e i.size i.bytes (ofValue z) (cx n l)else .bad
    |none=>.bad
   |_=>.bad
 |.call { callee:=.builtin .cap,args,argTypes }=>match args.toList,argTypes[0]? with
   |[x],some t=>if xO P t then .cap (cx n x)else .bad
   |_,_=>.bad
 |.call { callee:=.builtin .min,args,.. }=>match args.toList with
   |[x,y]=>.Yg false (cx n x) (cx n y)
   |_=>.bad
 |.call { callee:=.builtin .max,args,.. }=>match args.toList with
   |[x,y]=>.Yg true (cx n x) (cx n y)
   |_=>.bad
 |.call { callee:=.builtin .clear,args,argTypes }=>match args.toList,argTypes[0]? with
   |[x],some t=>match P.underlying t with
    |some (.slice e)=>match zeroOf P e with
     |some (i,z)=>.clear i.size (ofValue z) (cx n x)
     |none=>.bad
    |_=>.bad
   |_,_=>.bad
 |.call { callee:=.builtin .copy,args,argTypes }=>match args.toList,argTypes[0]? with
   |[x,y],some t=>match P.underlying t with
    |some (.slice e)=>if cg P e then .more (.cpy (P.cellsOf e)) [cx n x,cx n y]else .bad
    |_=>.bad
   |_,_=>.bad
 |.call { callee:=.value f,args,.. }=>.call (cx n f) (args.toList.map (cx n))
 |.range t x=>match P.underlying t with
   |some .string=>.rngS false (cx n x)
   |_=>if(Gj P t).isSome then .more .rngM [cx n x]else .bad
 |.makeInterface t x=>if(P.underlying t).isSome&&!vH P t then .more (.mkI t) [cx n x]else .bad
 |.typeAssert x _ t ok=>if vH P t then .bad else match zeroOf P t with
   |some (_,z)=>.more (.tas t ok (ofValue z)) [cx n x]
   |none=>if rV P t then .more (.tas t ok (.agg [])) [cx n x]else .bad
 |.call { callee:=.invoke r name,args,.. }=>.more (.inv (Ki P name)) (cx n r::args.toList.map (cx n))
 |.makeMap t r=>if r.isNone&&((Gj P t).isSome||(uC P t).isSome)then .more .mkMap []else .bad
 |.insert t m k x|.mapUpdate t m k x=>if(Gj P t).isSome then .more .oJ [cx n m,cx n k,cx n x]else match uC P t with
   |some (kt,_)=>.more (.insS kt) [cx n m,cx n k,cx n x]
   |none=>.bad
 |.lookup t x i ok=>match Gj P t with
   |some e=>match zeroOf P e with
    |some (_,z)=>.more (.lookM ok (ofValue z)) [cx n x,cx n i]
    |none=>.bad
   |none=>match uC P t with
    |some (kt,e)=>match zeroOf P e with
     |some (_,z)=>.more (.XP kt ok (ofValue z)) [cx n x,cx n i]
     |none=>.bad
    |none=>.bad
 |.call { callee:=.builtin .delete,args,argTypes }=>match args.toList,argTypes[0]? with
   |[m,k],some t=>if(Gj P t).isSome then .more .delM [cx n m,cx n k]else .bad
   |_,_=>.bad
 |.next it b=>if b=true then .nxtS (cx n it)else .more .nxtM [cx n it]
 |.entry it=>.more .entM [cx n it]
 |_=>.bad
def bO(all:Array Oper)(o:Oper):aU where
 dst:=o.dst.filter (·<n)
 op:=SC P n o.op
 g:=o.guard.map λ(j,want)=>(match(all[j]?).bind (·.dst)with
  |some d=>if d<n then .t d else .c (.Sa [])
  |none=>.c (.Sa []),want)
def CF(ops:Array Oper)(k:Nat)(n':Array Bool):Bool:=match ops[k]? with
 |some ok=>(List.range ops.size).all λj=>j==k||n'.getD j true||(match ops[j]? with
    |some oj=>((Region.before ops).getD j 0).testBit k||jg (bO P n ops ok) (bO P n ops oj)
    |none=>true)
 |none=>false
def wy(ops:Array Oper):Nat->Nat->Array Bool->Bool
 |0,_,n'=>(Region.ready .any ops n').isEmpty
 |m+1,k,n'=>(Region.ready .any ops n').contains k&&CF P n ops k n'&&wy ops m (k+1) (n'.setIfInBounds k true)
def Jv(l:List aU):Bool:=l.any λi=>match i.op with
 |.append _ _ _ (.t d) _=>l.any λj=>j.dst==some d&&(match j.op with|.call ..=>true|_=>false)
 |_=>false
def Ac(l:List aU)(d:Nat):Option SH:=(l.find? λj=>j.dst==some d).map (·.op)
def yO:Option SH->Bool
 |some (.call ..)=>true
 |_=>false
def Ij(l:List aU):Bool:=l.any λi=>match i.op with
 |.append _ _ _ (.t d) (.t v)=>yO (Ac l v)&&(match Ac l d with
  |some (.append _ _ _ _ (.t w))=>yO (Ac l w)
  |_=>false)
 |.call (.t f) _=>match Ac l f with
  |some (.idxV _ _ _ (.t a) _)=>yO (Ac l a)
  |_=>false
 |_=>false
def KS(l:List aU):Bool:=(l.any λi=>match i.op with|.mkfn _ (_::_)=>true|_=>false)&&(l.any λi=>match i.op with|.call ..=>true|_=>false)&&l.any λi=>match i.op with|.store ..=>true|_=>false
def xp(l:List aU):Bool:=Jv l||Ij l||KS l||
 (l.any λi=>match i.op with|.call ..=>true|_=>false)&&(l.any λi=>match i.op with|.nilCheck _=>true|_=>false)&&l.any λi=>match i.op with|.store ..=>true|_=>false
def pH(ops:Array Oper):Bool:=P.follows .mixedOrders&&(!(xp (ops.toList.map (bO P n ops)))&&wy P n ops ops.size 0 (Array.replicate ops.size false))
def Gd(ops:Array Oper)(m:Nat):Nat->Nat->Array Bool->Bool
 |0,_,n'=>decide (Region.ready .any ops n'=[m])&&(Region.ready .any ops (n'.setIfInBounds m true)).isEmpty
 |f+1,k,n'=>((Region.ready .any ops n').contains k&&(decide (k≠m)&&((Region.before ops).getD m 0).testBit k))&&(CF P n ops k n'&&Gd ops m f (k+1) (n'.setIfInBounds k true))
def Jc:aU->Bool
 |⟨_,.call ..,_⟩=>true
 |_=>false
def xK(ops:Array Oper):Bool:=P.follows .mixedOrders&&(decide (0<ops.size)&&(((ops.toList.drop (ops.size-1)).map (bO P n ops)).any Jc&&(!(xp ((ops.toList.take (ops.size-1)).map (bO P n ops)))&&Gd P n ops (ops.size-1) (ops.size-1) 0 (Array.replicate ops.size false))))
def ep:Code->bV
 |.skip=>.skip
 |.region _ ops draw=>if draw&&xK P n ops then .xQ ((ops.toList.take (ops.size-1)).map (bO P n ops)) ((ops.toList.drop (ops.size-1)).map (bO P n ops))else if draw&&!(pH P n ops)then .WY (ops.toList.map (bO P n ops)) (ops.toList.map λo=>(o.after.toList.filter (Region.binds .any)).map (·.on))else .Wb draw (ops.toList.map (bO P n ops))
 |.seq a b=>.seq (ep a) (ep b)
 |.cond c a b=>.cond (cx n c) (ep a) (ep b)
 |.block id a=>.block id (ep a)
 |.loop a=>.loop (ep a)
 |.exit id=>.exit id
 |.ret=>.ret
 |.rangeFunc g ps a c=>.gX (cx n g) ps.toList (ep a) (ep c)
 |_=>.bad
end comp
def VX.ev(s:Nat->V):VX->V
 |.t n=>s n
 |.c v=>v
def Sn(k:IntKind)(n:Int):Prop:=k.wrap n=n
def dP(op:BinOp)(k:IntKind)(a b:Int):Option V:=
 match op with
 |.add=>some (.int k (a+b))
 |.sub=>some (.int k (a-b))
 |.mul=>some (.int k (a*b))
 |.quo=>if b=0 then none else some (.int k (a.tdiv b))
 |.rem=>if b=0 then none else some (.int k (a.tmod b))
 |.eql=>some (.bool (decide (a=b)))
 |.neq=>some (.bool (decide (a≠b)))
 |.lss=>some (.bool (decide (a<b)))
 |.leq=>some (.bool (decide (a<=b)))
 |.gtr=>some (.bool (decide (a>b)))
 |.geq=>some (.bool (decide (a>=b)))
 |.and=>some (.int k (k.wrap (BitVec.ofInt k.bits a &&& BitVec.ofInt k.bits b).toNat))
 |.or=>some (.int k (k.wrap (BitVec.ofInt k.bits a ||| BitVec.ofInt k.bits b).toNat))
 |.shl=>if b<0 then none else some (.int k (k.wrap (a*2^(min b.toNat k.bits))))
 |.shr=>if b<0 then none else some (.int k (a.fdiv (2^(min b.toNat k.bits))))
 |_=>none
def dR(op:BinOp)(k:IntKind)(a b:Int):Prop:=
 match op with
 |.add=>Sn k (a+b)
 |.sub=>Sn k (a-b)
 |.mul=>Sn k (a*b)
 |.quo=>Sn k (a.tdiv b)
 |_=>True
def dI(op:BinOp)(a b:List UInt8):Option V:=
 match op with
 |.add=>some (.str (a++b))
 |.eql=>some (.bool (decide (a=b)))
 |.neq=>some (.bool (decide (a≠b)))
 |_=>none
def dQ(op:BinOp)(a b:List UInt8):Prop:=
 match op with
 |.add=>a.length+b.length<=9223372036854775807
 |_=>True
def D0(op:BinOp):V->V->Option V
 |.int k a,.int k' b=>if k=k' then dP op k a b else none
 |.str a,.str b=>dI op a b
 |_,_=>none
def re(op:BinOp):V->V->Prop
 |.int k a,.int _ b=>dR op k a b
 |.str a,.str b=>dQ op a b
 |_,_=>True
def bu(agg:Bool)(off sz:Nat)(vs:List V):Option V:=
 if agg then some (.agg ((vs.drop off).take sz))else vs[off]?
def jH:V->Option V
 |.bl=>some (.int .i64 0)
 |_=>none
def eM:Bool->V->Option V
 |false,.own _ _ n=>some (.int .i64 n)
 |false,.sl _ rows=>some (.int .i64 rows.length)
 |false,.bl=>some (.int .i64 0)
 |true,.str s=>some (.int .i64 s.length)
 |_,_=>none
def jE(agg:Bool)(off sz:Nat):V->Option V
 |.agg vs=>bu agg off sz vs
 |_=>none
def gm(agg:Bool)(off sz:Nat):V->Option V
 |.ptr id i k=>some (.ptr id i (k+off))
 |.rp v=>(bu agg off sz v.cells).map .rp
 |_=>none
def bI(U:al)(U5:Nat):V->V->Option V
 |.own id off len,.int _ j=>match U id with
   |some ob=>if ob.sz=U5/\0<=j/\j<len then some (.ptr id (off+j.toNat) 0)else none
   |none=>none
 |.sl sz rows,.int _ j=>if sz=U5/\0<=j then match rows[j.toNat]? with
   |some r=>some (.rp r)
   |none=>none
   else none
 |_,_=>none
def dM(agg:Bool)(n U5:Nat):V->V->Option V
 |.ptr id i k,.int _ j=>if 0<=j/\j<n then some (.ptr id i (k+j.toNat*U5))else none
 |.rp v,.int _ j=>if 0<=j/\j<n then(bu agg (j.toNat*U5) U5 v.cells).map .rp else none
 |_,_=>none
def fO(agg:Bool)(n U5:Nat):V->V->Option V
 |.agg vs,.int _ j=>if 0<=j/\j<n then bu agg (j.toNat*U5) U5 vs else none
 |_,_=>none
def fL:V->V->Option V
 |.str s,.int _ j=>if 0<=j then match s[j.toNat]? with
   |some b=>some (.int .u8 b.toNat)
   |none=>none
   else none
 |_,_=>none
def dr(U:al)(agg:Bool)(sz:Nat):V->Option V
 |.ptr id i k=>match U id with
   |some ob=>match ob.rows[i]? with
    |some r=>if agg then(if k=0/\r.cells.length=sz then some (.agg r.cells)else if k+sz<=r.cells.length then some (.agg ((r.cells.drop k).take sz))else none)
       else r.cells[k]?
    |none=>none
   |none=>none
 |.rp v=>if agg then(if v.cells.length=sz then some (.agg v.cells)else none)else match v with
   |.agg _=>none
   |v=>some v
 |_=>none
def bQ(d:Int):Option V->Option Int
 |none=>some d
 |some (.int _ j)=>some j
 |_=>none
def iB(U:al)(id U5:Nat):Bool:=match U id with
 |some ob=>ob.sz==U5
 |none=>false
def cP(U:al)(U5:Nat)(x:V)(lo hi mx:Option V):Option V:=
 match x with
 |.own id off len=>match bQ 0 lo,bQ len hi,bQ len mx with
   |some l,some h,some m=>if 0<=l/\l<=h/\h<=m/\m<=len/\iB U id U5=true then some (.own id (off+l.toNat) (h.toNat-l.toNat))else none
   |_,_,_=>none
 |.sl sz rows=>match bQ 0 lo,bQ rows.length hi,bQ rows.length mx with
   |some l,some h,some m=>if 0<=l/\l<=h/\h<=m/\m<=rows.length/\sz=U5 then some (.sl sz ((rows.drop l.toNat).take (h.toNat-l.toNat)))else none
   |_,_,_=>none
 |.bl=>match bQ 0 lo,bQ 0 hi,bQ 0 mx with
   |some l,some h,some m=>if l=0/\h=0/\m=0 then some .bl else none
   |_,_,_=>none
 |_=>none
def cC(x:V)(lo hi:Option V):Option V:=
 match x with
 |.str s=>match bQ 0 lo,bQ s.length hi with
   |some l,some h=>if 0<=l/\l<=h/\h<=s.length then some (.str ((s.drop l.toNat).take (h.toNat-l.toNat)))else none
   |_,_=>none
 |_=>none
def bJ{α:Type}(l:List α)(off:Nat)(xs:List α):List α:=l.take off++xs++l.drop (off+xs.length)
def V.stays:V->Bool
 |.undef=>false
 |.Sa _=>false
 |.raw v=>v.oneCell'
 |_=>true
def cW(zero:List V):List (Nat×Nat×V)->Option (List V)
 |[]=>some zero
 |(off,sz,x)::r=>if x.cells.length=sz/\x.stays=true/\off+sz<=zero.length then cW (bJ zero off x.cells) r else none
def jD(i:Nat):V->Option V
 |.Sa vs=>vs[i]?
 |_=>none
def cN:V->V->Option Bool
 |.int k a,.int k' b=>if k=k' then some (decide (a=b))else none
 |.bool a,.bool b=>some (a==b)
 |.str a,.str b=>some (decide (a=b))
 |_,_=>none
def bS:List V->List V->Option Bool
 |[],[]=>some true
 |v::vs,u::us=>match cN v u,bS vs us with
   |some a,some b=>some (a&&b)
   |_,_=>none
 |_,_=>none
def dp:List Nat->List V->Bool
 |[],[]=>true
 |0::ks,.int _ _::vs=>dp ks vs
 |1::ks,.bool _::vs=>dp ks vs
 |2::ks,.str _::vs=>dp ks vs
 |_,_=>false
def ll(neg:Bool)(ks:List Nat):V->V->Option V
 |.agg vs,.agg us=>if dp ks vs=true/\us.length=vs.length then match bS vs us with
   |some b=>some (.bool (if neg then !b else b))
   |none=>none
   else none
 |_,_=>none
def binBV(neg:Bool):V->V->Option V
 |.bool a,.bool b=>some (.bool (if neg then !(a==b)else a==b))
 |_,_=>none
def cD(max:Bool):V->V->Option V
 |.int k a,.int k' b=>if k=k' then some (.int k (if max then(if b>a then b else a)else(if b<a then b else a)))else none
 |_,_=>none
def byteOf:V->Option UInt8
 |.int .u8 n=>some (UInt8.ofNat n.toNat)
 |_=>none
def bytesOf:List V->Option (List UInt8)
 |[]=>some []
 |v::vs=>match byteOf v,bytesOf vs with
   |some b,some l=>some (b::l)
   |_,_=>none
def dj(U:al):V->Option V
 |.bl=>some (.str [])
 |.own id off len=>match U id with
   |some ob=>if ob.sz=1/\off+len<=ob.rows.length then(bytesOf ((ob.rows.drop off).take len)).map .str else none
   |none=>none
 |_=>none
def bG:V->Option V
 |.ptr id i k=>some (.ptr id i k)
 |.rp v=>some (.rp v)
 |.fn f caps=>some (.fn f caps)
 |.iface t v=>some (.iface t v)
 |_=>none
def F9(neg:Bool):V->Option V
 |.V'=>some (.bool (!neg))
 |.ptr _ _ _=>some (.bool neg)
 |.rp _=>some (.bool neg)
 |_=>none
def L9(t:TypeId)(ok:Bool)(zero:V):V->Option V
 |.iface t' v=>if t'=t then some (if ok then .Sa [v,.bool true]else v)else(if ok then some (.Sa [zero,.bool false])else none)
 |.Tw=>if ok then some (.Sa [zero,.bool false])else none
 |_=>none
def aV(U:al)(s:Nat->V):SH->Option V
 |.Wa x=>some (x.ev s)
 |.pick c a b=>match c.ev s with
   |.bool t=>some (if t then a.ev s else b.ev s)
   |_=>none
 |.bin op x y=>D0 op (x.ev s) (y.ev s)
 |.not x=>match x.ev s with
   |.bool b=>some (.bool (!b))
   |_=>none
 |.neg x=>match x.ev s with
   |.int k a=>some (.int k (0-a))
   |_=>none
 |.len b x=>eM b (x.ev s)
 |.cap x=>jH (x.ev s)
 |.fld agg off sz x=>jE agg off sz (x.ev s)
 |.fldA agg off sz x=>gm agg off sz (x.ev s)
 |.Ye U5 x i=>bI U U5 (x.ev s) (i.ev s)
 |.idxAA agg n U5 x i=>dM agg n U5 (x.ev s) (i.ev s)
 |.idxV agg n U5 x i=>fO agg n U5 (x.ev s) (i.ev s)
 |.idxS x i=>fL (x.ev s) (i.ev s)
 |.load agg sz x=>dr U agg sz (x.ev s)
 |.slice U5 x lo hi mx=>cP U U5 (x.ev s) (lo.map (·.ev s)) (hi.map (·.ev s)) (mx.map (·.ev s))
 |.Yf x lo hi=>cC (x.ev s) (lo.map (·.ev s)) (hi.map (·.ev s))
 |.nilCheck x=>bG (x.ev s)
 |.Vr neg x y=>binBV neg (x.ev s) (y.ev s)
 |.eqS neg ks x y=>ll neg ks (x.ev s) (y.ev s)
 |.Yg m x y=>cD m (x.ev s) (y.ev s)
 |.ZV x=>dj U (x.ev s)
 |.ext i x=>jD i (x.ev s)
 |.build zero parts=>(cW zero (parts.map λp=>(p.1,p.2.1,p.2.2.ev s))).map .agg
 |.mkfn f caps=>some (.fn f (caps.map (·.ev s)))
 |.more (.mkI t) [x]=>some (.iface t (x.ev s))
 |.more (.mkB f) xs=>some (.bm f (xs.map (·.ev s)))
 |.more (.tas t ok z) [x]=>L9 t ok z (x.ev s)
 |.more (.nilP neg) [x]=>F9 neg (x.ev s)
 |.convI k x=>match x.ev s with
   |.int _ a=>some (.int k a)
   |_=>none
 |_=>none
def fW(s:Nat->V):SH->Prop
 |.bin op x y=>re op (x.ev s) (y.ev s)
 |.neg x=>match x.ev s with
   |.int k a=>Sn k (0-a)
   |_=>True
 |.convI k x=>match x.ev s with
   |.int _ a=>Sn k a
   |_=>True
 |_=>True
variable {P:Program} {I:Mu} {ow:Nat->Prop} {w:World}
def pN{α:Type}[DecidableEq α][BEq α][LawfulBEq α](a b:α):(a==b)=decide (a=b):=by by_cases h:a=b<;>simp[h]
def HD{α:Type}[DecidableEq α][BEq α][LawfulBEq α](a b:α):(a != b)=decide (a≠b):=by by_cases h:a=b<;>simp[h]
def gU(b off j:Nat):(⟨b,off,none⟩:Addr).add j=⟨b,off+j,none⟩:=by
 unfold Addr.add;split<;>simp_all
def aB.length:∀{vs:List V} {l:List Value},aB I ow w vs l->l.length=vs.length
 |[],l,h=>by simp[aB]at h;simp[h]
 |v::vs,l,h=>by
  simp only[aB]at h;obtain⟨x,xs,rfl,_,h2⟩:=h;simp[aB.length h2]
def aB.get:∀{vs:List V} {l:List Value} {i:Nat} {v:V},aB I ow w vs l->vs[i]?=some v->∃x,l[i]?=some x/\E' I ow w v x
 |[],l,i,v,_,h=>by simp at h
 |u::vs,l,i,v,h,hv=>by
  simp only[aB]at h;obtain⟨x,xs,rfl,h1,h2⟩:=h;cases i with
  |zero=>simp at hv;subst hv;exact⟨x,by simp,h1⟩
  |succ i=>simpa using aB.get h2 (by simpa using hv)
def aB.drop:∀{vs:List V} {l:List Value} (k:Nat),aB I ow w vs l->aB I ow w (vs.drop k) (l.drop k)
 |[],l,k,h=>by simp[aB]at h;subst h;simp[aB]
 |v::vs,l,0,h=>by simpa using h
 |v::vs,l,k+1,h=>by
  simp only[aB]at h;obtain⟨x,xs,rfl,h1,h2⟩:=h;simpa using aB.drop k h2
def aB.take:∀{vs:List V} {l:List Value} (k:Nat),aB I ow w vs l->aB I ow w (vs.take k) (l.take k)
 |[],l,k,h=>by simp[aB]at h;subst h;simp[aB]
 |v::vs,l,0,h=>by simp[aB]
 |v::vs,l,k+1,h=>by
  simp only[aB]at h;obtain⟨x,xs,rfl,h1,h2⟩:=h;simp only[DX,aB];exact⟨x,_,rfl,h1,aB.take k h2⟩
def aW.get:∀{vs:List V} {b off k:Nat} {v:V},aW I ow w vs b off->vs[k]?=some v->
 ∃x,w.cell? ⟨b,off+k,none⟩=some x/\E' I ow w v x/\x.oneCell'=true
 |[],_,_,_,_,_,h=>by simp at h
 |u::vs,b,off,k,v,h,hv=>by
  simp only[aW]at h;cases k with
  |zero=>simp at hv;subst hv;exact h.1
  |succ k=>
   have:=aW.get (k:=k) h.2 (by simpa using hv)
   rwa [show off+1+k=off+(k+1) by omega]at this
def aW.drop:∀{vs:List V} {b off:Nat} (k:Nat),aW I ow w vs b off->aW I ow w (vs.drop k) b (off+k)
 |[],_,_,_,_=>by simp[aW]
 |u::vs,b,off,0,h=>by simpa using h
 |u::vs,b,off,k+1,h=>by
  simp only[aW]at h;have:=aW.drop k h.2;rw[show off+1+k=off+(k+1) by omega]at this;simpa using this
def aW.take:∀{vs:List V} {b off:Nat} (k:Nat),aW I ow w vs b off->aW I ow w (vs.take k) b off
 |[],_,_,_,_=>by simp[aW]
 |u::vs,b,off,0,h=>by simp[aW]
 |u::vs,b,off,k+1,h=>by
  simp only[aW]at h;simp only[DX,aW];exact⟨h.1,aW.take k h.2⟩
def aW.CD:∀{vs:List V} {b off:Nat},aW I ow w vs b off->
 ∃xs,aB I ow w vs xs/\(∀u∈xs,u.oneCell'=true)/\∀(j:Nat) u,xs[j]?=some u->w.cell? ⟨b,off+j,none⟩=some u
 |[],_,_,_=>⟨[],by simp[aB],by simp,by simp⟩
 |v::vs,b,off,h=>by
  simp only[aW]at h;obtain⟨⟨x,h1,h2,h3⟩,h4⟩:=h;obtain⟨xs,h5,h6,h7⟩:=aW.CD h4;refine⟨x::xs,by simp only[aB];exact⟨x,xs,rfl,h2,h5⟩,by simpa using⟨h3,h6⟩,?_⟩;intro j u hu;cases j with
  |zero=>simp at hu;subst hu;exact h1
  |succ j=>
   have:=h7 j u (by simpa using hu)
   rwa [show off+1+j=off+(j+1) by omega]at this
def bc.get:∀{rows:List V} {b off sz i:Nat} {r:V},bc I ow w rows b off sz->rows[i]?=some r->
 r.cells.length=sz/\aW I ow w r.cells b (off+i*sz)
 |[],_,_,_,_,_,_,h=>by simp at h
 |u::rows,b,off,sz,i,r,h,hr=>by
  simp only[bc]at h;cases i with
  |zero=>simp at hr;subst hr;exact⟨h.1,by simpa using(ei ..).1 h.2.1⟩
  |succ i=>
   have:=bc.get (i:=i) h.2.2 (by simpa using hr)
   rwa [show off+sz+i*sz=off+(i+1)*sz by rw[Nat.add_mul];omega]at this
def bc.drop:∀{rows:List V} {b off sz:Nat} (k:Nat),bc I ow w rows b off sz->bc I ow w (rows.drop k) b (off+k*sz) sz
 |[],_,_,_,_,_=>by simp[bc]
 |u::rows,b,off,sz,0,h=>by simpa using h
 |u::rows,b,off,sz,k+1,h=>by
  simp only[bc]at h;have:=bc.drop k h.2.2;rw[show off+sz+k*sz=off+(k+1)*sz by rw[Nat.add_mul];omega]at this;simpa using this
def bc.take:∀{rows:List V} {b off sz:Nat} (k:Nat),bc I ow w rows b off sz->bc I ow w (rows.take k) b off sz
 |[],_,_,_,_,_=>by simp[bc]
 |u::rows,b,off,sz,0,h=>by simp[bc]
 |u::rows,b,off,sz,k+1,h=>by
  simp only[bc]at h;simp only[DX,bc];exact⟨h.1,h.2.1,bc.take k h.2.2⟩
def pk(v:Value):E' I ow w (cellOf v) v:=by
 cases v<;>simp only[cellOf]<;>(try split)<;>simp_all [E']
def gg:∀(l:List Value),aB I ow w (l.map cellOf) l
 |[]=>by simp[aB]
 |v::l=>by simp only[ga,aB];exact⟨v,l,rfl,pk v,gg l⟩
def nX(v:Value):E' I ow w (ofValue v) v:=by
 unfold ofValue;split
 .rename_i cs;split
  .rename_i h;simp only[E'];exact⟨cs.toList,by simp,gg _,λu hu=>gj.1 h u hu⟩
  .simp[E']
 .exact pk v
def qY{t:TypeId}(h:(P.underlying t).isSome):(isAgg t).run P w=.ok (fX P t) w:=by
 obtain⟨d,hd⟩:=Option.isSome_iff_exists.1 h;unfold isAgg fX;simp only[Sem.run_bind,run_underlying hd,Result.andThen_ok,hd];cases d<;>rfl
def eS{t:TypeId}(h:cg P t=true):(P.underlying t).isSome/\(∃i,P.info? t=some i/\i.size=P.cellsOf t)/\0<P.cellsOf t:=by
 simp only[cg,Ba,bne_iff_ne]at h;obtain⟨⟨h1,h2⟩,h3⟩:=h;obtain⟨i,hi⟩:=Option.isSome_iff_exists.1 h1;exact⟨h2,⟨i,hi,by simp[Program.cellsOf,hi]⟩,by omega⟩
def dn{t:TypeId}(h:cg P t=true):(sizeOf t).run P w=.ok (P.cellsOf t) w:=by
 obtain⟨_,⟨i,hi,_⟩,_⟩:=eS h;exact run_sizeOf w hi
def Aa{t:TypeId}(h:cg P t=true){R6:List Value}{vs:List V}{off:Nat}{v:V}(hr:aB I ow w vs R6)
 (h1:∀u∈R6,u.oneCell'=true)(hv:bu (fX P t) off (P.cellsOf t) vs=some v):
 ∃x,(part t ⟨R6⟩ off).run P w=.ok x w/\E' I ow w v x:=by
 unfold part;simp only[Sem.run_bind,qY (eS h).1,Result.andThen_ok];unfold bu at hv;cases U1:fX P t
 .simp only[U1,jb,if_false]at hv|-;obtain⟨x,hx,hrx⟩:=hr.get hv;have:(⟨R6⟩:Array Value)[off]?=some x:=by simpa using hx
  exact⟨x,by simp[this],hrx⟩
 .simp only[U1,if_true,bh]at hv|-;subst hv;refine⟨.agg ((⟨R6⟩:Array Value).extract off (off+P.cellsOf t)),by simp[dn h],?_⟩;simp only[E'];refine⟨(R6.drop off).take (P.cellsOf t),?_,(hr.drop off).take _,λu hu=>h1 u (List.mem_of_mem_drop (ym hu))⟩;have e:(⟨R6⟩:Array Value)=R6.toArray:=rfl;rw[e,List.extract_toArray];simp
def j2{t:TypeId}(h:cg P t=true){vs:List V}{b off:Nat}(hr:aW I ow w vs b off){v:V}
 (hv:(if fX P t then(if vs.length=P.cellsOf t then some (V.agg vs)else none)else vs[0]?)=some v):
 ∃x,(loadVar t ⟨b,off,none⟩).run P w=.ok x w/\E' I ow w v x:=by
 unfold loadVar;simp only[Sem.run_bind,qY (eS h).1,Result.andThen_ok];cases U1:fX P t
 .simp only[U1,jb,if_false]at hv|-;obtain⟨x,hx,h1,h2⟩:=hr.get hv;exact⟨x,by simp[show w.cell? ⟨b,off,none⟩=some x by simpa using hx],h1⟩
 .simp only[U1,if_true]at hv|-;split at hv
  .rename_i hl;simp only[bh]at hv;subst hv;obtain⟨xs,h1,h2,h3⟩:=hr.CD;have hlen:xs.length=P.cellsOf t:=by rw[h1.length,hl]
   refine⟨.agg xs.toArray,?_,by simp only[E'];exact⟨xs,rfl,h1,h2⟩⟩;simp only[Sem.run_bind,dn h,Result.andThen_ok];rw[<-hlen,run_loadCells_list (P:=P) w ⟨b,off,none⟩ xs (λj u hu=>by rw[gU];exact h3 j u hu)];simp
  .cases hv
def IM{op:BinOp}{t:TypeId}{x y v:V}{X Y:Value}{xo yo:Operand}(hx:E' I ow w x X)(hy:E' I ow w y Y)(hp:re op x y)
 (hv:D0 op x y=some v):∃z,(do eqGuard op t xo yo X Y;binOp op t X Y:Sem Value).run P w=.ok z w/\E' I ow w v z:=by
 unfold D0 at hv;split at hv
 .rename_i k a k' b;split at hv
  .rename_i hk;subst hk;simp only[E']at hx hy;subst hx hy;simp only[re]at hp;have hg:(eqGuard op t xo yo (.int k a) (.int k b)).run P w=.ok () w:=by
    unfold eqGuard;simp
   simp only[Sem.run_bind,hg,Result.andThen_ok];cases op<;>simp only[dP,reduceCtorEq]at hv<;>simp only[dR]at hp<;>
    first
    |(split at hv
      .cases hv
      .rename_i hb;simp only[bh]at hv;subst hv
       first
       |exact⟨_,by simp only[binOp,Op.shift,aK hb];rfl,by simp[E']⟩
       |simp_all [binOp,Op.intDiv,E',Sn])
    |(simp only[bh]at hv;subst hv;simp_all [binOp,Op.intArith,Op.intCmp,Op.intBits,E',Sn,pN,HD])
  .cases hv
 .rename_i a b;simp only[E']at hx hy;subst hx hy;simp only[re]at hp;have hg:(eqGuard op t xo yo (.string ⟨a.toArray⟩) (.string ⟨b.toArray⟩)).run P w=.ok () w:=by
   unfold eqGuard;simp
  simp only[Sem.run_bind,hg,Result.andThen_ok];have TU:∀l:List UInt8,(⟨l.toArray⟩:ByteArray).size=l.length:=λl=>by simp[ByteArray.size]
  have hl:∀l:List UInt8,(⟨l.toArray⟩:ByteArray).toList=l:=λl=>by rw[ByteArray.toList_eq]
  cases op<;>simp only[dI,reduceCtorEq]at hv<;>simp only[dQ]at hp<;>simp only[bh]at hv<;>subst hv
  .refine⟨.string (⟨a.toArray⟩++⟨b.toArray⟩),?_,?_⟩
   .simp only[binOp,Op.stringOp,TU];rw[aK (by simp[IntKind.max,IntKind.signed,IntKind.bits];omega)];simp
   .simp only[E'];congr 1
  .exact⟨.bool (decide (a=b)),by simp[binOp,Op.stringOp,hl,pN],by simp[E']⟩
  .exact⟨.bool (decide (a≠b)),by simp[binOp,Op.stringOp,hl,pN],by simp[E']⟩
 .cases hv
def sL{s:TypeId}{fs:Array Field}{f:Nat}{fd:Field}(hs:P.underlying s=some (.struct fs))(hf:fs[f]?=some fd)(hk:cg P fd.type=true)
 (b o:Nat):(Instr.fieldAt s (.pointer (some ⟨b,o,none⟩)) f).run P w=.ok (.pointer (some ⟨b,o+fd.offset,none⟩)) w:=by
 have Sh:P.cellsOf fd.type≠0:=Nat.pos_iff_ne_zero.1 (eS hk).2.2;simp[Instr.fieldAt,run_underlying hs,hf,Instr.sureAddr,fieldPlace,dn hk,Sh,gU]
def El{s:TypeId}{fs:Array Field}{f:Nat}{fd:Field}(hs:P.underlying s=some (.struct fs))(hf:fs[f]?=some fd)(hk:cg P fd.type=true)
 {x v:V}{X:Value}(hx:E' I ow w x X)(hv:gm (fX P fd.type) fd.offset (P.cellsOf fd.type) x=some v):
 ∃z,(Instr.fieldAt s X f).run P w=.ok z w/\E' I ow w v z:=by
 unfold gm at hv;split at hv
 .rename_i id i k;simp only[bh]at hv;subst hv;simp only[E']at hx;split at hx
  .rename_i b sz cap L';obtain⟨rfl,TU⟩:=hx;exact⟨_,sL hs hf hk b _,by simp only[E',L'];simp[Nat.add_assoc,TU]⟩
  .exact hx.elim
 .rename_i u;simp only[E']at hx;obtain⟨b,off,rfl,u',hb,hr⟩:=hx;rw[ei]at hr;refine⟨_,sL hs hf hk b off,?_⟩;cases G':bu (fX P fd.type) fd.offset (P.cellsOf fd.type) u.cells with
  |none=>simp[G']at hv
  |some y=>
   simp only[G',Option.map_some,bh]at hv;subst hv;simp only[E'];have UY:y.cells=[]\/¬ow b:=hb.imp (λhu=>by
    rw[hu]at G';unfold bu at G';split at G'
    .simp only[List.drop_nil,List.take_nil,bh]at G';rw[<-G'];rfl
    .simp at G') id
   refine⟨b,off+fd.offset,rfl,u',UY,?_⟩;rw[ei];unfold bu at G';split at G'
   .simp only[bh]at G';subst G';simp only[V.cells];exact(hr.drop _).take _
   .obtain⟨z,h1,h2,h3⟩:=hr.get G';have hy:y.cells=[y]:=by
     cases y<;>simp only[V.cells];simp only[E']at h2;obtain⟨R6,rfl,_⟩:=h2;simp[Value.oneCell']at h3
    rw[hy];simp only[aW,and_true];exact⟨z,h1,h2,h3⟩
 .cases hv
def ra{y:V}{z:Value}(h2:E' I ow w y z)(h3:z.oneCell'=true):y.cells=[y]:=by
 cases y<;>simp only[V.cells];simp only[E']at h2;obtain⟨R6,rfl,_⟩:=h2;simp[Value.oneCell']at h3
def BX{u y:V}{agg:Bool}{o sz b off:Nat}(u':b<w.heap.size)(hb:u.cells=[]\/¬ow b)(hr:aW I ow w u.cells b off)(G':bu agg o sz u.cells=some y):
 E' I ow w (.rp y) (.pointer (some ⟨b,off+o,none⟩)):=by
 simp only[E'];have UY:y.cells=[]\/¬ow b:=hb.imp (λhu=>by
  rw[hu]at G';unfold bu at G';split at G'
  .simp only[List.drop_nil,List.take_nil,bh]at G';rw[<-G'];rfl
  .simp at G') id
 refine⟨b,off+o,rfl,u',UY,?_⟩;rw[ei];unfold bu at G';split at G'
 .simp only[bh]at G';subst G';simp only[V.cells];exact(hr.drop _).take _
 .obtain⟨z,h1,h2,h3⟩:=hr.get G';rw[ra h2 h3];simp only[aW,and_true];exact⟨z,h1,h2,h3⟩
def Ed{w0:World}{Tg:Nat->Prop}{U:al}(UD:Sat w0 Tg I U w){t e:TypeId}(ht:P.underlying t=some (.slice e))(hk:cg P e=true)
 {x y v:V}{X Y:Value}(hx:E' I (aO I U) w x X)(hy:E' I (aO I U) w y Y)(hv:bI U (P.cellsOf e) x y=some v):
 ∃z,(Instr.indexAt t X Y).run P w=.ok z w/\E' I (aO I U) w v z:=by
 unfold bI at hv;split at hv
 .rename_i id off len k j;split at hv
  .rename_i ob TT;split at hv
   .rename_i hc;obtain⟨TU,h0,h1⟩:=hc;simp only[bh]at hv;subst hv;simp only[E']at hx hy;subst hy;have T0:=UD.obj id ob TT;split at hx
    .exact hx.elim
    .obtain⟨rfl,rfl,rfl⟩:=hx;exfalso;simp at h1;omega
    .rename_i b sz cap L';obtain⟨o,c,rfl,YV,ZC,UJ,hz⟩:=hx;rw[L']at T0;obtain⟨cur,_,hsz2,_⟩:=T0.plain hz;have ho:o=off*sz:=by
      rcases UJ with UJ|UJ
      .exact UJ
      .omega
     subst ho;refine⟨.pointer (some ⟨b,off*sz+j.toNat*P.cellsOf e,none⟩),?_,?_⟩
     .simp[Instr.indexAt,asIntOf,run_underlying ht,h0,h1,dn hk,gU]
     .simp only[E',L'];rw[<-TU,hsz2,Nat.add_mul];simp[hz]
   .cases hv
  .cases hv
 .rename_i sz rows k j;split at hv
  .rename_i h0;obtain⟨rfl,h0⟩:=h0;split at hv
   .rename_i r hr;simp only[bh]at hv;subst hv;simp only[E']at hx hy;subst hy;obtain⟨a,cap,rfl,ZW,Vb⟩:=hx;have u':j.toNat<rows.length:=by
     have:=rz.1 hr;exact this.1
    rcases Vb with rfl|⟨b,off,rfl,hb,TU,Sx⟩
    .simp at u'
    .obtain⟨h1,h2⟩:=Sx.get hr;refine⟨.pointer (some ⟨b,off+j.toNat*P.cellsOf e,none⟩),?_,?_⟩
     .have:j<(rows.length:Int):=by omega
      simp[Instr.indexAt,asIntOf,run_underlying ht,h0,this,dn hk,gU]
     .simp only[E'];refine⟨b,_,rfl,?_,.inr hb,(ei ..).2 h2⟩;cases hc:r.cells with
      |nil=>rw[hc]at h1;simp at h1;omega
      |cons c cs=>
       rw[hc]at h2;simp only[aW]at h2;obtain⟨⟨y,hy,_⟩,_⟩:=h2;exact World.block_lt_of_cell? w _ hy
   .cases hv
  .cases hv
 .cases hv
def BD{t e:TypeId}{n:Nat}(ht:P.underlying t=some (.array n e))(hk:cg P e=true)
 {x y v:V}{X Y:Value}(hx:E' I ow w x X)(hy:E' I ow w y Y)(hv:dM (fX P e) n (P.cellsOf e) x y=some v):
 ∃z,(Instr.indexAt t X Y).run P w=.ok z w/\E' I ow w v z:=by
 unfold dM at hv;split at hv
 .rename_i id i k kk j;split at hv
  .rename_i hc;simp only[bh]at hv;subst hv;simp only[E']at hx hy;subst hy;split at hx
   .rename_i b sz cap L';obtain⟨rfl,TU⟩:=hx;refine⟨.pointer (some ⟨b,i*sz+k+j.toNat*P.cellsOf e,none⟩),?_,by simp only[E',L'];simp[Nat.add_assoc,TU]⟩;simp[Instr.indexAt,asIntOf,run_underlying ht,hc,dn hk,gU,Instr.sureAddr]
   .exact hx.elim
  .cases hv
 .rename_i u kk j;split at hv
  .rename_i hc;simp only[E']at hx hy;subst hy;obtain⟨b,off,rfl,u',hb,hr⟩:=hx;rw[ei]at hr;cases G':bu (fX P e) (j.toNat*P.cellsOf e) (P.cellsOf e) u.cells with
   |none=>simp[G']at hv
   |some y=>
    simp only[G',Option.map_some,bh]at hv;subst hv;refine⟨_,?_,BX u' hb hr G'⟩;simp[Instr.indexAt,asIntOf,run_underlying ht,hc,dn hk,gU,Instr.sureAddr]
  .cases hv
 .cases hv
def Ep{t e:TypeId}{n:Nat}(ht:P.underlying t=some (.array n e))(hk:cg P e=true)
 {x y v:V}{X Y:Value}(hx:E' I ow w x X)(hy:E' I ow w y Y)(hv:fO (fX P e) n (P.cellsOf e) x y=some v):
 ∃z,(Instr.index t X Y).run P w=.ok z w/\E' I ow w v z:=by
 unfold fO at hv;split at hv
 .rename_i vs kk j;split at hv
  .rename_i hc;simp only[E']at hx hy;subst hy;obtain⟨R6,rfl,hr,h1⟩:=hx;obtain⟨z,hz,ZY⟩:=Aa (w:=w) hk hr h1 hv;exact⟨z,by simp[Instr.index,asIntOf,run_underlying ht,hc,dn hk,hz],ZY⟩
  .cases hv
 .cases hv
def D4{t:TypeId}(ht:P.underlying t=some .string)
 {x y v:V}{X Y:Value}(hx:E' I ow w x X)(hy:E' I ow w y Y)(hv:fL x y=some v):
 ∃z,(Instr.index t X Y).run P w=.ok z w/\E' I ow w v z:=by
 unfold fL at hv;split at hv
 .rename_i s k j;split at hv
  .rename_i h0;split at hv
   .rename_i b hb;simp only[bh]at hv;subst hv;simp only[E']at hx hy;subst hx hy;have e:(⟨s.toArray⟩:ByteArray)[j.toNat]?=some b:=by
     have:=rz.1 hb;obtain⟨h1,h2⟩:=this;rw[getElem?_pos (h:=by simpa[ByteArray.size]using h1)];simp[<-h2,ByteArray.getElem_eq_getElem_data]
    exact⟨.int .u8 b.toNat,by simp[Instr.index,asIntOf,run_underlying ht,h0,e],by simp[E']⟩
   .cases hv
  .cases hv
 .cases hv
variable {P:Program} {I:Mu} {ow:Nat->Prop} {w:World}
def xr{w0:World}{Tg:Nat->Prop}{U:al}(UD:Sat w0 Tg I U w){t:TypeId}(hk:cg P t=true)
 {x v:V}{X:Value}(hx:E' I (aO I U) w x X)(hv:dr U (fX P t) (P.cellsOf t) x=some v):
 ∃z,(Instr.loadAt t X).run P w=.ok z w/\E' I (aO I U) w v z:=by
 unfold dr at hv;split at hv
 .rename_i id i k;split at hv
  .rename_i ob TT;split at hv
   .rename_i r hr;have T0:=UD.obj id ob TT;simp only[E']at hx;split at hx
    .rename_i b sz cap L';obtain⟨rfl,TU⟩:=hx;rw[L']at T0;obtain⟨_,_,_,_,Sx⟩:=T0.rows TU;obtain⟨hl,WZ⟩:=Sx.get hr;simp only[kQ]at WZ;have hd:=WZ.drop k;cases U1:fX P t
     .simp only[U1,jb,if_false]at hv;obtain⟨z,hz,ZY⟩:=j2 (P:=P) hk hd (v:=v) (by simp only[U1,jb,if_false];simpa using hv);exact⟨z,by simp[Instr.loadAt,Instr.sureAddr,hz],ZY⟩
     .simp only[U1,if_true]at hv;split at hv
      .rename_i hc;obtain⟨rfl,hlen⟩:=hc;simp only[bh]at hv;subst hv;obtain⟨z,hz,ZY⟩:=j2 (P:=P) hk hd (v:=.agg r.cells) (by simp[U1,hlen]);exact⟨z,by simpa[Instr.loadAt,Instr.sureAddr]using hz,ZY⟩
      .split at hv
       .rename_i hle;simp only[bh]at hv;subst hv;obtain⟨z,hz,ZY⟩:=j2 (P:=P) hk (hd.take (P.cellsOf t)) (v:=.agg ((r.cells.drop k).take (P.cellsOf t)))
         (by rw[aI U1,aI (by simp;omega)])
        exact⟨z,by simp[Instr.loadAt,Instr.sureAddr,hz],ZY⟩
       .cases hv
    .exact hx.elim
   .cases hv
  .cases hv
 .rename_i u;simp only[E']at hx;obtain⟨b,off,rfl,u',hb,hr⟩:=hx;rw[ei]at hr;cases U1:fX P t
  .simp only[U1,jb,if_false]at hv;have ZZ:u=v/\u.cells=[u]:=by
    cases u<;>simp_all [V.cells]
   obtain⟨rfl,hc⟩:=ZZ;rw[hc]at hr;obtain⟨z,hz,ZY⟩:=j2 (P:=P) hk hr (v:=u) (by simp[U1]);exact⟨z,by simp[Instr.loadAt,Instr.sureAddr,hz],ZY⟩
  .simp only[U1,if_true]at hv;split at hv
   .rename_i hl;simp only[bh]at hv;subst hv;obtain⟨z,hz,ZY⟩:=j2 (P:=P) hk hr (v:=.agg u.cells) (by simp[U1,hl]);exact⟨z,by simp[Instr.loadAt,Instr.sureAddr,hz],ZY⟩
   .cases hv
 .cases hv
def nS{d:Int}{o:Option V}{O:Option Value}(ho:match o,O with|none,none=>True|some v,some x=>E' I ow w v x|_,_=>False){j:Int}
 (hj:bQ d o=some j):(o=none/\O=none/\j=d)\/∃k,o=some (.int k j)/\O=some (.int k j):=by
 unfold bQ at hj;split at hj
 .simp only[bh]at hj;cases O with
  |none=>exact .inl ⟨rfl,rfl,hj.symm⟩
  |some x=>exact ho.elim
 .rename_i k j';simp only[bh]at hj;subst hj;cases O with
  |none=>exact ho.elim
  |some x=>
   simp only[E']at ho;subst ho;exact .inr ⟨k,rfl,rfl⟩
 .cases hj
def j8(I:Mu)(ow:Nat->Prop)(w:World)(o:Option V)(O:Option Value):Prop:=
 match o,O with|none,none=>True|some v,some x=>E' I ow w v x|_,_=>False
def et(k:IntKind)(i:Int)(y:Nat)(code:BoundsCode)(h0:0<=i)(h1:i<=y):
 (Instr.sliceBound (.int k i) y code).run P w=.ok i.toNat w:=by
 simp[Instr.sliceBound,asIntOf,h0,h1]
def gv{n c:Nat}{lo hi mx:Option V}{LO HI MX:Option Value}(h1:j8 I ow w lo LO)(h2:j8 I ow w hi HI)(h3:j8 I ow w mx MX)
 {l h m:Int}(hl:bQ 0 lo=some l)(hh:bQ n hi=some h)(hm:bQ n mx=some m)(h0:0<=l)(h01:l<=h)(h12:h<=m)(h23:m<=n)(hnc:n<=c)
 (hmh:mx≠none->hi≠none)(s:Bool):
 ∃m',(Instr.sliceBounds s n c LO HI MX).run P w=.ok (l.toNat,h.toNat,m') w/\h.toNat<=m'/\m'<=c:=by
 rcases nS h3 hm with⟨_,rfl,rfl⟩|⟨km,rfl,rfl⟩
 .refine⟨c,?_,by omega,SD _⟩;rcases nS h2 hh with⟨_,rfl,rfl⟩|⟨kh,_,rfl⟩<;>rcases nS h1 hl with⟨_,rfl,rfl⟩|⟨kl,_,rfl⟩<;>
   simp only[Instr.sliceBounds,Sem.run_bind,Sem.run_pure,Result.andThen_ok]
  .simp
  .rw[et kl l n _ h0 (by omega)];simp
  .rw[et kh h c _ (by omega) (by omega)];simp
  .rw[et kh h c _ (by omega) (by omega)];simp only[Result.andThen_ok];rw[et kl l h.toNat _ h0 (by omega)];simp
 .refine⟨m.toNat,?_,by omega,by omega⟩;rcases nS h2 hh with⟨rfl,rfl,rfl⟩|⟨kh,_,rfl⟩
  .exact absurd rfl (hmh (by simp))
  .rcases nS h1 hl with⟨_,rfl,rfl⟩|⟨kl,_,rfl⟩<;>
    simp only[Instr.sliceBounds,Sem.run_bind,Sem.run_pure,Result.andThen_ok]
   .rw[et km m c _ (by omega) (by omega)];simp only[Result.andThen_ok];rw[et kh h m.toNat _ (by omega) (by omega)];simp
   .rw[et km m c _ (by omega) (by omega)];simp only[Result.andThen_ok];rw[et kh h m.toNat _ (by omega) (by omega)];simp only[Result.andThen_ok];rw[et kl l h.toNat _ h0 (by omega)];simp
def uA{w0:World}{Tg:Nat->Prop}{U:al}(UD:Sat w0 Tg I U w){t e:TypeId}(ht:P.underlying t=some (.slice e))(hk:cg P e=true)
 {x v:V}{X:Value}(hx:E' I ow w x X){lo hi mx:Option V}{LO HI MX:Option Value}(h1:j8 I ow w lo LO)(h2:j8 I ow w hi HI)(h3:j8 I ow w mx MX)
 (hmh:mx≠none->hi≠none)(hv:cP U (P.cellsOf e) x lo hi mx=some v):
 ∃z,(Instr.sliceAt t X LO HI MX).run P w=.ok z w/\E' I ow w v z:=by
 have Uu:∀(a:Option Addr) (n c:Nat) (r:Nat×Nat×Nat),(Instr.sliceBounds true n c LO HI MX).run P w=.ok r w->
  (Instr.sliceAt t (.slice a n c) LO HI MX).run P w=.ok (.slice (if r.2.2=r.1 then a else a.map (·.add (r.1*P.cellsOf e))) (r.2.1-r.1) (r.2.2-r.1)) w:=by
  intro a n c r hr;simp[Instr.sliceAt,Instr.slice,run_underlying ht,hr,dn hk]
 cases x with
 |own id off len=>
  simp only[cP]at hv;split at hv
  .rename_i l h m hl hh hm;split at hv
   .rename_i hc;obtain⟨c0,c1,c2,c3,c4⟩:=hc;simp only[bh]at hv;subst hv;simp only[E']at hx;split at hx
    .exact hx.elim
    .rename_i L';obtain⟨rfl,rfl,rfl⟩:=hx;obtain⟨m',hr,YW,hm2⟩:=gv (P:=P) (c:=0) h1 h2 h3 hl hh hm c0 c1 c2 c3 (SD _) hmh true;refine⟨_,Uu none 0 0 _ hr,?_⟩;simp only[E',L'];have:h.toNat=0:=by omega
     have:l.toNat=0:=by omega
     simp_all;omega
    .rename_i b sz cap L';obtain⟨o,c,rfl,YV,ZC,UJ,hz⟩:=hx;obtain⟨m',hr,YW,hm2⟩:=gv (P:=P) (c:=c) h1 h2 h3 hl hh hm c0 c1 c2 c3 YV hmh true;refine⟨_,Uu _ len c _ hr,?_⟩;have hsz':sz=P.cellsOf e:=by
      cases TT:U id with
      |none=>simp[iB,TT]at c4
      |some ob=>
       simp only[iB,TT,beq_iff_eq]at c4;have:=UD.obj id ob TT;rw[L']at this;exact(this.rows hz).1.symm.trans c4
     simp only[E',L'];by_cases e':m'=l.toNat
     .rw[aI e'];refine⟨o,m'-l.toNat,rfl,by omega,by omega,?_,hz⟩;by_cases h0:off+l.toNat=0
      .left;have h1:off=0:=by omega
       rcases UJ with UJ|UJ
       .rw[h0,UJ,h1]
       .exact absurd h1 UJ.2
      .exact .inr ⟨by omega,h0⟩
     .rw[aK e'];simp only[Option.map_some,gU];refine⟨o+l.toNat*P.cellsOf e,m'-l.toNat,rfl,by omega,by omega,.inl ?_,hz⟩;rcases UJ with UJ|UJ
      .rw[UJ,hsz',Nat.add_mul]
      .omega
   .cases hv
  .cases hv
 |sl sz rows=>
  simp only[cP]at hv;split at hv
  .rename_i l h m hl hh hm;split at hv
   .rename_i hc;obtain⟨c0,c1,c2,c3,rfl⟩:=hc;simp only[bh]at hv;subst hv;simp only[E']at hx;obtain⟨a,cap,rfl,ZW,Vb⟩:=hx;obtain⟨m',hr,YW,hm2⟩:=gv (P:=P) (c:=cap) h1 h2 h3 hl hh hm c0 c1 c2 c3 ZW hmh true;refine⟨_,Uu _ _ cap _ hr,?_⟩;simp only[E'];have hlen:((rows.drop l.toNat).take (h.toNat-l.toNat)).length=h.toNat-l.toNat:=by simp;omega
    refine⟨_,_,by rw[hlen],by omega,?_⟩;by_cases e':m'=l.toNat
    .left;have:h.toNat-l.toNat=0:=by omega
     rw[this];simp
    .rw[aK e'];rcases Vb with rfl|⟨b,off,rfl,hb,hs,Sx⟩
     .left;simp
     .exact .inr ⟨b,off+l.toNat*P.cellsOf e,by simp[gU],hb,hs,(Sx.drop _).take _⟩
   .cases hv
  .cases hv
 |bl=>
  simp only[cP]at hv;split at hv
  .rename_i l h m hl hh hm;split at hv
   .rename_i hc;obtain⟨rfl,rfl,rfl⟩:=hc;simp only[bh]at hv;subst hv;simp only[E']at hx;subst hx;obtain⟨m',hr,YW,hm2⟩:=gv (P:=P) (n:=0) (c:=0) h1 h2 h3 hl hh hm (by omega) (by omega) (by omega) (by simp) (SD _) hmh true;refine⟨_,Uu none 0 0 _ hr,?_⟩;simp[E'];omega
   .cases hv
  .cases hv
 |_=>simp[cP]at hv
def u7{t:TypeId}(ht:P.underlying t=some .string){x v:V}{X:Value}(hx:E' I ow w x X){lo hi:Option V}{LO HI:Option Value}(h1:j8 I ow w lo LO)(h2:j8 I ow w hi HI)
 (hv:cC x lo hi=some v):
 ∃z,(Instr.sliceAt t X LO HI none).run P w=.ok z w/\E' I ow w v z:=by
 unfold cC at hv;split at hv
 case h_2=>cases hv
 rename_i s;split at hv
 .rename_i l h hl hh;split at hv
  .rename_i hc;obtain⟨c0,c1,c2⟩:=hc;simp only[bh]at hv;subst hv;simp only[E']at hx;subst hx;have TU:(⟨s.toArray⟩:ByteArray).size=s.length:=by simp[ByteArray.size]
   obtain⟨m',hr,YW,hm2⟩:=gv (P:=P) (w:=w) (n:=s.length) (c:=s.length) (mx:=none) (MX:=none) h1 h2 (by simp[j8]) hl hh (m:=s.length) (by simp[bQ]) c0 c1 c2 (Int.le_refl _) (SD _) (by simp) false;refine⟨.string ((⟨s.toArray⟩:ByteArray).extract l.toNat h.toNat),?_,?_⟩
   .simp[Instr.sliceAt,Instr.slice,run_underlying ht,TU,hr]
   .simp only[E'];congr 1;apply ByteArray.ext;simp[ByteArray.data_extract]
  .cases hv
 .cases hv
def cO{F:Fr}{st:St}{a:Act}(hs:dS F I st a w)(x:Operand):E' I (aO I st.U) w ((cx F.n x).ev st.s) (a.eval x):=by
 cases x with
 |tmp t=>
  by_cases ht:t<F.n
  .simp only[cx,Act.eval,aI ht];exact hs.slot t ht
  .have hle:a.tmps.size<=t:=by rw[hs.size];exact Nat.le_of_not_lt ht
   simp only[cx,Act.eval,aK ht,VX.ev,E'];exact⟨[],by rw[VJ,Array.getElem?_eq_none hle];rfl,by simp[aB]⟩
 |const v=>exact nX v
 |global g=>simp[cx,VX.ev,Act.eval,E']
 |func f=>simp[cx,VX.ev,Act.eval,E',aB]
def ou{F:Fr}{st:St}{a:Act}(hs:dS F I st a w):∀(l:List Operand),aB I (aO I st.U) w ((l.map (cx F.n)).map (·.ev st.s)) (l.map a.eval)
 |[]=>by simp[aB]
 |x::l=>by simp only[ga,aB];exact⟨_,_,rfl,cO hs x,ou hs l⟩
def uQ{F:Fr}{st:St}{a:Act}(hs:dS F I st a w)(o:Option Operand):j8 I (aO I st.U) w ((o.map (cx F.n)).map (·.ev st.s)) (o.map a.eval):=by
 cases o with
 |none=>simp[j8]
 |some x=>simpa[j8]using cO hs x
def aB.append:∀{vs us:List V} {l m:List Value},aB I ow w vs l->aB I ow w us m->aB I ow w (vs++us) (l++m)
 |[],us,l,m,h,h'=>by simp[aB]at h;subst h;simpa using h'
 |v::vs,us,l,m,h,h'=>by
  simp only[aB]at h;obtain⟨x,xs,rfl,h1,h2⟩:=h;simp only[List.cons_append,aB];exact⟨x,xs++m,rfl,h1,h2.append h'⟩
def E'.one{v:V}{x:Value}(h:E' I ow w v x)(hs:v.stays=true)(ha:∀vs,v≠.agg vs):x.oneCell'=true:=by
 cases v<;>simp only[E']at h<;>(try simp[V.stays]at hs)
 case agg vs=>exact absurd rfl (ha vs)
 case sl=>obtain⟨a,c,rfl,_⟩:=h;rfl
 case own=>
  split at h
  .exact h.elim
  .rw[h.1];rfl
  .obtain⟨o,c,rfl,_⟩:=h;rfl
 case ptr=>
  split at h
  .rw[h.1];rfl
  .exact h.elim
 case gp=>
  split at h
  .rw[h];rfl
  .exact h.elim
 case yl=>
  split at h
  .rw[h];rfl
  .exact h.elim
 case mp=>
  split at h
  .rw[h];rfl
  .exact h.elim
 case rp=>obtain⟨b,o,rfl,_⟩:=h;rfl
 case fn=>obtain⟨R6,rfl,_⟩:=h;rfl
 case bm=>obtain⟨R6,rfl,_⟩:=h;rfl
 case iface=>obtain⟨y,rfl,_⟩:=h;rfl
 all_goals first|(subst h;rfl)|(subst h;exact hs)
def E'.cells{v:V}{x:Value}(h:E' I ow w v x)(hs:v.stays=true):aB I ow w v.cells x.cells.toList/\∀u∈x.cells.toList,u.oneCell'=true:=by
 by_cases ha:∃vs,v=.agg vs
 .obtain⟨vs,rfl⟩:=ha;simp only[E']at h;obtain⟨R6,rfl,h1,h2⟩:=h;exact⟨by simpa[V.cells,Value.cells]using h1,by simpa[Value.cells]using h2⟩
 .have h1:=h.one hs (λvs e=>ha ⟨vs,e⟩);have hc:x.cells=#[x]:=by cases x<;>simp_all [Value.cells,Value.oneCell']
  have hv:v.cells=[v]:=ra h h1;rw[hc,hv];simp only[aB];exact⟨⟨x,[],rfl,h,rfl⟩,by simpa using h1⟩
def E'.kx{v:V}{x:Value}(h:E' I ow w v x)(hs:v.stays=true):x.cells.size=v.cells.length:=by
 have:=(h.cells hs).1.length;simpa using this
def Bn(off:Nat):∀(vs:List Value) (k:Nat) (cs:Array Value),off+k+vs.length<=cs.size->
 ((vs.zipIdx k).foldl (λcs (p:Value×Nat)=>cs.setIfInBounds (off+p.2) p.1) cs).toList=bJ cs.toList (off+k) vs
 |[],k,cs,_=>by simp[bJ]
 |v::vs,k,cs,h=>by
  simp only[Uf]at h;simp only[List.zipIdx_cons,jW];rw[Bn off vs (k+1) _ (by simp;omega)];have hk:off+k<cs.toList.length:=by simp;omega
  simp only[bJ,Array.toList_setIfInBounds,Uf];rw[List.set_eq_take_append_cons_drop,aI hk];have e1:(cs.toList.take (off+k)).length=off+k:=by simp;omega
  rw[show off+(k+1)=(cs.toList.take (off+k)).length+1 by omega,List.take_length_add_append,show(cs.toList.take (off+k)).length+1+vs.length=(cs.toList.take (off+k)).length+(1+vs.length) by omega,
   List.drop_length_add_append]
  simp[List.drop_drop,B9,Nat.add_left_comm,Nat.add_assoc]
def lH{α:Type}(l:List α)(off:Nat)(xs:List α)(h:off+xs.length<=l.length):(bJ l off xs).length=l.length:=by
 simp[bJ];omega
def oG(place:Nat->Option (Nat×Nat)):∀(parts:List (Nat×Value)) (cells:Array Value),
 (∀p∈parts,∃off sz,place p.1=some (off,sz)/\p.2.cells.size=sz/\off+sz<=cells.size)->
 ∃cs,Instr.fill place cells parts=some cs/\cs.size=cells.size/\cs.toList=parts.foldl (λl p=>bJ l (((place p.1).map (·.1)).getD 0) p.2.cells.toList) cells.toList
 |[],cells,_=>⟨cells,rfl,rfl,rfl⟩
 |(i,v)::rest,cells,h=>by
  obtain⟨off,sz,h1,h2,h3⟩:=h (i,v) (by simp);simp only at h1 h2;have hs:(v.cells.zipIdx.foldl (λcs (p:Value×Nat)=>cs.setIfInBounds (off+p.2) p.1) cells).toList=bJ cells.toList off v.cells.toList:=by
   have:=Bn off v.cells.toList 0 cells (by simp;omega);rw[<-Array.foldl_toList,Array.toList_zipIdx];simpa using this
  have TU:(v.cells.zipIdx.foldl (λcs (p:Value×Nat)=>cs.setIfInBounds (off+p.2) p.1) cells).size=cells.size:=by
   have:=congrArg List.length hs;rw[lH _ _ _ (by simp;omega)]at this;simpa using this
  obtain⟨cs,h4,h5,h6⟩:=oG place rest _ (λp hp=>by
   obtain⟨WB,UP,g1,g2,g3⟩:=h p (by simp[hp]);exact⟨WB,UP,g1,g2,by rw[TU];exact g3⟩)
  refine⟨cs,?_,by rw[h5,TU],?_⟩
  .simp only[Instr.fill,h1];rw[aK (by simp;omega)];exact h4
  .rw[h6,hs];simp[h1]
def zJ{b:Bool}{x v:V}{X:Value}(hx:E' I ow w x X)(hv:eM b x=some v){t:TypeId}(ty:TypeId)
 (ht:if b then P.underlying t=some .string else∃e,P.underlying t=some (.slice e)):
 ∃z,(Builtin.len_ #[t] ty #[X]).run P w=.ok z w/\E' I ow w v z:=by
 cases b
 .simp only[jb,if_false]at ht;obtain⟨e,ht⟩:=ht;have Uu:∀a n c,(Builtin.len_ #[t] ty #[.slice a n c]).run P w=.ok (.int .i64 n) w:=λa n c=>by simp[Builtin.len_,run_underlying ht,goInt]
  cases x<;>simp only[eM,reduceCtorEq,bh]at hv<;>subst hv<;>simp only[E']at hx
  .subst hx;exact⟨_,Uu _ _ _,by simp[E']⟩
  .obtain⟨a,cap,rfl,_⟩:=hx;exact⟨_,Uu _ _ _,by simp[E']⟩
  .split at hx
   .exact hx.elim
   .obtain⟨rfl,_,rfl⟩:=hx;exact⟨_,Uu _ _ _,by simp[E']⟩
   .obtain⟨o,c,rfl,_⟩:=hx;exact⟨_,Uu _ _ _,by simp[E']⟩
 .simp only[if_true]at ht;cases x<;>simp only[eM,reduceCtorEq,bh]at hv;subst hv;simp only[E']at hx;subst hx;exact⟨_,by simp[Builtin.len_,run_underlying ht,goInt];rfl,by simp[E',ByteArray.size]⟩
def fG{t:TypeId}{i:TypeInfo}{z:Value}(h:zeroOf P t=some (i,z)):P.info? t=some i/\i.zero=some z/\cg P t=true/\z.cells.size=i.size/\
 (∀u∈z.cells.toList,u.oneCell'=true)/\i.size=P.cellsOf t:=by
 unfold zeroOf at h;split at h
 .rename_i i' hi;split at h
  .rename_i z' hz;split at h
   .rename_i hc;simp only[bh,Prod.mk.injEq]at h;obtain⟨rfl,rfl⟩:=h;simp only[Ba,beq_iff_eq,gj]at hc;exact⟨hi,hz,hc.1.1,hc.1.2,hc.2,by simp[Program.cellsOf,hi]⟩
   .cases h
  .cases h
 .cases h
def eQ{t:TypeId}{i:TypeInfo}{z:Value}(h:zeroOf P t=some (i,z)):(zeroValue t).run P w=.ok z w:=by
 obtain⟨h1,h2,_⟩:=fG h;simp[zeroValue,typeInfo,h1,h2]
def ru{t:TypeId}(h:rV P t=true):∃i,P.underlying t=some (.struct #[])/\P.info? t=some i/\i.size=0/\i.zero=some (.agg #[]):=by
 unfold rV at h;split at h
 .rename_i fs i h1 h2;simp only[Ba,beq_iff_eq]at h;obtain⟨h3,h4,h5⟩:=h;split at h5
  .rename_i z hz;have e1:fs=#[]:=Array.eq_empty_of_size_eq_zero h3;have e2:z=#[]:=Array.eq_empty_of_size_eq_zero (by simpa using h5);exact⟨i,by rw[h1,e1],h2,h4,by rw[hz,e2]⟩
  .cases h5
 .cases h
def wW{t:TypeId}(h:rV P t=true):(zeroValue t).run P w=.ok (.agg #[]) w:=by
 obtain⟨i,_,h1,_,h2⟩:=ru h;simp[zeroValue,typeInfo,h1,h2]
def BU{t:TypeId}(h:rV P t=true):(Instr.build t #[]).run P w=.ok (.agg #[]) w:=by
 obtain⟨i,h0,h1,_,h2⟩:=ru h;simp[Instr.build,wW h,run_underlying h0,Value.cells,Instr.fill]
def aB.bJ{vs us:List V}{l m:List Value}(off:Nat)(h:aB I ow w vs l)(h':aB I ow w us m):aB I ow w (bJ vs off us) (Vc.bJ l off m):=by
 unfold Vc.bJ;rw[h'.length];exact((h.take off).append h').append (h.drop _)
def pt{α:Type}(off sz:α->Nat)(v:α->V)(x:α->Value):∀{l:List α} {zero cells:List V} {zs:List Value},
 cW zero (l.map λp=>(off p,sz p,v p))=some cells->aB I ow w zero zs->(∀p∈l,E' I ow w (v p) (x p))->
 aB I ow w cells (l.foldl (λacc p=>Vc.bJ acc (off p) (x p).cells.toList) zs)/\
 ((∀u∈zs,u.oneCell'=true)->∀u∈l.foldl (λacc p=>Vc.bJ acc (off p) (x p).cells.toList) zs,u.oneCell'=true)/\
 ∀p∈l,(x p).cells.size=sz p/\off p+sz p<=zero.length
 |[],zero,cells,zs,h,hz,hp=>by
  simp only[List.map_nil,cW,bh]at h;subst h;simpa using hz
 |p::r,zero,cells,zs,h,hz,hp=>by
  simp only[ga,cW]at h;split at h
  .rename_i hc;have h1:=hp p (by simp);obtain⟨g1,g2⟩:=h1.cells hc.2.1;have hl:=h1.kx hc.2.1;obtain⟨ih1,ih2,ih3⟩:=pt off sz v x h (hz.bJ (off p) g1) (λq hq=>hp q (by simp[hq]));refine⟨by simpa using ih1,λh0=>?_,λq hq=>?_⟩
   .refine ih2 ?_;intro u hu;simp only[Vc.bJ,gl]at hu;rcases hu with(hu|hu)|hu
    .exact h0 u (ym hu)
    .exact g2 u hu
    .exact h0 u (List.mem_of_mem_drop hu)
   .rcases ew.1 hq with rfl|hq
    .exact⟨by rw[hl,hc.1],hc.2.2⟩
    .have:=ih3 q hq;rw[lH _ _ _ (by omega)]at this;exact this
  .cases h
def run_places(fs:Array Field)(h:∀f∈fs.toList,cg P f.type=true):
 (fs.mapM (λf=>Functor.map (Prod.mk f.offset) (sizeOf f.type):Field->Sem (Nat×Nat))).run P w=.ok (fs.map λf=>(f.offset,P.cellsOf f.type)) w:=by
 rw[Array.mapM_eq_mapM_toList];have:∀(l:List Field),(∀f∈l,cg P f.type=true)->
  (l.mapM (λf=>Functor.map (Prod.mk f.offset) (sizeOf f.type):Field->Sem (Nat×Nat))).run P w=.ok (l.map λf=>(f.offset,P.cellsOf f.type)) w:=by
  intro l
  induction l with
  |nil=>intro _;simp
  |cons f l ih=>
   intro hl;simp[dn (hl f (by simp)),ih (λx hx=>hl x (by simp[hx]))]
 simp[this fs.toList (by simpa using h)];apply Array.ext';simp
def run_build{F:Fr}{st:St}{a:Act}(hs:dS F I st a w){t:TypeId}{i:TypeInfo}{z:Array Value}{fs:Array Field}(hz:zeroOf P t=some (i,.agg z))
 (W1:P.underlying t=some (.struct fs)){parts:Array (Nat×Operand)}(hk:(∀f∈fs.toList,cg P f.type=true)/\∀p∈parts.toList,p.1<fs.size){cells:List V}
 (hb:cW (z.toList.map cellOf) ((parts.toList.map λp=>(((fs[p.1]?).map (·.offset)).getD 0,((fs[p.1]?).map λf=>P.cellsOf f.type).getD 0,cx F.n p.2)).map λp=>(p.1,p.2.1,p.2.2.ev st.s))=some cells):
 ∃y,(Instr.build t (parts.map λ(i,x)=>(i,a.eval x))).run P w=.ok y w/\E' I (aO I st.U) w (.agg cells) y:=by
 obtain⟨_,_,_,_,Sz,_⟩:=fG hz;rw[List.map_map]at hb;obtain⟨g1,g2,g3⟩:=pt (I:=I) (ow:=aO I st.U) (w:=w) (λp:Nat×Operand=>((fs[p.1]?).map (·.offset)).getD 0) (λp=>((fs[p.1]?).map λf=>P.cellsOf f.type).getD 0)
  (λp=>(cx F.n p.2).ev st.s) (λp=>a.eval p.2) hb (gg z.toList) (λp _=>cO hs p.2)
 obtain⟨cs,e1,e2,e3⟩:=oG (λk=>(fs.map λf=>(f.offset,P.cellsOf f.type))[k]?) ((parts.map λ(i,x)=>(i,a.eval x)).toList) z (by
  intro p hp;simp only[Array.toList_map,iE]at hp;obtain⟨q,hq,rfl⟩:=hp;have u':=hk.2 q hq;obtain⟨q1,q2⟩:=g3 q hq;have Ua:fs[q.1]?=some fs[q.1]:=by simp[u']
  simp only[Ua,Option.map_some,Option.getD_some]at q1 q2;exact⟨fs[q.1].offset,P.cellsOf fs[q.1].type,by simp[Ua],q1,by simpa using q2⟩)
 refine⟨.agg cs,?_,?_⟩
 .simp only[Array.toList_map,Array.getElem?_map]at e1;simp[Instr.build,eQ hz,run_underlying W1,run_places fs (by simpa using hk.1),Value.cells];rw[e1];rfl
 .have YX:cs.toList=parts.toList.foldl (λacc p=>Vc.bJ acc (((fs[p.1]?).map (·.offset)).getD 0) (a.eval p.2).cells.toList) z.toList:=by
   rw[e3,Array.toList_map,List.foldl_map];congr 1;funext acc p;congr 1;cases hp:fs[p.1]?<;>simp[hp]
  simp only[E'];refine⟨cs.toList,rfl,?_,?_⟩
  .rw[YX];exact g1
  .rw[YX];exact g2 (by simpa[Value.cells]using Sz)
def Ce{F:Fr}{st:St}{a:Act}(hs:dS F I st a w){t e:TypeId}{k:Nat}{i:TypeInfo}{z:Array Value}(hz:zeroOf P t=some (i,.agg z))
 (W1:P.underlying t=some (.array k e)){parts:Array (Nat×Operand)}(hk:cg P e=true){cells:List V}
 (hb:cW (z.toList.map cellOf) ((parts.toList.map λp=>(p.1*P.cellsOf e,P.cellsOf e,cx F.n p.2)).map λp=>(p.1,p.2.1,p.2.2.ev st.s))=some cells):
 ∃y,(Instr.build t (parts.map λ(i,x)=>(i,a.eval x))).run P w=.ok y w/\E' I (aO I st.U) w (.agg cells) y:=by
 obtain⟨_,_,_,_,Sz,_⟩:=fG hz;rw[List.map_map]at hb;obtain⟨g1,g2,g3⟩:=pt (I:=I) (ow:=aO I st.U) (w:=w) (λp:Nat×Operand=>p.1*P.cellsOf e) (λ_=>P.cellsOf e)
  (λp=>(cx F.n p.2).ev st.s) (λp=>a.eval p.2) hb (gg z.toList) (λp _=>cO hs p.2)
 obtain⟨cs,e1,e2,e3⟩:=oG (λi=>some (i*P.cellsOf e,P.cellsOf e)) ((parts.map λ(i,x)=>(i,a.eval x)).toList) z (by
  intro p hp;simp only[Array.toList_map,iE]at hp;obtain⟨q,hq,rfl⟩:=hp;obtain⟨q1,q2⟩:=g3 q hq;exact⟨q.1*P.cellsOf e,P.cellsOf e,rfl,q1,by simpa using q2⟩)
 refine⟨.agg cs,?_,?_⟩
 .simp only[Array.toList_map]at e1;simp[Instr.build,eQ hz,run_underlying W1,dn hk,Value.cells];rw[e1];rfl
 .have YX:cs.toList=parts.toList.foldl (λacc p=>Vc.bJ acc (p.1*P.cellsOf e) (a.eval p.2).cells.toList) z.toList:=by
   rw[e3,Array.toList_map,List.foldl_map];rfl
  simp only[E'];refine⟨cs.toList,rfl,?_,?_⟩
  .rw[YX];exact g1
  .rw[YX];exact g2 (by simpa[Value.cells]using Sz)
def BJ(msg:String)(vs:List V)(bs:List UInt8)(l:List Value)(hb:bytesOf vs=some bs)(hr:aB I ow w vs l)(s0:ByteArray):
 (forIn l s0 (λc s=>match c with
   |.int .u8 n=>pure (ForInStep.yield (s.push (UInt8.ofNat n.toNat)))
   |_=>(do stuck msg;pure (ForInStep.yield s))):Sem ByteArray).run P w=.ok ⟨s0.data++bs.toArray⟩ w:=by
 induction vs generalizing bs l s0 with
 |nil=>
  simp only[bytesOf,bh]at hb;simp only[aB]at hr;subst hb hr;simp
 |cons v vs ih=>
  simp only[bytesOf]at hb;split at hb
  .rename_i b l' h1 h2;simp only[bh]at hb;subst hb;simp only[aB]at hr;obtain⟨x,xs,rfl,h3,h4⟩:=hr;unfold byteOf at h1;split at h1
   .rename_i n;simp only[bh]at h1;simp only[E']at h3;subst h3 h1;simp only[List.forIn_cons,Sem.run_bind,Sem.run_pure,Result.andThen_ok];rw[ih l' xs h2 h4];simp[ByteArray.push]
   .cases h1
  .cases hb
def rP:∀{rows:List V} {bs:List UInt8} {b off:Nat},bc I ow w rows b off 1->bytesOf rows=some bs->
 ∃xs,aB I ow w rows xs/\xs.length=rows.length/\∀(j:Nat) u,xs[j]?=some u->w.cell? ⟨b,off+j,none⟩=some u
 |[],_,_,_,_,_=>⟨[],by simp[aB],rfl,by simp⟩
 |v::vs,bs,b,off,h,hb=>by
  simp only[bytesOf]at hb;split at hb
  .rename_i c l h1 h2;simp only[bc]at h;obtain⟨_,h3,h4⟩:=h;have h5:∃x,w.cell? ⟨b,off,none⟩=some x/\E' I ow w v x:=by
    unfold byteOf at h1;split at h1
    .simp only[bz]at h3;obtain⟨x,g1,g2,_⟩:=h3;exact⟨x,g1,g2⟩
    .cases h1
   obtain⟨x,g1,g2⟩:=h5;obtain⟨xs,i1,i2,i3⟩:=rP h4 h2;refine⟨x::xs,by simp only[aB];exact⟨x,xs,rfl,g2,i1⟩,by simp[i2],λj u hu=>?_⟩;cases j with
   |zero=>simp at hu;subst hu;exact g1
   |succ j=>
    have:=i3 j u (by simpa using hu)
    rwa [show off+1+j=off+(j+1) by omega]at this
  .cases hb
def B2{w0:World}{Tg:Nat->Prop}{U:al}(UD:Sat w0 Tg I U w){x v:V}{X:Value}(hx:E' I (aO I U) w x X)(hv:dj U x=some v):
 ∃z,(Conv.bytesToString X).run P w=.ok z w/\E' I (aO I U) w v z:=by
 unfold dj at hv;split at hv
 .simp only[E']at hx;simp only[bh]at hv;subst hx hv;exact⟨_,rfl,by simp only[E'];rfl⟩
 .rename_i id off len;split at hv
  .rename_i ob TT;split at hv
   .rename_i hc;simp only[Zq8]at hv;obtain⟨bs,hb,rfl⟩:=hv;have T0:=UD.obj id ob TT;simp only[E']at hx;split at hx
    .exact hx.elim
    .obtain⟨rfl,_,rfl⟩:=hx;simp only[List.take_zero,bytesOf,bh]at hb;subst hb;exact⟨_,rfl,by simp only[E'];rfl⟩
    .rename_i b Wt cap L';obtain⟨o,c,rfl,YV,ZC,UJ,hz⟩:=hx;rw[L']at T0;obtain⟨g1,g2,g3,g4,g5⟩:=T0.rows hz;by_cases h0:len=0
     .subst h0;simp only[List.take_zero,bytesOf,bh]at hb;subst hb;exact⟨_,by simp[Conv.bytesToString,loadCells,loadCellsFrom];rfl,by simp only[E'];rfl⟩
     .have ho:o=off*Wt:=by
       rcases UJ with UJ|UJ
       .exact UJ
       .omega
      have hs:Wt=1:=by omega
      subst ho;subst hs;have hr:=(g5.drop off).take len;rw[kQ,Nat.mul_one]at hr;obtain⟨xs,i1,i2,i3⟩:=rP hr hb;have hl:xs.length=len:=by rw[i2];simp;omega
      refine⟨.string ⟨bs.toArray⟩,?_,by simp only[E']⟩;have Wu:=run_loadCells_list (P:=P) w ⟨b,off,none⟩ xs (λj u hu=>by rw[gU];exact i3 j u hu);rw[hl]at Wu;have hp:=λmsg=>BJ (P:=P) msg _ bs xs hb i1 .empty;simp only[Conv.bytesToString,Nat.mul_one,Sem.run_bind,Wu,Result.andThen_ok];rw[List.forIn_toArray];rw[show(.string ⟨bs.toArray⟩:Value)=.string ⟨ByteArray.empty.data++bs.toArray⟩ by rw[show ByteArray.empty.data=#[]from rfl,Array.empty_append]];have key:∀r:Result ByteArray,r=.ok ⟨ByteArray.empty.data++bs.toArray⟩ w->(r.andThen λa w'=>Sem.run P (pure (Value.string a)) w')=.ok (.string ⟨ByteArray.empty.data++bs.toArray⟩) w:=by
       rintro r rfl;simp
      exact key _ (hp _)
   .cases hv
  .cases hv
 .cases hv
def sQ{m:Bool}{x y v:V}{X Y:Value}(ts:Array TypeId)(t:TypeId)(hx:E' I ow w x X)(hy:E' I ow w y Y)(hv:cD m x y=some v):
 ∃z,(if m then(do pure (Next.value (<-Builtin.max_ ts t #[X,Y])):Sem Next)else(do pure (Next.value (<-Builtin.min_ ts t #[X,Y])))).run P w=.ok (.value z) w/\E' I ow w v z:=by
 unfold cD at hv;split at hv
 .rename_i k a k' b;split at hv
  .simp only[E']at hx hy;simp only[bh]at hv;subst hv hx hy;cases m
   .exact⟨_,by simp[Builtin.min_,Builtin.min2];rfl,by simp[E']⟩
   .exact⟨_,by simp[Builtin.max_,Builtin.max2];rfl,by simp[E']⟩
  .cases hv
 .cases hv
def yg{x y:V}{X Y:Value}{b:Bool}(hx:E' I ow w x X)(hy:E' I ow w y Y)(hv:cN x y=some b){t:TypeId}(ht:GB P t=true)(d:Nat)
 (VQ:(∃k,P.underlying t=some (.int k))->∃k n,x=.int k n)(htb:P.underlying t=some .bool->∃c,x=.bool c)(Xm:P.underlying t=some .string->∃c,x=.str c):
 (Op.equalIn (d+1) t X Y).run P w=.ok b w:=by
 unfold GB at ht;split at ht
 .rename_i k hk;obtain⟨k1,n1,rfl⟩:=VQ ⟨k,hk⟩;cases y<;>simp only[cN,reduceCtorEq]at hv;split at hv
  .rename_i ZD;simp only[bh]at hv;simp only[E']at hx hy;subst hx hy hv ZD;rw[run_equalIn_int w d t _ _ _ _ hk,pN]
  .cases hv
 .rename_i hk;obtain⟨c,rfl⟩:=htb hk;cases y<;>simp only[cN,reduceCtorEq,bh]at hv;simp only[E']at hx hy;subst hx hy hv;exact run_equalIn_bool' w d t _ _ hk
 .rename_i hk;obtain⟨c,rfl⟩:=Xm hk;cases y<;>simp only[cN,reduceCtorEq,bh]at hv;simp only[E']at hx hy;subst hx hy hv;rw[run_equalIn_string w d t _ _ hk];simp[ByteArray.toList_eq,pN]
 .cases ht
def kU(P:Program)(t:TypeId)(x:V):Bool:=match P.underlying t,x with
 |some (.int _),.int _ _=>true
 |some .bool,.bool _=>true
 |some .string,.str _=>true
 |_,_=>false
def nt{xs ys:List Value}{vs us:List V}(hx:aB I ow w vs xs)(hy:aB I ow w us ys)(d:Nat):∀(fl:List Field) (k:Nat) (b:Bool),
 fl.map (·.offset)=List.range' k fl.length->(∀f∈fl,GB P f.type=true/\f.name≠"_"/\cg P f.type=true)->(∀(j:Nat) f v,fl[j]?=some f->vs[k+j]?=some v->kU P f.type v=true)->
 vs.length=k+fl.length->us.length=k+fl.length->
 bS (vs.drop k) (us.drop k)=some b->(Op.eqFields (d+1) ⟨xs⟩ ⟨ys⟩ fl).run P w=.ok b w
 |[],k,b,_,_,_,h1,h2,h=>by
  simp only[List.length_nil,Nat.add_zero]at h1 h2;rw[List.drop_of_length_le (by omega),List.drop_of_length_le (by omega)]at h;simp only[bS,bh]at h;subst h;simp[Op.eqFields]
 |f::fl,k,b,ho,hf,hc,h1,h2,h=>by
  simp only[Uf]at h1 h2;simp only[ga,Uf,List.range'_succ,List.cons.injEq]at ho;obtain⟨e1,e2⟩:=ho;obtain⟨f1,f2,f3⟩:=hf f (by simp);have hkv:k<vs.length:=by omega
  have hku:k<us.length:=by omega
  rw[jt hkv,jt hku]at h;simp only[bS]at h;split at h
  .rename_i c b' hcell Vb;simp only[bh]at h;obtain⟨X,hX,hrX⟩:=hx.get (i:=k) (by rw[V7 hkv]);obtain⟨Y,hY,hrY⟩:=hy.get (i:=k) (by rw[V7 hku]);have U1:fX P f.type=false:=by
    unfold GB at f1;unfold fX;split at f1<;>simp_all
   have hp:∀(l:List Value) (Z:Value),l[k]?=some Z->(part f.type ⟨l⟩ f.offset).run P w=.ok Z w:=by
    intro l Z hZ;have:(⟨l⟩:Array Value)[k]?=some Z:=by simpa using hZ
    simp[part,qY (eS f3).1,U1,e1,this]
   have UT:=hc 0 f _ (by simp) (by rw[Nat.add_zero,V7 hkv]);have heq:=yg (P:=P) hrX hrY hcell f1 d
    (by rintro⟨kk,ZD⟩;unfold kU at UT;rw[ZD]at UT;generalize vs[k]=z at*;cases z<;>simp at UT;exact⟨_,_,rfl⟩)
    (by intro ZD;unfold kU at UT;rw[ZD]at UT;generalize vs[k]=z at*;cases z<;>simp at UT;exact⟨_,rfl⟩)
    (by intro ZD;unfold kU at UT;rw[ZD]at UT;generalize vs[k]=z at*;cases z<;>simp at UT;exact⟨_,rfl⟩)
   simp only[Op.eqFields,f2,ne_eq,not_false_eq_true,if_true,Sem.run_bind,hp xs X hX,hp ys Y hY,Result.andThen_ok,heq];cases c
   .simp at h;subst h;simp
   .simp only[Bool.true_and]at h;subst h;simp only[Bool.not_true,jb,if_false];exact nt hx hy d fl (k+1) b' e2 (λg hg=>hf g (by simp[hg])) (λj g v hg hv=>hc (j+1) g v (by simpa using hg) (by rw[show k+(j+1)=k+1+j by omega];exact hv)) (by omega) (by omega) Vb
  .cases h
def rZ:∀(fl:List Field) (vs:List V),dp (fl.map λf=>qh P f.type) vs=true->
 vs.length=fl.length/\∀(j:Nat) f v,fl[j]?=some f->vs[j]?=some v->kU P f.type v=true
 |[],[],_=>by simp
 |[],_::_,h=>by simp[dp]at h
 |f::fl,[],h=>by
  simp only[ga]at h;generalize qh P f.type=q at h;revert h
  match q with
  |0=>simp[dp]
  |1=>simp[dp]
  |2=>simp[dp]
  |n+3=>simp[dp]
 |f::fl,v::vs,h=>by
  have key:kU P f.type v=true/\dp (fl.map λf=>qh P f.type) vs=true:=by
   simp only[ga]at h;generalize (fl.map λf=>qh P f.type)=ks at h|-;unfold qh at h;unfold kU;cases hd:P.underlying f.type with
   |none=>rw[hd]at h;simp[dp]at h
   |some d=>
    rw[hd]at h;cases d<;>cases v<;>simp_all [dp]
  obtain⟨k1,k2⟩:=key;obtain⟨h1,h2⟩:=rZ fl vs k2;refine⟨by simp[h1],λj g u hg hu=>?_⟩;cases j with
  |zero=>simp at hg hu;subst hg hu;exact k1
  |succ j=>exact h2 j g u (by simpa using hg) (by simpa using hu)
def HK{t:TypeId}{fs:Array Field}(ht:P.underlying t=some (.struct fs))(hf:Hv P t fs=true){neg:Bool}{x y v:V}{X Y:Value}(hx:E' I ow w x X)(hy:E' I ow w y Y)
 (xo yo:Operand){op:BinOp}(Sc:op=if neg then .neq else .eql)(hv:ll neg (fs.toList.map λf=>qh P f.type) x y=some v):
 ∃z,(do eqGuard op t xo yo X Y;binOp op t X Y:Sem Value).run P w=.ok z w/\E' I ow w v z:=by
 unfold ll at hv;split at hv
 .rename_i vs us;split at hv
  .rename_i UT;split at hv
   .rename_i b hb;simp only[bh]at hv;subst hv;simp only[E']at hx hy;obtain⟨xs,rfl,hx1,_⟩:=hx;obtain⟨ys,rfl,hy1,_⟩:=hy;simp only[Hv,Ba,beq_iff_eq,Bool.not_eq_true',gj,bne_iff_ne,ne_eq]at hf;obtain⟨⟨⟨f1,f2⟩,f3⟩,f4⟩:=hf;obtain⟨g3,g2⟩:=UT;obtain⟨g1,g4⟩:=rZ (P:=P) fs.toList vs g3;have Xy:P.fieldsOf t=fs:=by simp[Program.fieldsOf,ht]
    have hE:=nt (P:=P) hx1 hy1 9998 fs.toList 0 b (by rw[f1];simp[List.range_eq_range']) (λf hf=>⟨(f2 f hf).1.1,(f2 f hf).1.2,(f2 f hf).2⟩)
     (λj f v hj hv=>by
       rw[kQ]at hv;exact g4 j f v hj hv) (by omega) (by omega) (by simpa using hb)
    have SQ:(Op.equalIn 10000 t (.agg ⟨xs⟩) (.agg ⟨ys⟩)).run P w=.ok b w:=by
     rw[run_equalIn_struct w 9999 t _ _ (by rw[Xy];exact ht) f3,Xy];exact hE
    have VK:=run_eqGuard_agg (P:=P) w op t xo yo ⟨xs⟩ ⟨ys⟩ f4;refine⟨.bool (if neg then !b else b),?_,by simp[E']⟩;simp only[Sem.run_bind,VK,Result.andThen_ok];cases neg<;>simp only[jb,if_false,if_true]at Sc|-<;>subst Sc
    .rw[run_eql_struct,SQ];rfl
    .rw[run_neq_struct,SQ];rfl
   .cases hv
  .cases hv
 .cases hv
def Bt{P:Program}(w:World){t e:TypeId}(ht:P.underlying t=some (.pointer e))(q:Option Addr):
 (binOp .eql t (.pointer q) (.pointer none)).run P w=.ok (.bool q.isNone) w/\(binOp .neq t (.pointer q) (.pointer none)).run P w=.ok (.bool (!q.isNone)) w:=by
 have he:(Op.equal t (.pointer q) (.pointer none)).run P w=.ok q.isNone w:=by
  unfold Op.equal;rw[show Op.maxDepth=9999+1 from rfl];generalize 9999=d;cases q<;>simp[Op.equalIn,run_underlying ht]
 exact⟨by simp[binOp,he],by simp[binOp,he]⟩
def si{F:Fr}{st:St}{a:Act}(hs:dS F I st a w)(o:Oper){v:V}(hp:fW st.s (SC P F.n o.op))(hv:aV st.U st.s (SC P F.n o.op)=some v):
 ∃z,(execOp a.eval o).run P w=.ok (.value z) w/\E' I (aO I st.U) w v z:=by
 have R:=cO hs;have VV:∀(x:Sem Value) (z:Value),x.run P w=.ok z w->(do pure (.value (<-x)):Sem Next).run P w=.ok (.value z) w:=λx z h=>by simp[h]
 unfold execOp;cases ho:o.op
 all_goals rw[ho]at hp hv;simp only[SC]at hp hv
 all_goals try (simp only[aV,reduceCtorEq]at hv;done)
 case move x=>simp only[aV,bh]at hv;subst hv;exact⟨_,rfl,R x⟩
 case assign x=>simp only[aV,bh]at hv;subst hv;exact⟨_,rfl,R x⟩
 case pick c x y=>
  simp only[aV]at hv;have hc:=R c;split at hv
  .rename_i t ht;rw[ht]at hc;simp only[E']at hc;simp only[bh]at hv;subst hv;cases t
   .exact⟨_,by simp[hc,asBool],R y⟩
   .exact⟨_,by simp[hc,asBool],R x⟩
  .cases hv
 case alloc=>(repeat' split at hv)<;>simp[aV]at hv
 case range=>(repeat' split at hv)<;>simp[aV]at hv
 case makeMap=>split at hv<;>simp[aV]at hv
 case insert=>(repeat' split at hv)<;>simp[aV]at hv
 case mapUpdate=>(repeat' split at hv)<;>simp[aV]at hv
 case lookup=>(repeat' split at hv)<;>simp[aV]at hv
 case makeInterface t x=>
  split at hv
  .rename_i hc;simp only[Ba,Bool.not_eq_true']at hc;simp only[aV,bh]at hv;subst hv;refine⟨.iface t (a.eval x),?_,by simp only[E'];exact⟨_,rfl,R x⟩⟩;refine VV _ _ ?_;cases hu:P.underlying t with
   |none=>rw[hu]at hc;simp at hc
   |some d=>
    cases d
    case interface ms=>simp[vH,hu]at hc
    all_goals simp[Instr.makeInterface,run_underlying hu]
  .simp[aV]at hv
 case typeAssert x xt t ok=>
  split at hv
  .simp[aV]at hv
  .rename_i hi;obtain⟨zv,z,hzv,hzr,hus,hv⟩:∃(zv:V) (z:Value),(zeroValue t).run P w=.ok z w/\E' I (aO I st.U) w zv z/\(P.underlying t).isSome=true/\aV st.U st.s (.more (.tas t ok zv) [cx F.n x])=some v:=by
    split at hv
    .rename_i i z hz;refine⟨_,z,eQ hz,nX z,?_,hv⟩;have hk:=(fG hz).2.2.1;simp only[cg,Ba]at hk;exact hk.1.2
    .split at hv
     .rename_i hn;obtain⟨_,h0,_⟩:=ru hn;exact⟨.agg [],.agg #[],wW hn,by simp only[E'];exact⟨[],rfl,by simp[aB],by simp⟩,by rw[h0];rfl,hv⟩
     .simp[aV]at hv
   .simp only[aV]at hv;have hx:=R x;obtain⟨d,hu,Th⟩:∃d,P.underlying t=some d/\∀ms,d≠.interface ms:=by
     cases hu:P.underlying t with
     |none=>simp[hu]at hus
     |some d=>exact⟨d,rfl,λms e=>hi (by simp[vH,hu,e])⟩
    have hfail:ok=true->(∀xx:Value,(Instr.typeAssert xx xt t ok).run P w=(do pure (Value.tuple #[<-zeroValue t,.bool false]):Sem Value).run P w->(Instr.typeAssert xx xt t ok).run P w=.ok (.tuple #[z,.bool false]) w):=λ_ xx h=>by
     rw[h];simp[hzv]
    unfold L9 at hv;split at hv
    .rename_i t' v' hxv;rw[hxv]at hx;simp only[E']at hx;obtain⟨y,hy,hry⟩:=hx;by_cases ht:t'=t
     .subst ht;rw[aI rfl]at hv;simp only[bh]at hv;subst hv;cases ok
      .refine⟨y,VV _ _ ?_,hry⟩;rw[hy];cases d
       case interface ms=>exact absurd rfl (Th ms)
       all_goals simp[Instr.typeAssert,run_underlying hu]
      .refine⟨.tuple #[y,.bool true],VV _ _ ?_,by simp only[if_true,E'];exact⟨_,rfl,by simp only[aB,E'];exact⟨_,_,rfl,hry,_,_,rfl,rfl,rfl⟩⟩⟩;rw[hy];cases d
       case interface ms=>exact absurd rfl (Th ms)
       all_goals simp[Instr.typeAssert,run_underlying hu]
     .rw[aK ht]at hv;cases ok
      .simp at hv
      .simp only[if_true,bh]at hv;subst hv;refine⟨.tuple #[z,.bool false],VV _ _ (hfail rfl _ ?_),by simp only[E'];exact⟨_,rfl,by simp only[aB,E'];exact⟨_,_,rfl,hzr,_,_,rfl,rfl,rfl⟩⟩⟩;rw[hy];cases d
       case interface ms=>exact absurd rfl (Th ms)
       all_goals simp[Instr.typeAssert,run_underlying hu,ht]
    .rename_i hxv;rw[hxv]at hx;simp only[E']at hx;cases ok
     .simp at hv
     .simp only[if_true,bh]at hv;subst hv;refine⟨.tuple #[z,.bool false],VV _ _ (hfail rfl _ ?_),by simp only[E'];exact⟨_,rfl,by simp only[aB,E'];exact⟨_,_,rfl,hzr,_,_,rfl,rfl,rfl⟩⟩⟩;rw[hx];cases d
      case interface ms=>exact absurd rfl (Th ms)
      all_goals simp[Instr.typeAssert,run_underlying hu]
    .cases hv
 case next it b=>cases b<;>simp[aV]at hv
 case buildSlice=>split at hv<;>(try split at hv)<;>(try split at hv)<;>simp[aV]at hv
 case makeSlice=>split at hv<;>(try split at hv)<;>(try split at hv)<;>simp[aV]at hv
 case build t parts=>
  split at hv
  .rename_i hn;simp only[Ba,beq_iff_eq]at hn;have hp:parts=#[]:=Array.eq_empty_of_size_eq_zero hn.2;subst hp;simp only[aV,VX.ev,bh]at hv;subst hv;exact⟨.agg #[],VV _ _ (by rw[Array.map_empty];exact BU hn.1),by simp only[E'];exact⟨[],rfl,by simp[aB],by simp⟩⟩
  split at hv
  .rename_i i z fs hz W1;split at hv
   .rename_i hk;simp only[aV,Zq8]at hv;obtain⟨cells,hb,rfl⟩:=hv;obtain⟨y,h1,h2⟩:=run_build hs hz W1 (by simpa only[Ba,gj,US]using hk) hb;exact⟨y,VV _ _ h1,h2⟩
   .simp[aV]at hv
  .rename_i i z k e hz W1;split at hv
   .rename_i hk;simp only[aV,Zq8]at hv;obtain⟨cells,hb,rfl⟩:=hv;obtain⟨y,h1,h2⟩:=Ce hs hz W1 hk hb;exact⟨y,VV _ _ h1,h2⟩
   .simp[aV]at hv
  .simp[aV]at hv
 case store=>(repeat' split at hv)<;>simp[aV]at hv
 case load t x=>
  split at hv
  .rename_i hk;simp only[aV]at hv;obtain⟨z,h1,h2⟩:=xr hs.sat hk (R x) hv;exact⟨z,VV _ _ h1,h2⟩
  .simp[aV]at hv
 case binOp op t x y yt=>
  have hplain:∀(hp:fW st.s (.bin op (cx F.n x) (cx F.n y))) (hv:aV st.U st.s (.bin op (cx F.n x) (cx F.n y))=some v),
   ∃z,(do pure (Next.value (<-(do eqGuard op t x y (a.eval x) (a.eval y);binOp op t (a.eval x) (a.eval y):Sem Value))):Sem Next).run P w=.ok (.value z) w/\E' I (aO I st.U) w v z:=by
   intro hp hv;simp only[aV,fW]at hv hp;obtain⟨z,h1,h2⟩:=IM (P:=P) (t:=t) (xo:=x) (yo:=y) (R x) (R y) hp hv;exact⟨z,VV _ _ h1,h2⟩
  split at hv
  .rename_i ht;have key:∀neg,(op=if neg then .neq else .eql)->aV st.U st.s (.Vr neg (cx F.n x) (cx F.n y))=some v->
    ∃z,(do pure (Next.value (<-(do eqGuard op t x y (a.eval x) (a.eval y);binOp op t (a.eval x) (a.eval y):Sem Value))):Sem Next).run P w=.ok (.value z) w/\E' I (aO I st.U) w v z:=by
    intro neg Sc hv;simp only[aV]at hv;have hx:=R x;have hy:=R y;generalize (cx F.n x).ev st.s=xv at*;generalize (cx F.n y).ev st.s=yv at*;unfold binBV at hv;split at hv
    .rename_i a' b';simp only[E']at hx hy;simp only[bh]at hv;subst hv;rw[hx,hy];refine⟨.bool (if neg then !(a'==b')else a'==b'),VV _ _ ?_,by simp only[E']⟩;cases neg<;>simp only[jb,if_false,if_true]at Sc<;>subst Sc
     .simp[eqGuard,run_eql_bool w t a' b' ht]
     .simp[eqGuard,run_neq_bool w t a' b' ht]
    .cases hv
   cases op<;>simp only[aV,reduceCtorEq]at hv
   .exact key false rfl (by simpa only[aV]using hv)
   .exact key true rfl (by simpa only[aV]using hv)
  .rename_i fs ht;split at hv
   .rename_i YY;have key:∀neg,(op=if neg then .neq else .eql)->aV st.U st.s (.eqS neg (fs.toList.map λf=>qh P f.type) (cx F.n x) (cx F.n y))=some v->
     ∃z,(do pure (Next.value (<-(do eqGuard op t x y (a.eval x) (a.eval y);binOp op t (a.eval x) (a.eval y):Sem Value))):Sem Next).run P w=.ok (.value z) w/\E' I (aO I st.U) w v z:=by
     intro neg Sc hv;simp only[aV]at hv;obtain⟨z,h1,h2⟩:=HK (P:=P) ht YY (R x) (R y) x y Sc hv;exact⟨z,VV _ _ h1,h2⟩
    cases op<;>simp only[aV,reduceCtorEq]at hv
    .exact key false rfl (by simpa only[aV]using hv)
    .exact key true rfl (by simpa only[aV]using hv)
   .simp[aV]at hv
  .rename_i h1 h2;split at hv
   .unfold cU at hv;split at hv
    .simp only[aV,VX.ev]at hv;unfold binBV at hv;split at hv
     .rename_i hx;cases hx
     .cases hv
    .simp[aV]at hv
   .rename_i hns;split at hv
    .split at hv
     .simp only[aV,VX.ev]at hv;unfold binBV at hv;split at hv
      .rename_i hx;cases hx
      .cases hv
     .simp[aV]at hv
    .rename_i hni;split at hv
     .split at hv
      .simp only[aV,VX.ev]at hv;unfold binBV at hv;split at hv
       .rename_i hx;cases hx
       .cases hv
      .simp[aV]at hv
     .rename_i hnf;split at hv
      .rename_i hnp;simp only[Ba]at hnp;obtain⟨hpt,YF⟩:=hnp;unfold Oh at hpt;split at hpt
       .rename_i e ht;unfold JM at YF;split at YF
        .split at hv
         .rename_i Sc;simp only[aV]at hv;have hx:=R x;generalize (cx F.n x).ev st.s=xv at*;have hY:a.eval (.const (.pointer none))=.pointer none:=rfl;have key:∀q:Option Addr,a.eval x=.pointer q->∃z,(do pure (Next.value (<-(do eqGuard op t x (.const (.pointer none)) (a.eval x) (a.eval (.const (.pointer none)));binOp op t (a.eval x) (a.eval (.const (.pointer none))):Sem Value))):Sem Next).run P w=.ok (.value z) w/\z=.bool (if op=.neq then !q.isNone else q.isNone):=by
           intro q hq;rw[hq,hY];obtain⟨q1,q2⟩:=Bt (P:=P) w ht q;have hg:∀op,(eqGuard op t x (.const (.pointer none)) (.pointer q) (.pointer none)).run P w=.ok () w:=by intro op;simp[eqGuard]
           rcases Sc with rfl|rfl
           .exact⟨_,by simp only[Sem.run_bind,hg,Result.andThen_ok,q1];rfl,by simp⟩
           .exact⟨_,by simp only[Sem.run_bind,hg,Result.andThen_ok,q2];rfl,by simp⟩
          unfold F9 at hv;split at hv
          .simp only[E']at hx;simp only[bh]at hv;subst hv;obtain⟨z,h3,rfl⟩:=key none hx;refine⟨_,h3,?_⟩;rcases Sc with rfl|rfl<;>simp[E']
          .simp only[E']at hx;split at hx
           .simp only[bh]at hv;subst hv;obtain⟨z,h3,rfl⟩:=key _ hx.1;refine⟨_,h3,?_⟩;rcases Sc with rfl|rfl<;>simp[E']
           .exact hx.elim
          .simp only[E']at hx;obtain⟨b,off,hx,_⟩:=hx;simp only[bh]at hv;subst hv;obtain⟨z,h3,rfl⟩:=key _ hx;refine⟨_,h3,?_⟩;rcases Sc with rfl|rfl<;>simp[E']
          .cases hv
         .simp[aV]at hv
        .cases YF
       .cases hpt
      .rename_i hnp;refine hplain ?_ hv;revert hp;split
       .rename_i h4;exact absurd h4 h1
       .rename_i fs h4;exact absurd h4 (h2 fs)
       .rw[aK hns,aK hni,aK hnf,aK hnp];exact id
 case nilCheck x=>
  simp only[aV]at hv;have hx:=R x;generalize (cx F.n x).ev st.s=xv at*;unfold bG at hv;split at hv
  .simp only[bh]at hv;subst hv;have SE:=hx;simp only[E']at SE;split at SE
   .exact⟨a.eval x,by simp[SE],hx⟩
   .exact SE.elim
  .simp only[bh]at hv;subst hv;have SE:=hx;simp only[E']at SE;obtain⟨b,off,e,_⟩:=SE;exact⟨a.eval x,by simp[e],hx⟩
  .simp only[bh]at hv;subst hv;have SE:=hx;simp only[E']at SE;obtain⟨R6,e,_⟩:=SE;exact⟨a.eval x,by simp[e],hx⟩
  .simp only[bh]at hv;subst hv;have SE:=hx;simp only[E']at SE;obtain⟨y,e,_⟩:=SE;exact⟨a.eval x,by simp[e],hx⟩
  .cases hv
 case box=>split at hv<;>simp[aV]at hv
 case unOp op t x=>
  have hx:=R x;cases op<;>simp only[aV,reduceCtorEq]at hv<;>simp only[fW]at hp
  .split at hv
   .rename_i k n hn;simp only[hn]at hx hp;simp only[E']at hx;simp only[bh]at hv;subst hv;simp only[Sn]at hp;exact⟨.int k (0-n),VV _ _ (by simp only[hx,Op.unary,Op.intArith];rw[hp];rfl),by simp[E']⟩
   .cases hv
  .split at hv
   .rename_i b hb;rw[hb]at hx;simp only[E']at hx;simp only[bh]at hv;subst hv;exact⟨.bool (!b),VV _ _ (by simp[hx,Op.unary]),by simp[E']⟩
   .cases hv
 case convert src dst x=>
  split at hv
  .rename_i k1 k2 h1 h2;simp only[h1,h2]at hp;have hx:=R x;simp only[aV,fW]at hv hp;split at hv
   .rename_i k n hn;rw[hn]at hx hp;simp only[E']at hx;simp only[bh]at hv;subst hv;simp only[Sn]at hp;refine⟨.int k2 n,VV _ _ ?_,by simp[E']⟩;simp[Go.convert,run_underlying h1,run_underlying h2,hx,Conv.intToInt,hp]
   .cases hv
  .rename_i e h1 h2;split at hv
   .rename_i h3;have h3:P.underlying e=some (.int .u8):=by
     unfold u8T at h3;split at h3
     .assumption
     .cases h3
    simp only[aV]at hv;obtain⟨z,g1,g2⟩:=B2 (P:=P) hs.sat (R x) hv;refine⟨z,VV _ _ ?_,g2⟩;obtain⟨b,n,c,hX⟩:∃b n c,a.eval x=.slice b n c:=by
     have hx:=R x;unfold dj at hv;split at hv
     .rename_i SE;rw[SE]at hx;simp only[E']at hx;exact⟨_,_,_,hx⟩
     .rename_i SE;rw[SE]at hx;simp only[E']at hx;split at hx
      .exact hx.elim
      .exact⟨_,_,_,hx.1⟩
      .obtain⟨o,c,h,_⟩:=hx;exact⟨_,_,_,h⟩
     .cases hv
    rw[hX]at g1|-;cases b<;>simp[Go.convert,run_underlying h1,run_underlying h2,run_underlying h3,g1]
   .simp[aV]at hv
  .split at hv<;>simp[aV]at hv
 case makeFunc fn first caps=>
  cases fn
  case func f=>
   by_cases h0:first.size=0
   .simp only[aI h0,aV,bh]at hv;subst hv;refine⟨.func (.func f) #[] (caps.map a.eval),VV _ _ ?_,?_⟩
    .have:first=#[]:=Array.eq_empty_of_size_eq_zero h0
     subst this;simp[Instr.makeFunc]
    .simp only[E'];exact⟨caps.toList.map a.eval,by congr 1;apply Array.ext';simp,ou hs _⟩
   .have ZZ:aV st.U st.s (if first.size=0 then SH.mkfn f (caps.toList.map (cx F.n))else if caps.size=0 then .more (.mkB f) (first.toList.map (cx F.n))else .bad)=some v:=hv;rw[aK h0]at ZZ;by_cases h1:caps.size=0
    .rw[aI h1]at ZZ;simp only[aV,bh]at ZZ;subst ZZ;refine⟨.func (.func f) (first.map a.eval) #[],VV _ _ ?_,?_⟩
     .have:caps=#[]:=Array.eq_empty_of_size_eq_zero h1;subst this;simp[Instr.makeFunc]
     .simp only[E'];exact⟨first.toList.map a.eval,by congr 1;apply Array.ext';simp,ou hs _⟩
    .rw[aK h1]at ZZ;simp only[aV,reduceCtorEq]at ZZ
  all_goals simp[aV]at hv
 case slice t x lo hi mx=>
  split at hv
  .rename_i e ht;split at hv
   .rename_i hk;simp only[Ba,kI]at hk;simp only[aV]at hv;obtain⟨z,h1,h2⟩:=uA hs.sat ht hk.1 (R x) (uQ hs lo) (uQ hs hi) (uQ hs mx)
     (by intro h;rcases hk.2 with h'|h'<;>cases mx<;>cases hi<;>simp_all) hv
    exact⟨z,VV _ _ h1,h2⟩
   .simp[aV]at hv
  .rename_i ht;split at hv
   .rename_i hm;simp only[aV]at hv;have hm':mx=none:=by simpa using hm
    subst hm';obtain⟨z,h1,h2⟩:=u7 (P:=P) ht (R x) (uQ hs lo) (uQ hs hi) hv;exact⟨z,VV _ _ h1,h2⟩
   .simp[aV]at hv
  .simp[aV]at hv
 case fieldAddr s x f=>
  split at hv
  .rename_i fs W1;split at hv
   .rename_i fd hfd;split at hv
    .rename_i hk;simp only[aV]at hv;obtain⟨z,h1,h2⟩:=El (P:=P) W1 hfd hk (R x) hv;exact⟨z,VV _ _ h1,h2⟩
    .simp[aV]at hv
   .simp[aV]at hv
  .simp[aV]at hv
 case field s x f=>
  split at hv
  .rename_i fs W1;split at hv
   .rename_i fd hfd;split at hv
    .rename_i hk;have hx:=R x;simp only[aV]at hv;unfold jE at hv;split at hv
     .rename_i vs hvs;rw[hvs]at hx;simp only[E']at hx;obtain⟨R6,hX,hr,h1⟩:=hx;obtain⟨z,hz,ZY⟩:=Aa (P:=P) (w:=w) hk hr h1 hv;exact⟨z,VV _ _ (by simp[Instr.field,run_underlying W1,hfd,hX,asAgg,hz]),ZY⟩
     .cases hv
    .simp[aV]at hv
   .simp[aV]at hv
  .simp[aV]at hv
 case indexAddr t x i=>
  split at hv
  .rename_i e ht;split at hv
   .rename_i hk;simp only[aV]at hv;obtain⟨z,h1,h2⟩:=Ed hs.sat ht hk (R x) (R i) hv;exact⟨z,VV _ _ h1,h2⟩
   .simp[aV]at hv
  .rename_i k e ht;split at hv
   .rename_i hk;simp only[aV]at hv;obtain⟨z,h1,h2⟩:=BD (P:=P) ht hk (R x) (R i) hv;exact⟨z,VV _ _ h1,h2⟩
   .simp[aV]at hv
  .simp[aV]at hv
 case index t x i=>
  split at hv
  .rename_i k e ht;split at hv
   .rename_i hk;simp only[aV]at hv;obtain⟨z,h1,h2⟩:=Ep (P:=P) ht hk (R x) (R i) hv;exact⟨z,VV _ _ h1,h2⟩
   .simp[aV]at hv
  .rename_i ht;simp only[aV]at hv;obtain⟨z,h1,h2⟩:=D4 (P:=P) ht (R x) (R i) hv;exact⟨z,VV _ _ h1,h2⟩
  .simp[aV]at hv
 case extract x i=>
  simp only[aV]at hv;have hx:=R x;unfold jD at hv;split at hv
  .rename_i vs hvs;rw[hvs]at hx;simp only[E']at hx;obtain⟨R6,hX,hr⟩:=hx;obtain⟨z,hz,ZY⟩:=hr.get hv;exact⟨z,VV _ _ (by simp[Instr.extract,hX,hz]),ZY⟩
  .cases hv
 case call c=>
  obtain⟨callee,args,argTypes⟩:=c;cases callee
  case value=>simp only[aV,reduceCtorEq]at hv
  case invoke=>simp only[aV,reduceCtorEq]at hv
  case builtin b=>
   cases b
   case delete=>simp only[]at hv;split at hv<;>(try split at hv)<;>simp[aV]at hv
   case copy=>simp only[]at hv;split at hv<;>(try split at hv)<;>(try split at hv)<;>simp[aV]at hv
   case len=>
    simp only[]at hv;split at hv
    .rename_i x t Tq ht;have hx:=R x;have VF:args=#[x]:=by apply Array.ext';simpa using Tq
     have hlen:∀z,(Builtin.len_ argTypes o.type #[a.eval x]).run P w=.ok z w->
      (do let d <-resolve a.eval { callee:=.builtin .len,args:=args,argTypes:=argTypes } o.type;invoke d.target d.args:Sem Next).run P w=.ok (.value z) w:=by
      intro z hz;simp[resolve,invoke,Go.builtin,VF,hz]
     have VQ:Builtin.len_ argTypes o.type #[a.eval x]=Builtin.len_ #[t] o.type #[a.eval x]:=by
      simp[Builtin.len_,ht]
     split at hv
     .rename_i e he;obtain⟨z,h1,h2⟩:=zJ (P:=P) hx (by simpa only[aV]using hv) o.type (t:=t) (by simp[he]);exact⟨z,hlen z (VQ▸h1),h2⟩
     .rename_i he;obtain⟨z,h1,h2⟩:=zJ (P:=P) hx (by simpa only[aV]using hv) o.type (t:=t) (by simp[he]);exact⟨z,hlen z (VQ▸h1),h2⟩
     .simp[aV]at hv
    .simp[aV]at hv
   case cap=>
    simp only[]at hv;split at hv
    .rename_i x t Tq ht;have hx:=R x;have VF:args=#[x]:=by apply Array.ext';simpa using Tq
     split at hv
     .rename_i W2;obtain⟨e,he⟩:∃e,P.underlying t=some (.slice e):=by
       unfold xO at W2;split at W2
       .rename_i e he;exact⟨e,he⟩
       .cases W2
      simp only[aV,jH]at hv;split at hv
      .rename_i hn;rw[hn]at hx;simp only[E']at hx;simp only[bh]at hv;subst hv;refine⟨.int .i64 0,?_,by simp[E']⟩;simp[resolve,invoke,Go.builtin,VF,Builtin.cap_,ht,run_underlying he,hx,goInt]
      .cases hv
     .simp[aV]at hv
    .simp[aV]at hv
   case min=>
    simp only[]at hv;split at hv
    .rename_i x y Tq;have VF:args=#[x,y]:=by apply Array.ext';simpa using Tq
     obtain⟨z,h1,h2⟩:=sQ (P:=P) (w:=w) (m:=false) argTypes o.type (R x) (R y) (by simpa only[aV]using hv);exact⟨z,by simpa[resolve,invoke,Go.builtin,VF]using h1,h2⟩
    .simp[aV]at hv
   case max=>
    simp only[]at hv;split at hv
    .rename_i x y Tq;have VF:args=#[x,y]:=by apply Array.ext';simpa using Tq
     obtain⟨z,h1,h2⟩:=sQ (P:=P) (w:=w) (m:=true) argTypes o.type (R x) (R y) (by simpa only[aV]using hv);exact⟨z,by simpa[resolve,invoke,Go.builtin,VF]using h1,h2⟩
    .simp[aV]at hv
   case clear=>
    simp only[]at hv;split at hv
    .split at hv
     .split at hv<;>simp[aV]at hv
     .simp[aV]at hv
    .simp[aV]at hv
   case append=>
    simp only[]at hv;split at hv
    .split at hv
     .split at hv
      .split at hv<;>simp[aV]at hv
      .simp[aV]at hv
     .split at hv
      .split at hv<;>simp[aV]at hv
      .split at hv<;>simp[aV]at hv
      .simp[aV]at hv
    .simp[aV]at hv
   all_goals simp[aV]at hv
variable {P:Program} {I:Mu} {ow:Nat->Prop} {w w':World}
def flat(rows:List V):List V:=rows.flatMap V.cells
def aW.append:∀{vs us:List V} {b off:Nat},aW I ow w (vs++us) b off↔aW I ow w vs b off/\aW I ow w us b (off+vs.length)
 |[],us,b,off=>by simp[aW]
 |v::vs,us,b,off=>by
  simp only[List.cons_append,aW,aW.append (vs:=vs),Uf];rw[show off+(vs.length+1)=off+1+vs.length by omega,and_assoc]
def jX:∀{rows:List V} {b off sz:Nat},bc I ow w rows b off sz↔(∀r∈rows,r.cells.length=sz)/\aW I ow w (flat rows) b off
 |[],b,off,sz=>by simp[bc,flat,aW]
 |r::rs,b,off,sz=>by
  have ih:=jX (rows:=rs) (b:=b) (off:=off+sz) (sz:=sz);simp only[bc,ih,ei];have e:flat (r::rs)=r.cells++flat rs:=by simp[flat]
  rw[e,aW.append];constructor
  .rintro⟨h1,h2,h3,h4⟩;exact⟨λx hx=>(ew.1 hx).elim (λe'=>e'▸h1) (h3 x),h2,by rw[h1];exact h4⟩
  .rintro⟨h1,h2,h3⟩;have h0:=h1 r (by simp);exact⟨h0,h2,λx hx=>h1 x (by simp[hx]),by rw[h0]at h3;exact h3⟩
def rH{rows:List V}{sz:Nat}(h:∀r∈rows,r.cells.length=sz):(flat rows).length=rows.length*sz:=by
 induction rows with
 |nil=>simp[flat]
 |cons r rs ih=>
  have e:flat (r::rs)=r.cells++flat rs:=by simp[flat]
  rw[e,kL,h r (by simp),ih (λx hx=>h x (by simp[hx])),Uf,Nat.add_mul];omega
def lD(a b:List V):flat (a++b)=flat a++flat b:=by simp[flat]
def lG:∀{vs:List V} {xs:List Value} {b off:Nat},aB I ow w vs xs->(∀u∈xs,u.oneCell'=true)->
 (∀(j:Nat) u,xs[j]?=some u->w.cell? ⟨b,off+j,none⟩=some u)->aW I ow w vs b off
 |[],_,_,_,_,_,_=>by simp[aW]
 |v::vs,l,b,off,h,h1,h2=>by
  simp only[aB]at h;obtain⟨x,xs,rfl,h3,h4⟩:=h;simp only[aW];refine⟨⟨x,by simpa using h2 0 x (by simp),h3,h1 x (by simp)⟩,lG h4 (λu hu=>h1 u (by simp[hu])) ?_⟩;intro j u hu;have:=h2 (j+1) u (by simpa using hu)
  rwa [show off+(j+1)=off+1+j by omega]at this
def bW(U:al):Option Nat->al
 |none=>U
 |some i=>del U i
def wR{U:al}{o:Option Nat}{i:Nat}{x:Ob}(h:bW U o i=some x):U i=some x/\some i≠o:=by
 cases o with
 |none=>exact⟨h,by simp⟩
 |some k=>
  simp only[bW,del]at h;split at h
  .cases h
  .rename_i Sh;exact⟨h,by simpa using Sh⟩
def Sat.dY{w0:World}{Tg:Nat->Prop}{U:al}(h:Sat w0 Tg I U w):∃id,I id=.dY/\U id=none/\∀p,∃N,∀i,N<=i->(λk=>if k=id then p else I k:Mu) i=.dY:=by
 obtain⟨N,hN⟩:=h.fin;refine⟨N,hN N (SD _),?_,λp=>⟨N+1,λi hi=>?_⟩⟩
 .cases ho:U N with
  |none=>rfl
  |some o=>
   have:=h.obj N o ho;rw[hN N (SD _)]at this;exact this.elim
 .simp[show i≠N by omega,hN i (by omega)]
def Sat.renew{w0:World}{Tg:Nat->Prop}{U:al}(h:Sat w0 Tg I U w){row:Option Nat}(hg:w.grownBy w' row)(idA:Option Nat)
 (hA:row=none\/∃i oA sz cap b,idA=some i/\U i=some oA/\I i=.SZ b sz cap/\row=some b)
 (b sz cap:Nat)(cur:Array Value)(e:TypeId)(rows:List V)(xs:List Value)(hb:some b=row\/w.heap.size<=b)
 (YZ:w'.heap[b]?=some (.cells cur e (0,0)))(TU:0<sz)(hcur:cur.size=cap*sz)(Sx:rows.length<=cap)(ZW:cap<=maxLen)
 (hlen:∀r∈rows,r.cells.length=sz)(hx:aB I (aO I U) w (flat rows) xs)(Sz:∀u∈xs,u.oneCell'=true)
 (VS:∀(j:Nat) u,xs[j]?=some u->cur[j]?=some u):
 ∃id,U id=none/\∃Y':Mu,Y' id=.SZ b sz cap/\dG I Y'/\Sat w0 Tg Y' (C' (bW U idA) id ⟨e,sz,rows⟩) w'/\
  dB (aO I U) (aO Y' (C' (bW U idA) id ⟨e,sz,rows⟩)) w w':=by
 obtain⟨id,L',Su,SO⟩:=h.dY;refine⟨id,Su,λk=>if k=id then .SZ b sz cap else I k,by simp,λk hk=>?_,?_⟩
 .have:k≠id:=λe'=>hk (e'▸L');simp[this]
 .have hle:dG I (λk=>if k=id then .SZ b sz cap else I k):=λk hk=>by
   have:k≠id:=λe'=>hk (e'▸L');simp[this]
  have TH:∀b',row=some b'->aO I U b':=λb' UY=>by
   rcases hA with h1|⟨i,oA,UP,Tz,b'',h1,h2,h3,h4⟩
   .rw[h1]at UY;cases UY
   .rw[h4]at UY;cases UY;exact⟨i,oA,UP,Tz,h2,h3⟩
  refine h.put hg TH hle (SO _) id ⟨e,sz,rows⟩ (λo ho=>?_) (λi o hi ho=>?_) (λb' UP Tz UY=>?_) (λhk=>?_)
  .simp[C']at ho;exact ho.symm
  .simp only[C',aK hi]at ho;obtain⟨h1,h2⟩:=wR ho;refine⟨h1,λb' UP Tz h3 h4=>?_⟩;rcases hA with h5|⟨iA,oA,szA,capA,bA,h5,h6,h7,h8⟩
   .rw[h5]at h4;cases h4
   .rw[h8]at h4;cases h4;have:=h.inj i iA o oA _ _ _ _ _ h1 h6 h3 h7;exact h2 (by rw[this,h5])
  .simp only[if_true,Pl.SZ.injEq]at UY;rw[<-UY.1];exact hb
  .simp only[if_true,nb];refine .inl ⟨cur,YZ,trivial,TU,hcur,Sx,ZW,?_⟩;rw[jX];refine⟨hlen,lG (aB.mono hle hk hg.size _ _ hx) Sz ?_⟩;intro j u hu;rw[cell_of_row w' b _ cur e (0,0) YZ];simpa using VS j u hu
def Sat.Hd{w0:World}{Tg:Nat->Prop}{U:al}(h:Sat w0 Tg I U w)(idA:Option Nat)(e:TypeId)(sz:Nat):
 ∃id,U id=none/\∃Y':Mu,Y' id=.nil/\dG I Y'/\Sat w0 Tg Y' (C' (bW U idA) id ⟨e,sz,[]⟩) w/\
  dB (aO I U) (aO Y' (C' (bW U idA) id ⟨e,sz,[]⟩)) w w:=by
 obtain⟨id,L',Su,SO⟩:=h.dY;have hle:dG I (λk=>if k=id then .nil else I k):=λk hk=>by
  have:k≠id:=λe'=>hk (e'▸L');simp[this]
 refine⟨id,Su,λk=>if k=id then .nil else I k,by simp,hle,?_⟩;refine h.put (row:=none) ⟨rfl,rfl,rfl,SD _,λ_ _ _=>rfl⟩ (by simp) hle (SO _) id ⟨e,sz,[]⟩ (λo ho=>?_) (λi o hi ho=>?_) (λb' UP Tz UY=>?_) (λhk=>?_)
 .simp[C']at ho;exact ho.symm
 .simp only[C',aK hi]at ho;exact⟨(wR ho).1,by simp⟩
 .simp at UY
 .simp[nb]
def Sat.change{w0:World}{Tg:Nat->Prop}{U:al}(h:Sat w0 Tg I U w){id b sz cap:Nat}{o:Ob}(ho:U id=some o)(L':I id=.SZ b sz cap)(hz:0<sz)
 (hg:w.grownBy w' (some b))(cur:Array Value)(rows:List V)(xs:List Value)
 (YZ:w'.heap[b]?=some (.cells cur o.elem (0,0)))(hcur:cur.size=cap*sz)(Sx:rows.length<=cap)
 (hlen:∀r∈rows,r.cells.length=sz)(hx:aB I (aO I U) w (flat rows) xs)(Sz:∀u∈xs,u.oneCell'=true)
 (VS:∀(j:Nat) u,xs[j]?=some u->cur[j]?=some u):
 Sat w0 Tg I (C' U id { o with rows:=rows }) w'/\dB (aO I U) (aO I (C' U id { o with rows:=rows })) w w':=by
 have T0:=h.obj id o ho;rw[L']at T0;obtain⟨_,_,h2,h3,_,_,h6,_⟩:=T0.plain hz;refine h.put hg (λb' UY=>by cases UY;exact⟨id,o,sz,cap,ho,L'⟩) (dG.refl _) h.fin id { o with rows:=rows } (λx SE=>by simp[C']at SE;exact SE.symm)
  (λi x hi SE=>?_) (λb' UP Tz UY=>?_) (λhk=>?_)
 .simp only[C',aK hi]at SE;refine⟨SE,λb' UP Tz h4 h5=>hi ?_⟩;cases h5;exact h.inj i id x o _ _ _ _ _ SE ho h4 L'
 .rw[L']at UY;cases UY;exact .inl rfl
 .rw[L'];refine .inl ⟨cur,YZ,h2,h3,hcur,Sx,h6,?_⟩;rw[jX];refine⟨hlen,lG (aB.mono (dG.refl _) hk hg.size _ _ hx) Sz ?_⟩;intro j u hu;rw[cell_of_row w' b _ cur o.elem (0,0) YZ];simpa using VS j u hu
def bb(s:Nat->V):Option Nat->V->Nat->V
 |none,_=>s
 |some d,v=>λi=>if i=d then v else s i
def dS.step{F:Fr}{Y':Mu}{st:St}{a:Act}{Z':al}(hs:dS F I st a w)(h1:Sat F.w0 F.Tg Y' Z' w')(h2:dG I Y')
 (h3:dB (aO I st.U) (aO Y' Z') w w')(h4:w.heap.size<=w'.heap.size){d:Option Tmp}{v:V}{x:Value}(hv:E' Y' (aO Y' Z') w' v x):
 dS F Y' ⟨bb st.s (d.filter (·<F.n)) v,Z'⟩ (a.put d x) w' where
 sat:=h1
 le:=hs.le.trans h2
 size:=by cases d<;>simp[Act.put,hs.size]
 book:=by
  have:=hs.book.wj h3;cases d<;>simpa[Act.put]using this
 slot:=λi hi=>by
  have hold:=E'.mono h2 h3 h4 _ _ (hs.slot i hi);cases d with
  |none=>simpa[Act.put,bb]using hold
  |some d=>
   simp only[Act.put,Option.filter_some];by_cases hd:d<F.n
   .simp only[hd,decide_true,if_true,bb];by_cases L':i=d
    .subst L';simp only[if_true];rw[VJ,Array.getElem?_setIfInBounds_self_of_lt (by rw[hs.size];exact hi)];exact hv
    .simp only[aK L'];rw[VJ,Array.getElem?_setIfInBounds_ne (λe=>L' e.symm),<-VJ];exact hold
   .simp only[hd,decide_false,jb,if_false,bb];rw[VJ,Array.getElem?_setIfInBounds_ne (λ(e:d=i)=>hd (e▸hi)),<-VJ];exact hold
def dS.pure{F:Fr}{st:St}{a:Act}(hs:dS F I st a w){d:Option Tmp}{v:V}{x:Value}(hv:E' I (aO I st.U) w v x):
 dS F I ⟨bb st.s (d.filter (·<F.n)) v,st.U⟩ (a.put d x) w:=
 hs.step hs.sat (dG.refl _) (λ_ _ h=>⟨h,rfl⟩) (SD _) hv
variable {P:Program} {I:Mu} {ow:Nat->Prop} {w w':World}
def cd(r:V)(k sz:Nat)(x:V):Option V:=
 if x.cells.length=sz/\x.stays=true then
  (if k=0/\r.cells.length=sz then some x
   else if k+sz<=r.cells.length then some (.agg (r.cells.take k++x.cells++r.cells.drop (k+sz)))else none)
 else none
def wm{r x r':V}{k sz:Nat}(h:cd r k sz x=some r'):x.cells.length=sz/\x.stays=true/\k+sz<=r.cells.length/\
 r'.cells=r.cells.take k++x.cells++r.cells.drop (k+sz):=by
 unfold cd at h;split at h
 .rename_i h1;split at h
  .rename_i h2;obtain⟨rfl,h3⟩:=h2;simp only[bh]at h;subst h;refine⟨h1.1,h1.2,by omega,?_⟩;simp[h3]
  .split at h
   .rename_i h3;simp only[bh]at h;subst h;exact⟨h1.1,h1.2,h3,by simp[V.cells]⟩
   .cases h
 .cases h
def Fj{rows:List V}{sz0:Nat}(hlen:∀r∈rows,r.cells.length=sz0){i:Nat}{r r':V}(hr:rows[i]?=some r){k sz:Nat}{xs:List V}
 (hk:k+sz<=sz0)(hc:r'.cells=r.cells.take k++xs++r.cells.drop (k+sz)):
 flat (rows.set i r')=(flat rows).take (i*sz0+k)++xs++(flat rows).drop (i*sz0+k+sz):=by
 induction rows generalizing i with
 |nil=>simp at hr
 |cons q rows ih=>
  have hq:=hlen q (by simp);have e:∀l,flat (q::l)=q.cells++flat l:=λl=>by simp[flat]
  cases i with
  |zero=>
   simp only[EU,bh]at hr;subst hr;simp only[List.set_cons_zero,Nat.zero_mul,kQ];rw[e,show flat (r'::rows)=r'.cells++flat rows by simp[flat],hc];rw[M3 (by omega),zS (by omega)];simp
  |succ i=>
   simp only[GM]at hr;simp only[List.set_cons_succ];rw[e,e,ih (λx hx=>hlen x (by simp[hx])) hr];have e1:(i+1)*sz0+k=q.cells.length+(i*sz0+k):=by rw[hq,Nat.add_mul];omega
   have e2:(i+1)*sz0+k+sz=q.cells.length+(i*sz0+k+sz):=by omega
   rw[e1,show q.cells.length+(i*sz0+k)+sz=q.cells.length+(i*sz0+k+sz) by omega,List.take_length_add_append,List.drop_length_add_append];simp
def oM{α:Type}(l xs R6:List α)(h:∀(j:Nat) u,xs[j]?=some u->l[j]?=some u)(o:Nat)(ho:o+R6.length<=xs.length):
 ∀(j:Nat) u,(xs.take o++R6++xs.drop (o+R6.length))[j]?=some u->(l.take o++R6++l.drop (o+R6.length))[j]?=some u:=by
 have hl:xs.length<=l.length:=by
  rcases Nat.lt_or_ge l.length xs.length with h1|h1
  .have h2:=h l.length xs[l.length] (by simp[h1]);simp at h2
  .exact h1
 intro j u hu;simp only[mY]at hu|-;rw[KB]at hu|-;simp only[mf,Nat.min_eq_left (show o<=xs.length by omega),Nat.min_eq_left (show o<=l.length by omega)]at hu|-;split at hu
 .rename_i h1;rw[aI h1];rw[List.getElem?_take_of_lt h1]at hu|-;exact h j u hu
 .rename_i h1;rw[aK h1];rw[KB]at hu|-;split at hu
  .rename_i h2;rw[aI h2];exact hu
  .rename_i h2;rw[aK h2];rw[K9]at hu|-;exact h _ u hu
def bc.cur{rows:List V}{b sz:Nat}{cur:Array Value}{e:TypeId}{fr:Nat×Nat}(h:bc I ow w rows b 0 sz)(hc:w.heap[b]?=some (.cells cur e fr)):
 (∀r∈rows,r.cells.length=sz)/\∃xs,aB I ow w (flat rows) xs/\(∀u∈xs,u.oneCell'=true)/\xs.length=rows.length*sz/\∀(j:Nat) u,xs[j]?=some u->cur.toList[j]?=some u:=by
 rw[jX]at h;obtain⟨h1,h2⟩:=h;obtain⟨xs,h3,h4,h5⟩:=h2.CD;refine⟨h1,xs,h3,h4,by rw[h3.length,rH h1],λj u hu=>?_⟩;have:=h5 j u hu;rw[cell_of_row w b _ cur e fr hc]at this;simpa using this
def sW{F:Fr}{st:St}{a:Act}(hs:dS F I st a w){o:Oper}{t:TypeId}{x y:Operand}(Yi:o.op=.store t x y)(hk:cg P t=true)
 {id i k:Nat}(h1:(cx F.n x).ev st.s=.ptr id i k){ob:Ob}(h2:st.U id=some ob){r r':V}(h3:ob.rows[i]?=some r)(h4:cd r k (P.cellsOf t) ((cx F.n y).ev st.s)=some r'):
 ∃w',(execOp a.eval o).run P w=.ok .skip w'/\dS F I ⟨bb st.s (o.dst.filter (·<F.n)) (.Sa []),C' st.U id { ob with rows:=ob.rows.set i r' }⟩ (a.put o.dst undef) w':=by
 have R:=cO hs;obtain⟨c1,c2,c3,c4⟩:=wm h4;have hx:=R x;have hy:=R y;rw[h1]at hx;simp only[E']at hx;split at hx
 .rename_i b Wt cap L';have TT:=hs.sat.obj id ob h2;rw[L']at TT;obtain⟨hx,hz⟩:=hx;obtain⟨cur,e1,e2,e3,e4,e5,e6,e7⟩:=TT.plain hz;obtain⟨g1,xs,g2,g3,g4,g5⟩:=e7.cur e1;obtain⟨v1,v2⟩:=hy.cells c2;have vl:=hy.kx c2;have hr:r∈ob.rows:=F0 h3;have XQ:=g1 r hr;have hilt:i<ob.rows.length:=(rz.1 h3).1;have hbound:i*Wt+k+P.cellsOf t<=ob.rows.length*Wt:=by
   have:(i+1)*Wt<=ob.rows.length*Wt:=Nat.mul_le_mul_right _ hilt;rw[Nat.add_mul]at this;omega
  have hbound2:ob.rows.length*Wt<=cap*Wt:=Nat.mul_le_mul_right _ e5;have hvl:(a.eval y).cells.toList.length=P.cellsOf t:=by rw[Array.length_toList,vl,c1]
  have Sg:=run_storeCells_at P b (i*Wt+k) ob.elem (a.eval y).cells.toList 0 cur w e1 (by rw[hvl];omega) v2;simp only[Nat.add_zero]at Sg;refine⟨w.setRow b (cur.toList.take (i*Wt+k)++(a.eval y).cells.toList++cur.toList.drop (i*Wt+k+(a.eval y).cells.toList.length)).toArray,?_,?_⟩
  .unfold execOp;rw[Yi];simp only[Sem.run_bind,Instr.storeAt,hx,Instr.sureAddr,Sem.run_pure,Result.andThen_ok,storeVar,dn hk,Sem.run_ite,vl,c1,ne_eq,not_true_eq_false,if_false,Sg]
  .have hgrow:w.grownBy (w.setRow b (cur.toList.take (i*Wt+k)++(a.eval y).cells.toList++cur.toList.drop (i*Wt+k+(a.eval y).cells.toList.length)).toArray) (some b):=
    ⟨rfl,rfl,rfl,by simp,λkk _ ZD=>setRow_other w b kk _ (λe=>ZD (by rw[e]))⟩
   have hrows':∀q∈ob.rows.set i r',q.cells.length=Wt:=by
    intro q hq;rcases List.mem_or_eq_of_mem_set hq with hq|rfl
    .exact g1 q hq
    .rw[c4];simp;omega
   have YY:=Fj g1 h3 (k:=k) (sz:=P.cellsOf t) (xs:=V.cells ((cx F.n y).ev st.s)) (r':=r') (by omega) c4;have hch:=hs.sat.change h2 L' hz hgrow _ (ob.rows.set i r') (xs.take (i*Wt+k)++(a.eval y).cells.toList++xs.drop (i*Wt+k+(a.eval y).cells.toList.length))
    (setRow_heap w b cur _ ob.elem _ e1) (by simp only[List.size_toArray,kL,mf,D5,Array.length_toList];rw[Array.length_toList]at hvl;omega) (by simpa using e5) hrows'
    (by rw[YY,<-c1,<-v1.length];rw[show(a.eval y).cells.toList.length=(a.eval y).cells.toList.length from rfl];exact((g2.take _).append v1).append (g2.drop _))
    (by intro u hu
        simp only[gl]at hu;rcases hu with(hu|hu)|hu
        .exact g3 u (ym hu)
        .exact v2 u hu
        .exact g3 u (List.mem_of_mem_drop hu))
    (by intro j u hu
        have:=oM cur.toList xs _ g5 (i*Wt+k) (by rw[hvl,g4];omega) j u hu;simpa using this)
   exact hs.step hch.1 (dG.refl _) hch.2 (by simp) (by simp only[E'];exact⟨[],rfl,by simp[aB]⟩)
 .exact hx.elim
def iD{z:Value}(h:∀u∈z.cells.toList,u.oneCell'=true):(ofValue z).cells=z.cells.toList.map cellOf:=by
 unfold ofValue;split
 .rename_i cs;rw[aI (by simpa only[gj,Value.cells]using h)];simp[V.cells,Value.cells]
 .rename_i hz;have hc:z.cells=#[z]:=by cases z<;>simp_all [Value.cells]
  have h1:=h z (by simp[hc]);rw[hc];simpa using ra (I:=λ_=>.dY) (ow:=λ_=>True) (w:=default) (pk z) h1
def sM{F:Fr}{st:St}{a:Act}(hs:dS F I st a w){o:Oper}{t:TypeId}(Yi:o.op=.alloc t){i:TypeInfo}{z:Value}(hz:zeroOf P t=some (i,z)):
 ∃id,st.U id=none/\∃x w' Y',(execOp a.eval o).run P w=.ok (.value x) w'/\
  dS F Y' ⟨bb st.s (o.dst.filter (·<F.n)) (.ptr id 0 0),C' st.U id ⟨t,i.size,[ofValue z]⟩⟩ (a.put o.dst x) w':=by
 obtain⟨hi,hz0,hk,hzs,Sz,TU⟩:=fG hz;have Ul:=(eS hk).2.2;have Tr:=iD Sz;obtain⟨id,L',Y',h1,h2,h3,h4⟩:=hs.sat.renew (row:=none) (World.grownBy_alloc w (.cells z.cells t) none) none (.inl rfl) w.heap.size i.size 1 z.cells t [ofValue z] z.cells.toList (.inr (SD _))
  (heap_alloc_new w _) (by omega) (by omega) (by simp) (by simp[maxLen]) (by intro r hr;simp at hr;subst hr;rw[Tr];simp[hzs])
  (by simp only[flat,yb,List.flatMap_nil,kr,Tr];exact gg _) Sz (by intro j u hu;simpa using hu)
 refine⟨id,L',.pointer (some ⟨w.heap.size,0,none⟩),w.alloc (.cells z.cells t),Y',?_,hs.step h3 h2 h4 (by simp) (by simp[E',h1];omega)⟩;unfold execOp;rw[Yi];simp[Instr.alloc,eQ hz,newVar,newRow]
def uX{β:Type}(X:Nat×β->List Value)(sz:Nat):∀(ps:List (Nat×β)) (k:Nat) (l:List Value),ps.map (·.1)=List.range' k ps.length->
 (∀p∈ps,(X p).length=sz)->l.length=(k+ps.length)*sz->ps.foldl (λl p=>bJ l (p.1*sz) (X p)) l=l.take (k*sz)++ps.flatMap X
 |[],k,l,_,_,hl=>by
  simp only[List.length_nil,Nat.add_zero]at hl;simp[<-hl]
 |p::ps,k,l,h,hX,hl=>by
  simp only[ga,Uf,List.range'_succ,List.cons.injEq]at h;obtain⟨h1,h2⟩:=h;have hp:=hX p (by simp);simp only[Uf]at hl;have hle:k*sz+sz<=l.length:=by
   rw[hl,<-Nat.add_one_mul];exact Nat.mul_le_mul_right _ (by omega)
  simp only[jW,yb];rw[uX X sz ps (k+1) _ h2 (λq hq=>hX q (by simp[hq])) (by
   rw[lH _ _ _ (by rw[h1,hp];exact hle),hl];congr 1;omega)]
  rw[h1,bJ,hp,Nat.add_one_mul];have e1:(l.take (k*sz)).length=k*sz:=by simp;omega
  have e2:k*sz+sz=(l.take (k*sz)++X p).length:=by rw[kL,e1,hp]
  rw[e2,List.take_left];simp
def qI{F:Fr}{st:St}{a:Act}(hs:dS F I st a w){o:Oper}{t e:TypeId}{len:Nat}{parts:Array (Nat×Operand)}(Yi:o.op=.buildSlice t len parts)
 (ht:P.underlying t=some (.slice e)){i:TypeInfo}{z:Value}(hz:zeroOf P e=some (i,z))(hparts:parts.toList.map (·.1)=List.range len)(hlen:len*i.size<=16777216)
 (hx:∀x∈parts.toList.map (λp=>(cx F.n p.2).ev st.s),x.cells.length=i.size/\x.stays=true):
 ∃id,st.U id=none/\∃x w' Y',(execOp a.eval o).run P w=.ok (.value x) w'/\
  dS F Y' ⟨bb st.s (o.dst.filter (·<F.n)) (.own id 0 len),C' st.U id ⟨e,i.size,parts.toList.map λp=>(cx F.n p.2).ev st.s⟩⟩ (a.put o.dst x) w':=by
 obtain⟨hi,hz0,hk,hzs,Sz,TU⟩:=fG hz;have Ul:=(eS hk).2.2;have hl:parts.toList.length=len:=by
  have:=congrArg List.length hparts;simpa using this
 have hX:∀p∈parts.toList,((cx F.n p.2).ev st.s).cells.length=i.size/\((cx F.n p.2).ev st.s).stays=true:=λp hp=>hx _ (by
  simp only[iE];exact⟨p,hp,rfl⟩)
 have hXl:∀p∈parts.toList,(a.eval p.2).cells.toList.length=i.size:=λp hp=>by
  rw[Array.length_toList,(cO hs p.2).kx (hX p hp).2,(hX p hp).1]
 have hzero:∃Z:Array Value,(len*i.size=0->Z=#[])/\(len*i.size≠0->Z=z.cells):=by
  by_cases h0:len*i.size=0
  .exact⟨#[],λ_=>rfl,λh=>absurd h0 h⟩
  .exact⟨z.cells,λh=>absurd h h0,λ_=>rfl⟩
 obtain⟨Z,hZ0,hZ1⟩:=hzero;obtain⟨cs,e1,e2,e3⟩:=oG (λk=>some (k*i.size,i.size)) ((parts.map λ(j,x)=>(j,a.eval x)).toList) ((Array.range (len*i.size)).map (Z[·%Z.size]!)) (by
  intro p hp;simp only[Array.toList_map,iE]at hp;obtain⟨q,hq,rfl⟩:=hp;refine⟨q.1*i.size,i.size,rfl,by simpa using hXl q hq,?_⟩;have:q.1∈List.range len:=by rw[<-hparts];exact iE.2 ⟨q,hq,rfl⟩
  simp only[List.mem_range]at this;simp only[Array.size_map,Array.size_range];rw[<-Nat.add_one_mul];exact Nat.mul_le_mul_right _ this)
 have XR:cs.toList=parts.toList.flatMap λp=>(a.eval p.2).cells.toList:=by
  have e3':=e3;simp only[Array.toList_map,List.foldl_map,Option.map_some,Option.getD_some]at e3';rw[e3'];have:=uX (λp:Nat×Operand=>(a.eval p.2).cells.toList) i.size parts.toList 0 ((Array.range (len*i.size)).map (Z[·%Z.size]!)).toList
   (by rw[hparts,hl];exact List.range_eq_range') hXl (by simp[hl])
  simpa using this
 have hsize:cs.size=len*i.size:=by simpa using e2
 have TV:∀(l:List (Nat×Operand)),(∀p∈l,((cx F.n p.2).ev st.s).stays=true)->aB I (aO I st.U) w (flat (l.map λp=>(cx F.n p.2).ev st.s)) (l.flatMap λp=>(a.eval p.2).cells.toList)/\
  ∀u∈l.flatMap λp=>(a.eval p.2).cells.toList,u.oneCell'=true:=by
  intro l
  induction l with
  |nil=>intro _;simp[flat,aB]
  |cons p l ih=>
   intro h;obtain⟨g1,g2⟩:=(cO hs p.2).cells (h p (by simp));obtain⟨g3,g4⟩:=ih (λq hq=>h q (by simp[hq]));refine⟨?_,?_⟩
   .simp only[flat,ga,yb]at g3|-;exact g1.append g3
   .intro u hu;simp only[yb,gl]at hu;rcases hu with hu|hu
    .exact g2 u hu
    .exact g4 u hu
 obtain⟨r1,r2⟩:=TV parts.toList (λp hp=>(hX p hp).2);have hmax:len<=maxLen:=by
  have:len*1<=len*i.size:=Nat.mul_le_mul_left _ (by omega);simp only[maxLen];omega
 obtain⟨id,L',Y',h1,h2,h3,h4⟩:=hs.sat.renew (row:=none) (World.grownBy_alloc w (.cells cs e) none) none (.inl rfl) w.heap.size i.size len cs e
  (parts.toList.map λp=>(cx F.n p.2).ev st.s) cs.toList (.inr (SD _))
  (heap_alloc_new w _) (by omega) hsize (by simp[hl]) hmax (by intro r hr;simp only[iE]at hr;obtain⟨p,hp,rfl⟩:=hr;exact(hX p hp).1)
  (by rw[XR];exact r1) (by rw[XR];exact r2) (by intro j u hu;simpa using hu)
 refine⟨id,L',.slice (some ⟨w.heap.size,0,none⟩) len len,w.alloc (.cells cs e),Y',?_,hs.step h3 h2 h4 (by simp) ?_⟩
 .have e1':=e1;simp only[Array.toList_map]at e1';unfold execOp;rw[Yi];simp only[Instr.buildSlice,Sem.run_bind,run_underlying ht,Result.andThen_ok,dn hk,<-TU,Sem.run_ite];rw[aK (by omega)];by_cases h0:len*i.size=0
  .rw[hZ0 h0]at e1';rw[aI h0];simp only[Sem.run_pure,Result.andThen_ok,Array.toList_map];rw[e1'];simp[newRow]
  .rw[hZ1 h0]at e1';rw[aK h0];simp only[Sem.run_pure,Result.andThen_ok,Array.toList_map,eQ hz];rw[e1'];simp[newRow]
 .simp only[E',h1];exact⟨0,len,rfl,SD _,by omega,.inl (by omega),by omega⟩
def kR(z:Array Value)(n:Nat):(Builtin.zeroCells z n).toList=(List.replicate n z.toList).flatten:=by
 induction n with
 |zero=>simp[Builtin.zeroCells]
 |succ n ih=>
  rw[List.replicate_succ',List.flatten_append,<-ih];simp only[Builtin.zeroCells,Array.toList_map,Array.toList_range];rw[Nat.add_mul,Nat.one_mul,List.range_add,fw,List.map_map];congr 1;simp only[List.flatten_cons,List.flatten_nil,kr];apply List.ext_getElem
  .simp
  .intro i h1 h2;simp only[dO,List.length_range]at h1;simp[Nat.add_mod,Nat.mul_mod_left,Nat.mod_eq_of_lt h1,getElem!_pos,h1]
def uE(z:V)(n:Nat):flat (List.replicate n z)=(List.replicate n z.cells).flatten:=by
 simp[flat,List.flatMap]
def At{F:Fr}{st:St}{a:Act}(hs:dS F I st a w){o:Oper}{t e:TypeId}{l c:Operand}(Yi:o.op=.makeSlice t l c)(heq:tI l c=true)
 (ht:P.underlying t=some (.slice e)){i:TypeInfo}{z:Value}(hz:zeroOf P e=some (i,z)){m:Int}(hm:(cx F.n l).ev st.s=.int .i64 m)(h0:0<=m)
 (hb:m.toNat*(i.bytes+1)<=140737488355328):
 ∃id,st.U id=none/\∃x w' Y',(execOp a.eval o).run P w=.ok (.value x) w'/\
  dS F Y' ⟨bb st.s (o.dst.filter (·<F.n)) (.own id 0 m.toNat),C' st.U id ⟨e,i.size,List.replicate m.toNat (ofValue z)⟩⟩ (a.put o.dst x) w':=by
 obtain⟨hi,hz0,hk,hzs,Sz,TU⟩:=fG hz;have Ul:=(eS hk).2.2;have Tr:=iD Sz;obtain⟨k,rfl⟩:∃k:Nat,m=k:=⟨m.toNat,by omega⟩
 simp only[gM]at hb|-;have Wv:a.eval l=.int .i64 k:=by
  have:=cO hs l;rw[hm]at this;simpa[E']using this
 have Yj:a.eval c=.int .i64 k:=by
  have:a.eval c=a.eval l:=by
   cases l<;>cases c<;>simp only[tI,jb]at heq
   case tmp.tmp x y=>
    have:x=y:=by simpa using heq
    rw[this]
   case const.const x y=>
    split at heq
    .rename_i k1 a1 k2 b1 _ _;have:=of_decide_eq_true heq;rename_i e1 e2;simp_all
    .simp_all
    .cases heq
  rw[this,Wv]
 have hkb:k*i.bytes<=140737488355328:=mN (Nat.mul_le_mul_left _ (by omega)) hb;have Tt:k<=140737488355328:=mN (Nat.le_mul_of_pos_right _ (by omega)) hb;have SQ:=run_make (P:=P) w t e i z ht hi hz0 .i64 .i64 k k (by omega) (by omega) (by
  have:((k*i.bytes:Nat):Int)<=140737488355328:=by omega
  rw[Int.natCast_mul]at this;rw[Int.mul_comm];omega) (by omega)
 have hmade:madeCells z.cells (k*i.size)=Builtin.zeroCells z.cells k:=by rw[madeCells,Builtin.zeroCells,hzs]
 simp only[gM]at SQ;rw[hmade]at SQ;have hl:=kR z.cells k;have TV:∀n,aB I (aO I st.U) w (flat (List.replicate n (ofValue z))) (List.replicate n z.cells.toList).flatten:=by
  intro n
  induction n with
  |zero=>simp[flat,aB]
  |succ n ih=>
   simp only[List.replicate_succ,flat,yb,List.flatten_cons]at ih|-;refine aB.append ?_ ih;rw[Tr];exact gg _
 obtain⟨id,L',Y',h1,h2,h3,h4⟩:=hs.sat.renew (row:=none) (World.grownBy_alloc w (.cells (Builtin.zeroCells z.cells k) e) none) none (.inl rfl) w.heap.size i.size k (Builtin.zeroCells z.cells k) e
  (List.replicate k (ofValue z)) (Builtin.zeroCells z.cells k).toList (.inr (SD _))
  (heap_alloc_new w _) (by omega) (by rw[size_zeroCells,hzs]) (by simp) (by simp only[maxLen];omega) (by
    intro r hr;rw[(List.mem_replicate.1 hr).2,Tr];simp[hzs])
  (by rw[hl];exact TV k) (by
    rw[hl];intro u hu;simp only[List.mem_flatten,List.mem_replicate]at hu;obtain⟨l',⟨_,rfl⟩,hu⟩:=hu;exact Sz u hu) (by intro j u hu;simpa using hu)
 refine⟨id,L',.slice (some ⟨w.heap.size,0,none⟩) k k,w.alloc (.cells (Builtin.zeroCells z.cells k) e),Y',?_,hs.step h3 h2 h4 (by simp) ?_⟩
 .unfold execOp;rw[Yi];simp only[Wv,Yj];simp[SQ]
 .simp only[E',h1];exact⟨0,k,rfl,SD _,by omega,.inl (by omega),by omega⟩
variable {P:Program} {I:Mu} {ow:Nat->Prop} {w w':World}
def cy(U:al)(sz:Nat):V->Option (List V)
 |.own id off len=>match U id with
   |some ob=>if ob.sz=sz/\off+len<=ob.rows.length then some ((ob.rows.drop off).take len)else none
   |none=>none
 |.sl UP rows=>if UP=sz then some rows else none
 |.bl=>some []
 |.str s=>if sz=1 then some (s.map λb=>.int .u8 b.toNat)else none
 |_=>none
def bX(U:al)(e:TypeId)(sz:Nat):V->Option (List V×Option Nat)
 |.own id off len=>match U id with
   |some ob=>if ob.sz=sz/\ob.elem=e/\off=0/\len<=ob.rows.length then some (ob.rows.take len,some id)else none
   |none=>none
 |.bl=>some ([],none)
 |_=>none
def we{w0:World}{Tg:Nat->Prop}{U:al}(UD:Sat w0 Tg I U w){sz:Nat}(TU:0<sz){v:V}{x:Value}{rows:List V}(h:cy U sz v=some rows)
 (hx:E' I (aO I U) w v x):∃news,(∀w':World,(Builtin.lenOf x).run P w'=.ok rows.length w')/\(∀r∈rows,r.cells.length=sz)/\aB I (aO I U) w (flat rows) news/\(∀u∈news,u.oneCell'=true)/\
   news.length=rows.length*sz/\∀w',(∀b off u,w.cell? ⟨b,off,none⟩=some u->w'.cell? ⟨b,off,none⟩=some u)->(Builtin.firstCells sz rows.length x).run P w'=.ok news.toArray w':=by
 have YG:∀(rs:List V) (b off:Nat) (c:Nat),bc I (aO I U) w rs b off sz->x=.slice (some ⟨b,off,none⟩) rs.length c->rs=rows->
  ∃news,(∀w':World,(Builtin.lenOf x).run P w'=.ok rows.length w')/\(∀r∈rows,r.cells.length=sz)/\aB I (aO I U) w (flat rows) news/\(∀u∈news,u.oneCell'=true)/\
  news.length=rows.length*sz/\∀w',(∀b off u,w.cell? ⟨b,off,none⟩=some u->w'.cell? ⟨b,off,none⟩=some u)->(Builtin.firstCells sz rows.length x).run P w'=.ok news.toArray w':=by
  rintro rs b off c hr rfl rfl;rw[jX]at hr;obtain⟨h1,h2⟩:=hr;obtain⟨news,h3,h4,h5⟩:=h2.CD;have hl:news.length=rs.length*sz:=by rw[h3.length,rH h1]
  refine⟨news,λ_=>rfl,h1,h3,h4,hl,λw' hw'=>?_⟩;exact run_firstCells_some (P:=P) w' sz rs.length ⟨b,off,none⟩ rs.length c news hl (λj v hv=>by rw[gU];exact hw' _ _ _ (h5 j v hv))
 have hnil:∀(a:Option Addr) (c:Nat),x=.slice a 0 c->rows=[]->
  ∃news,(∀w':World,(Builtin.lenOf x).run P w'=.ok rows.length w')/\(∀r∈rows,r.cells.length=sz)/\aB I (aO I U) w (flat rows) news/\(∀u∈news,u.oneCell'=true)/\
  news.length=rows.length*sz/\∀w',(∀b off u,w.cell? ⟨b,off,none⟩=some u->w'.cell? ⟨b,off,none⟩=some u)->(Builtin.firstCells sz rows.length x).run P w'=.ok news.toArray w':=by
  rintro a c rfl rfl;refine⟨[],λ_=>rfl,by simp,by simp[flat,aB],by simp,by simp,λw' _=>?_⟩;cases a<;>simp[Builtin.firstCells,loadCells,loadCellsFrom]
 unfold cy at h;split at h
 .rename_i id off len;split at h
  .rename_i ob TT;split at h
   .rename_i hc;simp only[bh]at h;simp only[E']at hx;have T0:=UD.obj id ob TT;have hlen:rows.length=len:=by rw[<-h];simp;omega
    split at hx
    .exact hx.elim
    .obtain⟨rfl,rfl,rfl⟩:=hx;exact hnil none 0 rfl (by rw[<-h];simp)
    .rename_i b Wt cap L';obtain⟨o,c,rfl,YV,ZC,UJ,hz⟩:=hx;by_cases h0:len=0
     .subst h0;exact hnil _ c rfl (td hlen)
     .rw[L']at T0;obtain⟨g1,g2,g3,g4,g5⟩:=T0.rows hz;have ho:o=off*Wt:=by
       rcases UJ with UJ|UJ
       .exact UJ
       .omega
      subst ho;have hs:Wt=sz:=by omega
      subst hs;have:=(g5.drop off).take len;rw[kQ]at this;exact YG _ b _ c this (by rw[h,hlen]) h
   .cases h
  .cases h
 .rename_i UP rows';split at h
  .rename_i hsz';subst hsz';simp only[bh]at h;subst h;simp only[E']at hx;obtain⟨a,cap,rfl,hl,hr⟩:=hx;rcases hr with rfl|⟨b,off,rfl,hb,hs,hr⟩
   .exact hnil a cap rfl rfl
   .exact YG rows' b off cap hr rfl rfl
  .cases h
 .simp only[bh]at h;subst h;simp only[E']at hx;exact hnil none 0 hx rfl
 .rename_i s;split at h
  .rename_i h1;simp only[bh]at h;subst h h1;simp only[E']at hx;subst hx;have Wc:∀l:List UInt8,aB I (aO I U) w (flat (l.map λb=>V.int .u8 b.toNat)) (l.map λb=>Value.int .u8 b.toNat):=by
    intro l
    induction l with
    |nil=>simp[flat,aB]
    |cons b l ih=>simp only[flat,ga,yb,V.cells,List.singleton_append,aB]at ih|-;exact⟨_,_,rfl,by simp[E'],ih⟩
   refine⟨s.map λb=>Value.int .u8 b.toNat,λ_=>by simp[Builtin.lenOf,ByteArray.size],by simp[V.cells],Wc s,by simp[Value.oneCell'],by simp,λw' _=>?_⟩;have:=Lib.run_firstCells_string (P:=P) w' 1 ⟨s.toArray⟩;simpa[ByteArray.size,Lib.strCells]using this
  .cases h
 .cases h
def tp(t t' ty e:TypeId)(i:TypeInfo)(ht:P.underlying t=some (.slice e))(ht':t'=t\/P.underlying t'=some .string)(hi:P.info? e=some i)
 (b UE WC:Nat)(cur:Array Value)(hg:w.heap[b]?=some (.cells cur e (0,0)))(Y:Value)(n:Nat)(news:List Value)(hl:(Builtin.lenOf Y).run P w=.ok n w)
 (hf:(Builtin.firstCells i.size n Y).run P w=.ok news.toArray w)(h1:∀u∈news,u.oneCell'=true)
 (Za:UE+n<=WC)(UT:UE*i.size+news.length<=cur.size):
 (Builtin.append_ #[t,t'] ty #[.slice (some ⟨b,0,none⟩) UE WC,Y]).run P w=
   .ok (.slice (some ⟨b,0,none⟩) (UE+n) WC) (w.setRow b (cur.toList.take (UE*i.size)++news++cur.toList.drop (UE*i.size+news.length)).toArray):=by
 have Sg:=run_storeCells_at P b (UE*i.size) e news 0 cur w hg (by simpa using UT) h1;simp only[Nat.add_zero]at Sg;rcases ht' with rfl|ht'
 .simp[Builtin.append_,run_underlying ht,sizeOf,typeInfo,hi,hl,Za,hf,Addr.add_lit,Sg]
 .simp[Builtin.append_,run_underlying ht,run_underlying ht',sizeOf,typeInfo,hi,hl,Za,hf,Addr.add_lit,Sg]
def ue(t t' ty e:TypeId)(i:TypeInfo)(z:Value)(ht:P.underlying t=some (.slice e))(ht':t'=t\/P.underlying t'=some .string)(hi:P.info? e=some i)(hz:i.zero=some z)
 (ba:Option Addr)(UE WC:Nat)(WD:List Value)(Xy:(Builtin.firstCells i.size UE (.slice ba UE WC)).run P w.drew=.ok WD.toArray w.drew)
 (Y:Value)(n:Nat)(news:List Value)(hl:(Builtin.lenOf Y).run P w=.ok n w)(hf:(Builtin.firstCells i.size n Y).run P w.drew=.ok news.toArray w.drew)
 (hg:WC<UE+n)(h63:((UE+n:Nat):Int)<=9223372036854775807)(UT:Builtin.nextslicecap (UE+n) WC*i.bytes<=281474976710656):
 (Builtin.append_ #[t,t'] ty #[.slice ba UE WC,Y]).run P w=
   .ok (.slice (some ⟨w.heap.size,0,none⟩) (UE+n) (grownCap w (UE+n) WC e))
    (w.drew.alloc (.cells (WD.toArray++news.toArray++Builtin.zeroCells z.cells (grownCap w (UE+n) WC e-(UE+n))) e)):=by
 have hn:¬(UE+n<=WC):=by omega
 have h63':¬(9223372036854775807<((UE:Int)+(n:Int))):=by omega
 have h48':¬(281474976710656<Builtin.nextslicecap (UE+n) WC*i.bytes):=by omega
 rcases ht' with rfl|ht'
 .simp[Builtin.append_,run_underlying ht,sizeOf,typeInfo,zeroValue,hi,hz,hl,hn,h63',h48',Question.forced,hf,Xy,newRow,grownCap];congr 2;apply Array.ext';simp[mY]
 .simp[Builtin.append_,run_underlying ht,run_underlying ht',sizeOf,typeInfo,zeroValue,hi,hz,hl,hn,h63',h48',Question.forced,hf,Xy,newRow,grownCap];congr 2;apply Array.ext';simp[mY]
def xy{rows:List V}{sz:Nat}(h:∀r∈rows,r.cells.length=sz)(k:Nat):flat (rows.take k)=(flat rows).take (k*sz):=by
 induction rows generalizing k with
 |nil=>simp[flat]
 |cons r rs ih=>
  have e:∀l,flat (r::l)=r.cells++flat l:=λl=>by simp[flat]
  cases k with
  |zero=>simp[flat]
  |succ k=>
   rw[DX,e,e,ih (λx hx=>h x (by simp[hx])),Nat.add_mul,Nat.one_mul,B9,<-h r (by simp),List.take_length_add_append]
def pU{F:Fr}{st:St}{a:Act}(hs:dS F I st a w){o:Oper}{t t' e:TypeId}{x y:Operand}{args:Array Operand}{argTypes:Array TypeId}
 (Yi:o.op=.call { callee:=.builtin .append,args:=args,argTypes:=argTypes })(Tq:args=#[x,y])(VQ:argTypes=#[t,t'])(ht':t'=t\/P.underlying t'=some .string)(ht:P.underlying t=some (.slice e))
 {i:TypeInfo}{z:Value}(hz:zeroOf P e=some (i,z)){base src:List V}{idA:Option Nat}
 (hd:bX st.U e i.size ((cx F.n x).ev st.s)=some (base,idA))(Yk:cy st.U i.size ((cx F.n y).ev st.s)=some src)
 (hbytes:(base.length+src.length)*(i.bytes+1)<=140737488355328):
 ∃id,st.U id=none/\∃r w' Y',(execOp a.eval o).run P w=.ok (.value r) w'/\
  dS F Y' ⟨bb st.s (o.dst.filter (·<F.n)) (.own id 0 (base.length+src.length)),C' (bW st.U idA) id ⟨e,i.size,base++src⟩⟩ (a.put o.dst r) w':=by
 obtain⟨hi,hz0,hk,hzs,Sz,hszc⟩:=fG hz;have Ul:0<i.size:=by rw[hszc];exact(eS hk).2.2
 have hbytes1:(base.length+src.length)*i.bytes<=140737488355328:=mN (Nat.mul_le_mul_left _ (by omega)) hbytes;have hbytes2:base.length+src.length<=140737488355328:=mN (Nat.le_mul_of_pos_right _ (by omega)) hbytes;obtain⟨news,hY,n1,n2,n3,n4,n5⟩:=we (P:=P) hs.sat Ul Yk (cO hs y);have hexec:∀r w',(Builtin.append_ #[t,t'] o.type #[a.eval x,a.eval y]).run P w=.ok r w'->(execOp a.eval o).run P w=.ok (.value r) w':=by
  intro r w' h;unfold execOp;rw[Yi];subst Tq VQ;simp[resolve,invoke,Go.builtin,h]
 have hdrew:∀b off u,w.cell? ⟨b,off,none⟩=some u->w.drew.cell? ⟨b,off,none⟩=some u:=λ_ _ _ h=>h;have h63:base.length+src.length<=maxLen:=by simp only[maxLen];omega
 have h63':((base.length+src.length:Nat):Int)<=9223372036854775807:=by omega
 have Vd:∀(idA:Option Nat) (ba:Option Addr) (old:Nat) (WD:List Value),old<base.length+src.length->a.eval x=.slice ba base.length old->
  (Builtin.firstCells i.size base.length (.slice ba base.length old)).run P w.drew=.ok WD.toArray w.drew->WD.length=base.length*i.size->
  (∀r∈base,r.cells.length=i.size)->aB I (aO I st.U) w (flat base) WD->(∀u∈WD,u.oneCell'=true)->
  ∃id,st.U id=none/\∃r w' Y',(execOp a.eval o).run P w=.ok (.value r) w'/\
   dS F Y' ⟨bb st.s (o.dst.filter (·<F.n)) (.own id 0 (base.length+src.length)),C' (bW st.U idA) id ⟨e,i.size,base++src⟩⟩ (a.put o.dst r) w':=by
  intro idA ba old WD hold hX Xy hol Vs SF hb3;have SQ:=ue (P:=P) (w:=w) t t' o.type e i z ht ht' hi hz0 ba base.length old WD Xy (a.eval y) src.length news (hY w) (n5 w.drew hdrew) hold h63' (growslice_fits hold hbytes1);rw[<-hX]at SQ;have Ve:=grownCap_ge w (base.length+src.length) old e;have hle:=grownCap_le_maxLen w (base.length+src.length) old e h63;have hlen2:(WD.toArray++news.toArray++Builtin.zeroCells z.cells (grownCap w (base.length+src.length) old e-(base.length+src.length))).size=grownCap w (base.length+src.length) old e*i.size:=by
   simp only[Array.size_append,List.size_toArray,size_zeroCells,hzs,hol,n4,<-Nat.add_mul];congr 1;omega
  obtain⟨id,L',Y',g1,g2,g3,g4⟩:=hs.sat.renew (row:=none)
   (w':=w.drew.alloc (.cells (WD.toArray++news.toArray++Builtin.zeroCells z.cells (grownCap w (base.length+src.length) old e-(base.length+src.length))) e))
   ⟨rfl,rfl,rfl,by simp,λk hk _=>heap_alloc_old w.drew _ k hk⟩ idA (.inl rfl) w.heap.size i.size (grownCap w (base.length+src.length) old e) _ e (base++src) (WD++news)
   (.inr (SD _)) (heap_alloc_new w.drew _) Ul hlen2 (by simpa using Ve) hle
   (by intro r hr;rcases gl.1 hr with hr|hr;exact Vs r hr;exact n1 r hr) (by rw[lD];exact SF.append n2)
   (by intro u hu;rcases gl.1 hu with hu|hu;exact hb3 u hu;exact n3 u hu)
   (by intro j u hu
       have hj:=(rz.1 hu).1;rw[<-Array.getElem?_toList];simp only[Array.toList_append];rw[Iu (by simpa using hj)];exact hu)
  refine⟨id,L',_,_,Y',hexec _ _ SQ,hs.step g3 g2 g4 (by simp) ?_⟩;simp only[E',g1];exact⟨0,_,rfl,Ve,by omega,.inl (by omega),by omega⟩
 have hnil:a.eval x=.slice none 0 0->base=[]->∃id,st.U id=none/\∃r w' Y',(execOp a.eval o).run P w=.ok (.value r) w'/\
  dS F Y' ⟨bb st.s (o.dst.filter (·<F.n)) (.own id 0 (base.length+src.length)),C' (bW st.U idA) id ⟨e,i.size,base++src⟩⟩ (a.put o.dst r) w':=by
  rintro hX rfl;by_cases h0:src.length=0
  .have hsrc0:src=[]:=td h0;subst hsrc0;obtain⟨id,L',Y',g1,g2,g3,g4⟩:=hs.sat.Hd idA e i.size;have hf:=n5 w (λ_ _ _ h=>h);refine⟨id,L',.slice none 0 0,w,Y',hexec _ _ ?_,hs.step g3 g2 g4 (SD _) (by simp[E',g1])⟩;rw[hX];have hl:=hY w;simp only[List.length_nil]at hf hl|-;rcases ht' with rfl|ht'
   .simp[Builtin.append_,run_underlying ht,sizeOf,typeInfo,hi,hl,hf]
   .simp[Builtin.append_,run_underlying ht,run_underlying ht',sizeOf,typeInfo,hi,hl,hf]
  .exact Vd idA none 0 [] (by simp;omega) hX (by simp[Builtin.firstCells]) (by simp) (by simp) (by simp[flat,aB]) (by simp)
 have hx:=cO hs x;unfold bX at hd;split at hd
 .rename_i id off len hxv;rw[hxv]at hx;split at hd
  .rename_i ob TT;split at hd
   .rename_i hc;obtain⟨c1,c2,rfl,c4⟩:=hc;simp only[bh,Prod.mk.injEq]at hd;obtain⟨rfl,rfl⟩:=hd;have T0:=hs.sat.obj id ob TT;simp only[E']at hx;split at hx
    .exact hx.elim
    .rename_i L';obtain⟨hX,_,rfl⟩:=hx;exact hnil hX (by simp)
    .rename_i b Wt cap L';obtain⟨WB,c,hX,YV,ZC,UJ,hz⟩:=hx;have ho:WB=0:=by
      rcases UJ with UJ|UJ
      .simpa using UJ
      .exact absurd rfl UJ.2
     subst ho;rw[L']at T0;obtain⟨cur,e1,e2,e3,e4,e5,e6,e7⟩:=T0.plain hz;obtain⟨q1,xs,q2,q3,q4,q5⟩:=e7.cur e1;rw[c2]at e1;have hszb:Wt=i.size:=by omega
     subst hszb;have Tu:(ob.rows.take len).length=len:=by simp;omega
     have holen:(xs.take (len*i.size)).length=len*i.size:=by
      rw[mf,q4];exact Nat.min_eq_left (Nat.mul_le_mul_right _ c4)
     have Vs:∀r∈ob.rows.take len,r.cells.length=i.size:=λr hr=>q1 r (ym hr);have SF:aB I (aO I st.U) w (flat (ob.rows.take len)) (xs.take (len*i.size)):=by rw[xy q1];exact q2.take _
     have hb3:∀u∈xs.take (len*i.size),u.oneCell'=true:=λu hu=>q3 u (ym hu);have VS:∀(j:Nat) u,(xs.take (len*i.size))[j]?=some u->cur.toList[j]?=some u:=by
      intro j u hu;rw[List.getElem?_take]at hu;split at hu
      .exact q5 j u hu
      .cases hu
     by_cases Za:len+src.length<=c
     .have ZW:len+src.length<=cap:=by omega
      have UT:len*i.size+news.length<=cur.size:=by rw[n4,e4,<-Nat.add_mul];exact Nat.mul_le_mul_right _ ZW
      have hf:=n5 w (λ_ _ _ h=>h);have SQ:=tp (P:=P) (w:=w) t t' o.type e i ht ht' hi b len c cur e1 (a.eval y) src.length news (hY w) hf n3 Za UT;rw[<-hX]at SQ;obtain⟨UA,hid',Y',g1,g2,g3,g4⟩:=hs.sat.renew (row:=some b)
       (w':=w.setRow b (cur.toList.take (len*i.size)++news++cur.toList.drop (len*i.size+news.length)).toArray)
       ⟨rfl,rfl,rfl,by simp,λk hk ZD=>setRow_other w b k _ (λe=>ZD (by rw[e]))⟩ (some id) (.inr ⟨id,ob,i.size,cap,b,rfl,TT,L',rfl⟩) b i.size cap _ e (ob.rows.take len++src)
       (xs.take (len*i.size)++news) (.inl rfl) (setRow_heap w b cur _ e _ e1) e3
       (by simp only[List.size_toArray,kL,mf,D5,Array.length_toList];omega) (by rw[kL,Tu];exact ZW) e6
       (by intro r hr;rcases gl.1 hr with hr|hr;exact Vs r hr;exact n1 r hr) (by rw[lD];exact SF.append n2)
       (by intro u hu;rcases gl.1 hu with hu|hu;exact hb3 u hu;exact n3 u hu)
       (by intro j u hu
           have hj:=(rz.1 hu).1;have htake:cur.toList.take (len*i.size)=xs.take (len*i.size):=by
            apply List.ext_getElem?;intro k;by_cases hk:k<len*i.size
            .have hkx:k<(xs.take (len*i.size)).length:=by omega
             rw[V7 hkx,List.getElem?_take_of_lt hk];exact VS k _ (V7 hkx)
            .rw[tm (by simp;omega),tm (by omega)]
           rw[<-Array.getElem?_toList];simp only[];rw[htake,Iu (by simpa using hj)];exact hu)
      rw[Tu];refine⟨UA,hid',_,_,Y',hexec _ _ SQ,hs.step g3 g2 g4 (by simp) ?_⟩;simp only[E',g1];exact⟨0,c,rfl,Za,by omega,.inl (by omega),by omega⟩
     .refine Vd (some id) (some ⟨b,0,none⟩) c (xs.take (len*i.size)) (by rw[Tu];omega) (by rw[Tu];exact hX) ?_ (by rw[Tu];exact holen) Vs SF hb3;rw[Tu];refine run_firstCells_some (P:=P) w.drew i.size len ⟨b,0,none⟩ len c _ holen (λj u hu=>?_);rw[gU,kQ,World.cell?_drew,cell_of_row w b j cur e (0,0) e1];simpa using VS j u hu
   .cases hd
  .cases hd
 .rename_i hxv;rw[hxv]at hx;simp only[bh,Prod.mk.injEq]at hd;obtain⟨rfl,rfl⟩:=hd;simp only[E']at hx;exact hnil hx rfl
 .cases hd
def uH{F:Fr}{st:St}{a:Act}(hs:dS F I st a w){o:Oper}{t tn e:TypeId}{kn:IntKind}{x y:Operand}{args:Array Operand}{argTypes:Array TypeId}
 (Yi:o.op=.call { callee:=.builtin .append,args:=args,argTypes:=argTypes })(Tq:args=#[x,y])(VQ:argTypes=#[t,tn])(ht:P.underlying t=some (.slice e))(htn:P.underlying tn=some (.int kn))
 {i:TypeInfo}{z:Value}(hz:zeroOf P e=some (i,z))(hx:(cx F.n x).ev st.s=.bl){kq:IntKind}{m:Int}(hm:(cx F.n y).ev st.s=.int kq m)(h0:0<m)
 (hb:m.toNat*(i.bytes+1)<=140737488355328):
 ∃id,st.U id=none/\∃r w' Y',(execOp a.eval o).run P w=.ok (.value r) w'/\
  dS F Y' ⟨bb st.s (o.dst.filter (·<F.n)) (.own id 0 m.toNat),C' st.U id ⟨e,i.size,List.replicate m.toNat (ofValue z)⟩⟩ (a.put o.dst r) w':=by
 obtain⟨hi,hz0,hk,hzs,Sz,hszc⟩:=fG hz;have Ul:0<i.size:=by rw[hszc];exact(eS hk).2.2
 have Tr:=iD Sz;obtain⟨k,rfl⟩:∃k:Nat,m=k:=⟨m.toNat,by omega⟩
 simp only[gM]at hb|-;have hkb:k*i.bytes<=140737488355328:=mN (Nat.mul_le_mul_left _ (by omega)) hb;have Tt:k<=140737488355328:=mN (Nat.le_mul_of_pos_right _ (by omega)) hb;have hX:a.eval x=.slice none 0 0:=by
  have:=cO hs x;rw[hx]at this;simpa[E']using this
 have hY:a.eval y=.int kq k:=by
  have:=cO hs y;rw[hm]at this;simpa[E']using this
 have SQ:=Lib.run_append_grow_zeros (P:=P) w t tn o.type e i z kq kn ht htn hi hz0 none 0 0 [] (run_firstCells_none w.drew i.size 0 0 0) k (by omega) Ul (by omega) (by omega) (by omega)
  (growslice_fits (by omega) (by rw[kQ];exact hkb))
 rw[<-hX,<-hY,kQ]at SQ;have Ve:=grownCap_ge w k 0 e;have hle:=grownCap_le_maxLen w k 0 e (by simp only[maxLen];omega);have hl:=kR z.cells k;have TV:∀n,aB I (aO I st.U) w (flat (List.replicate n (ofValue z))) (List.replicate n z.cells.toList).flatten:=by
  intro n
  induction n with
  |zero=>simp[flat,aB]
  |succ n ih=>
   simp only[List.replicate_succ,flat,yb,List.flatten_cons]at ih|-;refine aB.append ?_ ih;rw[Tr];exact gg _
 obtain⟨id,L',Y',g1,g2,g3,g4⟩:=hs.sat.renew (row:=none)
  (w':=w.drew.alloc (.cells (([]:List Value).toArray++Builtin.zeroCells z.cells k++Builtin.zeroCells z.cells (grownCap w k 0 e-k)) e))
  ⟨rfl,rfl,rfl,by simp,λk hk _=>heap_alloc_old w.drew _ k hk⟩ none (.inl rfl) w.heap.size i.size (grownCap w k 0 e) _ e (List.replicate k (ofValue z)) (Builtin.zeroCells z.cells k).toList
  (.inr (SD _)) (heap_alloc_new w.drew _) Ul (by
    simp only[Array.size_append,List.size_toArray,size_zeroCells,hzs,List.length_nil,kQ,<-Nat.add_mul];congr 1;omega) (by simpa using Ve) hle
  (by
    intro r hr;rw[(List.mem_replicate.1 hr).2,Tr];simp[hzs]) (by rw[hl];exact TV k)
  (by
    rw[hl];intro u hu;simp only[List.mem_flatten,List.mem_replicate]at hu;obtain⟨l',⟨_,rfl⟩,hu⟩:=hu;exact Sz u hu)
  (by
    intro j u hu;have hj:=(rz.1 hu).1;rw[<-Array.getElem?_toList];simp only[Array.toList_append,lS];rw[Iu hj];exact hu)
 refine⟨id,L',.slice (some ⟨w.heap.size,0,none⟩) k (grownCap w k 0 e),_,Y',?_,hs.step g3 g2 g4 (by simp) ?_⟩
 .unfold execOp;rw[Yi];subst Tq VQ;simp[resolve,invoke,Go.builtin,SQ]
 .simp only[E',g1];exact⟨0,_,rfl,Ve,by omega,.inl (by omega),by omega⟩
end Go.Vc
