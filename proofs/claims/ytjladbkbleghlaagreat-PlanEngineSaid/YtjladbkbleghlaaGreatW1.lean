/- Part 1 of the library of this proof. -/
import Derived.Calls
import Derived.Below
import Derived.Laws.AppendOwn
import Derived.Tactics
import Derived.ChangeKeysEq
import Derived.Orders
import Derived.Laws.MakeOwn
import Derived.Lib.AppendZerosOnto
import Derived.Lib.AppendStr
set_option linter.all false
set_option maxHeartbeats 8000000
namespace Go.Vc
def Oi{α:Type _}(a b:α):(some a=some b)=(a=b):=Option.some.injEq a b
def Ba(a b:Bool):((a&&b)=true)=(a=true/\b=true):=Bool.and_eq_true a b
def Tp:=@List.take_succ_eq_append_getElem
def QL:=@List.getElem_mem
def Qt:=@Nat.le_refl
def Rv:=@decide_eq_false
def Rt:=@decide_eq_true
def Q4:=@List.length_cons
def Tq:=@List.getElem?_eq_getElem
def Tf:=@Array.getD_eq_getD_getElem?
def Zq8:=@Option.map_eq_some_iff
def Sp:=@decide_eq_true_eq
def iy:=@List.drop_eq_getElem_cons
def du:=@List.length_map
def nY:=@List.getElem?_eq_some_iff
def jz:=@Bool.false_eq_true
def dc:=@List.mem_cons
def fp:=@Int.toNat_natCast
def ei:=@List.mem_append
def fv:=@List.all_eq_true
def eD:=@List.map_cons
def nX:=@List.take_of_length_le
def gY:=@List.length_append
def mT:=@Array.getElem?_eq_some_iff
def jK:=@List.take_length
def kK:=@List.length_take
def fC:=@List.map_append
def uG:=@List.getD_eq_getElem?_getD
def qK:=@List.eq_nil_of_length_eq_zero
def yD:=@List.all_cons
def ly:=@List.append_assoc
def kf:=@List.foldl_cons
def kI:=@Nat.zero_add
def mo:=@List.nil_append
def kJ:=@Bool.or_eq_true
def Bo:=@List.take_succ_cons
def rC:=@List.getElem?_eq_none
def kL:=@List.append_nil
def aE:=@if_pos
def aH:=@if_neg
def Fc:=@List.getElem?_append_left
def HX:=@List.getElem?_append_right
def ph:=@List.getElem?_map
def wh:=@List.length_drop
def iW:=@List.mem_singleton
def ua:=@List.take_append_drop
def qx:=@List.drop_length
def wc:=@List.foldl_append
def Ib:=@List.take_add_one
def qL:=@List.mem_of_mem_take
def Mi:=@List.getElem?_drop
def zM:=@List.drop_zero
def fM:=@List.mem_map
def HL:=@List.getElem?_cons_zero
def EH:=@List.getElem?_cons_succ
def E6:=@List.drop_eq_nil_of_le
def vK:=@List.mem_of_getElem?
def vM:=@List.length_pos_iff
def mq:=@Nat.le_trans
def BP:=@Nat.add_comm
def Ic:=@List.any_eq_true
def Lh:=@List.getElem?_append
def yF:=@List.flatMap_cons
def sX:=@List.mem_filter
def LM:=@List.take_append_of_le_length
def FL:=@List.drop_append_of_le_length
def MO:=@List.drop_succ_cons
def GO:=@List.getElem?_of_mem
def bf:=@Oi
def PK{p:Prop}(h:p:=by omega):p=True:=eq_true h
def PF{p:Prop}(h:¬p:=by omega):p=False:=eq_false h
inductive V where
 |undef
 |int (k:IntKind) (n:Int)
 |bool (b:Bool)
 |str (s:List UInt8)
 |aT
 |sl (sz:Nat) (rows:List V)
 |own (id off len:Nat)
 |ptr (id i k:Nat)
 |rp (v:V)
 |Uu
 |fn (f:FuncId) (caps:List V)
 |bm (f:FuncId) (first:List V)
 |Rj
 |iface (t:TypeId) (v:V)
 |Rk
 |agg (cells:List V)
 |PN (vs:List V)
 |raw (v:Value)
 |obj (o:Obj)
 |gp (id:Nat)
 |yl (id:Nat)
 |mp (id:Nat)
 deriving Inhabited
inductive Pl where
 |dQ
 |nil
 |QA (b sz cap:Nat)
abbrev Mu:=Nat->Pl
structure Ob where
 elem:TypeId
 sz:Nat
 rows:List V
abbrev ag:=Nat->Option Ob
def V.cells:V->List V
 |.agg vs=>vs
 |v=>[v]
mutual
def E'(I:Mu)(ow:Nat->Prop)(w:World):V->Value->Prop
 |.undef,_=>True
 |.int k n,x=>x=.int k n
 |.bool b,x=>x=.bool b
 |.str s,x=>x=.string ⟨s.toArray⟩
 |.aT,x=>x=.slice none 0 0
 |.sl sz rows,x=>∃a cap,x=.slice a rows.length cap/\rows.length<=cap/\
   (rows=[]\/∃b off,a=some ⟨b,off,none⟩/\¬ow b/\0<sz/\bg I ow w rows b off sz)
 |.own id off len,x=>match I id with
   |.dQ=>False
   |.nil=>x=.slice none 0 0/\off=0/\len=0
   |.QA b sz cap=>∃o c,x=.slice (some ⟨b,o,none⟩) len c/\len<=c/\off+c<=cap/\(o=off*sz\/c=0/\off≠0)/\0<sz
 |.ptr id i k,x=>match I id with
   |.QA b sz _=>x=.pointer (some ⟨b,i*sz+k,none⟩)/\0<sz
   |_=>False
 |.rp v,x=>∃b off,x=.pointer (some ⟨b,off,none⟩)/\b<w.heap.size/\(v.cells=[]\/¬ow b)/\bF I ow w v b off
 |.Uu,x=>x=.pointer none
 |.fn f caps,x=>∃PO,x=.func (.func f) #[] ⟨PO⟩/\ax I ow w caps PO
 |.bm f first,x=>∃PO,x=.func (.func f) ⟨PO⟩ #[]/\ax I ow w first PO
 |.Rj,x=>x=.nilFunc
 |.iface t v,x=>∃y,x=.iface t y/\E' I ow w v y
 |.Rk,x=>x=.nilIface
 |.agg vs,x=>∃PO,x=.agg ⟨PO⟩/\ax I ow w vs PO/\∀u∈PO,u.oneCell'=true
 |.PN vs,x=>∃PO,x=.tuple ⟨PO⟩/\ax I ow w vs PO
 |.raw v,x=>x=v
 |.obj _,_=>False
 |.gp id,x=>match I id with
   |.QA b 0 _=>x=.pointer (some ⟨b,0,none⟩)
   |_=>False
 |.yl id,x=>match I id with
   |.QA b 0 _=>x=.func (.yield b) #[] #[]
   |_=>False
 |.mp id,x=>match I id with
   |.QA b 0 _=>x=.map (some b)
   |_=>False
/-- one by one -/
def ax(I:Mu)(ow:Nat->Prop)(w:World):List V->List Value->Prop
 |[],l=>l=[]
 |v::vs,l=>∃x xs,l=x::xs/\E' I ow w v x/\ax I ow w vs xs
/-- cells,one behind the other -/
def aW(I:Mu)(ow:Nat->Prop)(w:World):List V->Nat->Nat->Prop
 |[],_,_=>True
 |v::vs,b,off=>(∃x,w.cell? ⟨b,off,none⟩=some x/\E' I ow w v x/\x.oneCell'=true)/\aW I ow w vs b (off+1)
/-- an element -/
def bF(I:Mu)(ow:Nat->Prop)(w:World):V->Nat->Nat->Prop
 |.agg vs,b,off=>aW I ow w vs b off
 |v,b,off=>∃x,w.cell? ⟨b,off,none⟩=some x/\E' I ow w v x/\x.oneCell'=true
/-- elements,one behind the other -/
def bg(I:Mu)(ow:Nat->Prop)(w:World):List V->Nat->Nat->Nat->Prop
 |[],_,_,_=>True
 |r::rs,b,off,sz=>r.cells.length=sz/\bF I ow w r b off/\bg I ow w rs b (off+sz) sz
end
def eh(I:Mu)(ow:Nat->Prop)(w:World)(v:V)(b off:Nat):bF I ow w v b off↔aW I ow w v.cells b off:=by
 cases v<;>simp[bF,aW,V.cells]
def dd(I Y':Mu):Prop:=∀id,I id≠.dQ->Y' id=I id
def dd.refl(I:Mu):dd I I:=λ_ _=>rfl
def dd.trans{I Y' Y'':Mu}(h:dd I Y')(h':dd Y' Y''):dd I Y'':=λid M'=>by
 have e:=h id M';rw[h' id (by rw[e];exact M'),e]
def dg(ow R9:Nat->Prop)(w w':World):Prop:=∀b,b<w.heap.size->¬ow b->¬R9 b/\w'.heap[b]?=w.heap[b]?
def qo(ow R9:Nat->Prop)(w w':World):Prop:=∀b,(∃off x,w.cell? ⟨b,off,none⟩=some x)->¬ow b->¬R9 b/\∀(off:Nat) (x:Value),w.cell? ⟨b,off,none⟩=some x->w'.cell? ⟨b,off,none⟩=some x
def eN{w w':World}{b:Nat}(h:w'.heap[b]?=w.heap[b]?)(off:Nat)(x:Value)(hx:w.cell? ⟨b,off,none⟩=some x):w'.cell? ⟨b,off,none⟩=some x:=by
 rw[World.cell?_of_block (w:=w) (w':=w') (a:=⟨b,off,none⟩) h];exact hx
def dg.toC{ow R9:Nat->Prop}{w w':World}(h:dg ow R9 w w'):qo ow R9 w w':=λb ⟨off,x,hx⟩ hn=>by
 have hb:b<w.heap.size:=World.block_lt_of_cell? w _ hx;exact⟨(h b hb hn).1,eN (h b hb hn).2⟩
section
variable {I Y':Mu} {ow R9:Nat->Prop} {w w':World} (hm:dd I Y') (hk:qo ow R9 w w') (hz:w.heap.size<=w'.heap.size)
include hm hk hz
mutual
def E'.cc:∀(v:V) (x:Value),E' I ow w v x->E' Y' R9 w' v x
 |.undef,_,_=>by simp[E']
 |.int k n,x,h=>by simpa[E']using h
 |.bool b,x,h=>by simpa[E']using h
 |.str s,x,h=>by simpa[E']using h
 |.aT,x,h=>by simpa[E']using h
 |.sl sz rows,x,h=>by
  simp only[E']at h|-;obtain⟨a,cap,hx,hl,hr⟩:=h;refine⟨a,cap,hx,hl,?_⟩;rcases hr with hr|⟨b,off,ha,hb,hs,hr⟩
  .exact .inl hr
  .cases rows with
   |nil=>exact .inl rfl
   |cons r rs=>
    have H':∃o y,w.cell? ⟨b,o,none⟩=some y:=by
     have h2:=hr;simp only[bg]at h2;obtain⟨h1,h2,_⟩:=h2;rw[eh]at h2;cases hc:r.cells with
     |nil=>rw[hc]at h1;simp at h1;omega
     |cons c cs=>
      rw[hc]at h2;simp only[aW]at h2;obtain⟨⟨y,hy,_⟩,_⟩:=h2;exact⟨_,y,hy⟩
    exact .inr ⟨b,off,ha,(hk b H' hb).1,hs,bg.cc (r::rs) b off sz (hk b H' hb).2 hr⟩
 |.own id off len,x,h=>by
  simp only[E']at h|-;cases M':I id with
  |dQ=>rw[M']at h;exact h.elim
  |nil=>rw[hm id (by rw[M'];simp)];exact h
  |QA b sz cap=>rw[hm id (by rw[M'];simp)];exact h
 |.ptr id i k,x,h=>by
  simp only[E']at h|-;cases M':I id with
  |dQ=>rw[M']at h;exact h.elim
  |nil=>rw[M']at h;exact h.elim
  |QA b sz cap=>rw[hm id (by rw[M'];simp)];exact h
 |.rp v,x,h=>by
  simp only[E']at h|-;obtain⟨b,off,hx,H',hb,hr⟩:=h;refine⟨b,off,hx,Nat.lt_of_lt_of_le H' hz,?_⟩;cases hc:v.cells with
  |nil=>
   refine⟨.inl rfl,?_⟩;rw[eh,hc];simp[aW]
  |cons c cs=>
   have h2:=hr;rw[eh,hc]at h2;simp only[aW]at h2;obtain⟨⟨y,hy,_⟩,_⟩:=h2;have Q8:=hk b ⟨_,y,hy⟩ (hb.resolve_left (by rw[hc];simp));exact⟨.inr Q8.1,bF.cc v b off Q8.2 hr⟩
 |.Uu,x,h=>by simpa[E']using h
 |.fn f caps,x,h=>by
  simp only[E']at h|-;obtain⟨PO,hx,hr⟩:=h;exact⟨PO,hx,ax.cc caps PO hr⟩
 |.bm f caps,x,h=>by
  simp only[E']at h|-;obtain⟨PO,hx,hr⟩:=h;exact⟨PO,hx,ax.cc caps PO hr⟩
 |.Rj,x,h=>by simpa[E']using h
 |.iface t v,x,h=>by
  simp only[E']at h|-;obtain⟨y,hx,hr⟩:=h;exact⟨y,hx,E'.cc v y hr⟩
 |.Rk,x,h=>by simpa[E']using h
 |.agg vs,x,h=>by
  simp only[E']at h|-;obtain⟨PO,hx,hr,h1⟩:=h;exact⟨PO,hx,ax.cc vs PO hr,h1⟩
 |.PN vs,x,h=>by
  simp only[E']at h|-;obtain⟨PO,hx,hr⟩:=h;exact⟨PO,hx,ax.cc vs PO hr⟩
 |.raw v,x,h=>by simpa[E']using h
 |.obj o,x,h=>by simp[E']at h
 |.gp id,x,h=>by
  simp only[E']at h|-;cases M':I id with
  |dQ=>rw[M']at h;exact h.elim
  |nil=>rw[M']at h;exact h.elim
  |QA b sz cap=>rw[hm id (by rw[M'];simp)];exact h
 |.yl id,x,h=>by
  simp only[E']at h|-;cases M':I id with
  |dQ=>rw[M']at h;exact h.elim
  |nil=>rw[M']at h;exact h.elim
  |QA b sz cap=>rw[hm id (by rw[M'];simp)];exact h
 |.mp id,x,h=>by
  simp only[E']at h|-;cases M':I id with
  |dQ=>rw[M']at h;exact h.elim
  |nil=>rw[M']at h;exact h.elim
  |QA b sz cap=>rw[hm id (by rw[M'];simp)];exact h
def ax.cc:∀(vs:List V) (l:List Value),ax I ow w vs l->ax Y' R9 w' vs l
 |[],l,h=>by simpa[ax]using h
 |v::vs,l,h=>by
  simp only[ax]at h|-;obtain⟨x,xs,hx,h1,h2⟩:=h;exact⟨x,xs,hx,E'.cc v x h1,ax.cc vs xs h2⟩
def aW.cc:∀(vs:List V) (b off:Nat),(∀(off:Nat) (x:Value),w.cell? ⟨b,off,none⟩=some x->w'.cell? ⟨b,off,none⟩=some x)->aW I ow w vs b off->aW Y' R9 w' vs b off
 |[],_,_,_,_=>by simp[aW]
 |v::vs,b,off,hb,h=>by
  simp only[aW]at h|-;obtain⟨⟨x,hx,h1,h2⟩,h3⟩:=h;exact⟨⟨x,hb _ _ hx,E'.cc v x h1,h2⟩,aW.cc vs b (off+1) hb h3⟩
def bF.cc:∀(v:V) (b off:Nat),(∀(off:Nat) (x:Value),w.cell? ⟨b,off,none⟩=some x->w'.cell? ⟨b,off,none⟩=some x)->bF I ow w v b off->bF Y' R9 w' v b off
 |.agg vs,b,off,hb,h=>by
  simp only[bF]at h|-;exact aW.cc vs b off hb h
 |.undef,b,off,hb,h=>by simp only[bF]at h|-;obtain⟨x,hx,h1,h2⟩:=h;exact⟨x,hb _ _ hx,E'.cc _ x h1,h2⟩
 |.int k n,b,off,hb,h=>by simp only[bF]at h|-;obtain⟨x,hx,h1,h2⟩:=h;exact⟨x,hb _ _ hx,E'.cc _ x h1,h2⟩
 |.bool t,b,off,hb,h=>by simp only[bF]at h|-;obtain⟨x,hx,h1,h2⟩:=h;exact⟨x,hb _ _ hx,E'.cc _ x h1,h2⟩
 |.str s,b,off,hb,h=>by simp only[bF]at h|-;obtain⟨x,hx,h1,h2⟩:=h;exact⟨x,hb _ _ hx,E'.cc _ x h1,h2⟩
 |.aT,b,off,hb,h=>by simp only[bF]at h|-;obtain⟨x,hx,h1,h2⟩:=h;exact⟨x,hb _ _ hx,E'.cc _ x h1,h2⟩
 |.sl sz rows,b,off,hb,h=>by simp only[bF]at h|-;obtain⟨x,hx,h1,h2⟩:=h;exact⟨x,hb _ _ hx,E'.cc _ x h1,h2⟩
 |.own id o len,b,off,hb,h=>by simp only[bF]at h|-;obtain⟨x,hx,h1,h2⟩:=h;exact⟨x,hb _ _ hx,E'.cc _ x h1,h2⟩
 |.ptr id i k,b,off,hb,h=>by simp only[bF]at h|-;obtain⟨x,hx,h1,h2⟩:=h;exact⟨x,hb _ _ hx,E'.cc _ x h1,h2⟩
 |.rp v,b,off,hb,h=>by simp only[bF]at h|-;obtain⟨x,hx,h1,h2⟩:=h;exact⟨x,hb _ _ hx,E'.cc _ x h1,h2⟩
 |.Uu,b,off,hb,h=>by simp only[bF]at h|-;obtain⟨x,hx,h1,h2⟩:=h;exact⟨x,hb _ _ hx,E'.cc _ x h1,h2⟩
 |.fn f caps,b,off,hb,h=>by simp only[bF]at h|-;obtain⟨x,hx,h1,h2⟩:=h;exact⟨x,hb _ _ hx,E'.cc _ x h1,h2⟩
 |.bm f caps,b,off,hb,h=>by simp only[bF]at h|-;obtain⟨x,hx,h1,h2⟩:=h;exact⟨x,hb _ _ hx,E'.cc _ x h1,h2⟩
 |.Rj,b,off,hb,h=>by simp only[bF]at h|-;obtain⟨x,hx,h1,h2⟩:=h;exact⟨x,hb _ _ hx,E'.cc _ x h1,h2⟩
 |.iface t v,b,off,hb,h=>by simp only[bF]at h|-;obtain⟨x,hx,h1,h2⟩:=h;exact⟨x,hb _ _ hx,E'.cc _ x h1,h2⟩
 |.Rk,b,off,hb,h=>by simp only[bF]at h|-;obtain⟨x,hx,h1,h2⟩:=h;exact⟨x,hb _ _ hx,E'.cc _ x h1,h2⟩
 |.PN vs,b,off,hb,h=>by simp only[bF]at h|-;obtain⟨x,hx,h1,h2⟩:=h;exact⟨x,hb _ _ hx,E'.cc _ x h1,h2⟩
 |.raw v,b,off,hb,h=>by simp only[bF]at h|-;obtain⟨x,hx,h1,h2⟩:=h;exact⟨x,hb _ _ hx,E'.cc _ x h1,h2⟩
 |.obj o',b,off,hb,h=>by simp only[bF]at h|-;obtain⟨x,hx,h1,h2⟩:=h;exact⟨x,hb _ _ hx,E'.cc _ x h1,h2⟩
 |.gp o',b,off,hb,h=>by simp only[bF]at h|-;obtain⟨x,hx,h1,h2⟩:=h;exact⟨x,hb _ _ hx,E'.cc _ x h1,h2⟩
 |.yl o',b,off,hb,h=>by simp only[bF]at h|-;obtain⟨x,hx,h1,h2⟩:=h;exact⟨x,hb _ _ hx,E'.cc _ x h1,h2⟩
 |.mp o',b,off,hb,h=>by simp only[bF]at h|-;obtain⟨x,hx,h1,h2⟩:=h;exact⟨x,hb _ _ hx,E'.cc _ x h1,h2⟩
def bg.cc:∀(rs:List V) (b off sz:Nat),(∀(off:Nat) (x:Value),w.cell? ⟨b,off,none⟩=some x->w'.cell? ⟨b,off,none⟩=some x)->bg I ow w rs b off sz->bg Y' R9 w' rs b off sz
 |[],_,_,_,_,_=>by simp[bg]
 |r::rs,b,off,sz,hb,h=>by
  simp only[bg]at h|-;exact⟨h.1,bF.cc r b off hb h.2.1,bg.cc rs b (off+sz) sz hb h.2.2⟩
end
end
section
variable {I Y':Mu} {ow R9:Nat->Prop} {w w':World} (hm:dd I Y') (hk:dg ow R9 w w') (hz:w.heap.size<=w'.heap.size)
include hm hk hz
def E'.mono(v:V)(x:Value):E' I ow w v x->E' Y' R9 w' v x:=E'.cc hm hk.toC hz v x
def ax.mono(vs:List V)(l:List Value):ax I ow w vs l->ax Y' R9 w' vs l:=ax.cc hm hk.toC hz vs l
def bF.mono(v:V)(b off:Nat)(hb:w'.heap[b]?=w.heap[b]?):bF I ow w v b off->bF Y' R9 w' v b off:=bF.cc hm hk.toC hz v b off (eN hb)
def bg.mono(rs:List V)(b off sz:Nat)(hb:w'.heap[b]?=w.heap[b]?):bg I ow w rs b off sz->bg Y' R9 w' rs b off sz:=bg.cc hm hk.toC hz rs b off sz (eN hb)
end
def Nc(_:World):Prop:=True
def aI(I:Mu)(U:ag)(b:Nat):Prop:=∃id o sz cap,U id=some o/\I id=.QA b sz cap
def tmpsOf:Obj->List Value
 |.loop r=>r.tmps.toList
 |.map es _=>es.toList.map (·.val)
 |_=>[]
def pz(I:Mu)(ow:Nat->Prop)(w:World)(o:Ob):Pl->Prop
 |.dQ=>False
 |.nil=>o.rows=[]
 |.QA b sz cap=>(∃cur,w.heap[b]?=some (.cells cur o.elem (0,0))/\o.sz=sz/\0<sz/\cur.size=cap*sz/\o.rows.length<=cap/\cap<=maxLen/\
   bg I ow w o.rows b 0 sz)\/(sz=0/\o.sz=0/\∃(ob:Obj) (env:List V),o.rows=.obj ob::env/\w.heap[b]?=some ob/\ax I ow w env (tmpsOf ob))
def Nn(w:World)(ow:Nat->Prop):Prop:=∃b:World,Nc b/\b.heap.size<=w.heap.size/\∀i,i<b.heap.size->¬ow i/\w.heap[i]?=b.heap[i]?
structure Sat(w0:World)(QC:Nat->Prop)(I:Mu)(U:ag)(w:World):Prop where
 size:w0.heap.size<=w.heap.size
 os:w.os=w0.os
 tape:w.tape=w0.tape
 output:w.output=w0.output
 same:∀b,b<w0.heap.size->¬QC b->w.heap[b]?=w0.heap[b]?
 fin:∃N,∀id,N<=id->I id=.dQ
 inj:∀id Sq o o' b sz cap SC Rl,U id=some o->U Sq=some o'->I id=.QA b sz cap->I Sq=.QA b SC Rl->id=Sq
 obj:∀id o,U id=some o->pz I (aI I U) w o (I id)
 fresh:∀b,aI I U b->b<w0.heap.size->QC b
 SD:Nn w0 QC
def Sat.pj{w0 w:World}{QC:Nat->Prop}{I:Mu}{U:ag}(h:Sat w0 QC I U w):Nn w (aI I U):=by
 obtain⟨b,h1,h2,h3⟩:=h.SD;refine⟨b,h1,mq h2 h.size,λi hi=>?_⟩;obtain⟨h4,h5⟩:=h3 i hi;exact⟨λho=>h4 (h.fresh i ho (Nat.lt_of_lt_of_le hi h2)),(h.same i (Nat.lt_of_lt_of_le hi h2) h4).trans h5⟩
def aa(Z' U:ag):Prop:=∀id o,Z' id=some o->U id=some o
def aa.refl(U:ag):aa U U:=λ_ _ h=>h
def aa.trans{a b c:ag}(h:aa a b)(h':aa b c):aa a c:=λid o e=>h' id o (h id o e)
def C'(U:ag)(id:Nat)(o:Ob):ag:=λi=>if i=id then some o else U i
def del(U:ag)(id:Nat):ag:=λi=>if i=id then none else U i
def aa.IJ{Z' U:ag}{id:Nat}{o:Ob}(h:aa Z' U)(M':Z' id=none):aa Z' (C' U id o):=λi u e=>by
 have P':i≠id:=λe'=>by rw[e',M']at e;cases e
 simp[C',P',h i u e]
def aa.vF(U:ag)(id:Nat):aa (del U id) U:=λi o e=>by
 unfold del at e;split at e
 .cases e
 .exact e
def aI.sub{I:Mu}{U Z':ag}(h:aa Z' U){b:Nat}(hb:aI I Z' b):aI I U b:=by
 obtain⟨id,o,sz,cap,h1,h2⟩:=hb;exact⟨id,o,sz,cap,h id o h1,h2⟩
def dg.sub{I:Mu}{U Z':ag}(w:World)(h:aa Z' U):dg (aI I U) (aI I Z') w w:=
 λ_ _ hn=>⟨λhb=>hn (hb.sub h),rfl⟩
def pz.cc{I Y':Mu}{ow R9:Nat->Prop}{w w':World}(hm:dd I Y')(hk:qo ow R9 w w')(hz:w.heap.size<=w'.heap.size){o:Ob}{p:Pl}
 (hb:∀b sz cap,p=.QA b sz cap->w'.heap[b]?=w.heap[b]?)(h:pz I ow w o p):pz Y' R9 w' o p:=by
 cases p with
 |dQ=>exact h
 |nil=>exact h
 |QA b sz cap=>
  have e:=hb b sz cap rfl;rcases h with⟨cur,h1,h2,h3,h4,h5,h6,h7⟩|⟨h1,h2,ob,env,h3,h4,h5⟩
  .exact .inl ⟨cur,e.trans h1,h2,h3,h4,h5,h6,bg.cc hm hk hz _ _ _ _ (eN e) h7⟩
  .exact .inr ⟨h1,h2,ob,env,h3,e.trans h4,ax.cc hm hk hz _ _ h5⟩
def pz.mono{I Y':Mu}{ow R9:Nat->Prop}{w w':World}(hm:dd I Y')(hk:dg ow R9 w w')(hz:w.heap.size<=w'.heap.size){o:Ob}{p:Pl}
 (hb:∀b sz cap,p=.QA b sz cap->w'.heap[b]?=w.heap[b]?)(h:pz I ow w o p):pz Y' R9 w' o p:=h.cc hm hk.toC hz hb
def pz.plain{I:Mu}{ow:Nat->Prop}{w:World}{o:Ob}{b sz cap:Nat}(h:pz I ow w o (.QA b sz cap))(hz:0<sz):∃cur,w.heap[b]?=some (.cells cur o.elem (0,0))/\o.sz=sz/\0<sz/\cur.size=cap*sz/\o.rows.length<=cap/\cap<=maxLen/\
 bg I ow w o.rows b 0 sz:=by
 rcases h with h|⟨h1,_⟩
 .exact h
 .omega
def pz.rows{I:Mu}{ow:Nat->Prop}{w:World}{o:Ob}{b sz cap:Nat}(h:pz I ow w o (.QA b sz cap))(hz:0<sz):o.sz=sz/\0<sz/\o.rows.length<=cap/\cap<=maxLen/\bg I ow w o.rows b 0 sz:=by
 obtain⟨cur,h1,h2,h3,h4,h5,h6,h7⟩:=h.plain hz;exact⟨h2,h3,h5,h6,h7⟩
def Sat.drop{w0 w:World}{QC:Nat->Prop}{I:Mu}{U Z':ag}(h:Sat w0 QC I U w)(hs:aa Z' U):Sat w0 QC I Z' w where
 size:=h.size
 os:=h.os
 tape:=h.tape
 output:=h.output
 same:=h.same
 fin:=h.fin
 inj:=λid Sq o o' b sz cap SC Rl h1 h2 h3 h4=>h.inj id Sq o o' b sz cap SC Rl (hs _ _ h1) (hs _ _ h2) h3 h4
 obj:=λid o ho=>(h.obj id o (hs _ _ ho)).mono (dd.refl I) (dg.sub w hs) (Qt _) (λ_ _ _ _=>rfl)
 fresh:=λb hb=>h.fresh b (hb.sub hs)
 SD:=h.SD
def aI.lt{w0 w:World}{QC:Nat->Prop}{I:Mu}{U:ag}(h:Sat w0 QC I U w){b:Nat}(hb:aI I U b):b<w.heap.size:=by
 obtain⟨id,o,sz,cap,h1,h2⟩:=hb;have:=h.obj id o h1;rw[h2]at this;rcases this with⟨cur,h3,_⟩|⟨_,_,ob,_,_,h3,_⟩<;>exact(mT.1 h3).1
def Sat.put{w0 w w':World}{QC:Nat->Prop}{I Y':Mu}{U Z':ag}{row:Option Nat}(h:Sat w0 QC I U w)(hg:w.grownBy w' row)
 (Q0:∀b,row=some b->aI I U b)(hμ:dd I Y')(Qm:∃N,∀id,N<=id->Y' id=.dQ)(U7:Nat)(ob:Ob)
 (hZ':∀o,Z' U7=some o->o=ob)
 (hold:∀id o,id≠U7->Z' id=some o->U id=some o/\∀b sz cap,I id=.QA b sz cap->some b≠row)
 (TY:∀b sz cap,Y' U7=.QA b sz cap->some b=row\/w.heap.size<=b)
 (Q5:dg (aI I U) (aI Y' Z') w w'->pz Y' (aI Y' Z') w' ob (Y' U7)):
 Sat w0 QC Y' Z' w'/\dg (aI I U) (aI Y' Z') w w':=by
 have SN:∀id o,U id=some o->Y' id=I id:=λid o ho=>hμ id (λe=>by
  have:=h.obj id o ho;rw[e]at this;exact this)
 have Yv:∀b,aI Y' Z' b->aI I U b\/w.heap.size<=b:=by
  rintro b ⟨id,o,sz,cap,h1,h2⟩;by_cases M':id=U7
  .subst M';rcases TY b sz cap h2 with h3|h3
   .exact .inl (Q0 b h3.symm)
   .exact .inr h3
  .obtain⟨h3,_⟩:=hold id o M' h1;exact .inl ⟨id,o,sz,cap,h3,(SN id o h3)▸h2⟩
 have hk:dg (aI I U) (aI Y' Z') w w':=λb hb hn=>⟨λho=>by
  rcases Yv b ho with h1|h1
  .exact hn h1
  .omega,hg.block b hb (λe=>hn (Q0 b e.symm))⟩
 refine⟨⟨mq h.size hg.size,hg.os.trans h.os,hg.tape.trans h.tape,hg.output.trans h.output,?_,Qm,?_,?_,?_,h.SD⟩,hk⟩
 .intro b hb hn;have h1:¬aI I U b:=λho=>hn (h.fresh b ho hb);rw[(hk b (Nat.lt_of_lt_of_le hb h.size) h1).2,h.same b hb hn]
 .intro id Sq o o' b sz cap SC Rl h1 h2 h3 h4;by_cases e:id=U7
  .by_cases e':Sq=U7
   .rw[e,e']
   .exfalso;obtain⟨h5,h6⟩:=hold Sq o' e' h2;have h7:=(SN Sq o' h5)▸h4;subst e;rcases TY b sz cap h3 with h8|h8
    .exact h6 b SC Rl h7 h8
    .have:=aI.lt h ⟨Sq,o',SC,Rl,h5,h7⟩;omega
  .obtain⟨h5,h6⟩:=hold id o e h1;have h7:=(SN id o h5)▸h3;by_cases e':Sq=U7
   .exfalso;subst e';rcases TY b SC Rl h4 with h8|h8
    .exact h6 b sz cap h7 h8
    .have:=aI.lt h ⟨id,o,sz,cap,h5,h7⟩;omega
   .obtain⟨h5',_⟩:=hold Sq o' e' h2;exact h.inj id Sq o o' b sz cap SC Rl h5 h5' h7 ((SN Sq o' h5')▸h4)
 .intro id o ho;by_cases e:id=U7
  .subst e;rw[hZ' o ho];exact Q5 hk
  .obtain⟨h5,h6⟩:=hold id o e ho;rw[SN id o h5];refine(h.obj id o h5).mono hμ hk hg.size (λb sz cap hp=>hg.block b ?_ (h6 b sz cap hp));exact aI.lt h ⟨id,o,sz,cap,h5,hp⟩
 .intro b hb H';rcases Yv b hb with h1|h1
  .exact h.fresh b h1 H'
  .have:=h.size;omega
structure Fr where
 w0:World
 QC:Nat->Prop
 X0:Mu
 n:Nat
 rd:Option (Nat×Loop)
structure Hy(F:Fr)(ow:Nat->Prop)(ds:List Deferred)(w:World):Prop where
 rnd:∀l r,F.rd=some (l,r)->w.heap[l]?=some (.loop r)/\¬ow l
 marks:∃Ds:List Nat,ds=Ds.map (λD=>{ target:=.collected D,args:=#[] })/\Ds.Nodup/\∀D∈Ds,F.w0.heap.size<=D/\w.heap[D]?=some (.deferred (some []))/\¬ow D
def Hy.vY{F:Fr}{ow R9:Nat->Prop}{ds:List Deferred}{w w':World}(h:Hy F ow ds w)(hk:dg ow R9 w w'):Hy F R9 ds w' where
 rnd:=λl r e=>by
  obtain⟨h1,h2⟩:=h.rnd l r e;have h3:=hk l (mT.1 h1).1 h2;exact⟨h3.2.trans h1,h3.1⟩
 marks:=by
  obtain⟨Ds,h1,h2,h3⟩:=h.marks;refine⟨Ds,h1,h2,λD hD=>?_⟩;obtain⟨g1,g2,g3⟩:=h3 D hD;have h4:=hk D (mT.1 g2).1 g3;exact⟨g1,h4.2.trans g2,h4.1⟩
structure St where
 s:Nat->V
 U:ag
structure dh(F:Fr)(I:Mu)(st:St)(a:Act)(w:World):Prop where
 sat:Sat F.w0 F.QC I st.U w
 le:dd F.X0 I
 size:a.tmps.size=F.n
 book:Hy F (aI I st.U) a.defers w
 slot:∀i,i<F.n->E' I (aI I st.U) w (st.s i) (a.tmps.getD i undef)
def eG(F:Fr)(st:St)(a:Act)(w:World):Prop:=∃I,dh F I st a w
def sM(P:Program)(f:FuncId)(args:List V)(U:ag)(Post:V->ag->Prop):Prop:=
 ∀I w PO,Sat w (aI I U) I U w->ax I (aI I U) w args PO->Calls P f PO.toArray w λe w'=>
  ∃r Z' Y' val,e=.returned val/\Post r Z'/\dd I Y'/\Sat w (aI I U) Y' Z' w'/\E' Y' (aI Y' Z') w' r val
def sM.mono{P:Program}{f:FuncId}{args:List V}{U:ag}{Post TQ:V->ag->Prop}(h:sM P f args U Post)
 (hp:∀r Z',Post r Z'->TQ r Z'):sM P f args U TQ:=λI w PO hs hr=>
 (h I w PO hs hr).mono λ_ _ ⟨r,Z',Y',val,h1,h2,h3⟩=>⟨r,Z',Y',val,h1,hp _ _ h2,h3⟩
inductive VX where
 |t (n:Nat)
 |c (v:V)
def cellOf:Value->V
 |.int k n=>.int k n
 |.bool b=>.bool b
 |.string s=>.str s.data.toList
 |.slice a n c=>if a=none/\n=0/\c=0 then .aT else .raw (.slice a n c)
 |.pointer a=>if a=none then .Uu else .raw (.pointer a)
 |.nilFunc=>.Rj
 |.nilIface=>.Rk
 |v=>.raw v
def ofValue:Value->V
 |.agg cs=>if cs.toList.all (·.oneCell')then .agg (cs.toList.map cellOf)else .raw (.agg cs)
 |v=>cellOf v
inductive MOp where
 |Xr (t:TypeId)
 |mkB (f:FuncId)
 |nilP (neg:Bool)
 |tY
 |tA
 |cpy (sz:Nat)
 |tas (t:TypeId) (ok:Bool) (zero:V)
 |inv (tbl:List (TypeId×FuncId))
 |mkMap
 |insM
 |lookM (ok:Bool) (zero:V)
 |delM
 |XM (kt:TypeId)
 |U8 (kt:TypeId) (ok:Bool) (zero:V)
inductive Qp where
 |more (m:MOp) (xs:List VX)
 |Qc (x:VX)
 |pick (c a b:VX)
 |bin (op:BinOp) (x y:VX)
 |not (x:VX)
 |neg (x:VX)
 |len (str:Bool) (x:VX)
 |fld (agg:Bool) (off sz:Nat) (x:VX)
 |P9 (agg:Bool) (off sz:Nat) (x:VX)
 |TZ (Sr:Nat) (x i:VX)
 |Yw (agg:Bool) (n Sr:Nat) (x i:VX)
 |idxV (agg:Bool) (n Sr:Nat) (x i:VX)
 |idxS (x i:VX)
 |load (agg:Bool) (sz:Nat) (x:VX)
 |slice (Sr:Nat) (x:VX) (lo hi mx:Option VX)
 |Vp (x:VX) (lo hi:Option VX)
 |ext (i:Nat) (x:VX)
 |WN (f:FuncId) (caps:List VX)
 |Xs (k:IntKind) (x:VX)
 |nilCheck (x:VX)
 |SE (neg:Bool) (x y:VX)
 |eqS (neg:Bool) (ks:List Nat) (x y:VX)
 |TA (max:Bool) (x y:VX)
 |WO (x:VX)
 |box (elem sz:Nat) (x:VX)
 |clear (sz:Nat) (zero:V) (x:VX)
 |alloc (elem sz:Nat) (zero:V)
 |store (sz:Nat) (a x:VX)
 |gr (elem sz:Nat) (parts:List VX)
 |build (zero:List V) (parts:List (Nat×Nat×VX))
 |append (elem sz bytes:Nat) (a b:VX)
 |cap (x:VX)
 |mk (elem sz bytes:Nat) (zero:V) (n:VX)
 |Vq (elem sz bytes:Nat) (zero:V) (a n:VX)
 |call (f:VX) (args:List VX)
 |rngS (rune:Bool) (x:VX)
 |nxtS (x:VX)
 |bad
structure aK where
 dst:Option Nat
 op:Qp
 g:Option (VX×Bool)
inductive bM where
 |skip
 |TB (draw:Bool) (l:List aK)
 |seq (a b:bM)
 |cond (c:VX) (a b:bM)
 |block (id:Nat) (a:bM)
 |loop (a:bM)
 |exit (id:Nat)
 |ret
 |fk (g:VX) (ps:List Nat) (a b:bM)
 |Uv (l:List aK) (P7:List (List Nat))
 |xG (l e:List aK)
 |bad
def bx:Qp->Nat
 |.call ..=>1
 |.store ..=>2
 |.alloc ..|.box ..|.gr ..|.append ..|.mk ..|.Vq ..=>3
 |.clear ..|.rngS ..|.nxtS _|.bad=>4
 |.more (.Xr _) _|.more (.mkB _) _|.more (.tas ..) _|.more (.nilP _) _=>0
 |.more ..=>4
 |_=>0
def Qp.xs:Qp->List VX
 |.Qc x|.not x|.neg x|.len _ x|.fld _ _ _ x|.P9 _ _ _ x|.load _ _ x|.ext _ x|.Xs _ x|.nilCheck x|.WO x|.box _ _ x|.clear _ _ x|.cap x|.mk _ _ _ _ x|.rngS _ x|.nxtS x=>[x]
 |.bin _ x y|.TZ _ x y|.Yw _ _ _ x y|.idxV _ _ _ x y|.idxS x y|.SE _ x y|.eqS _ _ x y|.TA _ x y|.store _ x y|.append _ _ _ x y|.Vq _ _ _ _ x y=>[x,y]
 |.pick x y z=>[x,y,z]
 |.slice _ x lo hi mx=>x::(lo.toList++hi.toList++mx.toList)
 |.Vp x lo hi=>x::(lo.toList++hi.toList)
 |.WN _ xs=>xs
 |.more _ xs=>xs
 |.gr _ _ xs=>xs
 |.build _ ps=>ps.map (·.2.2)
 |.call f xs=>f::xs
 |.alloc ..|.bad=>[]
def VX.Is:VX->Option Nat
 |.t d=>some d
 |.c _=>none
def aK.lF(i:aK):List Nat:=(i.op.xs++(i.g.map (·.1)).toList).filterMap VX.Is
def k0:Qp->Bool
 |.load ..|.TZ ..|.slice ..|.WO ..=>false
 |op=>bx op==0
def Br(A B:aK):Bool:=
 (match A.dst with
  |some d=>!B.lF.contains d&&B.dst != some d
  |none=>true)&&
 (match B.dst with
  |some d=>!A.lF.contains d
  |none=>true)
def fN(i:aK):Bool:=decide (bx i.op<=1)
def sU(i:aK):Bool:=bx i.op==2||bx i.op==3
def Xr(i:aK):Bool:=match i.op with
 |.alloc ..|.box ..|.gr ..|.mk ..=>true
 |_=>false
def DQ(i:aK):Bool:=match i.op with
 |.alloc ..|.box ..|.gr ..|.append ..|.mk ..=>true
 |_=>false
def j6(i:aK):Bool:=bx i.op==0
def iH(A B:aK):Bool:=Br A B&&((fN A&&fN B)||(sU A&&k0 B.op)||(k0 A.op&&sU B)||(fN A&&Xr B)||(DQ A&&j6 B)||(DQ A&&Xr B))
def KU(P:Program)(a b:TypeId):Bool:=match P.underlying a,P.underlying b with
 |some (.int _),some .string=>true
 |_,_=>false
section comp
variable (P:Program) (n:Nat)
def cx:Operand->VX
 |.tmp t=>if t<n then .t t else .c (.PN [])
 |.const v=>.c (ofValue v)
 |.func f=>.c (.fn f [])
 |.global g=>.c (.raw (.pointer (some ⟨g,0,none⟩)))
def fH(t:TypeId):Bool:=match P.underlying t with
 |some (.struct _)|some (.array _ _)=>true
 |_=>false
def cb(t:TypeId):Bool:=(P.info? t).isSome&&(P.underlying t).isSome&&P.cellsOf t != 0
def zeroOf(e:TypeId):Option (TypeInfo×Value):=match P.info? e with
 |some i=>match i.zero with
  |some z=>if cb P e&&z.cells.size==i.size&&z.cells.toList.all (·.oneCell')then some (i,z)else none
  |none=>none
 |none=>none
def ot(t:TypeId):Bool:=match P.underlying t,P.info? t with
 |some (.struct fs),some i=>fs.size==0&&(i.size==0&&(match i.zero with
  |some (.agg z)=>z.size==0
  |_=>false))
 |_,_=>false
def u8T(t:TypeId):Bool:=match P.underlying t with
 |some (.int .u8)=>true
 |_=>false
def GG(t:TypeId):Bool:=match P.underlying t with
 |some (.int _)|some .bool|some .string=>true
 |_=>false
def px(t:TypeId):Nat:=match P.underlying t with
 |some (.int _)=>0
 |some .bool=>1
 |some .string=>2
 |_=>3
def EN(t:TypeId)(fs:Array Field):Bool:=
 (fs.toList.map (·.offset)==List.range fs.size)&&(fs.toList.all λf=>GG P f.type&&f.name != "_"&&cb P f.type)&&!P.stoodInHeld t&&!P.eqGuardType P.depth t
def MP:Value->Bool
 |.slice none _ _=>true
 |_=>false
def DK:Operand->Bool
 |.const v=>MP v
 |_=>false
def cu(op:BinOp)(x:VX)(y:Operand):Qp:=if op=.eql/\DK y=true then .SE false x (.c (.iface 0 .undef))else .bad
def yy(t:TypeId):Bool:=match P.underlying t with
 |some (.slice _)=>true
 |_=>false
def ux(t:TypeId):Bool:=match P.underlying t with
 |some (.interface _)=>true
 |_=>false
def Nl:Operand->Bool
 |.const .nilIface=>true
 |_=>false
def MV(t:TypeId):Bool:=match P.underlying t with
 |some (.func _ _ _)=>true
 |_=>false
def MY:Operand->Bool
 |.const .nilFunc=>true
 |_=>false
def MH(t:TypeId):Bool:=match P.underlying t with
 |some (.pointer _)=>true
 |_=>false
def IW:Operand->Bool
 |.const (.pointer none)=>true
 |_=>false
def Ig(t:TypeId):Option TypeId:=match P.underlying t with
 |some (.map k e)=>match P.underlying k with
  |some (.int _)=>some e
  |_=>none
 |_=>none
def uS(t:TypeId):Option (TypeId×TypeId):=match P.underlying t with
 |some (.map k e)=>match P.underlying k with
  |some (.struct _)=>some (k,e)
  |_=>none
 |_=>none
def MR(name:String)(t:TypeId):Option FuncId:=match P.info? t with
 |some i=>match i.methods.find? (·.name==name)with
  |some m=>if m.path.isEmpty then match m.func,P.underlying t with
     |some (f,true),some (.pointer _)=>some f
     |some (_,false),some (.pointer _)=>none
     |some (f,false),some _=>some f
     |_,_=>none
   else none
  |none=>none
 |none=>none
def Ly(name:String):List (TypeId×FuncId):=(List.range P.types.size).filterMap λt=>(MR P name t).map λf=>(t,f)
def tm:Operand->Operand->Bool
 |.tmp a,.tmp b=>a==b
 |.const (.int k a),.const (.int k' b)=>decide (k=k'/\a=b)
 |_,_=>false
def P3:Op->Qp
 |.move x|.assign x=>.Qc (cx n x)
 |.pick c a b=>.pick (cx n c) (cx n a) (cx n b)
 |.binOp op t x y _=>match P.underlying t with
   |some .bool=>match op with
    |.eql=>.SE false (cx n x) (cx n y)
    |.neq=>.SE true (cx n x) (cx n y)
    |_=>.bad
   |some (.struct fs)=>if EN P t fs then match op with
    |.eql=>.eqS false (fs.toList.map λf=>px P f.type) (cx n x) (cx n y)
    |.neq=>.eqS true (fs.toList.map λf=>px P f.type) (cx n x) (cx n y)
    |_=>.bad
    else .bad
   |_=>if yy P t then cu op (cx n x) y else if ux P t then(if(op=.eql\/op=.neq)/\Nl y=true then .SE (op==.neq) (cx n x) (.c (.iface 1 .undef))else .bad)else if MV P t then(if(op=.eql\/op=.neq)/\MY y=true then .SE (op==.neq) (cx n x) (.c (.iface 2 .undef))else .bad)else if MH P t&&IW y then(if op=.eql\/op=.neq then .more (.nilP (op==.neq)) [cx n x]else .bad)else .bin op (cx n x) (cx n y)
 |.nilCheck x=>.nilCheck (cx n x)
 |.box e x=>if cb P e then .box e (P.cellsOf e) (cx n x)else .bad
 |.unOp .not _ x=>.not (cx n x)
 |.unOp .neg _ x=>.neg (cx n x)
 |.field s x f=>match P.underlying s with
   |some (.struct fs)=>match fs[f]? with
    |some fd=>if cb P fd.type then .fld (fH P fd.type) fd.offset (P.cellsOf fd.type) (cx n x)else .bad
    |none=>.bad
   |_=>.bad
 |.fieldAddr s x f=>match P.underlying s with
   |some (.struct fs)=>match fs[f]? with
    |some fd=>if cb P fd.type then .P9 (fH P fd.type) fd.offset (P.cellsOf fd.type) (cx n x)else .bad
    |none=>.bad
   |_=>.bad
 |.indexAddr t x i=>match P.underlying t with
   |some (.slice e)=>if cb P e then .TZ (P.cellsOf e) (cx n x) (cx n i)else .bad
   |some (.array k e)=>if cb P e then .Yw (fH P e) k (P.cellsOf e) (cx n x) (cx n i)else .bad
   |_=>.bad
 |.index t x i=>match P.underlying t with
   |some (.array k e)=>if cb P e then .idxV (fH P e) k (P.cellsOf e) (cx n x) (cx n i)else .bad
   |some .string=>.idxS (cx n x) (cx n i)
   |_=>.bad
 |.load t x=>if cb P t then .load (fH P t) (P.cellsOf t) (cx n x)else .bad
 |.slice t x lo hi mx=>match P.underlying t with
   |some (.slice e)=>if cb P e&&(mx.isNone||hi.isSome)then .slice (P.cellsOf e) (cx n x) (lo.map (cx n)) (hi.map (cx n)) (mx.map (cx n))else .bad
   |some .string=>if mx.isNone then .Vp (cx n x) (lo.map (cx n)) (hi.map (cx n))else .bad
   |_=>.bad
 |.extract x i=>.ext i (cx n x)
 |.makeFunc (.func f) first caps=>if first.size=0 then .WN f (caps.toList.map (cx n))else if caps.size=0 then .more (.mkB f) (first.toList.map (cx n))else .bad
 |.convert src dst x=>match P.underlying src,P.underlying dst with
   |some (.int _),some (.int k)=>.Xs k (cx n x)
   |some (.slice e),some .string=>if u8T P e then .WO (cx n x)else .bad
   |_,_=>if KU P src dst then .rngS true (cx n x)else .bad
 |.alloc e=>match zeroOf P e with
   |some (i,z)=>.alloc e i.size (ofValue z)
   |none=>if ot P e then .more .tY []else .bad
 |.store t a x=>if cb P t then .store (P.cellsOf t) (cx n a) (cx n x)else if ot P t then .more .tA [cx n a,cx n x]else .bad
 |.buildSlice t len parts=>match P.underlying t with
   |some (.slice e)=>match zeroOf P e with
    |some (i,_)=>if parts.toList.map (·.1)=List.range len/\len*i.size<=16777216 then .gr e i.size (parts.toList.map λp=>cx n p.2)else .bad
    |none=>.bad
   |_=>.bad
 |.build t parts=>if ot P t&&parts.size==0 then .Qc (.c (.agg []))else match zeroOf P t,P.underlying t with
   |some (_,.agg z),some (.struct fs)=>
    if(fs.toList.all λf=>cb P f.type)&&(parts.toList.all λp=>decide (p.1<fs.size))then
     .build (z.toList.map cellOf) (parts.toList.map λp=>(((fs[p.1]?).map (·.offset)).getD 0,((fs[p.1]?).map λf=>P.cellsOf f.type).getD 0,cx n p.2))
    else .bad
   |some (_,.agg z),some (.array _ e)=>if cb P e then .build (z.toList.map cellOf) (parts.toList.map λp=>(p.1*P.cellsOf e,P.cellsOf e,cx n p.2))else .bad
   |_,_=>.bad
 |.call { callee:=.builtin .len,args,argTypes }=>match args.toList,argTypes[0]? with
   |[x],some t=>match P.underlying t with
    |some (.slice _)=>.len false (cx n x)
    |some .string=>.len true (cx n x)
    |_=>.bad
   |_,_=>.bad
 |.call { callee:=.builtin .append,args,argTypes }=>match args.toList,argTypes.toList with
   |[a,b],[t,t']=>if t=t' then match P.underlying t with
    |some (.slice e)=>match zeroOf P e with
     |some (i,_)=>.append e i.size i.bytes (cx n a) (cx n b)
     |none=>.bad
    |_=>.bad
    else match P.underlying t,P.underlying t' with
    |some (.slice e),some (.int _)=>match zeroOf P e with
     |some (i,z)=>.Vq e i.size i.bytes (ofValue z) (cx n a) (cx n b)
     |none=>.bad
    |some (.slice e),some .string=>match zeroOf P e with
     |some (i,_)=>.append e i.size i.bytes (cx n a) (cx n b)
     |none=>.bad
    |_,_=>.bad
   |_,_=>.bad
 |.makeSlice t l c=>match P.underlying t with
   |some (.slice e)=>match zeroOf P e with
    |some (i,z)=>if tm l c then .mk e i.size i.bytes (ofValue z) (cx n l)else .bad
    |none=>.bad
   |_=>.bad
 |.call { callee:=.builtin .cap,args,argTypes }=>match args.toList,argTypes[0]? with
   |[x],some t=>if yy P t then .cap (cx n x)else .bad
   |_,_=>.bad
 |.call { callee:=.builtin .min,args,.. }=>match args.toList with
   |[x,y]=>.TA false (cx n x) (cx n y)
   |_=>.bad
 |.call { callee:=.builtin .max,args,.. }=>match args.toList with
   |[x,y]=>.TA true (cx n x) (cx n y)
   |_=>.bad
 |.call { callee:=.builtin .clear,args,argTypes }=>match args.toList,argTypes[0]? with
   |[x],some t=>match P.underlying t with
    |some (.slice e)=>match zeroOf P e with
     |some (i,z)=>.clear i.size (ofValue z) (cx n x)
     |none=>.bad
    |_=>.bad
   |_,_=>.bad
 |.call { callee:=.builtin .copy,args,argTypes }=>match args.toList,argTypes[0]? with
   |[x,y],some t=>match P.underlying t with
    |some (.slice e)=>if cb P e then .more (.cpy (P.cellsOf e)) [cx n x,cx n y]else .bad
    |_=>.bad
   |_,_=>.bad
 |.call { callee:=.value f,args,.. }=>.call (cx n f) (args.toList.map (cx n))
 |.range t x=>match P.underlying t with
   |some .string=>.rngS false (cx n x)
   |_=>.bad
 |.makeInterface t x=>if(P.underlying t).isSome&&!ux P t then .more (.Xr t) [cx n x]else .bad
 |.typeAssert x _ t ok=>if ux P t then .bad else match zeroOf P t with
   |some (_,z)=>.more (.tas t ok (ofValue z)) [cx n x]
   |none=>if ot P t then .more (.tas t ok (.agg [])) [cx n x]else .bad
 |.call { callee:=.invoke r name,args,.. }=>.more (.inv (Ly P name)) (cx n r::args.toList.map (cx n))
 |.makeMap t r=>if r.isNone&&((Ig P t).isSome||(uS P t).isSome)then .more .mkMap []else .bad
 |.insert t m k x|.mapUpdate t m k x=>if(Ig P t).isSome then .more .insM [cx n m,cx n k,cx n x]else match uS P t with
   |some (kt,_)=>.more (.XM kt) [cx n m,cx n k,cx n x]
   |none=>.bad
 |.lookup t x i ok=>match Ig P t with
   |some e=>match zeroOf P e with
    |some (_,z)=>.more (.lookM ok (ofValue z)) [cx n x,cx n i]
    |none=>.bad
   |none=>match uS P t with
    |some (kt,e)=>match zeroOf P e with
     |some (_,z)=>.more (.U8 kt ok (ofValue z)) [cx n x,cx n i]
     |none=>.bad
    |none=>.bad
 |.call { callee:=.builtin .delete,args,argTypes }=>match args.toList,argTypes[0]? with
   |[m,k],some t=>if(Ig P t).isSome then .more .delM [cx n m,cx n k]else .bad
   |_,_=>.bad
 |.next it b=>if b=true then .nxtS (cx n it)else .bad
 |_=>.bad
def bT(all:Array Oper)(o:Oper):aK where
 dst:=o.dst.filter (·<n)
 op:=P3 P n o.op
 g:=o.guard.map λ(j,want)=>(match(all[j]?).bind (·.dst)with
  |some d=>if d<n then .t d else .c (.PN [])
  |none=>.c (.PN []),want)
def CL(ops:Array Oper)(k:Nat)(g':Array Bool):Bool:=match ops[k]? with
 |some ok=>(List.range ops.size).all λj=>j==k||g'.getD j true||(match ops[j]? with
    |some oj=>((Region.before ops).getD j 0).testBit k||iH (bT P n ops ok) (bT P n ops oj)
    |none=>true)
 |none=>false
def v8(ops:Array Oper):Nat->Nat->Array Bool->Bool
 |0,_,g'=>(Region.ready .any ops g').isEmpty
 |m+1,k,g'=>(Region.ready .any ops g').contains k&&CL P n ops k g'&&v8 ops m (k+1) (g'.setIfInBounds k true)
def HQ(l:List aK):Bool:=l.any λi=>match i.op with
 |.append _ _ _ (.t d) _=>l.any λj=>j.dst==some d&&(match j.op with|.call ..=>true|_=>false)
 |_=>false
def zK(l:List aK)(d:Nat):Option Qp:=(l.find? λj=>j.dst==some d).map (·.op)
def yC:Option Qp->Bool
 |some (.call ..)=>true
 |_=>false
def Hc(l:List aK):Bool:=l.any λi=>match i.op with
 |.append _ _ _ (.t d) (.t v)=>yC (zK l v)&&(match zK l d with
  |some (.append _ _ _ _ (.t w))=>yC (zK l w)
  |_=>false)
 |.call (.t f) _=>match zK l f with
  |some (.idxV _ _ _ (.t a) _)=>yC (zK l a)
  |_=>false
 |_=>false
def Kq(l:List aK):Bool:=(l.any λi=>match i.op with|.WN _ (_::_)=>true|_=>false)&&(l.any λi=>match i.op with|.call ..=>true|_=>false)&&l.any λi=>match i.op with|.store ..=>true|_=>false
def xA(l:List aK):Bool:=HQ l||Hc l||Kq l||
 (l.any λi=>match i.op with|.call ..=>true|_=>false)&&(l.any λi=>match i.op with|.nilCheck _=>true|_=>false)&&l.any λi=>match i.op with|.store ..=>true|_=>false
def oQ(ops:Array Oper):Bool:=P.follows .mixedOrders&&(!(xA (ops.toList.map (bT P n ops)))&&v8 P n ops ops.size 0 (Array.replicate ops.size false))
def EE(ops:Array Oper)(m:Nat):Nat->Nat->Array Bool->Bool
 |0,_,g'=>decide (Region.ready .any ops g'=[m])&&(Region.ready .any ops (g'.setIfInBounds m true)).isEmpty
 |f+1,k,g'=>((Region.ready .any ops g').contains k&&(decide (k≠m)&&((Region.before ops).getD m 0).testBit k))&&(CL P n ops k g'&&EE ops m f (k+1) (g'.setIfInBounds k true))
def HN:aK->Bool
 |⟨_,.call ..,_⟩=>true
 |_=>false
def yI(ops:Array Oper):Bool:=P.follows .mixedOrders&&(decide (0<ops.size)&&(((ops.toList.drop (ops.size-1)).map (bT P n ops)).any HN&&(!(xA ((ops.toList.take (ops.size-1)).map (bT P n ops)))&&EE P n ops (ops.size-1) (ops.size-1) 0 (Array.replicate ops.size false))))
def dE:Code->bM
 |.skip=>.skip
 |.region _ ops draw=>if draw&&yI P n ops then .xG ((ops.toList.take (ops.size-1)).map (bT P n ops)) ((ops.toList.drop (ops.size-1)).map (bT P n ops))else if draw&&!(oQ P n ops)then .Uv (ops.toList.map (bT P n ops)) (ops.toList.map λo=>(o.after.toList.filter (Region.binds .any)).map (·.on))else .TB draw (ops.toList.map (bT P n ops))
 |.seq a b=>.seq (dE a) (dE b)
 |.cond c a b=>.cond (cx n c) (dE a) (dE b)
 |.block id a=>.block id (dE a)
 |.loop a=>.loop (dE a)
 |.exit id=>.exit id
 |.ret=>.ret
 |.rangeFunc g ps a c=>.fk (cx n g) ps.toList (dE a) (dE c)
 |_=>.bad
end comp
def VX.ev(s:Nat->V):VX->V
 |.t n=>s n
 |.c v=>v
def PY(k:IntKind)(n:Int):Prop:=k.wrap n=n
def dn(op:BinOp)(k:IntKind)(a b:Int):Option V:=
 match op with
 |.add=>some (.int k (a+b))
 |.sub=>some (.int k (a-b))
 |.mul=>some (.int k (a*b))
 |.quo=>if b=0 then none else some (.int k (a.tdiv b))
 |.rem=>if b=0 then none else some (.int k (a.tmod b))
 |.eql=>some (.bool (decide (a=b)))
 |.neq=>some (.bool (decide (a≠b)))
 |.lss=>some (.bool (decide (a<b)))
 |.leq=>some (.bool (decide (a<=b)))
 |.gtr=>some (.bool (decide (a>b)))
 |.geq=>some (.bool (decide (a>=b)))
 |.and=>some (.int k (k.wrap (BitVec.ofInt k.bits a &&& BitVec.ofInt k.bits b).toNat))
 |.or=>some (.int k (k.wrap (BitVec.ofInt k.bits a ||| BitVec.ofInt k.bits b).toNat))
 |.shl=>if b<0 then none else some (.int k (k.wrap (a*2^(min b.toNat k.bits))))
 |.shr=>if b<0 then none else some (.int k (a.fdiv (2^(min b.toNat k.bits))))
 |_=>none
def dk(op:BinOp)(k:IntKind)(a b:Int):Prop:=
 match op with
 |.add=>PY k (a+b)
 |.sub=>PY k (a-b)
 |.mul=>PY k (a*b)
 |.quo=>PY k (a.tdiv b)
 |_=>True
def dp(op:BinOp)(a b:List UInt8):Option V:=
 match op with
 |.add=>some (.str (a++b))
 |.eql=>some (.bool (decide (a=b)))
 |.neq=>some (.bool (decide (a≠b)))
 |_=>none
def dv(op:BinOp)(a b:List UInt8):Prop:=
 match op with
 |.add=>a.length+b.length<=9223372036854775807
 |_=>True
def DT(op:BinOp):V->V->Option V
 |.int k a,.int k' b=>if k=k' then dn op k a b else none
 |.str a,.str b=>dp op a b
 |_,_=>none
def qI(op:BinOp):V->V->Prop
 |.int k a,.int _ b=>dk op k a b
 |.str a,.str b=>dv op a b
 |_,_=>True
def bz(agg:Bool)(off sz:Nat)(vs:List V):Option V:=
 if agg then some (.agg ((vs.drop off).take sz))else vs[off]?
def jf:V->Option V
 |.aT=>some (.int .i64 0)
 |_=>none
def dR:Bool->V->Option V
 |false,.own _ _ n=>some (.int .i64 n)
 |false,.sl _ rows=>some (.int .i64 rows.length)
 |false,.aT=>some (.int .i64 0)
 |true,.str s=>some (.int .i64 s.length)
 |_,_=>none
def jj(agg:Bool)(off sz:Nat):V->Option V
 |.agg vs=>bz agg off sz vs
 |_=>none
def fG(agg:Bool)(off sz:Nat):V->Option V
 |.ptr id i k=>some (.ptr id i (k+off))
 |.rp v=>(bz agg off sz v.cells).map .rp
 |_=>none
def bS(U:ag)(Sr:Nat):V->V->Option V
 |.own id off len,.int _ j=>match U id with
   |some ob=>if ob.sz=Sr/\0<=j/\j<len then some (.ptr id (off+j.toNat) 0)else none
   |none=>none
 |.sl sz rows,.int _ j=>if sz=Sr/\0<=j then match rows[j.toNat]? with
   |some r=>some (.rp r)
   |none=>none
   else none
 |_,_=>none
def dr(agg:Bool)(n Sr:Nat):V->V->Option V
 |.ptr id i k,.int _ j=>if 0<=j/\j<n then some (.ptr id i (k+j.toNat*Sr))else none
 |.rp v,.int _ j=>if 0<=j/\j<n then(bz agg (j.toNat*Sr) Sr v.cells).map .rp else none
 |_,_=>none
def eR(agg:Bool)(n Sr:Nat):V->V->Option V
 |.agg vs,.int _ j=>if 0<=j/\j<n then bz agg (j.toNat*Sr) Sr vs else none
 |_,_=>none
def eQ:V->V->Option V
 |.str s,.int _ j=>if 0<=j then match s[j.toNat]? with
   |some b=>some (.int .u8 b.toNat)
   |none=>none
   else none
 |_,_=>none
def cj(U:ag)(agg:Bool)(sz:Nat):V->Option V
 |.ptr id i k=>match U id with
   |some ob=>match ob.rows[i]? with
    |some r=>if agg then(if k=0/\r.cells.length=sz then some (.agg r.cells)else if k+sz<=r.cells.length then some (.agg ((r.cells.drop k).take sz))else none)
       else r.cells[k]?
    |none=>none
   |none=>none
 |.rp v=>if agg then(if v.cells.length=sz then some (.agg v.cells)else none)else match v with
   |.agg _=>none
   |v=>some v
 |_=>none
def bR(d:Int):Option V->Option Int
 |none=>some d
 |some (.int _ j)=>some j
 |_=>none
def gW(U:ag)(id Sr:Nat):Bool:=match U id with
 |some ob=>ob.sz==Sr
 |none=>false
def cP(U:ag)(Sr:Nat)(x:V)(lo hi mx:Option V):Option V:=
 match x with
 |.own id off len=>match bR 0 lo,bR len hi,bR len mx with
   |some l,some h,some m=>if 0<=l/\l<=h/\h<=m/\m<=len/\gW U id Sr=true then some (.own id (off+l.toNat) (h.toNat-l.toNat))else none
   |_,_,_=>none
 |.sl sz rows=>match bR 0 lo,bR rows.length hi,bR rows.length mx with
   |some l,some h,some m=>if 0<=l/\l<=h/\h<=m/\m<=rows.length/\sz=Sr then some (.sl sz ((rows.drop l.toNat).take (h.toNat-l.toNat)))else none
   |_,_,_=>none
 |.aT=>match bR 0 lo,bR 0 hi,bR 0 mx with
   |some l,some h,some m=>if l=0/\h=0/\m=0 then some .aT else none
   |_,_,_=>none
 |_=>none
def cD(x:V)(lo hi:Option V):Option V:=
 match x with
 |.str s=>match bR 0 lo,bR s.length hi with
   |some l,some h=>if 0<=l/\l<=h/\h<=s.length then some (.str ((s.drop l.toNat).take (h.toNat-l.toNat)))else none
   |_,_=>none
 |_=>none
def bP{α:Type}(l:List α)(off:Nat)(xs:List α):List α:=l.take off++xs++l.drop (off+xs.length)
def V.stays:V->Bool
 |.undef=>false
 |.PN _=>false
 |.raw v=>v.oneCell'
 |_=>true
def cV(zero:List V):List (Nat×Nat×V)->Option (List V)
 |[]=>some zero
 |(off,sz,x)::r=>if x.cells.length=sz/\x.stays=true/\off+sz<=zero.length then cV (bP zero off x.cells) r else none
def jv(i:Nat):V->Option V
 |.PN vs=>vs[i]?
 |_=>none
def cQ:V->V->Option Bool
 |.int k a,.int k' b=>if k=k' then some (decide (a=b))else none
 |.bool a,.bool b=>some (a==b)
 |.str a,.str b=>some (decide (a=b))
 |_,_=>none
def bX:List V->List V->Option Bool
 |[],[]=>some true
 |v::vs,u::us=>match cQ v u,bX vs us with
   |some a,some b=>some (a&&b)
   |_,_=>none
 |_,_=>none
def cX:List Nat->List V->Bool
 |[],[]=>true
 |0::ks,.int _ _::vs=>cX ks vs
 |1::ks,.bool _::vs=>cX ks vs
 |2::ks,.str _::vs=>cX ks vs
 |_,_=>false
def jX(neg:Bool)(ks:List Nat):V->V->Option V
 |.agg vs,.agg us=>if cX ks vs=true/\us.length=vs.length then match bX vs us with
   |some b=>some (.bool (if neg then !b else b))
   |none=>none
   else none
 |_,_=>none
def binBV(neg:Bool):V->V->Option V
 |.bool a,.bool b=>some (.bool (if neg then !(a==b)else a==b))
 |_,_=>none
def cC(max:Bool):V->V->Option V
 |.int k a,.int k' b=>if k=k' then some (.int k (if max then(if b>a then b else a)else(if b<a then b else a)))else none
 |_,_=>none
def byteOf:V->Option UInt8
 |.int .u8 n=>some (UInt8.ofNat n.toNat)
 |_=>none
def bytesOf:List V->Option (List UInt8)
 |[]=>some []
 |v::vs=>match byteOf v,bytesOf vs with
   |some b,some l=>some (b::l)
   |_,_=>none
def cW(U:ag):V->Option V
 |.aT=>some (.str [])
 |.own id off len=>match U id with
   |some ob=>if ob.sz=1/\off+len<=ob.rows.length then(bytesOf ((ob.rows.drop off).take len)).map .str else none
   |none=>none
 |_=>none
def bK:V->Option V
 |.ptr id i k=>some (.ptr id i k)
 |.rp v=>some (.rp v)
 |.fn f caps=>some (.fn f caps)
 |.iface t v=>some (.iface t v)
 |_=>none
def GX(neg:Bool):V->Option V
 |.Uu=>some (.bool (!neg))
 |.ptr _ _ _=>some (.bool neg)
 |.rp _=>some (.bool neg)
 |_=>none
def HT(t:TypeId)(ok:Bool)(zero:V):V->Option V
 |.iface t' v=>if t'=t then some (if ok then .PN [v,.bool true]else v)else(if ok then some (.PN [zero,.bool false])else none)
 |.Rk=>if ok then some (.PN [zero,.bool false])else none
 |_=>none
def aM(U:ag)(s:Nat->V):Qp->Option V
 |.Qc x=>some (x.ev s)
 |.pick c a b=>match c.ev s with
   |.bool t=>some (if t then a.ev s else b.ev s)
   |_=>none
 |.bin op x y=>DT op (x.ev s) (y.ev s)
 |.not x=>match x.ev s with
   |.bool b=>some (.bool (!b))
   |_=>none
 |.neg x=>match x.ev s with
   |.int k a=>some (.int k (0-a))
   |_=>none
 |.len b x=>dR b (x.ev s)
 |.cap x=>jf (x.ev s)
 |.fld agg off sz x=>jj agg off sz (x.ev s)
 |.P9 agg off sz x=>fG agg off sz (x.ev s)
 |.TZ Sr x i=>bS U Sr (x.ev s) (i.ev s)
 |.Yw agg n Sr x i=>dr agg n Sr (x.ev s) (i.ev s)
 |.idxV agg n Sr x i=>eR agg n Sr (x.ev s) (i.ev s)
 |.idxS x i=>eQ (x.ev s) (i.ev s)
 |.load agg sz x=>cj U agg sz (x.ev s)
 |.slice Sr x lo hi mx=>cP U Sr (x.ev s) (lo.map (·.ev s)) (hi.map (·.ev s)) (mx.map (·.ev s))
 |.Vp x lo hi=>cD (x.ev s) (lo.map (·.ev s)) (hi.map (·.ev s))
 |.nilCheck x=>bK (x.ev s)
 |.SE neg x y=>binBV neg (x.ev s) (y.ev s)
 |.eqS neg ks x y=>jX neg ks (x.ev s) (y.ev s)
 |.TA m x y=>cC m (x.ev s) (y.ev s)
 |.WO x=>cW U (x.ev s)
 |.ext i x=>jv i (x.ev s)
 |.build zero parts=>(cV zero (parts.map λp=>(p.1,p.2.1,p.2.2.ev s))).map .agg
 |.WN f caps=>some (.fn f (caps.map (·.ev s)))
 |.more (.Xr t) [x]=>some (.iface t (x.ev s))
 |.more (.mkB f) xs=>some (.bm f (xs.map (·.ev s)))
 |.more (.tas t ok z) [x]=>HT t ok z (x.ev s)
 |.more (.nilP neg) [x]=>GX neg (x.ev s)
 |.Xs k x=>match x.ev s with
   |.int _ a=>some (.int k a)
   |_=>none
 |_=>none
def fb(s:Nat->V):Qp->Prop
 |.bin op x y=>qI op (x.ev s) (y.ev s)
 |.neg x=>match x.ev s with
   |.int k a=>PY k (0-a)
   |_=>True
 |.Xs k x=>match x.ev s with
   |.int _ a=>PY k a
   |_=>True
 |_=>True
variable {P:Program} {I:Mu} {ow:Nat->Prop} {w:World}
def pW{α:Type}[DecidableEq α][BEq α][LawfulBEq α](a b:α):(a==b)=decide (a=b):=by by_cases h:a=b<;>simp[h]
def Ip{α:Type}[DecidableEq α][BEq α][LawfulBEq α](a b:α):(a != b)=decide (a≠b):=by by_cases h:a=b<;>simp[h]
def fY(b off j:Nat):(⟨b,off,none⟩:Addr).add j=⟨b,off+j,none⟩:=by
 unfold Addr.add;split<;>simp_all
def ax.length:∀{vs:List V} {l:List Value},ax I ow w vs l->l.length=vs.length
 |[],l,h=>by simp[ax]at h;simp[h]
 |v::vs,l,h=>by
  simp only[ax]at h;obtain⟨x,xs,rfl,_,h2⟩:=h;simp[ax.length h2]
def ax.get:∀{vs:List V} {l:List Value} {i:Nat} {v:V},ax I ow w vs l->vs[i]?=some v->∃x,l[i]?=some x/\E' I ow w v x
 |[],l,i,v,_,h=>by simp at h
 |u::vs,l,i,v,h,hv=>by
  simp only[ax]at h;obtain⟨x,xs,rfl,h1,h2⟩:=h;cases i with
  |zero=>simp at hv;subst hv;exact⟨x,by simp,h1⟩
  |succ i=>simpa using ax.get h2 (by simpa using hv)
def ax.drop:∀{vs:List V} {l:List Value} (k:Nat),ax I ow w vs l->ax I ow w (vs.drop k) (l.drop k)
 |[],l,k,h=>by simp[ax]at h;subst h;simp[ax]
 |v::vs,l,0,h=>by simpa using h
 |v::vs,l,k+1,h=>by
  simp only[ax]at h;obtain⟨x,xs,rfl,h1,h2⟩:=h;simpa using ax.drop k h2
def ax.take:∀{vs:List V} {l:List Value} (k:Nat),ax I ow w vs l->ax I ow w (vs.take k) (l.take k)
 |[],l,k,h=>by simp[ax]at h;subst h;simp[ax]
 |v::vs,l,0,h=>by simp[ax]
 |v::vs,l,k+1,h=>by
  simp only[ax]at h;obtain⟨x,xs,rfl,h1,h2⟩:=h;simp only[Bo,ax];exact⟨x,_,rfl,h1,ax.take k h2⟩
def aW.get:∀{vs:List V} {b off k:Nat} {v:V},aW I ow w vs b off->vs[k]?=some v->
 ∃x,w.cell? ⟨b,off+k,none⟩=some x/\E' I ow w v x/\x.oneCell'=true
 |[],_,_,_,_,_,h=>by simp at h
 |u::vs,b,off,k,v,h,hv=>by
  simp only[aW]at h;cases k with
  |zero=>simp at hv;subst hv;exact h.1
  |succ k=>
   have:=aW.get (k:=k) h.2 (by simpa using hv)
   rwa [show off+1+k=off+(k+1) by omega]at this
def aW.drop:∀{vs:List V} {b off:Nat} (k:Nat),aW I ow w vs b off->aW I ow w (vs.drop k) b (off+k)
 |[],_,_,_,_=>by simp[aW]
 |u::vs,b,off,0,h=>by simpa using h
 |u::vs,b,off,k+1,h=>by
  simp only[aW]at h;have:=aW.drop k h.2;rw[show off+1+k=off+(k+1) by omega]at this;simpa using this
def aW.take:∀{vs:List V} {b off:Nat} (k:Nat),aW I ow w vs b off->aW I ow w (vs.take k) b off
 |[],_,_,_,_=>by simp[aW]
 |u::vs,b,off,0,h=>by simp[aW]
 |u::vs,b,off,k+1,h=>by
  simp only[aW]at h;simp only[Bo,aW];exact⟨h.1,aW.take k h.2⟩
def aW.Ca:∀{vs:List V} {b off:Nat},aW I ow w vs b off->
 ∃xs,ax I ow w vs xs/\(∀u∈xs,u.oneCell'=true)/\∀(j:Nat) u,xs[j]?=some u->w.cell? ⟨b,off+j,none⟩=some u
 |[],_,_,_=>⟨[],by simp[ax],by simp,by simp⟩
 |v::vs,b,off,h=>by
  simp only[aW]at h;obtain⟨⟨x,h1,h2,h3⟩,h4⟩:=h;obtain⟨xs,h5,h6,h7⟩:=aW.Ca h4;refine⟨x::xs,by simp only[ax];exact⟨x,xs,rfl,h2,h5⟩,by simpa using⟨h3,h6⟩,?_⟩;intro j u hu;cases j with
  |zero=>simp at hu;subst hu;exact h1
  |succ j=>
   have:=h7 j u (by simpa using hu)
   rwa [show off+1+j=off+(j+1) by omega]at this
def bg.get:∀{rows:List V} {b off sz i:Nat} {r:V},bg I ow w rows b off sz->rows[i]?=some r->
 r.cells.length=sz/\aW I ow w r.cells b (off+i*sz)
 |[],_,_,_,_,_,_,h=>by simp at h
 |u::rows,b,off,sz,i,r,h,hr=>by
  simp only[bg]at h;cases i with
  |zero=>simp at hr;subst hr;exact⟨h.1,by simpa using(eh ..).1 h.2.1⟩
  |succ i=>
   have:=bg.get (i:=i) h.2.2 (by simpa using hr)
   rwa [show off+sz+i*sz=off+(i+1)*sz by rw[Nat.add_mul];omega]at this
def bg.drop:∀{rows:List V} {b off sz:Nat} (k:Nat),bg I ow w rows b off sz->bg I ow w (rows.drop k) b (off+k*sz) sz
 |[],_,_,_,_,_=>by simp[bg]
 |u::rows,b,off,sz,0,h=>by simpa using h
 |u::rows,b,off,sz,k+1,h=>by
  simp only[bg]at h;have:=bg.drop k h.2.2;rw[show off+sz+k*sz=off+(k+1)*sz by rw[Nat.add_mul];omega]at this;simpa using this
def bg.take:∀{rows:List V} {b off sz:Nat} (k:Nat),bg I ow w rows b off sz->bg I ow w (rows.take k) b off sz
 |[],_,_,_,_,_=>by simp[bg]
 |u::rows,b,off,sz,0,h=>by simp[bg]
 |u::rows,b,off,sz,k+1,h=>by
  simp only[bg]at h;simp only[Bo,bg];exact⟨h.1,h.2.1,bg.take k h.2.2⟩
def oO(v:Value):E' I ow w (cellOf v) v:=by
 cases v<;>simp only[cellOf]<;>(try split)<;>simp_all [E']
def fc:∀(l:List Value),ax I ow w (l.map cellOf) l
 |[]=>by simp[ax]
 |v::l=>by simp only[eD,ax];exact⟨v,l,rfl,oO v,fc l⟩
def mJ(v:Value):E' I ow w (ofValue v) v:=by
 unfold ofValue;split
 .rename_i cs;split
  .rename_i h;simp only[E'];exact⟨cs.toList,by simp,fc _,λu hu=>fv.1 h u hu⟩
  .simp[E']
 .exact oO v
def rA{t:TypeId}(h:(P.underlying t).isSome):(isAgg t).run P w=.ok (fH P t) w:=by
 obtain⟨d,hd⟩:=Option.isSome_iff_exists.1 h;unfold isAgg fH;simp only[Sem.run_bind,run_underlying hd,Result.andThen_ok,hd];cases d<;>rfl
def dU{t:TypeId}(h:cb P t=true):(P.underlying t).isSome/\(∃i,P.info? t=some i/\i.size=P.cellsOf t)/\0<P.cellsOf t:=by
 simp only[cb,Ba,bne_iff_ne]at h;obtain⟨⟨h1,h2⟩,h3⟩:=h;obtain⟨i,hi⟩:=Option.isSome_iff_exists.1 h1;exact⟨h2,⟨i,hi,by simp[Program.cellsOf,hi]⟩,by omega⟩
def cI{t:TypeId}(h:cb P t=true):(sizeOf t).run P w=.ok (P.cellsOf t) w:=by
 obtain⟨_,⟨i,hi,_⟩,_⟩:=dU h;exact run_sizeOf w hi
def y6{t:TypeId}(h:cb P t=true){PO:List Value}{vs:List V}{off:Nat}{v:V}(hr:ax I ow w vs PO)
 (h1:∀u∈PO,u.oneCell'=true)(hv:bz (fH P t) off (P.cellsOf t) vs=some v):
 ∃x,(part t ⟨PO⟩ off).run P w=.ok x w/\E' I ow w v x:=by
 unfold part;simp only[Sem.run_bind,rA (dU h).1,Result.andThen_ok];unfold bz at hv;cases Sc:fH P t
 .simp only[Sc,jz,if_false]at hv|-;obtain⟨x,hx,hrx⟩:=hr.get hv;have:(⟨PO⟩:Array Value)[off]?=some x:=by simpa using hx
  exact⟨x,by simp[this],hrx⟩
 .simp only[Sc,if_true,bf]at hv|-;subst hv;refine⟨.agg ((⟨PO⟩:Array Value).extract off (off+P.cellsOf t)),by simp[cI h],?_⟩;simp only[E'];refine⟨(PO.drop off).take (P.cellsOf t),?_,(hr.drop off).take _,λu hu=>h1 u (List.mem_of_mem_drop (qL hu))⟩;have e:(⟨PO⟩:Array Value)=PO.toArray:=rfl;rw[e,List.extract_toArray];simp
def jG{t:TypeId}(h:cb P t=true){vs:List V}{b off:Nat}(hr:aW I ow w vs b off){v:V}
 (hv:(if fH P t then(if vs.length=P.cellsOf t then some (V.agg vs)else none)else vs[0]?)=some v):
 ∃x,(loadVar t ⟨b,off,none⟩).run P w=.ok x w/\E' I ow w v x:=by
 unfold loadVar;simp only[Sem.run_bind,rA (dU h).1,Result.andThen_ok];cases Sc:fH P t
 .simp only[Sc,jz,if_false]at hv|-;obtain⟨x,hx,h1,h2⟩:=hr.get hv;exact⟨x,by simp[show w.cell? ⟨b,off,none⟩=some x by simpa using hx],h1⟩
 .simp only[Sc,if_true]at hv|-;split at hv
  .rename_i hl;simp only[bf]at hv;subst hv;obtain⟨xs,h1,h2,h3⟩:=hr.Ca;have hlen:xs.length=P.cellsOf t:=by rw[h1.length,hl]
   refine⟨.agg xs.toArray,?_,by simp only[E'];exact⟨xs,rfl,h1,h2⟩⟩;simp only[Sem.run_bind,cI h,Result.andThen_ok];rw[<-hlen,run_loadCells_list (P:=P) w ⟨b,off,none⟩ xs (λj u hu=>by rw[fY];exact h3 j u hu)];simp
  .cases hv
def Ik{op:BinOp}{t:TypeId}{x y v:V}{X Y:Value}{xo yo:Operand}(hx:E' I ow w x X)(hy:E' I ow w y Y)(hp:qI op x y)
 (hv:DT op x y=some v):∃z,(do eqGuard op t xo yo X Y;binOp op t X Y:Sem Value).run P w=.ok z w/\E' I ow w v z:=by
 unfold DT at hv;split at hv
 .rename_i k a k' b;split at hv
  .rename_i hk;subst hk;simp only[E']at hx hy;subst hx hy;simp only[qI]at hp;have hg:(eqGuard op t xo yo (.int k a) (.int k b)).run P w=.ok () w:=by
    unfold eqGuard;simp
   simp only[Sem.run_bind,hg,Result.andThen_ok];cases op<;>simp only[dn,reduceCtorEq]at hv<;>simp only[dk]at hp<;>
    first
    |(split at hv
      .cases hv
      .rename_i hb;simp only[bf]at hv;subst hv
       first
       |exact⟨_,by simp only[binOp,Op.shift,aH hb];rfl,by simp[E']⟩
       |simp_all [binOp,Op.intDiv,E',PY])
    |(simp only[bf]at hv;subst hv;simp_all [binOp,Op.intArith,Op.intCmp,Op.intBits,E',PY,pW,Ip])
  .cases hv
 .rename_i a b;simp only[E']at hx hy;subst hx hy;simp only[qI]at hp;have hg:(eqGuard op t xo yo (.string ⟨a.toArray⟩) (.string ⟨b.toArray⟩)).run P w=.ok () w:=by
   unfold eqGuard;simp
  simp only[Sem.run_bind,hg,Result.andThen_ok];have RS:∀l:List UInt8,(⟨l.toArray⟩:ByteArray).size=l.length:=λl=>by simp[ByteArray.size]
  have hl:∀l:List UInt8,(⟨l.toArray⟩:ByteArray).toList=l:=λl=>by rw[ByteArray.toList_eq]
  cases op<;>simp only[dp,reduceCtorEq]at hv<;>simp only[dv]at hp<;>simp only[bf]at hv<;>subst hv
  .refine⟨.string (⟨a.toArray⟩++⟨b.toArray⟩),?_,?_⟩
   .simp only[binOp,Op.stringOp,RS];rw[aH (by simp[IntKind.max,IntKind.signed,IntKind.bits];omega)];simp
   .simp only[E'];congr 1
  .exact⟨.bool (decide (a=b)),by simp[binOp,Op.stringOp,hl,pW],by simp[E']⟩
  .exact⟨.bool (decide (a≠b)),by simp[binOp,Op.stringOp,hl,pW],by simp[E']⟩
 .cases hv
def sK{s:TypeId}{fs:Array Field}{f:Nat}{fd:Field}(hs:P.underlying s=some (.struct fs))(hf:fs[f]?=some fd)(hk:cb P fd.type=true)
 (b o:Nat):(Instr.fieldAt s (.pointer (some ⟨b,o,none⟩)) f).run P w=.ok (.pointer (some ⟨b,o+fd.offset,none⟩)) w:=by
 have P':P.cellsOf fd.type≠0:=Nat.pos_iff_ne_zero.1 (dU hk).2.2;simp[Instr.fieldAt,run_underlying hs,hf,Instr.sureAddr,fieldPlace,cI hk,P',fY]
def Ek{s:TypeId}{fs:Array Field}{f:Nat}{fd:Field}(hs:P.underlying s=some (.struct fs))(hf:fs[f]?=some fd)(hk:cb P fd.type=true)
 {x v:V}{X:Value}(hx:E' I ow w x X)(hv:fG (fH P fd.type) fd.offset (P.cellsOf fd.type) x=some v):
 ∃z,(Instr.fieldAt s X f).run P w=.ok z w/\E' I ow w v z:=by
 unfold fG at hv;split at hv
 .rename_i id i k;simp only[bf]at hv;subst hv;simp only[E']at hx;split at hx
  .rename_i b sz cap M';obtain⟨rfl,RS⟩:=hx;exact⟨_,sK hs hf hk b _,by simp only[E',M'];simp[Nat.add_assoc,RS]⟩
  .exact hx.elim
 .rename_i u;simp only[E']at hx;obtain⟨b,off,rfl,H',hb,hr⟩:=hx;rw[eh]at hr;refine⟨_,sK hs hf hk b off,?_⟩;cases G':bz (fH P fd.type) fd.offset (P.cellsOf fd.type) u.cells with
  |none=>simp[G']at hv
  |some y=>
   simp only[G',Option.map_some,bf]at hv;subst hv;simp only[E'];have SO:y.cells=[]\/¬ow b:=hb.imp (λhu=>by
    rw[hu]at G';unfold bz at G';split at G'
    .simp only[List.drop_nil,List.take_nil,bf]at G';rw[<-G'];rfl
    .simp at G') id
   refine⟨b,off+fd.offset,rfl,H',SO,?_⟩;rw[eh];unfold bz at G';split at G'
   .simp only[bf]at G';subst G';simp only[V.cells];exact(hr.drop _).take _
   .obtain⟨z,h1,h2,h3⟩:=hr.get G';have hy:y.cells=[y]:=by
     cases y<;>simp only[V.cells];simp only[E']at h2;obtain⟨PO,rfl,_⟩:=h2;simp[Value.oneCell']at h3
    rw[hy];simp only[aW,and_true];exact⟨z,h1,h2,h3⟩
 .cases hv
def qv{y:V}{z:Value}(h2:E' I ow w y z)(h3:z.oneCell'=true):y.cells=[y]:=by
 cases y<;>simp only[V.cells];simp only[E']at h2;obtain⟨PO,rfl,_⟩:=h2;simp[Value.oneCell']at h3
def Bp{u y:V}{agg:Bool}{o sz b off:Nat}(H':b<w.heap.size)(hb:u.cells=[]\/¬ow b)(hr:aW I ow w u.cells b off)(G':bz agg o sz u.cells=some y):
 E' I ow w (.rp y) (.pointer (some ⟨b,off+o,none⟩)):=by
 simp only[E'];have SO:y.cells=[]\/¬ow b:=hb.imp (λhu=>by
  rw[hu]at G';unfold bz at G';split at G'
  .simp only[List.drop_nil,List.take_nil,bf]at G';rw[<-G'];rfl
  .simp at G') id
 refine⟨b,off+o,rfl,H',SO,?_⟩;rw[eh];unfold bz at G';split at G'
 .simp only[bf]at G';subst G';simp only[V.cells];exact(hr.drop _).take _
 .obtain⟨z,h1,h2,h3⟩:=hr.get G';rw[qv h2 h3];simp only[aW,and_true];exact⟨z,h1,h2,h3⟩
def Ec{w0:World}{QC:Nat->Prop}{U:ag}(RZ:Sat w0 QC I U w){t e:TypeId}(ht:P.underlying t=some (.slice e))(hk:cb P e=true)
 {x y v:V}{X Y:Value}(hx:E' I (aI I U) w x X)(hy:E' I (aI I U) w y Y)(hv:bS U (P.cellsOf e) x y=some v):
 ∃z,(Instr.indexAt t X Y).run P w=.ok z w/\E' I (aI I U) w v z:=by
 unfold bS at hv;split at hv
 .rename_i id off len k j;split at hv
  .rename_i ob Q5;split at hv
   .rename_i hc;obtain⟨RS,h0,h1⟩:=hc;simp only[bf]at hv;subst hv;simp only[E']at hx hy;subst hy;have Ro:=RZ.obj id ob Q5;split at hx
    .exact hx.elim
    .obtain⟨rfl,rfl,rfl⟩:=hx;exfalso;simp at h1;omega
    .rename_i b sz cap M';obtain⟨o,c,rfl,Xt,Yx,Sa,hz⟩:=hx;rw[M']at Ro;obtain⟨cur,_,hsz2,_⟩:=Ro.plain hz;have ho:o=off*sz:=by
      rcases Sa with Sa|Sa
      .exact Sa
      .omega
     subst ho;refine⟨.pointer (some ⟨b,off*sz+j.toNat*P.cellsOf e,none⟩),?_,?_⟩
     .simp[Instr.indexAt,asIntOf,run_underlying ht,h0,h1,cI hk,fY]
     .simp only[E',M'];rw[<-RS,hsz2,Nat.add_mul];simp[hz]
   .cases hv
  .cases hv
 .rename_i sz rows k j;split at hv
  .rename_i h0;obtain⟨rfl,h0⟩:=h0;split at hv
   .rename_i r hr;simp only[bf]at hv;subst hv;simp only[E']at hx hy;subst hy;obtain⟨a,cap,rfl,WQ,Ss⟩:=hx;have H':j.toNat<rows.length:=by
     have:=nY.1 hr;exact this.1
    rcases Ss with rfl|⟨b,off,rfl,hb,RS,Qu⟩
    .simp at H'
    .obtain⟨h1,h2⟩:=Qu.get hr;refine⟨.pointer (some ⟨b,off+j.toNat*P.cellsOf e,none⟩),?_,?_⟩
     .have:j<(rows.length:Int):=by omega
      simp[Instr.indexAt,asIntOf,run_underlying ht,h0,this,cI hk,fY]
     .simp only[E'];refine⟨b,_,rfl,?_,.inr hb,(eh ..).2 h2⟩;cases hc:r.cells with
      |nil=>rw[hc]at h1;simp at h1;omega
      |cons c cs=>
       rw[hc]at h2;simp only[aW]at h2;obtain⟨⟨y,hy,_⟩,_⟩:=h2;exact World.block_lt_of_cell? w _ hy
   .cases hv
  .cases hv
 .cases hv
def Bu{t e:TypeId}{n:Nat}(ht:P.underlying t=some (.array n e))(hk:cb P e=true)
 {x y v:V}{X Y:Value}(hx:E' I ow w x X)(hy:E' I ow w y Y)(hv:dr (fH P e) n (P.cellsOf e) x y=some v):
 ∃z,(Instr.indexAt t X Y).run P w=.ok z w/\E' I ow w v z:=by
 unfold dr at hv;split at hv
 .rename_i id i k kk j;split at hv
  .rename_i hc;simp only[bf]at hv;subst hv;simp only[E']at hx hy;subst hy;split at hx
   .rename_i b sz cap M';obtain⟨rfl,RS⟩:=hx;refine⟨.pointer (some ⟨b,i*sz+k+j.toNat*P.cellsOf e,none⟩),?_,by simp only[E',M'];simp[Nat.add_assoc,RS]⟩;simp[Instr.indexAt,asIntOf,run_underlying ht,hc,cI hk,fY,Instr.sureAddr]
   .exact hx.elim
  .cases hv
 .rename_i u kk j;split at hv
  .rename_i hc;simp only[E']at hx hy;subst hy;obtain⟨b,off,rfl,H',hb,hr⟩:=hx;rw[eh]at hr;cases G':bz (fH P e) (j.toNat*P.cellsOf e) (P.cellsOf e) u.cells with
   |none=>simp[G']at hv
   |some y=>
    simp only[G',Option.map_some,bf]at hv;subst hv;refine⟨_,?_,Bp H' hb hr G'⟩;simp[Instr.indexAt,asIntOf,run_underlying ht,hc,cI hk,fY,Instr.sureAddr]
  .cases hv
 .cases hv
def Dg{t e:TypeId}{n:Nat}(ht:P.underlying t=some (.array n e))(hk:cb P e=true)
 {x y v:V}{X Y:Value}(hx:E' I ow w x X)(hy:E' I ow w y Y)(hv:eR (fH P e) n (P.cellsOf e) x y=some v):
 ∃z,(Instr.index t X Y).run P w=.ok z w/\E' I ow w v z:=by
 unfold eR at hv;split at hv
 .rename_i vs kk j;split at hv
  .rename_i hc;simp only[E']at hx hy;subst hy;obtain⟨PO,rfl,hr,h1⟩:=hx;obtain⟨z,hz,WR⟩:=y6 (w:=w) hk hr h1 hv;exact⟨z,by simp[Instr.index,asIntOf,run_underlying ht,hc,cI hk,hz],WR⟩
  .cases hv
 .cases hv
def D9{t:TypeId}(ht:P.underlying t=some .string)
 {x y v:V}{X Y:Value}(hx:E' I ow w x X)(hy:E' I ow w y Y)(hv:eQ x y=some v):
 ∃z,(Instr.index t X Y).run P w=.ok z w/\E' I ow w v z:=by
 unfold eQ at hv;split at hv
 .rename_i s k j;split at hv
  .rename_i h0;split at hv
   .rename_i b hb;simp only[bf]at hv;subst hv;simp only[E']at hx hy;subst hx hy;have e:(⟨s.toArray⟩:ByteArray)[j.toNat]?=some b:=by
     have:=nY.1 hb;obtain⟨h1,h2⟩:=this;rw[getElem?_pos (h:=by simpa[ByteArray.size]using h1)];simp[<-h2,ByteArray.getElem_eq_getElem_data]
    exact⟨.int .u8 b.toNat,by simp[Instr.index,asIntOf,run_underlying ht,h0,e],by simp[E']⟩
   .cases hv
  .cases hv
 .cases hv
variable {P:Program} {I:Mu} {ow:Nat->Prop} {w:World}
def wC{w0:World}{QC:Nat->Prop}{U:ag}(RZ:Sat w0 QC I U w){t:TypeId}(hk:cb P t=true)
 {x v:V}{X:Value}(hx:E' I (aI I U) w x X)(hv:cj U (fH P t) (P.cellsOf t) x=some v):
 ∃z,(Instr.loadAt t X).run P w=.ok z w/\E' I (aI I U) w v z:=by
 unfold cj at hv;split at hv
 .rename_i id i k;split at hv
  .rename_i ob Q5;split at hv
   .rename_i r hr;have Ro:=RZ.obj id ob Q5;simp only[E']at hx;split at hx
    .rename_i b sz cap M';obtain⟨rfl,RS⟩:=hx;rw[M']at Ro;obtain⟨_,_,_,_,Qu⟩:=Ro.rows RS;obtain⟨hl,Uw⟩:=Qu.get hr;simp only[kI]at Uw;have hd:=Uw.drop k;cases Sc:fH P t
     .simp only[Sc,jz,if_false]at hv;obtain⟨z,hz,WR⟩:=jG (P:=P) hk hd (v:=v) (by simp only[Sc,jz,if_false];simpa using hv);exact⟨z,by simp[Instr.loadAt,Instr.sureAddr,hz],WR⟩
     .simp only[Sc,if_true]at hv;split at hv
      .rename_i hc;obtain⟨rfl,hlen⟩:=hc;simp only[bf]at hv;subst hv;obtain⟨z,hz,WR⟩:=jG (P:=P) hk hd (v:=.agg r.cells) (by simp[Sc,hlen]);exact⟨z,by simpa[Instr.loadAt,Instr.sureAddr]using hz,WR⟩
      .split at hv
       .rename_i hle;simp only[bf]at hv;subst hv;obtain⟨z,hz,WR⟩:=jG (P:=P) hk (hd.take (P.cellsOf t)) (v:=.agg ((r.cells.drop k).take (P.cellsOf t)))
         (by rw[aE Sc,aE (by simp;omega)])
        exact⟨z,by simp[Instr.loadAt,Instr.sureAddr,hz],WR⟩
       .cases hv
    .exact hx.elim
   .cases hv
  .cases hv
 .rename_i u;simp only[E']at hx;obtain⟨b,off,rfl,H',hb,hr⟩:=hx;rw[eh]at hr;cases Sc:fH P t
  .simp only[Sc,jz,if_false]at hv;have WT:u=v/\u.cells=[u]:=by
    cases u<;>simp_all [V.cells]
   obtain⟨rfl,hc⟩:=WT;rw[hc]at hr;obtain⟨z,hz,WR⟩:=jG (P:=P) hk hr (v:=u) (by simp[Sc]);exact⟨z,by simp[Instr.loadAt,Instr.sureAddr,hz],WR⟩
  .simp only[Sc,if_true]at hv;split at hv
   .rename_i hl;simp only[bf]at hv;subst hv;obtain⟨z,hz,WR⟩:=jG (P:=P) hk hr (v:=.agg u.cells) (by simp[Sc,hl]);exact⟨z,by simp[Instr.loadAt,Instr.sureAddr,hz],WR⟩
   .cases hv
 .cases hv
def mU{d:Int}{o:Option V}{O:Option Value}(ho:match o,O with|none,none=>True|some v,some x=>E' I ow w v x|_,_=>False){j:Int}
 (hj:bR d o=some j):(o=none/\O=none/\j=d)\/∃k,o=some (.int k j)/\O=some (.int k j):=by
 unfold bR at hj;split at hj
 .simp only[bf]at hj;cases O with
  |none=>exact .inl ⟨rfl,rfl,hj.symm⟩
  |some x=>exact ho.elim
 .rename_i k j';simp only[bf]at hj;subst hj;cases O with
  |none=>exact ho.elim
  |some x=>
   simp only[E']at ho;subst ho;exact .inr ⟨k,rfl,rfl⟩
 .cases hj
def jH(I:Mu)(ow:Nat->Prop)(w:World)(o:Option V)(O:Option Value):Prop:=
 match o,O with|none,none=>True|some v,some x=>E' I ow w v x|_,_=>False
def dH(k:IntKind)(i:Int)(y:Nat)(code:BoundsCode)(h0:0<=i)(h1:i<=y):
 (Instr.sliceBound (.int k i) y code).run P w=.ok i.toNat w:=by
 simp[Instr.sliceBound,asIntOf,h0,h1]
def fD{n c:Nat}{lo hi mx:Option V}{LO HI MX:Option Value}(h1:jH I ow w lo LO)(h2:jH I ow w hi HI)(h3:jH I ow w mx MX)
 {l h m:Int}(hl:bR 0 lo=some l)(hh:bR n hi=some h)(hm:bR n mx=some m)(h0:0<=l)(h01:l<=h)(h12:h<=m)(h23:m<=n)(hnc:n<=c)
 (hmh:mx≠none->hi≠none)(s:Bool):
 ∃m',(Instr.sliceBounds s n c LO HI MX).run P w=.ok (l.toNat,h.toNat,m') w/\h.toNat<=m'/\m'<=c:=by
 rcases mU h3 hm with⟨_,rfl,rfl⟩|⟨km,rfl,rfl⟩
 .refine⟨c,?_,by omega,Qt _⟩;rcases mU h2 hh with⟨_,rfl,rfl⟩|⟨kh,_,rfl⟩<;>rcases mU h1 hl with⟨_,rfl,rfl⟩|⟨kl,_,rfl⟩<;>
   simp only[Instr.sliceBounds,Sem.run_bind,Sem.run_pure,Result.andThen_ok]
  .simp
  .rw[dH kl l n _ h0 (by omega)];simp
  .rw[dH kh h c _ (by omega) (by omega)];simp
  .rw[dH kh h c _ (by omega) (by omega)];simp only[Result.andThen_ok];rw[dH kl l h.toNat _ h0 (by omega)];simp
 .refine⟨m.toNat,?_,by omega,by omega⟩;rcases mU h2 hh with⟨rfl,rfl,rfl⟩|⟨kh,_,rfl⟩
  .exact absurd rfl (hmh (by simp))
  .rcases mU h1 hl with⟨_,rfl,rfl⟩|⟨kl,_,rfl⟩<;>
    simp only[Instr.sliceBounds,Sem.run_bind,Sem.run_pure,Result.andThen_ok]
   .rw[dH km m c _ (by omega) (by omega)];simp only[Result.andThen_ok];rw[dH kh h m.toNat _ (by omega) (by omega)];simp
   .rw[dH km m c _ (by omega) (by omega)];simp only[Result.andThen_ok];rw[dH kh h m.toNat _ (by omega) (by omega)];simp only[Result.andThen_ok];rw[dH kl l h.toNat _ h0 (by omega)];simp
def ur{w0:World}{QC:Nat->Prop}{U:ag}(RZ:Sat w0 QC I U w){t e:TypeId}(ht:P.underlying t=some (.slice e))(hk:cb P e=true)
 {x v:V}{X:Value}(hx:E' I ow w x X){lo hi mx:Option V}{LO HI MX:Option Value}(h1:jH I ow w lo LO)(h2:jH I ow w hi HI)(h3:jH I ow w mx MX)
 (hmh:mx≠none->hi≠none)(hv:cP U (P.cellsOf e) x lo hi mx=some v):
 ∃z,(Instr.sliceAt t X LO HI MX).run P w=.ok z w/\E' I ow w v z:=by
 have RO:∀(a:Option Addr) (n c:Nat) (r:Nat×Nat×Nat),(Instr.sliceBounds true n c LO HI MX).run P w=.ok r w->
  (Instr.sliceAt t (.slice a n c) LO HI MX).run P w=.ok (.slice (if r.2.2=r.1 then a else a.map (·.add (r.1*P.cellsOf e))) (r.2.1-r.1) (r.2.2-r.1)) w:=by
  intro a n c r hr;simp[Instr.sliceAt,Instr.slice,run_underlying ht,hr,cI hk]
 cases x with
 |own id off len=>
  simp only[cP]at hv;split at hv
  .rename_i l h m hl hh hm;split at hv
   .rename_i hc;obtain⟨c0,c1,c2,c3,c4⟩:=hc;simp only[bf]at hv;subst hv;simp only[E']at hx;split at hx
    .exact hx.elim
    .rename_i M';obtain⟨rfl,rfl,rfl⟩:=hx;obtain⟨m',hr,U9,hm2⟩:=fD (P:=P) (c:=0) h1 h2 h3 hl hh hm c0 c1 c2 c3 (Qt _) hmh true;refine⟨_,RO none 0 0 _ hr,?_⟩;simp only[E',M'];have:h.toNat=0:=by omega
     have:l.toNat=0:=by omega
     simp_all;omega
    .rename_i b sz cap M';obtain⟨o,c,rfl,Xt,Yx,Sa,hz⟩:=hx;obtain⟨m',hr,U9,hm2⟩:=fD (P:=P) (c:=c) h1 h2 h3 hl hh hm c0 c1 c2 c3 Xt hmh true;refine⟨_,RO _ len c _ hr,?_⟩;have hsz':sz=P.cellsOf e:=by
      cases Q5:U id with
      |none=>simp[gW,Q5]at c4
      |some ob=>
       simp only[gW,Q5,beq_iff_eq]at c4;have:=RZ.obj id ob Q5;rw[M']at this;exact(this.rows hz).1.symm.trans c4
     simp only[E',M'];by_cases e':m'=l.toNat
     .rw[aE e'];refine⟨o,m'-l.toNat,rfl,by omega,by omega,?_,hz⟩;by_cases h0:off+l.toNat=0
      .left;have h1:off=0:=by omega
       rcases Sa with Sa|Sa
       .rw[h0,Sa,h1]
       .exact absurd h1 Sa.2
      .exact .inr ⟨by omega,h0⟩
     .rw[aH e'];simp only[Option.map_some,fY];refine⟨o+l.toNat*P.cellsOf e,m'-l.toNat,rfl,by omega,by omega,.inl ?_,hz⟩;rcases Sa with Sa|Sa
      .rw[Sa,hsz',Nat.add_mul]
      .omega
   .cases hv
  .cases hv
 |sl sz rows=>
  simp only[cP]at hv;split at hv
  .rename_i l h m hl hh hm;split at hv
   .rename_i hc;obtain⟨c0,c1,c2,c3,rfl⟩:=hc;simp only[bf]at hv;subst hv;simp only[E']at hx;obtain⟨a,cap,rfl,WQ,Ss⟩:=hx;obtain⟨m',hr,U9,hm2⟩:=fD (P:=P) (c:=cap) h1 h2 h3 hl hh hm c0 c1 c2 c3 WQ hmh true;refine⟨_,RO _ _ cap _ hr,?_⟩;simp only[E'];have hlen:((rows.drop l.toNat).take (h.toNat-l.toNat)).length=h.toNat-l.toNat:=by simp;omega
    refine⟨_,_,by rw[hlen],by omega,?_⟩;by_cases e':m'=l.toNat
    .left;have:h.toNat-l.toNat=0:=by omega
     rw[this];simp
    .rw[aH e'];rcases Ss with rfl|⟨b,off,rfl,hb,hs,Qu⟩
     .left;simp
     .exact .inr ⟨b,off+l.toNat*P.cellsOf e,by simp[fY],hb,hs,(Qu.drop _).take _⟩
   .cases hv
  .cases hv
 |aT=>
  simp only[cP]at hv;split at hv
  .rename_i l h m hl hh hm;split at hv
   .rename_i hc;obtain⟨rfl,rfl,rfl⟩:=hc;simp only[bf]at hv;subst hv;simp only[E']at hx;subst hx;obtain⟨m',hr,U9,hm2⟩:=fD (P:=P) (n:=0) (c:=0) h1 h2 h3 hl hh hm (by omega) (by omega) (by omega) (by simp) (Qt _) hmh true;refine⟨_,RO none 0 0 _ hr,?_⟩;simp[E'];omega
   .cases hv
  .cases hv
 |_=>simp[cP]at hv
def vr{t:TypeId}(ht:P.underlying t=some .string){x v:V}{X:Value}(hx:E' I ow w x X){lo hi:Option V}{LO HI:Option Value}(h1:jH I ow w lo LO)(h2:jH I ow w hi HI)
 (hv:cD x lo hi=some v):
 ∃z,(Instr.sliceAt t X LO HI none).run P w=.ok z w/\E' I ow w v z:=by
 unfold cD at hv;split at hv
 case h_2=>cases hv
 rename_i s;split at hv
 .rename_i l h hl hh;split at hv
  .rename_i hc;obtain⟨c0,c1,c2⟩:=hc;simp only[bf]at hv;subst hv;simp only[E']at hx;subst hx;have RS:(⟨s.toArray⟩:ByteArray).size=s.length:=by simp[ByteArray.size]
   obtain⟨m',hr,U9,hm2⟩:=fD (P:=P) (w:=w) (n:=s.length) (c:=s.length) (mx:=none) (MX:=none) h1 h2 (by simp[jH]) hl hh (m:=s.length) (by simp[bR]) c0 c1 c2 (Int.le_refl _) (Qt _) (by simp) false;refine⟨.string ((⟨s.toArray⟩:ByteArray).extract l.toNat h.toNat),?_,?_⟩
   .simp[Instr.sliceAt,Instr.slice,run_underlying ht,RS,hr]
   .simp only[E'];congr 1;apply ByteArray.ext;simp[ByteArray.data_extract]
  .cases hv
 .cases hv
def cz{F:Fr}{st:St}{a:Act}(hs:dh F I st a w)(x:Operand):E' I (aI I st.U) w ((cx F.n x).ev st.s) (a.eval x):=by
 cases x with
 |tmp t=>
  by_cases ht:t<F.n
  .simp only[cx,Act.eval,aE ht];exact hs.slot t ht
  .have hle:a.tmps.size<=t:=by rw[hs.size];exact Nat.le_of_not_lt ht
   simp only[cx,Act.eval,aH ht,VX.ev,E'];exact⟨[],by rw[Tf,Array.getElem?_eq_none hle];rfl,by simp[ax]⟩
 |const v=>exact mJ v
 |global g=>simp[cx,VX.ev,Act.eval,E']
 |func f=>simp[cx,VX.ev,Act.eval,E',ax]
def nN{F:Fr}{st:St}{a:Act}(hs:dh F I st a w):∀(l:List Operand),ax I (aI I st.U) w ((l.map (cx F.n)).map (·.ev st.s)) (l.map a.eval)
 |[]=>by simp[ax]
 |x::l=>by simp only[eD,ax];exact⟨_,_,rfl,cz hs x,nN hs l⟩
def u9{F:Fr}{st:St}{a:Act}(hs:dh F I st a w)(o:Option Operand):jH I (aI I st.U) w ((o.map (cx F.n)).map (·.ev st.s)) (o.map a.eval):=by
 cases o with
 |none=>simp[jH]
 |some x=>simpa[jH]using cz hs x
def ax.append:∀{vs us:List V} {l m:List Value},ax I ow w vs l->ax I ow w us m->ax I ow w (vs++us) (l++m)
 |[],us,l,m,h,h'=>by simp[ax]at h;subst h;simpa using h'
 |v::vs,us,l,m,h,h'=>by
  simp only[ax]at h;obtain⟨x,xs,rfl,h1,h2⟩:=h;simp only[List.cons_append,ax];exact⟨x,xs++m,rfl,h1,h2.append h'⟩
def E'.one{v:V}{x:Value}(h:E' I ow w v x)(hs:v.stays=true)(ha:∀vs,v≠.agg vs):x.oneCell'=true:=by
 cases v<;>simp only[E']at h<;>(try simp[V.stays]at hs)
 case agg vs=>exact absurd rfl (ha vs)
 case sl=>obtain⟨a,c,rfl,_⟩:=h;rfl
 case own=>
  split at h
  .exact h.elim
  .rw[h.1];rfl
  .obtain⟨o,c,rfl,_⟩:=h;rfl
 case ptr=>
  split at h
  .rw[h.1];rfl
  .exact h.elim
 case gp=>
  split at h
  .rw[h];rfl
  .exact h.elim
 case yl=>
  split at h
  .rw[h];rfl
  .exact h.elim
 case mp=>
  split at h
  .rw[h];rfl
  .exact h.elim
 case rp=>obtain⟨b,o,rfl,_⟩:=h;rfl
 case fn=>obtain⟨PO,rfl,_⟩:=h;rfl
 case bm=>obtain⟨PO,rfl,_⟩:=h;rfl
 case iface=>obtain⟨y,rfl,_⟩:=h;rfl
 all_goals first|(subst h;rfl)|(subst h;exact hs)
def E'.cells{v:V}{x:Value}(h:E' I ow w v x)(hs:v.stays=true):ax I ow w v.cells x.cells.toList/\∀u∈x.cells.toList,u.oneCell'=true:=by
 by_cases ha:∃vs,v=.agg vs
 .obtain⟨vs,rfl⟩:=ha;simp only[E']at h;obtain⟨PO,rfl,h1,h2⟩:=h;exact⟨by simpa[V.cells,Value.cells]using h1,by simpa[Value.cells]using h2⟩
 .have h1:=h.one hs (λvs e=>ha ⟨vs,e⟩);have hc:x.cells=#[x]:=by cases x<;>simp_all [Value.cells,Value.oneCell']
  have hv:v.cells=[v]:=qv h h1;rw[hc,hv];simp only[ax];exact⟨⟨x,[],rfl,h,rfl⟩,by simpa using h1⟩
def E'.jW{v:V}{x:Value}(h:E' I ow w v x)(hs:v.stays=true):x.cells.size=v.cells.length:=by
 have:=(h.cells hs).1.length;simpa using this
def AI(off:Nat):∀(vs:List Value) (k:Nat) (cs:Array Value),off+k+vs.length<=cs.size->
 ((vs.zipIdx k).foldl (λcs (p:Value×Nat)=>cs.setIfInBounds (off+p.2) p.1) cs).toList=bP cs.toList (off+k) vs
 |[],k,cs,_=>by simp[bP]
 |v::vs,k,cs,h=>by
  simp only[Q4]at h;simp only[List.zipIdx_cons,kf];rw[AI off vs (k+1) _ (by simp;omega)];have hk:off+k<cs.toList.length:=by simp;omega
  simp only[bP,Array.toList_setIfInBounds,Q4];rw[List.set_eq_take_append_cons_drop,aE hk];have e1:(cs.toList.take (off+k)).length=off+k:=by simp;omega
  rw[show off+(k+1)=(cs.toList.take (off+k)).length+1 by omega,List.take_length_add_append,show(cs.toList.take (off+k)).length+1+vs.length=(cs.toList.take (off+k)).length+(1+vs.length) by omega,
   List.drop_length_add_append]
  simp[List.drop_drop,BP,Nat.add_left_comm,Nat.add_assoc]
def lD{α:Type}(l:List α)(off:Nat)(xs:List α)(h:off+xs.length<=l.length):(bP l off xs).length=l.length:=by
 simp[bP];omega
def nL(place:Nat->Option (Nat×Nat)):∀(parts:List (Nat×Value)) (cells:Array Value),
 (∀p∈parts,∃off sz,place p.1=some (off,sz)/\p.2.cells.size=sz/\off+sz<=cells.size)->
 ∃cs,Instr.fill place cells parts=some cs/\cs.size=cells.size/\cs.toList=parts.foldl (λl p=>bP l (((place p.1).map (·.1)).getD 0) p.2.cells.toList) cells.toList
 |[],cells,_=>⟨cells,rfl,rfl,rfl⟩
 |(i,v)::rest,cells,h=>by
  obtain⟨off,sz,h1,h2,h3⟩:=h (i,v) (by simp);simp only at h1 h2;have hs:(v.cells.zipIdx.foldl (λcs (p:Value×Nat)=>cs.setIfInBounds (off+p.2) p.1) cells).toList=bP cells.toList off v.cells.toList:=by
   have:=AI off v.cells.toList 0 cells (by simp;omega);rw[<-Array.foldl_toList,Array.toList_zipIdx];simpa using this
  have RS:(v.cells.zipIdx.foldl (λcs (p:Value×Nat)=>cs.setIfInBounds (off+p.2) p.1) cells).size=cells.size:=by
   have:=congrArg List.length hs;rw[lD _ _ _ (by simp;omega)]at this;simpa using this
  obtain⟨cs,h4,h5,h6⟩:=nL place rest _ (λp hp=>by
   obtain⟨Ux,SC,g1,g2,g3⟩:=h p (by simp[hp]);exact⟨Ux,SC,g1,g2,by rw[RS];exact g3⟩)
  refine⟨cs,?_,by rw[h5,RS],?_⟩
  .simp only[Instr.fill,h1];rw[aH (by simp;omega)];exact h4
  .rw[h6,hs];simp[h1]
def A2{b:Bool}{x v:V}{X:Value}(hx:E' I ow w x X)(hv:dR b x=some v){t:TypeId}(ty:TypeId)
 (ht:if b then P.underlying t=some .string else∃e,P.underlying t=some (.slice e)):
 ∃z,(Builtin.len_ #[t] ty #[X]).run P w=.ok z w/\E' I ow w v z:=by
 cases b
 .simp only[jz,if_false]at ht;obtain⟨e,ht⟩:=ht;have RO:∀a n c,(Builtin.len_ #[t] ty #[.slice a n c]).run P w=.ok (.int .i64 n) w:=λa n c=>by simp[Builtin.len_,run_underlying ht,goInt]
  cases x<;>simp only[dR,reduceCtorEq,bf]at hv<;>subst hv<;>simp only[E']at hx
  .subst hx;exact⟨_,RO _ _ _,by simp[E']⟩
  .obtain⟨a,cap,rfl,_⟩:=hx;exact⟨_,RO _ _ _,by simp[E']⟩
  .split at hx
   .exact hx.elim
   .obtain⟨rfl,_,rfl⟩:=hx;exact⟨_,RO _ _ _,by simp[E']⟩
   .obtain⟨o,c,rfl,_⟩:=hx;exact⟨_,RO _ _ _,by simp[E']⟩
 .simp only[if_true]at ht;cases x<;>simp only[dR,reduceCtorEq,bf]at hv;subst hv;simp only[E']at hx;subst hx;exact⟨_,by simp[Builtin.len_,run_underlying ht,goInt];rfl,by simp[E',ByteArray.size]⟩
def eP{t:TypeId}{i:TypeInfo}{z:Value}(h:zeroOf P t=some (i,z)):P.info? t=some i/\i.zero=some z/\cb P t=true/\z.cells.size=i.size/\
 (∀u∈z.cells.toList,u.oneCell'=true)/\i.size=P.cellsOf t:=by
 unfold zeroOf at h;split at h
 .rename_i i' hi;split at h
  .rename_i z' hz;split at h
   .rename_i hc;simp only[bf,Prod.mk.injEq]at h;obtain⟨rfl,rfl⟩:=h;simp only[Ba,beq_iff_eq,fv]at hc;exact⟨hi,hz,hc.1.1,hc.1.2,hc.2,by simp[Program.cellsOf,hi]⟩
   .cases h
  .cases h
 .cases h
def eg{t:TypeId}{i:TypeInfo}{z:Value}(h:zeroOf P t=some (i,z)):(zeroValue t).run P w=.ok z w:=by
 obtain⟨h1,h2,_⟩:=eP h;simp[zeroValue,typeInfo,h1,h2]
def nP{t:TypeId}(h:ot P t=true):∃i,P.underlying t=some (.struct #[])/\P.info? t=some i/\i.size=0/\i.zero=some (.agg #[]):=by
 unfold ot at h;split at h
 .rename_i fs i h1 h2;simp only[Ba,beq_iff_eq]at h;obtain⟨h3,h4,h5⟩:=h;split at h5
  .rename_i z hz;have e1:fs=#[]:=Array.eq_empty_of_size_eq_zero h3;have e2:z=#[]:=Array.eq_empty_of_size_eq_zero (by simpa using h5);exact⟨i,by rw[h1,e1],h2,h4,by rw[hz,e2]⟩
  .cases h5
 .cases h
def rj{t:TypeId}(h:ot P t=true):(zeroValue t).run P w=.ok (.agg #[]) w:=by
 obtain⟨i,_,h1,_,h2⟩:=nP h;simp[zeroValue,typeInfo,h1,h2]
def BQ{t:TypeId}(h:ot P t=true):(Instr.build t #[]).run P w=.ok (.agg #[]) w:=by
 obtain⟨i,h0,h1,_,h2⟩:=nP h;simp[Instr.build,rj h,run_underlying h0,Value.cells,Instr.fill]
def ax.bP{vs us:List V}{l m:List Value}(off:Nat)(h:ax I ow w vs l)(h':ax I ow w us m):ax I ow w (bP vs off us) (Vc.bP l off m):=by
 unfold Vc.bP;rw[h'.length];exact((h.take off).append h').append (h.drop _)
def o9{α:Type}(off sz:α->Nat)(v:α->V)(x:α->Value):∀{l:List α} {zero cells:List V} {zs:List Value},
 cV zero (l.map λp=>(off p,sz p,v p))=some cells->ax I ow w zero zs->(∀p∈l,E' I ow w (v p) (x p))->
 ax I ow w cells (l.foldl (λacc p=>Vc.bP acc (off p) (x p).cells.toList) zs)/\
 ((∀u∈zs,u.oneCell'=true)->∀u∈l.foldl (λacc p=>Vc.bP acc (off p) (x p).cells.toList) zs,u.oneCell'=true)/\
 ∀p∈l,(x p).cells.size=sz p/\off p+sz p<=zero.length
 |[],zero,cells,zs,h,hz,hp=>by
  simp only[List.map_nil,cV,bf]at h;subst h;simpa using hz
 |p::r,zero,cells,zs,h,hz,hp=>by
  simp only[eD,cV]at h;split at h
  .rename_i hc;have h1:=hp p (by simp);obtain⟨g1,g2⟩:=h1.cells hc.2.1;have hl:=h1.jW hc.2.1;obtain⟨ih1,ih2,ih3⟩:=o9 off sz v x h (hz.bP (off p) g1) (λq hq=>hp q (by simp[hq]));refine⟨by simpa using ih1,λh0=>?_,λq hq=>?_⟩
   .refine ih2 ?_;intro u hu;simp only[Vc.bP,ei]at hu;rcases hu with(hu|hu)|hu
    .exact h0 u (qL hu)
    .exact g2 u hu
    .exact h0 u (List.mem_of_mem_drop hu)
   .rcases dc.1 hq with rfl|hq
    .exact⟨by rw[hl,hc.1],hc.2.2⟩
    .have:=ih3 q hq;rw[lD _ _ _ (by omega)]at this;exact this
  .cases h
def run_places(fs:Array Field)(h:∀f∈fs.toList,cb P f.type=true):
 (fs.mapM (λf=>Functor.map (Prod.mk f.offset) (sizeOf f.type):Field->Sem (Nat×Nat))).run P w=.ok (fs.map λf=>(f.offset,P.cellsOf f.type)) w:=by
 rw[Array.mapM_eq_mapM_toList];have:∀(l:List Field),(∀f∈l,cb P f.type=true)->
  (l.mapM (λf=>Functor.map (Prod.mk f.offset) (sizeOf f.type):Field->Sem (Nat×Nat))).run P w=.ok (l.map λf=>(f.offset,P.cellsOf f.type)) w:=by
  intro l
  induction l with
  |nil=>intro _;simp
  |cons f l ih=>
   intro hl;simp[cI (hl f (by simp)),ih (λx hx=>hl x (by simp[hx]))]
 simp[this fs.toList (by simpa using h)];apply Array.ext';simp
def run_build{F:Fr}{st:St}{a:Act}(hs:dh F I st a w){t:TypeId}{i:TypeInfo}{z:Array Value}{fs:Array Field}(hz:zeroOf P t=some (i,.agg z))
 (RP:P.underlying t=some (.struct fs)){parts:Array (Nat×Operand)}(hk:(∀f∈fs.toList,cb P f.type=true)/\∀p∈parts.toList,p.1<fs.size){cells:List V}
 (hb:cV (z.toList.map cellOf) ((parts.toList.map λp=>(((fs[p.1]?).map (·.offset)).getD 0,((fs[p.1]?).map λf=>P.cellsOf f.type).getD 0,cx F.n p.2)).map λp=>(p.1,p.2.1,p.2.2.ev st.s))=some cells):
 ∃y,(Instr.build t (parts.map λ(i,x)=>(i,a.eval x))).run P w=.ok y w/\E' I (aI I st.U) w (.agg cells) y:=by
 obtain⟨_,_,_,_,Rb,_⟩:=eP hz;rw[List.map_map]at hb;obtain⟨g1,g2,g3⟩:=o9 (I:=I) (ow:=aI I st.U) (w:=w) (λp:Nat×Operand=>((fs[p.1]?).map (·.offset)).getD 0) (λp=>((fs[p.1]?).map λf=>P.cellsOf f.type).getD 0)
  (λp=>(cx F.n p.2).ev st.s) (λp=>a.eval p.2) hb (fc z.toList) (λp _=>cz hs p.2)
 obtain⟨cs,e1,e2,e3⟩:=nL (λk=>(fs.map λf=>(f.offset,P.cellsOf f.type))[k]?) ((parts.map λ(i,x)=>(i,a.eval x)).toList) z (by
  intro p hp;simp only[Array.toList_map,fM]at hp;obtain⟨q,hq,rfl⟩:=hp;have H':=hk.2 q hq;obtain⟨q1,q2⟩:=g3 q hq;have Rp:fs[q.1]?=some fs[q.1]:=by simp[H']
  simp only[Rp,Option.map_some,Option.getD_some]at q1 q2;exact⟨fs[q.1].offset,P.cellsOf fs[q.1].type,by simp[Rp],q1,by simpa using q2⟩)
 refine⟨.agg cs,?_,?_⟩
 .simp only[Array.toList_map,Array.getElem?_map]at e1;simp[Instr.build,eg hz,run_underlying RP,run_places fs (by simpa using hk.1),Value.cells];rw[e1];rfl
 .have V5:cs.toList=parts.toList.foldl (λacc p=>Vc.bP acc (((fs[p.1]?).map (·.offset)).getD 0) (a.eval p.2).cells.toList) z.toList:=by
   rw[e3,Array.toList_map,List.foldl_map];congr 1;funext acc p;congr 1;cases hp:fs[p.1]?<;>simp[hp]
  simp only[E'];refine⟨cs.toList,rfl,?_,?_⟩
  .rw[V5];exact g1
  .rw[V5];exact g2 (by simpa[Value.cells]using Rb)
def BG{F:Fr}{st:St}{a:Act}(hs:dh F I st a w){t e:TypeId}{k:Nat}{i:TypeInfo}{z:Array Value}(hz:zeroOf P t=some (i,.agg z))
 (RP:P.underlying t=some (.array k e)){parts:Array (Nat×Operand)}(hk:cb P e=true){cells:List V}
 (hb:cV (z.toList.map cellOf) ((parts.toList.map λp=>(p.1*P.cellsOf e,P.cellsOf e,cx F.n p.2)).map λp=>(p.1,p.2.1,p.2.2.ev st.s))=some cells):
 ∃y,(Instr.build t (parts.map λ(i,x)=>(i,a.eval x))).run P w=.ok y w/\E' I (aI I st.U) w (.agg cells) y:=by
 obtain⟨_,_,_,_,Rb,_⟩:=eP hz;rw[List.map_map]at hb;obtain⟨g1,g2,g3⟩:=o9 (I:=I) (ow:=aI I st.U) (w:=w) (λp:Nat×Operand=>p.1*P.cellsOf e) (λ_=>P.cellsOf e)
  (λp=>(cx F.n p.2).ev st.s) (λp=>a.eval p.2) hb (fc z.toList) (λp _=>cz hs p.2)
 obtain⟨cs,e1,e2,e3⟩:=nL (λi=>some (i*P.cellsOf e,P.cellsOf e)) ((parts.map λ(i,x)=>(i,a.eval x)).toList) z (by
  intro p hp;simp only[Array.toList_map,fM]at hp;obtain⟨q,hq,rfl⟩:=hp;obtain⟨q1,q2⟩:=g3 q hq;exact⟨q.1*P.cellsOf e,P.cellsOf e,rfl,q1,by simpa using q2⟩)
 refine⟨.agg cs,?_,?_⟩
 .simp only[Array.toList_map]at e1;simp[Instr.build,eg hz,run_underlying RP,cI hk,Value.cells];rw[e1];rfl
 .have V5:cs.toList=parts.toList.foldl (λacc p=>Vc.bP acc (p.1*P.cellsOf e) (a.eval p.2).cells.toList) z.toList:=by
   rw[e3,Array.toList_map,List.foldl_map];rfl
  simp only[E'];refine⟨cs.toList,rfl,?_,?_⟩
  .rw[V5];exact g1
  .rw[V5];exact g2 (by simpa[Value.cells]using Rb)
def BC(msg:String)(vs:List V)(bs:List UInt8)(l:List Value)(hb:bytesOf vs=some bs)(hr:ax I ow w vs l)(s0:ByteArray):
 (forIn l s0 (λc s=>match c with
   |.int .u8 n=>pure (ForInStep.yield (s.push (UInt8.ofNat n.toNat)))
   |_=>(do stuck msg;pure (ForInStep.yield s))):Sem ByteArray).run P w=.ok ⟨s0.data++bs.toArray⟩ w:=by
 induction vs generalizing bs l s0 with
 |nil=>
  simp only[bytesOf,bf]at hb;simp only[ax]at hr;subst hb hr;simp
 |cons v vs ih=>
  simp only[bytesOf]at hb;split at hb
  .rename_i b l' h1 h2;simp only[bf]at hb;subst hb;simp only[ax]at hr;obtain⟨x,xs,rfl,h3,h4⟩:=hr;unfold byteOf at h1;split at h1
   .rename_i n;simp only[bf]at h1;simp only[E']at h3;subst h3 h1;simp only[List.forIn_cons,Sem.run_bind,Sem.run_pure,Result.andThen_ok];rw[ih l' xs h2 h4];simp[ByteArray.push]
   .cases h1
  .cases hb
def rV:∀{rows:List V} {bs:List UInt8} {b off:Nat},bg I ow w rows b off 1->bytesOf rows=some bs->
 ∃xs,ax I ow w rows xs/\xs.length=rows.length/\∀(j:Nat) u,xs[j]?=some u->w.cell? ⟨b,off+j,none⟩=some u
 |[],_,_,_,_,_=>⟨[],by simp[ax],rfl,by simp⟩
 |v::vs,bs,b,off,h,hb=>by
  simp only[bytesOf]at hb;split at hb
  .rename_i c l h1 h2;simp only[bg]at h;obtain⟨_,h3,h4⟩:=h;have h5:∃x,w.cell? ⟨b,off,none⟩=some x/\E' I ow w v x:=by
    unfold byteOf at h1;split at h1
    .simp only[bF]at h3;obtain⟨x,g1,g2,_⟩:=h3;exact⟨x,g1,g2⟩
    .cases h1
   obtain⟨x,g1,g2⟩:=h5;obtain⟨xs,i1,i2,i3⟩:=rV h4 h2;refine⟨x::xs,by simp only[ax];exact⟨x,xs,rfl,g2,i1⟩,by simp[i2],λj u hu=>?_⟩;cases j with
   |zero=>simp at hu;subst hu;exact g1
   |succ j=>
    have:=i3 j u (by simpa using hu)
    rwa [show off+1+j=off+(j+1) by omega]at this
  .cases hb
def BW{w0:World}{QC:Nat->Prop}{U:ag}(RZ:Sat w0 QC I U w){x v:V}{X:Value}(hx:E' I (aI I U) w x X)(hv:cW U x=some v):
 ∃z,(Conv.bytesToString X).run P w=.ok z w/\E' I (aI I U) w v z:=by
 unfold cW at hv;split at hv
 .simp only[E']at hx;simp only[bf]at hv;subst hx hv;exact⟨_,rfl,by simp only[E'];rfl⟩
 .rename_i id off len;split at hv
  .rename_i ob Q5;split at hv
   .rename_i hc;simp only[Zq8]at hv;obtain⟨bs,hb,rfl⟩:=hv;have Ro:=RZ.obj id ob Q5;simp only[E']at hx;split at hx
    .exact hx.elim
    .obtain⟨rfl,_,rfl⟩:=hx;simp only[List.take_zero,bytesOf,bf]at hb;subst hb;exact⟨_,rfl,by simp only[E'];rfl⟩
    .rename_i b Tr cap M';obtain⟨o,c,rfl,Xt,Yx,Sa,hz⟩:=hx;rw[M']at Ro;obtain⟨g1,g2,g3,g4,g5⟩:=Ro.rows hz;by_cases h0:len=0
     .subst h0;simp only[List.take_zero,bytesOf,bf]at hb;subst hb;exact⟨_,by simp[Conv.bytesToString,loadCells,loadCellsFrom];rfl,by simp only[E'];rfl⟩
     .have ho:o=off*Tr:=by
       rcases Sa with Sa|Sa
       .exact Sa
       .omega
      have hs:Tr=1:=by omega
      subst ho;subst hs;have hr:=(g5.drop off).take len;rw[kI,Nat.mul_one]at hr;obtain⟨xs,i1,i2,i3⟩:=rV hr hb;have hl:xs.length=len:=by rw[i2];simp;omega
      refine⟨.string ⟨bs.toArray⟩,?_,by simp only[E']⟩;have VO:=run_loadCells_list (P:=P) w ⟨b,off,none⟩ xs (λj u hu=>by rw[fY];exact i3 j u hu);rw[hl]at VO;have hp:=λmsg=>BC (P:=P) msg _ bs xs hb i1 .empty;simp only[Conv.bytesToString,Nat.mul_one,Sem.run_bind,VO,Result.andThen_ok];rw[List.forIn_toArray];rw[show(.string ⟨bs.toArray⟩:Value)=.string ⟨ByteArray.empty.data++bs.toArray⟩ by rw[show ByteArray.empty.data=#[]from rfl,Array.empty_append]];have key:∀r:Result ByteArray,r=.ok ⟨ByteArray.empty.data++bs.toArray⟩ w->(r.andThen λa w'=>Sem.run P (pure (Value.string a)) w')=.ok (.string ⟨ByteArray.empty.data++bs.toArray⟩) w:=by
       rintro r rfl;simp
      exact key _ (hp _)
   .cases hv
  .cases hv
 .cases hv
def rW{m:Bool}{x y v:V}{X Y:Value}(ts:Array TypeId)(t:TypeId)(hx:E' I ow w x X)(hy:E' I ow w y Y)(hv:cC m x y=some v):
 ∃z,(if m then(do pure (Next.value (<-Builtin.max_ ts t #[X,Y])):Sem Next)else(do pure (Next.value (<-Builtin.min_ ts t #[X,Y])))).run P w=.ok (.value z) w/\E' I ow w v z:=by
 unfold cC at hv;split at hv
 .rename_i k a k' b;split at hv
  .simp only[E']at hx hy;simp only[bf]at hv;subst hv hx hy;cases m
   .exact⟨_,by simp[Builtin.min_,Builtin.min2];rfl,by simp[E']⟩
   .exact⟨_,by simp[Builtin.max_,Builtin.max2];rfl,by simp[E']⟩
  .cases hv
 .cases hv
def yu{x y:V}{X Y:Value}{b:Bool}(hx:E' I ow w x X)(hy:E' I ow w y Y)(hv:cQ x y=some b){t:TypeId}(ht:GG P t=true)(d:Nat)
 (Vr:(∃k,P.underlying t=some (.int k))->∃k n,x=.int k n)(htb:P.underlying t=some .bool->∃c,x=.bool c)(UL:P.underlying t=some .string->∃c,x=.str c):
 (Op.equalIn (d+1) t X Y).run P w=.ok b w:=by
 unfold GG at ht;split at ht
 .rename_i k hk;obtain⟨k1,n1,rfl⟩:=Vr ⟨k,hk⟩;cases y<;>simp only[cQ,reduceCtorEq]at hv;split at hv
  .rename_i T0;simp only[bf]at hv;simp only[E']at hx hy;subst hx hy hv T0;rw[run_equalIn_int w d t _ _ _ _ hk,pW]
  .cases hv
 .rename_i hk;obtain⟨c,rfl⟩:=htb hk;cases y<;>simp only[cQ,reduceCtorEq,bf]at hv;simp only[E']at hx hy;subst hx hy hv;exact run_equalIn_bool' w d t _ _ hk
 .rename_i hk;obtain⟨c,rfl⟩:=UL hk;cases y<;>simp only[cQ,reduceCtorEq,bf]at hv;simp only[E']at hx hy;subst hx hy hv;rw[run_equalIn_string w d t _ _ hk];simp[ByteArray.toList_eq,pW]
 .cases ht
def kG(P:Program)(t:TypeId)(x:V):Bool:=match P.underlying t,x with
 |some (.int _),.int _ _=>true
 |some .bool,.bool _=>true
 |some .string,.str _=>true
 |_,_=>false
def ng{xs ys:List Value}{vs us:List V}(hx:ax I ow w vs xs)(hy:ax I ow w us ys)(d:Nat):∀(fl:List Field) (k:Nat) (b:Bool),
 fl.map (·.offset)=List.range' k fl.length->(∀f∈fl,GG P f.type=true/\f.name≠"_"/\cb P f.type=true)->(∀(j:Nat) f v,fl[j]?=some f->vs[k+j]?=some v->kG P f.type v=true)->
 vs.length=k+fl.length->us.length=k+fl.length->
 bX (vs.drop k) (us.drop k)=some b->(Op.eqFields (d+1) ⟨xs⟩ ⟨ys⟩ fl).run P w=.ok b w
 |[],k,b,_,_,_,h1,h2,h=>by
  simp only[List.length_nil,Nat.add_zero]at h1 h2;rw[List.drop_of_length_le (by omega),List.drop_of_length_le (by omega)]at h;simp only[bX,bf]at h;subst h;simp[Op.eqFields]
 |f::fl,k,b,ho,hf,hc,h1,h2,h=>by
  simp only[Q4]at h1 h2;simp only[eD,Q4,List.range'_succ,List.cons.injEq]at ho;obtain⟨e1,e2⟩:=ho;obtain⟨f1,f2,f3⟩:=hf f (by simp);have hkv:k<vs.length:=by omega
  have hku:k<us.length:=by omega
  rw[iy hkv,iy hku]at h;simp only[bX]at h;split at h
  .rename_i c b' hcell Ss;simp only[bf]at h;obtain⟨X,hX,hrX⟩:=hx.get (i:=k) (by rw[Tq hkv]);obtain⟨Y,hY,hrY⟩:=hy.get (i:=k) (by rw[Tq hku]);have Sc:fH P f.type=false:=by
    unfold GG at f1;unfold fH;split at f1<;>simp_all
   have hp:∀(l:List Value) (Z:Value),l[k]?=some Z->(part f.type ⟨l⟩ f.offset).run P w=.ok Z w:=by
    intro l Z hZ;have:(⟨l⟩:Array Value)[k]?=some Z:=by simpa using hZ
    simp[part,rA (dU f3).1,Sc,e1,this]
   have Sd:=hc 0 f _ (by simp) (by rw[Nat.add_zero,Tq hkv]);have heq:=yu (P:=P) hrX hrY hcell f1 d
    (by rintro⟨kk,T0⟩;unfold kG at Sd;rw[T0]at Sd;generalize vs[k]=z at*;cases z<;>simp at Sd;exact⟨_,_,rfl⟩)
    (by intro T0;unfold kG at Sd;rw[T0]at Sd;generalize vs[k]=z at*;cases z<;>simp at Sd;exact⟨_,rfl⟩)
    (by intro T0;unfold kG at Sd;rw[T0]at Sd;generalize vs[k]=z at*;cases z<;>simp at Sd;exact⟨_,rfl⟩)
   simp only[Op.eqFields,f2,ne_eq,not_false_eq_true,if_true,Sem.run_bind,hp xs X hX,hp ys Y hY,Result.andThen_ok,heq];cases c
   .simp at h;subst h;simp
   .simp only[Bool.true_and]at h;subst h;simp only[Bool.not_true,jz,if_false];exact ng hx hy d fl (k+1) b' e2 (λg hg=>hf g (by simp[hg])) (λj g v hg hv=>hc (j+1) g v (by simpa using hg) (by rw[show k+(j+1)=k+1+j by omega];exact hv)) (by omega) (by omega) Ss
  .cases h
def sy:∀(fl:List Field) (vs:List V),cX (fl.map λf=>px P f.type) vs=true->
 vs.length=fl.length/\∀(j:Nat) f v,fl[j]?=some f->vs[j]?=some v->kG P f.type v=true
 |[],[],_=>by simp
 |[],_::_,h=>by simp[cX]at h
 |f::fl,[],h=>by
  simp only[eD]at h;generalize px P f.type=q at h;revert h
  match q with
  |0=>simp[cX]
  |1=>simp[cX]
  |2=>simp[cX]
  |n+3=>simp[cX]
 |f::fl,v::vs,h=>by
  have key:kG P f.type v=true/\cX (fl.map λf=>px P f.type) vs=true:=by
   simp only[eD]at h;generalize (fl.map λf=>px P f.type)=ks at h|-;unfold px at h;unfold kG;cases hd:P.underlying f.type with
   |none=>rw[hd]at h;simp[cX]at h
   |some d=>
    rw[hd]at h;cases d<;>cases v<;>simp_all [cX]
  obtain⟨k1,k2⟩:=key;obtain⟨h1,h2⟩:=sy fl vs k2;refine⟨by simp[h1],λj g u hg hu=>?_⟩;cases j with
  |zero=>simp at hg hu;subst hg hu;exact k1
  |succ j=>exact h2 j g u (by simpa using hg) (by simpa using hu)
def Iv{t:TypeId}{fs:Array Field}(ht:P.underlying t=some (.struct fs))(hf:EN P t fs=true){neg:Bool}{x y v:V}{X Y:Value}(hx:E' I ow w x X)(hy:E' I ow w y Y)
 (xo yo:Operand){op:BinOp}(PV:op=if neg then .neq else .eql)(hv:jX neg (fs.toList.map λf=>px P f.type) x y=some v):
 ∃z,(do eqGuard op t xo yo X Y;binOp op t X Y:Sem Value).run P w=.ok z w/\E' I ow w v z:=by
 unfold jX at hv;split at hv
 .rename_i vs us;split at hv
  .rename_i Sd;split at hv
   .rename_i b hb;simp only[bf]at hv;subst hv;simp only[E']at hx hy;obtain⟨xs,rfl,hx1,_⟩:=hx;obtain⟨ys,rfl,hy1,_⟩:=hy;simp only[EN,Ba,beq_iff_eq,Bool.not_eq_true',fv,bne_iff_ne,ne_eq]at hf;obtain⟨⟨⟨f1,f2⟩,f3⟩,f4⟩:=hf;obtain⟨g3,g2⟩:=Sd;obtain⟨g1,g4⟩:=sy (P:=P) fs.toList vs g3;have UR:P.fieldsOf t=fs:=by simp[Program.fieldsOf,ht]
    have hE:=ng (P:=P) hx1 hy1 9998 fs.toList 0 b (by rw[f1];simp[List.range_eq_range']) (λf hf=>⟨(f2 f hf).1.1,(f2 f hf).1.2,(f2 f hf).2⟩)
     (λj f v hj hv=>by
       rw[kI]at hv;exact g4 j f v hj hv) (by omega) (by omega) (by simpa using hb)
    have Qq:(Op.equalIn 10000 t (.agg ⟨xs⟩) (.agg ⟨ys⟩)).run P w=.ok b w:=by
     rw[run_equalIn_struct w 9999 t _ _ (by rw[UR];exact ht) f3,UR];exact hE
    have Vs:=run_eqGuard_agg (P:=P) w op t xo yo ⟨xs⟩ ⟨ys⟩ f4;refine⟨.bool (if neg then !b else b),?_,by simp[E']⟩;simp only[Sem.run_bind,Vs,Result.andThen_ok];cases neg<;>simp only[jz,if_false,if_true]at PV|-<;>subst PV
    .rw[run_eql_struct,Qq];rfl
    .rw[run_neq_struct,Qq];rfl
   .cases hv
  .cases hv
 .cases hv
def Av{P:Program}(w:World){t e:TypeId}(ht:P.underlying t=some (.pointer e))(q:Option Addr):
 (binOp .eql t (.pointer q) (.pointer none)).run P w=.ok (.bool q.isNone) w/\(binOp .neq t (.pointer q) (.pointer none)).run P w=.ok (.bool (!q.isNone)) w:=by
 have he:(Op.equal t (.pointer q) (.pointer none)).run P w=.ok q.isNone w:=by
  unfold Op.equal;rw[show Op.maxDepth=9999+1 from rfl];generalize 9999=d;cases q<;>simp[Op.equalIn,run_underlying ht]
 exact⟨by simp[binOp,he],by simp[binOp,he]⟩
def rK{F:Fr}{st:St}{a:Act}(hs:dh F I st a w)(o:Oper){v:V}(hp:fb st.s (P3 P F.n o.op))(hv:aM st.U st.s (P3 P F.n o.op)=some v):
 ∃z,(execOp a.eval o).run P w=.ok (.value z) w/\E' I (aI I st.U) w v z:=by
 have R:=cz hs;have VV:∀(x:Sem Value) (z:Value),x.run P w=.ok z w->(do pure (.value (<-x)):Sem Next).run P w=.ok (.value z) w:=λx z h=>by simp[h]
 unfold execOp;cases ho:o.op
 all_goals rw[ho]at hp hv;simp only[P3]at hp hv
 all_goals try (simp only[aM,reduceCtorEq]at hv;done)
 case move x=>simp only[aM,bf]at hv;subst hv;exact⟨_,rfl,R x⟩
 case assign x=>simp only[aM,bf]at hv;subst hv;exact⟨_,rfl,R x⟩
 case pick c x y=>
  simp only[aM]at hv;have hc:=R c;split at hv
  .rename_i t ht;rw[ht]at hc;simp only[E']at hc;simp only[bf]at hv;subst hv;cases t
   .exact⟨_,by simp[hc,asBool],R y⟩
   .exact⟨_,by simp[hc,asBool],R x⟩
  .cases hv
 case alloc=>(repeat' split at hv)<;>simp[aM]at hv
 case range=>split at hv<;>simp[aM]at hv
 case makeMap=>split at hv<;>simp[aM]at hv
 case insert=>(repeat' split at hv)<;>simp[aM]at hv
 case mapUpdate=>(repeat' split at hv)<;>simp[aM]at hv
 case lookup=>(repeat' split at hv)<;>simp[aM]at hv
 case makeInterface t x=>
  split at hv
  .rename_i hc;simp only[Ba,Bool.not_eq_true']at hc;simp only[aM,bf]at hv;subst hv;refine⟨.iface t (a.eval x),?_,by simp only[E'];exact⟨_,rfl,R x⟩⟩;refine VV _ _ ?_;cases hu:P.underlying t with
   |none=>rw[hu]at hc;simp at hc
   |some d=>
    cases d
    case interface ms=>simp[ux,hu]at hc
    all_goals simp[Instr.makeInterface,run_underlying hu]
  .simp[aM]at hv
 case typeAssert x xt t ok=>
  split at hv
  .simp[aM]at hv
  .rename_i hi;obtain⟨zv,z,hzv,hzr,hus,hv⟩:∃(zv:V) (z:Value),(zeroValue t).run P w=.ok z w/\E' I (aI I st.U) w zv z/\(P.underlying t).isSome=true/\aM st.U st.s (.more (.tas t ok zv) [cx F.n x])=some v:=by
    split at hv
    .rename_i i z hz;refine⟨_,z,eg hz,mJ z,?_,hv⟩;have hk:=(eP hz).2.2.1;simp only[cb,Ba]at hk;exact hk.1.2
    .split at hv
     .rename_i hn;obtain⟨_,h0,_⟩:=nP hn;exact⟨.agg [],.agg #[],rj hn,by simp only[E'];exact⟨[],rfl,by simp[ax],by simp⟩,by rw[h0];rfl,hv⟩
     .simp[aM]at hv
   .simp only[aM]at hv;have hx:=R x;obtain⟨d,hu,Rh⟩:∃d,P.underlying t=some d/\∀ms,d≠.interface ms:=by
     cases hu:P.underlying t with
     |none=>simp[hu]at hus
     |some d=>exact⟨d,rfl,λms e=>hi (by simp[ux,hu,e])⟩
    have hfail:ok=true->(∀xx:Value,(Instr.typeAssert xx xt t ok).run P w=(do pure (Value.tuple #[<-zeroValue t,.bool false]):Sem Value).run P w->(Instr.typeAssert xx xt t ok).run P w=.ok (.tuple #[z,.bool false]) w):=λ_ xx h=>by
     rw[h];simp[hzv]
    unfold HT at hv;split at hv
    .rename_i t' v' hxv;rw[hxv]at hx;simp only[E']at hx;obtain⟨y,hy,hry⟩:=hx;by_cases ht:t'=t
     .subst ht;rw[aE rfl]at hv;simp only[bf]at hv;subst hv;cases ok
      .refine⟨y,VV _ _ ?_,hry⟩;rw[hy];cases d
       case interface ms=>exact absurd rfl (Rh ms)
       all_goals simp[Instr.typeAssert,run_underlying hu]
      .refine⟨.tuple #[y,.bool true],VV _ _ ?_,by simp only[if_true,E'];exact⟨_,rfl,by simp only[ax,E'];exact⟨_,_,rfl,hry,_,_,rfl,rfl,rfl⟩⟩⟩;rw[hy];cases d
       case interface ms=>exact absurd rfl (Rh ms)
       all_goals simp[Instr.typeAssert,run_underlying hu]
     .rw[aH ht]at hv;cases ok
      .simp at hv
      .simp only[if_true,bf]at hv;subst hv;refine⟨.tuple #[z,.bool false],VV _ _ (hfail rfl _ ?_),by simp only[E'];exact⟨_,rfl,by simp only[ax,E'];exact⟨_,_,rfl,hzr,_,_,rfl,rfl,rfl⟩⟩⟩;rw[hy];cases d
       case interface ms=>exact absurd rfl (Rh ms)
       all_goals simp[Instr.typeAssert,run_underlying hu,ht]
    .rename_i hxv;rw[hxv]at hx;simp only[E']at hx;cases ok
     .simp at hv
     .simp only[if_true,bf]at hv;subst hv;refine⟨.tuple #[z,.bool false],VV _ _ (hfail rfl _ ?_),by simp only[E'];exact⟨_,rfl,by simp only[ax,E'];exact⟨_,_,rfl,hzr,_,_,rfl,rfl,rfl⟩⟩⟩;rw[hx];cases d
      case interface ms=>exact absurd rfl (Rh ms)
      all_goals simp[Instr.typeAssert,run_underlying hu]
    .cases hv
 case next it b=>cases b<;>simp[aM]at hv
 case buildSlice=>split at hv<;>(try split at hv)<;>(try split at hv)<;>simp[aM]at hv
 case makeSlice=>split at hv<;>(try split at hv)<;>(try split at hv)<;>simp[aM]at hv
 case build t parts=>
  split at hv
  .rename_i hn;simp only[Ba,beq_iff_eq]at hn;have hp:parts=#[]:=Array.eq_empty_of_size_eq_zero hn.2;subst hp;simp only[aM,VX.ev,bf]at hv;subst hv;exact⟨.agg #[],VV _ _ (by rw[Array.map_empty];exact BQ hn.1),by simp only[E'];exact⟨[],rfl,by simp[ax],by simp⟩⟩
  split at hv
  .rename_i i z fs hz RP;split at hv
   .rename_i hk;simp only[aM,Zq8]at hv;obtain⟨cells,hb,rfl⟩:=hv;obtain⟨y,h1,h2⟩:=run_build hs hz RP (by simpa only[Ba,fv,Sp]using hk) hb;exact⟨y,VV _ _ h1,h2⟩
   .simp[aM]at hv
  .rename_i i z k e hz RP;split at hv
   .rename_i hk;simp only[aM,Zq8]at hv;obtain⟨cells,hb,rfl⟩:=hv;obtain⟨y,h1,h2⟩:=BG hs hz RP hk hb;exact⟨y,VV _ _ h1,h2⟩
   .simp[aM]at hv
  .simp[aM]at hv
 case store=>(repeat' split at hv)<;>simp[aM]at hv
 case load t x=>
  split at hv
  .rename_i hk;simp only[aM]at hv;obtain⟨z,h1,h2⟩:=wC hs.sat hk (R x) hv;exact⟨z,VV _ _ h1,h2⟩
  .simp[aM]at hv
 case binOp op t x y yt=>
  have hplain:∀(hp:fb st.s (.bin op (cx F.n x) (cx F.n y))) (hv:aM st.U st.s (.bin op (cx F.n x) (cx F.n y))=some v),
   ∃z,(do pure (Next.value (<-(do eqGuard op t x y (a.eval x) (a.eval y);binOp op t (a.eval x) (a.eval y):Sem Value))):Sem Next).run P w=.ok (.value z) w/\E' I (aI I st.U) w v z:=by
   intro hp hv;simp only[aM,fb]at hv hp;obtain⟨z,h1,h2⟩:=Ik (P:=P) (t:=t) (xo:=x) (yo:=y) (R x) (R y) hp hv;exact⟨z,VV _ _ h1,h2⟩
  split at hv
  .rename_i ht;have key:∀neg,(op=if neg then .neq else .eql)->aM st.U st.s (.SE neg (cx F.n x) (cx F.n y))=some v->
    ∃z,(do pure (Next.value (<-(do eqGuard op t x y (a.eval x) (a.eval y);binOp op t (a.eval x) (a.eval y):Sem Value))):Sem Next).run P w=.ok (.value z) w/\E' I (aI I st.U) w v z:=by
    intro neg PV hv;simp only[aM]at hv;have hx:=R x;have hy:=R y;generalize (cx F.n x).ev st.s=xv at*;generalize (cx F.n y).ev st.s=yv at*;unfold binBV at hv;split at hv
    .rename_i a' b';simp only[E']at hx hy;simp only[bf]at hv;subst hv;rw[hx,hy];refine⟨.bool (if neg then !(a'==b')else a'==b'),VV _ _ ?_,by simp only[E']⟩;cases neg<;>simp only[jz,if_false,if_true]at PV<;>subst PV
     .simp[eqGuard,run_eql_bool w t a' b' ht]
     .simp[eqGuard,run_neq_bool w t a' b' ht]
    .cases hv
   cases op<;>simp only[aM,reduceCtorEq]at hv
   .exact key false rfl (by simpa only[aM]using hv)
   .exact key true rfl (by simpa only[aM]using hv)
  .rename_i fs ht;split at hv
   .rename_i Uy;have key:∀neg,(op=if neg then .neq else .eql)->aM st.U st.s (.eqS neg (fs.toList.map λf=>px P f.type) (cx F.n x) (cx F.n y))=some v->
     ∃z,(do pure (Next.value (<-(do eqGuard op t x y (a.eval x) (a.eval y);binOp op t (a.eval x) (a.eval y):Sem Value))):Sem Next).run P w=.ok (.value z) w/\E' I (aI I st.U) w v z:=by
     intro neg PV hv;simp only[aM]at hv;obtain⟨z,h1,h2⟩:=Iv (P:=P) ht Uy (R x) (R y) x y PV hv;exact⟨z,VV _ _ h1,h2⟩
    cases op<;>simp only[aM,reduceCtorEq]at hv
    .exact key false rfl (by simpa only[aM]using hv)
    .exact key true rfl (by simpa only[aM]using hv)
   .simp[aM]at hv
  .rename_i h1 h2;split at hv
   .unfold cu at hv;split at hv
    .simp only[aM,VX.ev]at hv;unfold binBV at hv;split at hv
     .rename_i hx;cases hx
     .cases hv
    .simp[aM]at hv
   .rename_i hns;split at hv
    .split at hv
     .simp only[aM,VX.ev]at hv;unfold binBV at hv;split at hv
      .rename_i hx;cases hx
      .cases hv
     .simp[aM]at hv
    .rename_i hni;split at hv
     .split at hv
      .simp only[aM,VX.ev]at hv;unfold binBV at hv;split at hv
       .rename_i hx;cases hx
       .cases hv
      .simp[aM]at hv
     .rename_i Vt;split at hv
      .rename_i hnp;simp only[Ba]at hnp;obtain⟨hpt,Sg⟩:=hnp;unfold MH at hpt;split at hpt
       .rename_i e ht;unfold IW at Sg;split at Sg
        .split at hv
         .rename_i PV;simp only[aM]at hv;have hx:=R x;generalize (cx F.n x).ev st.s=xv at*;have hY:a.eval (.const (.pointer none))=.pointer none:=rfl;have key:∀q:Option Addr,a.eval x=.pointer q->∃z,(do pure (Next.value (<-(do eqGuard op t x (.const (.pointer none)) (a.eval x) (a.eval (.const (.pointer none)));binOp op t (a.eval x) (a.eval (.const (.pointer none))):Sem Value))):Sem Next).run P w=.ok (.value z) w/\z=.bool (if op=.neq then !q.isNone else q.isNone):=by
           intro q hq;rw[hq,hY];obtain⟨q1,q2⟩:=Av (P:=P) w ht q;have hg:∀op,(eqGuard op t x (.const (.pointer none)) (.pointer q) (.pointer none)).run P w=.ok () w:=by intro op;simp[eqGuard]
           rcases PV with rfl|rfl
           .exact⟨_,by simp only[Sem.run_bind,hg,Result.andThen_ok,q1];rfl,by simp⟩
           .exact⟨_,by simp only[Sem.run_bind,hg,Result.andThen_ok,q2];rfl,by simp⟩
          unfold GX at hv;split at hv
          .simp only[E']at hx;simp only[bf]at hv;subst hv;obtain⟨z,h3,rfl⟩:=key none hx;refine⟨_,h3,?_⟩;rcases PV with rfl|rfl<;>simp[E']
          .simp only[E']at hx;split at hx
           .simp only[bf]at hv;subst hv;obtain⟨z,h3,rfl⟩:=key _ hx.1;refine⟨_,h3,?_⟩;rcases PV with rfl|rfl<;>simp[E']
           .exact hx.elim
          .simp only[E']at hx;obtain⟨b,off,hx,_⟩:=hx;simp only[bf]at hv;subst hv;obtain⟨z,h3,rfl⟩:=key _ hx;refine⟨_,h3,?_⟩;rcases PV with rfl|rfl<;>simp[E']
          .cases hv
         .simp[aM]at hv
        .cases Sg
       .cases hpt
      .rename_i hnp;refine hplain ?_ hv;revert hp;split
       .rename_i h4;exact absurd h4 h1
       .rename_i fs h4;exact absurd h4 (h2 fs)
       .rw[aH hns,aH hni,aH Vt,aH hnp];exact id
 case nilCheck x=>
  simp only[aM]at hv;have hx:=R x;generalize (cx F.n x).ev st.s=xv at*;unfold bK at hv;split at hv
  .simp only[bf]at hv;subst hv;have Qh:=hx;simp only[E']at Qh;split at Qh
   .exact⟨a.eval x,by simp[Qh],hx⟩
   .exact Qh.elim
  .simp only[bf]at hv;subst hv;have Qh:=hx;simp only[E']at Qh;obtain⟨b,off,e,_⟩:=Qh;exact⟨a.eval x,by simp[e],hx⟩
  .simp only[bf]at hv;subst hv;have Qh:=hx;simp only[E']at Qh;obtain⟨PO,e,_⟩:=Qh;exact⟨a.eval x,by simp[e],hx⟩
  .simp only[bf]at hv;subst hv;have Qh:=hx;simp only[E']at Qh;obtain⟨y,e,_⟩:=Qh;exact⟨a.eval x,by simp[e],hx⟩
  .cases hv
 case box=>split at hv<;>simp[aM]at hv
 case unOp op t x=>
  have hx:=R x;cases op<;>simp only[aM,reduceCtorEq]at hv<;>simp only[fb]at hp
  .split at hv
   .rename_i k n hn;simp only[hn]at hx hp;simp only[E']at hx;simp only[bf]at hv;subst hv;simp only[PY]at hp;exact⟨.int k (0-n),VV _ _ (by simp only[hx,Op.unary,Op.intArith];rw[hp];rfl),by simp[E']⟩
   .cases hv
  .split at hv
   .rename_i b hb;rw[hb]at hx;simp only[E']at hx;simp only[bf]at hv;subst hv;exact⟨.bool (!b),VV _ _ (by simp[hx,Op.unary]),by simp[E']⟩
   .cases hv
 case convert src dst x=>
  split at hv
  .rename_i k1 k2 h1 h2;simp only[h1,h2]at hp;have hx:=R x;simp only[aM,fb]at hv hp;split at hv
   .rename_i k n hn;rw[hn]at hx hp;simp only[E']at hx;simp only[bf]at hv;subst hv;simp only[PY]at hp;refine⟨.int k2 n,VV _ _ ?_,by simp[E']⟩;simp[Go.convert,run_underlying h1,run_underlying h2,hx,Conv.intToInt,hp]
   .cases hv
  .rename_i e h1 h2;split at hv
   .rename_i h3;have h3:P.underlying e=some (.int .u8):=by
     unfold u8T at h3;split at h3
     .assumption
     .cases h3
    simp only[aM]at hv;obtain⟨z,g1,g2⟩:=BW (P:=P) hs.sat (R x) hv;refine⟨z,VV _ _ ?_,g2⟩;obtain⟨b,n,c,hX⟩:∃b n c,a.eval x=.slice b n c:=by
     have hx:=R x;unfold cW at hv;split at hv
     .rename_i Qh;rw[Qh]at hx;simp only[E']at hx;exact⟨_,_,_,hx⟩
     .rename_i Qh;rw[Qh]at hx;simp only[E']at hx;split at hx
      .exact hx.elim
      .exact⟨_,_,_,hx.1⟩
      .obtain⟨o,c,h,_⟩:=hx;exact⟨_,_,_,h⟩
     .cases hv
    rw[hX]at g1|-;cases b<;>simp[Go.convert,run_underlying h1,run_underlying h2,run_underlying h3,g1]
   .simp[aM]at hv
  .split at hv<;>simp[aM]at hv
 case makeFunc fn first caps=>
  cases fn
  case func f=>
   by_cases h0:first.size=0
   .simp only[aE h0,aM,bf]at hv;subst hv;refine⟨.func (.func f) #[] (caps.map a.eval),VV _ _ ?_,?_⟩
    .have:first=#[]:=Array.eq_empty_of_size_eq_zero h0
     subst this;simp[Instr.makeFunc]
    .simp only[E'];exact⟨caps.toList.map a.eval,by congr 1;apply Array.ext';simp,nN hs _⟩
   .have WT:aM st.U st.s (if first.size=0 then Qp.WN f (caps.toList.map (cx F.n))else if caps.size=0 then .more (.mkB f) (first.toList.map (cx F.n))else .bad)=some v:=hv;rw[aH h0]at WT;by_cases h1:caps.size=0
    .rw[aE h1]at WT;simp only[aM,bf]at WT;subst WT;refine⟨.func (.func f) (first.map a.eval) #[],VV _ _ ?_,?_⟩
     .have:caps=#[]:=Array.eq_empty_of_size_eq_zero h1;subst this;simp[Instr.makeFunc]
     .simp only[E'];exact⟨first.toList.map a.eval,by congr 1;apply Array.ext';simp,nN hs _⟩
    .rw[aH h1]at WT;simp only[aM,reduceCtorEq]at WT
  all_goals simp[aM]at hv
 case slice t x lo hi mx=>
  split at hv
  .rename_i e ht;split at hv
   .rename_i hk;simp only[Ba,kJ]at hk;simp only[aM]at hv;obtain⟨z,h1,h2⟩:=ur hs.sat ht hk.1 (R x) (u9 hs lo) (u9 hs hi) (u9 hs mx)
     (by intro h;rcases hk.2 with h'|h'<;>cases mx<;>cases hi<;>simp_all) hv
    exact⟨z,VV _ _ h1,h2⟩
   .simp[aM]at hv
  .rename_i ht;split at hv
   .rename_i hm;simp only[aM]at hv;have Yy:mx=none:=by simpa using hm
    subst Yy;obtain⟨z,h1,h2⟩:=vr (P:=P) ht (R x) (u9 hs lo) (u9 hs hi) hv;exact⟨z,VV _ _ h1,h2⟩
   .simp[aM]at hv
  .simp[aM]at hv
 case fieldAddr s x f=>
  split at hv
  .rename_i fs RP;split at hv
   .rename_i fd hfd;split at hv
    .rename_i hk;simp only[aM]at hv;obtain⟨z,h1,h2⟩:=Ek (P:=P) RP hfd hk (R x) hv;exact⟨z,VV _ _ h1,h2⟩
    .simp[aM]at hv
   .simp[aM]at hv
  .simp[aM]at hv
 case field s x f=>
  split at hv
  .rename_i fs RP;split at hv
   .rename_i fd hfd;split at hv
    .rename_i hk;have hx:=R x;simp only[aM]at hv;unfold jj at hv;split at hv
     .rename_i vs Yz;rw[Yz]at hx;simp only[E']at hx;obtain⟨PO,hX,hr,h1⟩:=hx;obtain⟨z,hz,WR⟩:=y6 (P:=P) (w:=w) hk hr h1 hv;exact⟨z,VV _ _ (by simp[Instr.field,run_underlying RP,hfd,hX,asAgg,hz]),WR⟩
     .cases hv
    .simp[aM]at hv
   .simp[aM]at hv
  .simp[aM]at hv
 case indexAddr t x i=>
  split at hv
  .rename_i e ht;split at hv
   .rename_i hk;simp only[aM]at hv;obtain⟨z,h1,h2⟩:=Ec hs.sat ht hk (R x) (R i) hv;exact⟨z,VV _ _ h1,h2⟩
   .simp[aM]at hv
  .rename_i k e ht;split at hv
   .rename_i hk;simp only[aM]at hv;obtain⟨z,h1,h2⟩:=Bu (P:=P) ht hk (R x) (R i) hv;exact⟨z,VV _ _ h1,h2⟩
   .simp[aM]at hv
  .simp[aM]at hv
 case index t x i=>
  split at hv
  .rename_i k e ht;split at hv
   .rename_i hk;simp only[aM]at hv;obtain⟨z,h1,h2⟩:=Dg (P:=P) ht hk (R x) (R i) hv;exact⟨z,VV _ _ h1,h2⟩
   .simp[aM]at hv
  .rename_i ht;simp only[aM]at hv;obtain⟨z,h1,h2⟩:=D9 (P:=P) ht (R x) (R i) hv;exact⟨z,VV _ _ h1,h2⟩
  .simp[aM]at hv
 case extract x i=>
  simp only[aM]at hv;have hx:=R x;unfold jv at hv;split at hv
  .rename_i vs Yz;rw[Yz]at hx;simp only[E']at hx;obtain⟨PO,hX,hr⟩:=hx;obtain⟨z,hz,WR⟩:=hr.get hv;exact⟨z,VV _ _ (by simp[Instr.extract,hX,hz]),WR⟩
  .cases hv
 case call c=>
  obtain⟨callee,args,argTypes⟩:=c;cases callee
  case value=>simp only[aM,reduceCtorEq]at hv
  case invoke=>simp only[aM,reduceCtorEq]at hv
  case builtin b=>
   cases b
   case delete=>simp only[]at hv;split at hv<;>(try split at hv)<;>simp[aM]at hv
   case copy=>simp only[]at hv;split at hv<;>(try split at hv)<;>(try split at hv)<;>simp[aM]at hv
   case len=>
    simp only[]at hv;split at hv
    .rename_i x t QM ht;have hx:=R x;have SX:args=#[x]:=by apply Array.ext';simpa using QM
     have hlen:∀z,(Builtin.len_ argTypes o.type #[a.eval x]).run P w=.ok z w->
      (do let d <-resolve a.eval { callee:=.builtin .len,args:=args,argTypes:=argTypes } o.type;invoke d.target d.args:Sem Next).run P w=.ok (.value z) w:=by
      intro z hz;simp[resolve,invoke,Go.builtin,SX,hz]
     have Vr:Builtin.len_ argTypes o.type #[a.eval x]=Builtin.len_ #[t] o.type #[a.eval x]:=by
      simp[Builtin.len_,ht]
     split at hv
     .rename_i e he;obtain⟨z,h1,h2⟩:=A2 (P:=P) hx (by simpa only[aM]using hv) o.type (t:=t) (by simp[he]);exact⟨z,hlen z (Vr▸h1),h2⟩
     .rename_i he;obtain⟨z,h1,h2⟩:=A2 (P:=P) hx (by simpa only[aM]using hv) o.type (t:=t) (by simp[he]);exact⟨z,hlen z (Vr▸h1),h2⟩
     .simp[aM]at hv
    .simp[aM]at hv
   case cap=>
    simp only[]at hv;split at hv
    .rename_i x t QM ht;have hx:=R x;have SX:args=#[x]:=by apply Array.ext';simpa using QM
     split at hv
     .rename_i TD;obtain⟨e,he⟩:∃e,P.underlying t=some (.slice e):=by
       unfold yy at TD;split at TD
       .rename_i e he;exact⟨e,he⟩
       .cases TD
      simp only[aM,jf]at hv;split at hv
      .rename_i hn;rw[hn]at hx;simp only[E']at hx;simp only[bf]at hv;subst hv;refine⟨.int .i64 0,?_,by simp[E']⟩;simp[resolve,invoke,Go.builtin,SX,Builtin.cap_,ht,run_underlying he,hx,goInt]
      .cases hv
     .simp[aM]at hv
    .simp[aM]at hv
   case min=>
    simp only[]at hv;split at hv
    .rename_i x y QM;have SX:args=#[x,y]:=by apply Array.ext';simpa using QM
     obtain⟨z,h1,h2⟩:=rW (P:=P) (w:=w) (m:=false) argTypes o.type (R x) (R y) (by simpa only[aM]using hv);exact⟨z,by simpa[resolve,invoke,Go.builtin,SX]using h1,h2⟩
    .simp[aM]at hv
   case max=>
    simp only[]at hv;split at hv
    .rename_i x y QM;have SX:args=#[x,y]:=by apply Array.ext';simpa using QM
     obtain⟨z,h1,h2⟩:=rW (P:=P) (w:=w) (m:=true) argTypes o.type (R x) (R y) (by simpa only[aM]using hv);exact⟨z,by simpa[resolve,invoke,Go.builtin,SX]using h1,h2⟩
    .simp[aM]at hv
   case clear=>
    simp only[]at hv;split at hv
    .split at hv
     .split at hv<;>simp[aM]at hv
     .simp[aM]at hv
    .simp[aM]at hv
   case append=>
    simp only[]at hv;split at hv
    .split at hv
     .split at hv
      .split at hv<;>simp[aM]at hv
      .simp[aM]at hv
     .split at hv
      .split at hv<;>simp[aM]at hv
      .split at hv<;>simp[aM]at hv
      .simp[aM]at hv
    .simp[aM]at hv
   all_goals simp[aM]at hv
variable {P:Program} {I:Mu} {ow:Nat->Prop} {w w':World}
def flat(rows:List V):List V:=rows.flatMap V.cells
def aW.append:∀{vs us:List V} {b off:Nat},aW I ow w (vs++us) b off↔aW I ow w vs b off/\aW I ow w us b (off+vs.length)
 |[],us,b,off=>by simp[aW]
 |v::vs,us,b,off=>by
  simp only[List.cons_append,aW,aW.append (vs:=vs),Q4];rw[show off+(vs.length+1)=off+1+vs.length by omega,and_assoc]
def jE:∀{rows:List V} {b off sz:Nat},bg I ow w rows b off sz↔(∀r∈rows,r.cells.length=sz)/\aW I ow w (flat rows) b off
 |[],b,off,sz=>by simp[bg,flat,aW]
 |r::rs,b,off,sz=>by
  have ih:=jE (rows:=rs) (b:=b) (off:=off+sz) (sz:=sz);simp only[bg,ih,eh];have e:flat (r::rs)=r.cells++flat rs:=by simp[flat]
  rw[e,aW.append];constructor
  .rintro⟨h1,h2,h3,h4⟩;exact⟨λx hx=>(dc.1 hx).elim (λe'=>e'▸h1) (h3 x),h2,by rw[h1];exact h4⟩
  .rintro⟨h1,h2,h3⟩;have h0:=h1 r (by simp);exact⟨h0,h2,λx hx=>h1 x (by simp[hx]),by rw[h0]at h3;exact h3⟩
def sI{rows:List V}{sz:Nat}(h:∀r∈rows,r.cells.length=sz):(flat rows).length=rows.length*sz:=by
 induction rows with
 |nil=>simp[flat]
 |cons r rs ih=>
  have e:flat (r::rs)=r.cells++flat rs:=by simp[flat]
  rw[e,gY,h r (by simp),ih (λx hx=>h x (by simp[hx])),Q4,Nat.add_mul];omega
def ij(a b:List V):flat (a++b)=flat a++flat b:=by simp[flat]
def lj:∀{vs:List V} {xs:List Value} {b off:Nat},ax I ow w vs xs->(∀u∈xs,u.oneCell'=true)->
 (∀(j:Nat) u,xs[j]?=some u->w.cell? ⟨b,off+j,none⟩=some u)->aW I ow w vs b off
 |[],_,_,_,_,_,_=>by simp[aW]
 |v::vs,l,b,off,h,h1,h2=>by
  simp only[ax]at h;obtain⟨x,xs,rfl,h3,h4⟩:=h;simp only[aW];refine⟨⟨x,by simpa using h2 0 x (by simp),h3,h1 x (by simp)⟩,lj h4 (λu hu=>h1 u (by simp[hu])) ?_⟩;intro j u hu;have:=h2 (j+1) u (by simpa using hu)
  rwa [show off+(j+1)=off+1+j by omega]at this
def bI(U:ag):Option Nat->ag
 |none=>U
 |some i=>del U i
def wu{U:ag}{o:Option Nat}{i:Nat}{x:Ob}(h:bI U o i=some x):U i=some x/\some i≠o:=by
 cases o with
 |none=>exact⟨h,by simp⟩
 |some k=>
  simp only[bI,del]at h;split at h
  .cases h
  .rename_i P';exact⟨h,by simpa using P'⟩
def Sat.dQ{w0:World}{QC:Nat->Prop}{U:ag}(h:Sat w0 QC I U w):∃id,I id=.dQ/\U id=none/\∀p,∃N,∀i,N<=i->(λk=>if k=id then p else I k:Mu) i=.dQ:=by
 obtain⟨N,hN⟩:=h.fin;refine⟨N,hN N (Qt _),?_,λp=>⟨N+1,λi hi=>?_⟩⟩
 .cases ho:U N with
  |none=>rfl
  |some o=>
   have:=h.obj N o ho;rw[hN N (Qt _)]at this;exact this.elim
 .simp[show i≠N by omega,hN i (by omega)]
def Sat.renew{w0:World}{QC:Nat->Prop}{U:ag}(h:Sat w0 QC I U w){row:Option Nat}(hg:w.grownBy w' row)(PU:Option Nat)
 (hA:row=none\/∃i oA sz cap b,PU=some i/\U i=some oA/\I i=.QA b sz cap/\row=some b)
 (b sz cap:Nat)(cur:Array Value)(e:TypeId)(rows:List V)(xs:List Value)(hb:some b=row\/w.heap.size<=b)
 (V6:w'.heap[b]?=some (.cells cur e (0,0)))(RS:0<sz)(hcur:cur.size=cap*sz)(Qu:rows.length<=cap)(WQ:cap<=maxLen)
 (hlen:∀r∈rows,r.cells.length=sz)(hx:ax I (aI I U) w (flat rows) xs)(Rb:∀u∈xs,u.oneCell'=true)
 (US:∀(j:Nat) u,xs[j]?=some u->cur[j]?=some u):
 ∃id,U id=none/\∃Y':Mu,Y' id=.QA b sz cap/\dd I Y'/\Sat w0 QC Y' (C' (bI U PU) id ⟨e,sz,rows⟩) w'/\
  dg (aI I U) (aI Y' (C' (bI U PU) id ⟨e,sz,rows⟩)) w w':=by
 obtain⟨id,M',Qj,Qm⟩:=h.dQ;refine⟨id,Qj,λk=>if k=id then .QA b sz cap else I k,by simp,λk hk=>?_,?_⟩
 .have:k≠id:=λe'=>hk (e'▸M');simp[this]
 .have hle:dd I (λk=>if k=id then .QA b sz cap else I k):=λk hk=>by
   have:k≠id:=λe'=>hk (e'▸M');simp[this]
  have Q0:∀b',row=some b'->aI I U b':=λb' SO=>by
   rcases hA with h1|⟨i,oA,SC,Rl,b'',h1,h2,h3,h4⟩
   .rw[h1]at SO;cases SO
   .rw[h4]at SO;cases SO;exact⟨i,oA,SC,Rl,h2,h3⟩
  refine h.put hg Q0 hle (Qm _) id ⟨e,sz,rows⟩ (λo ho=>?_) (λi o hi ho=>?_) (λb' SC Rl SO=>?_) (λhk=>?_)
  .simp[C']at ho;exact ho.symm
  .simp only[C',aH hi]at ho;obtain⟨h1,h2⟩:=wu ho;refine⟨h1,λb' SC Rl h3 h4=>?_⟩;rcases hA with h5|⟨iA,oA,szA,capA,bA,h5,h6,h7,h8⟩
   .rw[h5]at h4;cases h4
   .rw[h8]at h4;cases h4;have:=h.inj i iA o oA _ _ _ _ _ h1 h6 h3 h7;exact h2 (by rw[this,h5])
  .simp only[if_true,Pl.QA.injEq]at SO;rw[<-SO.1];exact hb
  .simp only[if_true,pz];refine .inl ⟨cur,V6,trivial,RS,hcur,Qu,WQ,?_⟩;rw[jE];refine⟨hlen,lj (ax.mono hle hk hg.size _ _ hx) Rb ?_⟩;intro j u hu;rw[cell_of_row w' b _ cur e (0,0) V6];simpa using US j u hu
def Sat.GD{w0:World}{QC:Nat->Prop}{U:ag}(h:Sat w0 QC I U w)(PU:Option Nat)(e:TypeId)(sz:Nat):
 ∃id,U id=none/\∃Y':Mu,Y' id=.nil/\dd I Y'/\Sat w0 QC Y' (C' (bI U PU) id ⟨e,sz,[]⟩) w/\
  dg (aI I U) (aI Y' (C' (bI U PU) id ⟨e,sz,[]⟩)) w w:=by
 obtain⟨id,M',Qj,Qm⟩:=h.dQ;have hle:dd I (λk=>if k=id then .nil else I k):=λk hk=>by
  have:k≠id:=λe'=>hk (e'▸M');simp[this]
 refine⟨id,Qj,λk=>if k=id then .nil else I k,by simp,hle,?_⟩;refine h.put (row:=none) ⟨rfl,rfl,rfl,Qt _,λ_ _ _=>rfl⟩ (by simp) hle (Qm _) id ⟨e,sz,[]⟩ (λo ho=>?_) (λi o hi ho=>?_) (λb' SC Rl SO=>?_) (λhk=>?_)
 .simp[C']at ho;exact ho.symm
 .simp only[C',aH hi]at ho;exact⟨(wu ho).1,by simp⟩
 .simp at SO
 .simp[pz]
def Sat.change{w0:World}{QC:Nat->Prop}{U:ag}(h:Sat w0 QC I U w){id b sz cap:Nat}{o:Ob}(ho:U id=some o)(M':I id=.QA b sz cap)(hz:0<sz)
 (hg:w.grownBy w' (some b))(cur:Array Value)(rows:List V)(xs:List Value)
 (V6:w'.heap[b]?=some (.cells cur o.elem (0,0)))(hcur:cur.size=cap*sz)(Qu:rows.length<=cap)
 (hlen:∀r∈rows,r.cells.length=sz)(hx:ax I (aI I U) w (flat rows) xs)(Rb:∀u∈xs,u.oneCell'=true)
 (US:∀(j:Nat) u,xs[j]?=some u->cur[j]?=some u):
 Sat w0 QC I (C' U id { o with rows:=rows }) w'/\dg (aI I U) (aI I (C' U id { o with rows:=rows })) w w':=by
 have Ro:=h.obj id o ho;rw[M']at Ro;obtain⟨_,_,h2,h3,_,_,h6,_⟩:=Ro.plain hz;refine h.put hg (λb' SO=>by cases SO;exact⟨id,o,sz,cap,ho,M'⟩) (dd.refl _) h.fin id { o with rows:=rows } (λx Qh=>by simp[C']at Qh;exact Qh.symm)
  (λi x hi Qh=>?_) (λb' SC Rl SO=>?_) (λhk=>?_)
 .simp only[C',aH hi]at Qh;refine⟨Qh,λb' SC Rl h4 h5=>hi ?_⟩;cases h5;exact h.inj i id x o _ _ _ _ _ Qh ho h4 M'
 .rw[M']at SO;cases SO;exact .inl rfl
 .rw[M'];refine .inl ⟨cur,V6,h2,h3,hcur,Qu,h6,?_⟩;rw[jE];refine⟨hlen,lj (ax.mono (dd.refl _) hk hg.size _ _ hx) Rb ?_⟩;intro j u hu;rw[cell_of_row w' b _ cur o.elem (0,0) V6];simpa using US j u hu
def aZ(s:Nat->V):Option Nat->V->Nat->V
 |none,_=>s
 |some d,v=>λi=>if i=d then v else s i
def dh.step{F:Fr}{Y':Mu}{st:St}{a:Act}{Z':ag}(hs:dh F I st a w)(h1:Sat F.w0 F.QC Y' Z' w')(h2:dd I Y')
 (h3:dg (aI I st.U) (aI Y' Z') w w')(h4:w.heap.size<=w'.heap.size){d:Option Tmp}{v:V}{x:Value}(hv:E' Y' (aI Y' Z') w' v x):
 dh F Y' ⟨aZ st.s (d.filter (·<F.n)) v,Z'⟩ (a.put d x) w' where
 sat:=h1
 le:=hs.le.trans h2
 size:=by cases d<;>simp[Act.put,hs.size]
 book:=by
  have:=hs.book.vY h3;cases d<;>simpa[Act.put]using this
 slot:=λi hi=>by
  have hold:=E'.mono h2 h3 h4 _ _ (hs.slot i hi);cases d with
  |none=>simpa[Act.put,aZ]using hold
  |some d=>
   simp only[Act.put,Option.filter_some];by_cases hd:d<F.n
   .simp only[hd,decide_true,if_true,aZ];by_cases M':i=d
    .subst M';simp only[if_true];rw[Tf,Array.getElem?_setIfInBounds_self_of_lt (by rw[hs.size];exact hi)];exact hv
    .simp only[aH M'];rw[Tf,Array.getElem?_setIfInBounds_ne (λe=>M' e.symm),<-Tf];exact hold
   .simp only[hd,decide_false,jz,if_false,aZ];rw[Tf,Array.getElem?_setIfInBounds_ne (λ(e:d=i)=>hd (e▸hi)),<-Tf];exact hold
def dh.pure{F:Fr}{st:St}{a:Act}(hs:dh F I st a w){d:Option Tmp}{v:V}{x:Value}(hv:E' I (aI I st.U) w v x):
 dh F I ⟨aZ st.s (d.filter (·<F.n)) v,st.U⟩ (a.put d x) w:=
 hs.step hs.sat (dd.refl _) (λ_ _ h=>⟨h,rfl⟩) (Qt _) hv
variable {P:Program} {I:Mu} {ow:Nat->Prop} {w w':World}
def cd(r:V)(k sz:Nat)(x:V):Option V:=
 if x.cells.length=sz/\x.stays=true then
  (if k=0/\r.cells.length=sz then some x
   else if k+sz<=r.cells.length then some (.agg (r.cells.take k++x.cells++r.cells.drop (k+sz)))else none)
 else none
def wj{r x r':V}{k sz:Nat}(h:cd r k sz x=some r'):x.cells.length=sz/\x.stays=true/\k+sz<=r.cells.length/\
 r'.cells=r.cells.take k++x.cells++r.cells.drop (k+sz):=by
 unfold cd at h;split at h
 .rename_i h1;split at h
  .rename_i h2;obtain⟨rfl,h3⟩:=h2;simp only[bf]at h;subst h;refine⟨h1.1,h1.2,by omega,?_⟩;simp[h3]
  .split at h
   .rename_i h3;simp only[bf]at h;subst h;exact⟨h1.1,h1.2,h3,by simp[V.cells]⟩
   .cases h
 .cases h
def FT{rows:List V}{ZH:Nat}(hlen:∀r∈rows,r.cells.length=ZH){i:Nat}{r r':V}(hr:rows[i]?=some r){k sz:Nat}{xs:List V}
 (hk:k+sz<=ZH)(hc:r'.cells=r.cells.take k++xs++r.cells.drop (k+sz)):
 flat (rows.set i r')=(flat rows).take (i*ZH+k)++xs++(flat rows).drop (i*ZH+k+sz):=by
 induction rows generalizing i with
 |nil=>simp at hr
 |cons q rows ih=>
  have hq:=hlen q (by simp);have e:∀l,flat (q::l)=q.cells++flat l:=λl=>by simp[flat]
  cases i with
  |zero=>
   simp only[HL,bf]at hr;subst hr;simp only[List.set_cons_zero,Nat.zero_mul,kI];rw[e,show flat (r'::rows)=r'.cells++flat rows by simp[flat],hc];rw[LM (by omega),FL (by omega)];simp
  |succ i=>
   simp only[EH]at hr;simp only[List.set_cons_succ];rw[e,e,ih (λx hx=>hlen x (by simp[hx])) hr];have e1:(i+1)*ZH+k=q.cells.length+(i*ZH+k):=by rw[hq,Nat.add_mul];omega
   have e2:(i+1)*ZH+k+sz=q.cells.length+(i*ZH+k+sz):=by omega
   rw[e1,show q.cells.length+(i*ZH+k)+sz=q.cells.length+(i*ZH+k+sz) by omega,List.take_length_add_append,List.drop_length_add_append];simp
def lE{α:Type}(l xs PO:List α)(h:∀(j:Nat) u,xs[j]?=some u->l[j]?=some u)(o:Nat)(ho:o+PO.length<=xs.length):
 ∀(j:Nat) u,(xs.take o++PO++xs.drop (o+PO.length))[j]?=some u->(l.take o++PO++l.drop (o+PO.length))[j]?=some u:=by
 have hl:xs.length<=l.length:=by
  rcases Nat.lt_or_ge l.length xs.length with h1|h1
  .have h2:=h l.length xs[l.length] (by simp[h1]);simp at h2
  .exact h1
 intro j u hu;simp only[ly]at hu|-;rw[Lh]at hu|-;simp only[kK,Nat.min_eq_left (show o<=xs.length by omega),Nat.min_eq_left (show o<=l.length by omega)]at hu|-;split at hu
 .rename_i h1;rw[aE h1];rw[List.getElem?_take_of_lt h1]at hu|-;exact h j u hu
 .rename_i h1;rw[aH h1];rw[Lh]at hu|-;split at hu
  .rename_i h2;rw[aE h2];exact hu
  .rename_i h2;rw[aH h2];rw[Mi]at hu|-;exact h _ u hu
def bg.cur{rows:List V}{b sz:Nat}{cur:Array Value}{e:TypeId}{fr:Nat×Nat}(h:bg I ow w rows b 0 sz)(hc:w.heap[b]?=some (.cells cur e fr)):
 (∀r∈rows,r.cells.length=sz)/\∃xs,ax I ow w (flat rows) xs/\(∀u∈xs,u.oneCell'=true)/\xs.length=rows.length*sz/\∀(j:Nat) u,xs[j]?=some u->cur.toList[j]?=some u:=by
 rw[jE]at h;obtain⟨h1,h2⟩:=h;obtain⟨xs,h3,h4,h5⟩:=h2.Ca;refine⟨h1,xs,h3,h4,by rw[h3.length,sI h1],λj u hu=>?_⟩;have:=h5 j u hu;rw[cell_of_row w b _ cur e fr hc]at this;simpa using this
def sk{F:Fr}{st:St}{a:Act}(hs:dh F I st a w){o:Oper}{t:TypeId}{x y:Operand}(UT:o.op=.store t x y)(hk:cb P t=true)
 {id i k:Nat}(h1:(cx F.n x).ev st.s=.ptr id i k){ob:Ob}(h2:st.U id=some ob){r r':V}(h3:ob.rows[i]?=some r)(h4:cd r k (P.cellsOf t) ((cx F.n y).ev st.s)=some r'):
 ∃w',(execOp a.eval o).run P w=.ok .skip w'/\dh F I ⟨aZ st.s (o.dst.filter (·<F.n)) (.PN []),C' st.U id { ob with rows:=ob.rows.set i r' }⟩ (a.put o.dst undef) w':=by
 have R:=cz hs;obtain⟨c1,c2,c3,c4⟩:=wj h4;have hx:=R x;have hy:=R y;rw[h1]at hx;simp only[E']at hx;split at hx
 .rename_i b Tr cap M';have Q5:=hs.sat.obj id ob h2;rw[M']at Q5;obtain⟨hx,hz⟩:=hx;obtain⟨cur,e1,e2,e3,e4,e5,e6,e7⟩:=Q5.plain hz;obtain⟨g1,xs,g2,g3,g4,g5⟩:=e7.cur e1;obtain⟨v1,v2⟩:=hy.cells c2;have vl:=hy.jW c2;have hr:r∈ob.rows:=vK h3;have VP:=g1 r hr;have hilt:i<ob.rows.length:=(nY.1 h3).1;have hbound:i*Tr+k+P.cellsOf t<=ob.rows.length*Tr:=by
   have:(i+1)*Tr<=ob.rows.length*Tr:=Nat.mul_le_mul_right _ hilt;rw[Nat.add_mul]at this;omega
  have Xu:ob.rows.length*Tr<=cap*Tr:=Nat.mul_le_mul_right _ e5;have YA:(a.eval y).cells.toList.length=P.cellsOf t:=by rw[Array.length_toList,vl,c1]
  have Qi:=run_storeCells_at P b (i*Tr+k) ob.elem (a.eval y).cells.toList 0 cur w e1 (by rw[YA];omega) v2;simp only[Nat.add_zero]at Qi;refine⟨w.setRow b (cur.toList.take (i*Tr+k)++(a.eval y).cells.toList++cur.toList.drop (i*Tr+k+(a.eval y).cells.toList.length)).toArray,?_,?_⟩
  .unfold execOp;rw[UT];simp only[Sem.run_bind,Instr.storeAt,hx,Instr.sureAddr,Sem.run_pure,Result.andThen_ok,storeVar,cI hk,Sem.run_ite,vl,c1,ne_eq,not_true_eq_false,if_false,Qi]
  .have V7:w.grownBy (w.setRow b (cur.toList.take (i*Tr+k)++(a.eval y).cells.toList++cur.toList.drop (i*Tr+k+(a.eval y).cells.toList.length)).toArray) (some b):=
    ⟨rfl,rfl,rfl,by simp,λkk _ T0=>setRow_other w b kk _ (λe=>T0 (by rw[e]))⟩
   have Uz:∀q∈ob.rows.set i r',q.cells.length=Tr:=by
    intro q hq;rcases List.mem_or_eq_of_mem_set hq with hq|rfl
    .exact g1 q hq
    .rw[c4];simp;omega
   have Uy:=FT g1 h3 (k:=k) (sz:=P.cellsOf t) (xs:=V.cells ((cx F.n y).ev st.s)) (r':=r') (by omega) c4;have ZI:=hs.sat.change h2 M' hz V7 _ (ob.rows.set i r') (xs.take (i*Tr+k)++(a.eval y).cells.toList++xs.drop (i*Tr+k+(a.eval y).cells.toList.length))
    (setRow_heap w b cur _ ob.elem _ e1) (by simp only[List.size_toArray,gY,kK,wh,Array.length_toList];rw[Array.length_toList]at YA;omega) (by simpa using e5) Uz
    (by rw[Uy,<-c1,<-v1.length];rw[show(a.eval y).cells.toList.length=(a.eval y).cells.toList.length from rfl];exact((g2.take _).append v1).append (g2.drop _))
    (by intro u hu
        simp only[ei]at hu;rcases hu with(hu|hu)|hu
        .exact g3 u (qL hu)
        .exact v2 u hu
        .exact g3 u (List.mem_of_mem_drop hu))
    (by intro j u hu
        have:=lE cur.toList xs _ g5 (i*Tr+k) (by rw[YA,g4];omega) j u hu;simpa using this)
   exact hs.step ZI.1 (dd.refl _) ZI.2 (by simp) (by simp only[E'];exact⟨[],rfl,by simp[ax]⟩)
 .exact hx.elim
def gQ{z:Value}(h:∀u∈z.cells.toList,u.oneCell'=true):(ofValue z).cells=z.cells.toList.map cellOf:=by
 unfold ofValue;split
 .rename_i cs;rw[aE (by simpa only[fv,Value.cells]using h)];simp[V.cells,Value.cells]
 .rename_i hz;have hc:z.cells=#[z]:=by cases z<;>simp_all [Value.cells]
  have h1:=h z (by simp[hc]);rw[hc];simpa using qv (I:=λ_=>.dQ) (ow:=λ_=>True) (w:=default) (oO z) h1
def rZ{F:Fr}{st:St}{a:Act}(hs:dh F I st a w){o:Oper}{t:TypeId}(UT:o.op=.alloc t){i:TypeInfo}{z:Value}(hz:zeroOf P t=some (i,z)):
 ∃id,st.U id=none/\∃x w' Y',(execOp a.eval o).run P w=.ok (.value x) w'/\
  dh F Y' ⟨aZ st.s (o.dst.filter (·<F.n)) (.ptr id 0 0),C' st.U id ⟨t,i.size,[ofValue z]⟩⟩ (a.put o.dst x) w':=by
 obtain⟨hi,Ye,hk,XN,Rb,RS⟩:=eP hz;have QR:=(dU hk).2.2;have QG:=gQ Rb;obtain⟨id,M',Y',h1,h2,h3,h4⟩:=hs.sat.renew (row:=none) (World.grownBy_alloc w (.cells z.cells t) none) none (.inl rfl) w.heap.size i.size 1 z.cells t [ofValue z] z.cells.toList (.inr (Qt _))
  (heap_alloc_new w _) (by omega) (by omega) (by simp) (by simp[maxLen]) (by intro r hr;simp at hr;subst hr;rw[QG];simp[XN])
  (by simp only[flat,yF,List.flatMap_nil,kL,QG];exact fc _) Rb (by intro j u hu;simpa using hu)
 refine⟨id,M',.pointer (some ⟨w.heap.size,0,none⟩),w.alloc (.cells z.cells t),Y',?_,hs.step h3 h2 h4 (by simp) (by simp[E',h1];omega)⟩;unfold execOp;rw[UT];simp[Instr.alloc,eg hz,newVar,newRow]
def tW{β:Type}(X:Nat×β->List Value)(sz:Nat):∀(ps:List (Nat×β)) (k:Nat) (l:List Value),ps.map (·.1)=List.range' k ps.length->
 (∀p∈ps,(X p).length=sz)->l.length=(k+ps.length)*sz->ps.foldl (λl p=>bP l (p.1*sz) (X p)) l=l.take (k*sz)++ps.flatMap X
 |[],k,l,_,_,hl=>by
  simp only[List.length_nil,Nat.add_zero]at hl;simp[<-hl]
 |p::ps,k,l,h,hX,hl=>by
  simp only[eD,Q4,List.range'_succ,List.cons.injEq]at h;obtain⟨h1,h2⟩:=h;have hp:=hX p (by simp);simp only[Q4]at hl;have hle:k*sz+sz<=l.length:=by
   rw[hl,<-Nat.add_one_mul];exact Nat.mul_le_mul_right _ (by omega)
  simp only[kf,yF];rw[tW X sz ps (k+1) _ h2 (λq hq=>hX q (by simp[hq])) (by
   rw[lD _ _ _ (by rw[h1,hp];exact hle),hl];congr 1;omega)]
  rw[h1,bP,hp,Nat.add_one_mul];have e1:(l.take (k*sz)).length=k*sz:=by simp;omega
  have e2:k*sz+sz=(l.take (k*sz)++X p).length:=by rw[gY,e1,hp]
  rw[e2,List.take_left];simp
def pL{F:Fr}{st:St}{a:Act}(hs:dh F I st a w){o:Oper}{t e:TypeId}{len:Nat}{parts:Array (Nat×Operand)}(UT:o.op=.buildSlice t len parts)
 (ht:P.underlying t=some (.slice e)){i:TypeInfo}{z:Value}(hz:zeroOf P e=some (i,z))(WU:parts.toList.map (·.1)=List.range len)(hlen:len*i.size<=16777216)
 (hx:∀x∈parts.toList.map (λp=>(cx F.n p.2).ev st.s),x.cells.length=i.size/\x.stays=true):
 ∃id,st.U id=none/\∃x w' Y',(execOp a.eval o).run P w=.ok (.value x) w'/\
  dh F Y' ⟨aZ st.s (o.dst.filter (·<F.n)) (.own id 0 len),C' st.U id ⟨e,i.size,parts.toList.map λp=>(cx F.n p.2).ev st.s⟩⟩ (a.put o.dst x) w':=by
 obtain⟨hi,Ye,hk,XN,Rb,RS⟩:=eP hz;have QR:=(dU hk).2.2;have hl:parts.toList.length=len:=by
  have:=congrArg List.length WU;simpa using this
 have hX:∀p∈parts.toList,((cx F.n p.2).ev st.s).cells.length=i.size/\((cx F.n p.2).ev st.s).stays=true:=λp hp=>hx _ (by
  simp only[fM];exact⟨p,hp,rfl⟩)
 have hXl:∀p∈parts.toList,(a.eval p.2).cells.toList.length=i.size:=λp hp=>by
  rw[Array.length_toList,(cz hs p.2).jW (hX p hp).2,(hX p hp).1]
 have hzero:∃Z:Array Value,(len*i.size=0->Z=#[])/\(len*i.size≠0->Z=z.cells):=by
  by_cases h0:len*i.size=0
  .exact⟨#[],λ_=>rfl,λh=>absurd h0 h⟩
  .exact⟨z.cells,λh=>absurd h h0,λ_=>rfl⟩
 obtain⟨Z,hZ0,hZ1⟩:=hzero;obtain⟨cs,e1,e2,e3⟩:=nL (λk=>some (k*i.size,i.size)) ((parts.map λ(j,x)=>(j,a.eval x)).toList) ((Array.range (len*i.size)).map (Z[·%Z.size]!)) (by
  intro p hp;simp only[Array.toList_map,fM]at hp;obtain⟨q,hq,rfl⟩:=hp;refine⟨q.1*i.size,i.size,rfl,by simpa using hXl q hq,?_⟩;have:q.1∈List.range len:=by rw[<-WU];exact fM.2 ⟨q,hq,rfl⟩
  simp only[List.mem_range]at this;simp only[Array.size_map,Array.size_range];rw[<-Nat.add_one_mul];exact Nat.mul_le_mul_right _ this)
 have Yf:cs.toList=parts.toList.flatMap λp=>(a.eval p.2).cells.toList:=by
  have e3':=e3;simp only[Array.toList_map,List.foldl_map,Option.map_some,Option.getD_some]at e3';rw[e3'];have:=tW (λp:Nat×Operand=>(a.eval p.2).cells.toList) i.size parts.toList 0 ((Array.range (len*i.size)).map (Z[·%Z.size]!)).toList
   (by rw[WU,hl];exact List.range_eq_range') hXl (by simp[hl])
  simpa using this
 have hsize:cs.size=len*i.size:=by simpa using e2
 have Rc:∀(l:List (Nat×Operand)),(∀p∈l,((cx F.n p.2).ev st.s).stays=true)->ax I (aI I st.U) w (flat (l.map λp=>(cx F.n p.2).ev st.s)) (l.flatMap λp=>(a.eval p.2).cells.toList)/\
  ∀u∈l.flatMap λp=>(a.eval p.2).cells.toList,u.oneCell'=true:=by
  intro l
  induction l with
  |nil=>intro _;simp[flat,ax]
  |cons p l ih=>
   intro h;obtain⟨g1,g2⟩:=(cz hs p.2).cells (h p (by simp));obtain⟨g3,g4⟩:=ih (λq hq=>h q (by simp[hq]));refine⟨?_,?_⟩
   .simp only[flat,eD,yF]at g3|-;exact g1.append g3
   .intro u hu;simp only[yF,ei]at hu;rcases hu with hu|hu
    .exact g2 u hu
    .exact g4 u hu
 obtain⟨r1,r2⟩:=Rc parts.toList (λp hp=>(hX p hp).2);have hmax:len<=maxLen:=by
  have:len*1<=len*i.size:=Nat.mul_le_mul_left _ (by omega);simp only[maxLen];omega
 obtain⟨id,M',Y',h1,h2,h3,h4⟩:=hs.sat.renew (row:=none) (World.grownBy_alloc w (.cells cs e) none) none (.inl rfl) w.heap.size i.size len cs e
  (parts.toList.map λp=>(cx F.n p.2).ev st.s) cs.toList (.inr (Qt _))
  (heap_alloc_new w _) (by omega) hsize (by simp[hl]) hmax (by intro r hr;simp only[fM]at hr;obtain⟨p,hp,rfl⟩:=hr;exact(hX p hp).1)
  (by rw[Yf];exact r1) (by rw[Yf];exact r2) (by intro j u hu;simpa using hu)
 refine⟨id,M',.slice (some ⟨w.heap.size,0,none⟩) len len,w.alloc (.cells cs e),Y',?_,hs.step h3 h2 h4 (by simp) ?_⟩
 .have e1':=e1;simp only[Array.toList_map]at e1';unfold execOp;rw[UT];simp only[Instr.buildSlice,Sem.run_bind,run_underlying ht,Result.andThen_ok,cI hk,<-RS,Sem.run_ite];rw[aH (by omega)];by_cases h0:len*i.size=0
  .rw[hZ0 h0]at e1';rw[aE h0];simp only[Sem.run_pure,Result.andThen_ok,Array.toList_map];rw[e1'];simp[newRow]
  .rw[hZ1 h0]at e1';rw[aH h0];simp only[Sem.run_pure,Result.andThen_ok,Array.toList_map,eg hz];rw[e1'];simp[newRow]
 .simp only[E',h1];exact⟨0,len,rfl,Qt _,by omega,.inl (by omega),by omega⟩
def kj(z:Array Value)(n:Nat):(Builtin.zeroCells z n).toList=(List.replicate n z.toList).flatten:=by
 induction n with
 |zero=>simp[Builtin.zeroCells]
 |succ n ih=>
  rw[List.replicate_succ',List.flatten_append,<-ih];simp only[Builtin.zeroCells,Array.toList_map,Array.toList_range];rw[Nat.add_mul,Nat.one_mul,List.range_add,fC,List.map_map];congr 1;simp only[List.flatten_cons,List.flatten_nil,kL];apply List.ext_getElem
  .simp
  .intro i h1 h2;simp only[du,List.length_range]at h1;simp[Nat.add_mod,Nat.mul_mod_left,Nat.mod_eq_of_lt h1,getElem!_pos,h1]
def u5(z:V)(n:Nat):flat (List.replicate n z)=(List.replicate n z.cells).flatten:=by
 simp[flat,List.flatMap]
def Az{F:Fr}{st:St}{a:Act}(hs:dh F I st a w){o:Oper}{t e:TypeId}{l c:Operand}(UT:o.op=.makeSlice t l c)(heq:tm l c=true)
 (ht:P.underlying t=some (.slice e)){i:TypeInfo}{z:Value}(hz:zeroOf P e=some (i,z)){m:Int}(hm:(cx F.n l).ev st.s=.int .i64 m)(h0:0<=m)
 (hb:m.toNat*(i.bytes+1)<=140737488355328):
 ∃id,st.U id=none/\∃x w' Y',(execOp a.eval o).run P w=.ok (.value x) w'/\
  dh F Y' ⟨aZ st.s (o.dst.filter (·<F.n)) (.own id 0 m.toNat),C' st.U id ⟨e,i.size,List.replicate m.toNat (ofValue z)⟩⟩ (a.put o.dst x) w':=by
 obtain⟨hi,Ye,hk,XN,Rb,RS⟩:=eP hz;have QR:=(dU hk).2.2;have QG:=gQ Rb;obtain⟨k,rfl⟩:∃k:Nat,m=k:=⟨m.toNat,by omega⟩
 simp only[fp]at hb|-;have TR:a.eval l=.int .i64 k:=by
  have:=cz hs l;rw[hm]at this;simpa[E']using this
 have XO:a.eval c=.int .i64 k:=by
  have:a.eval c=a.eval l:=by
   cases l<;>cases c<;>simp only[tm,jz]at heq
   case tmp.tmp x y=>
    have:x=y:=by simpa using heq
    rw[this]
   case const.const x y=>
    split at heq
    .rename_i k1 a1 k2 b1 _ _;have:=of_decide_eq_true heq;rename_i e1 e2;simp_all
    .simp_all
    .cases heq
  rw[this,TR]
 have hkb:k*i.bytes<=140737488355328:=mq (Nat.mul_le_mul_left _ (by omega)) hb;have R0:k<=140737488355328:=mq (Nat.le_mul_of_pos_right _ (by omega)) hb;have Qq:=run_make (P:=P) w t e i z ht hi Ye .i64 .i64 k k (by omega) (by omega) (by
  have:((k*i.bytes:Nat):Int)<=140737488355328:=by omega
  rw[Int.natCast_mul]at this;rw[Int.mul_comm];omega) (by omega)
 have hmade:madeCells z.cells (k*i.size)=Builtin.zeroCells z.cells k:=by rw[madeCells,Builtin.zeroCells,XN]
 simp only[fp]at Qq;rw[hmade]at Qq;have hl:=kj z.cells k;have Rc:∀n,ax I (aI I st.U) w (flat (List.replicate n (ofValue z))) (List.replicate n z.cells.toList).flatten:=by
  intro n
  induction n with
  |zero=>simp[flat,ax]
  |succ n ih=>
   simp only[List.replicate_succ,flat,yF,List.flatten_cons]at ih|-;refine ax.append ?_ ih;rw[QG];exact fc _
 obtain⟨id,M',Y',h1,h2,h3,h4⟩:=hs.sat.renew (row:=none) (World.grownBy_alloc w (.cells (Builtin.zeroCells z.cells k) e) none) none (.inl rfl) w.heap.size i.size k (Builtin.zeroCells z.cells k) e
  (List.replicate k (ofValue z)) (Builtin.zeroCells z.cells k).toList (.inr (Qt _))
  (heap_alloc_new w _) (by omega) (by rw[size_zeroCells,XN]) (by simp) (by simp only[maxLen];omega) (by
    intro r hr;rw[(List.mem_replicate.1 hr).2,QG];simp[XN])
  (by rw[hl];exact Rc k) (by
    rw[hl];intro u hu;simp only[List.mem_flatten,List.mem_replicate]at hu;obtain⟨l',⟨_,rfl⟩,hu⟩:=hu;exact Rb u hu) (by intro j u hu;simpa using hu)
 refine⟨id,M',.slice (some ⟨w.heap.size,0,none⟩) k k,w.alloc (.cells (Builtin.zeroCells z.cells k) e),Y',?_,hs.step h3 h2 h4 (by simp) ?_⟩
 .unfold execOp;rw[UT];simp only[TR,XO];simp[Qq]
 .simp only[E',h1];exact⟨0,k,rfl,Qt _,by omega,.inl (by omega),by omega⟩
variable {P:Program} {I:Mu} {ow:Nat->Prop} {w w':World}
def cK(U:ag)(sz:Nat):V->Option (List V)
 |.own id off len=>match U id with
   |some ob=>if ob.sz=sz/\off+len<=ob.rows.length then some ((ob.rows.drop off).take len)else none
   |none=>none
 |.sl SC rows=>if SC=sz then some rows else none
 |.aT=>some []
 |.str s=>if sz=1 then some (s.map λb=>.int .u8 b.toNat)else none
 |_=>none
def cZ(U:ag)(e:TypeId)(sz:Nat):V->Option (List V×Option Nat)
 |.own id off len=>match U id with
   |some ob=>if ob.sz=sz/\ob.elem=e/\off=0/\len<=ob.rows.length then some (ob.rows.take len,some id)else none
   |none=>none
 |.aT=>some ([],none)
 |_=>none
def oe{w0:World}{QC:Nat->Prop}{U:ag}(RZ:Sat w0 QC I U w){sz:Nat}(RS:0<sz){v:V}{x:Value}{rows:List V}(h:cK U sz v=some rows)
 (hx:E' I (aI I U) w v x):∃news,(∀w':World,(Builtin.lenOf x).run P w'=.ok rows.length w')/\(∀r∈rows,r.cells.length=sz)/\ax I (aI I U) w (flat rows) news/\(∀u∈news,u.oneCell'=true)/\
   news.length=rows.length*sz/\∀w',(∀b off u,w.cell? ⟨b,off,none⟩=some u->w'.cell? ⟨b,off,none⟩=some u)->(Builtin.firstCells sz rows.length x).run P w'=.ok news.toArray w':=by
 have VQ:∀(rs:List V) (b off:Nat) (c:Nat),bg I (aI I U) w rs b off sz->x=.slice (some ⟨b,off,none⟩) rs.length c->rs=rows->
  ∃news,(∀w':World,(Builtin.lenOf x).run P w'=.ok rows.length w')/\(∀r∈rows,r.cells.length=sz)/\ax I (aI I U) w (flat rows) news/\(∀u∈news,u.oneCell'=true)/\
  news.length=rows.length*sz/\∀w',(∀b off u,w.cell? ⟨b,off,none⟩=some u->w'.cell? ⟨b,off,none⟩=some u)->(Builtin.firstCells sz rows.length x).run P w'=.ok news.toArray w':=by
  rintro rs b off c hr rfl rfl;rw[jE]at hr;obtain⟨h1,h2⟩:=hr;obtain⟨news,h3,h4,h5⟩:=h2.Ca;have hl:news.length=rs.length*sz:=by rw[h3.length,sI h1]
  refine⟨news,λ_=>rfl,h1,h3,h4,hl,λw' hw'=>?_⟩;exact run_firstCells_some (P:=P) w' sz rs.length ⟨b,off,none⟩ rs.length c news hl (λj v hv=>by rw[fY];exact hw' _ _ _ (h5 j v hv))
 have WV:∀(a:Option Addr) (c:Nat),x=.slice a 0 c->rows=[]->
  ∃news,(∀w':World,(Builtin.lenOf x).run P w'=.ok rows.length w')/\(∀r∈rows,r.cells.length=sz)/\ax I (aI I U) w (flat rows) news/\(∀u∈news,u.oneCell'=true)/\
  news.length=rows.length*sz/\∀w',(∀b off u,w.cell? ⟨b,off,none⟩=some u->w'.cell? ⟨b,off,none⟩=some u)->(Builtin.firstCells sz rows.length x).run P w'=.ok news.toArray w':=by
  rintro a c rfl rfl;refine⟨[],λ_=>rfl,by simp,by simp[flat,ax],by simp,by simp,λw' _=>?_⟩;cases a<;>simp[Builtin.firstCells,loadCells,loadCellsFrom]
 unfold cK at h;split at h
 .rename_i id off len;split at h
  .rename_i ob Q5;split at h
   .rename_i hc;simp only[bf]at h;simp only[E']at hx;have Ro:=RZ.obj id ob Q5;have hlen:rows.length=len:=by rw[<-h];simp;omega
    split at hx
    .exact hx.elim
    .obtain⟨rfl,rfl,rfl⟩:=hx;exact WV none 0 rfl (by rw[<-h];simp)
    .rename_i b Tr cap M';obtain⟨o,c,rfl,Xt,Yx,Sa,hz⟩:=hx;by_cases h0:len=0
     .subst h0;exact WV _ c rfl (qK hlen)
     .rw[M']at Ro;obtain⟨g1,g2,g3,g4,g5⟩:=Ro.rows hz;have ho:o=off*Tr:=by
       rcases Sa with Sa|Sa
       .exact Sa
       .omega
      subst ho;have hs:Tr=sz:=by omega
      subst hs;have:=(g5.drop off).take len;rw[kI]at this;exact VQ _ b _ c this (by rw[h,hlen]) h
   .cases h
  .cases h
 .rename_i SC rows';split at h
  .rename_i hsz';subst hsz';simp only[bf]at h;subst h;simp only[E']at hx;obtain⟨a,cap,rfl,hl,hr⟩:=hx;rcases hr with rfl|⟨b,off,rfl,hb,hs,hr⟩
   .exact WV a cap rfl rfl
   .exact VQ rows' b off cap hr rfl rfl
  .cases h
 .simp only[bf]at h;subst h;simp only[E']at hx;exact WV none 0 hx rfl
 .rename_i s;split at h
  .rename_i h1;simp only[bf]at h;subst h h1;simp only[E']at hx;subst hx;have TE:∀l:List UInt8,ax I (aI I U) w (flat (l.map λb=>V.int .u8 b.toNat)) (l.map λb=>Value.int .u8 b.toNat):=by
    intro l
    induction l with
    |nil=>simp[flat,ax]
    |cons b l ih=>simp only[flat,eD,yF,V.cells,List.singleton_append,ax]at ih|-;exact⟨_,_,rfl,by simp[E'],ih⟩
   refine⟨s.map λb=>Value.int .u8 b.toNat,λ_=>by simp[Builtin.lenOf,ByteArray.size],by simp[V.cells],TE s,by simp[Value.oneCell'],by simp,λw' _=>?_⟩;have:=Lib.run_firstCells_string (P:=P) w' 1 ⟨s.toArray⟩;simpa[ByteArray.size,Lib.strCells]using this
  .cases h
 .cases h
def sT(t t' ty e:TypeId)(i:TypeInfo)(ht:P.underlying t=some (.slice e))(XP:t'=t\/P.underlying t'=some .string)(hi:P.info? e=some i)
 (b R3 T1:Nat)(cur:Array Value)(hg:w.heap[b]?=some (.cells cur e (0,0)))(Y:Value)(n:Nat)(news:List Value)(hl:(Builtin.lenOf Y).run P w=.ok n w)
 (hf:(Builtin.firstCells i.size n Y).run P w=.ok news.toArray w)(h1:∀u∈news,u.oneCell'=true)
 (V8:R3+n<=T1)(Sd:R3*i.size+news.length<=cur.size):
 (Builtin.append_ #[t,t'] ty #[.slice (some ⟨b,0,none⟩) R3 T1,Y]).run P w=
   .ok (.slice (some ⟨b,0,none⟩) (R3+n) T1) (w.setRow b (cur.toList.take (R3*i.size)++news++cur.toList.drop (R3*i.size+news.length)).toArray):=by
 have Qi:=run_storeCells_at P b (R3*i.size) e news 0 cur w hg (by simpa using Sd) h1;simp only[Nat.add_zero]at Qi;rcases XP with rfl|XP
 .simp[Builtin.append_,run_underlying ht,sizeOf,typeInfo,hi,hl,V8,hf,Addr.add_lit,Qi]
 .simp[Builtin.append_,run_underlying ht,run_underlying XP,sizeOf,typeInfo,hi,hl,V8,hf,Addr.add_lit,Qi]
def ud(t t' ty e:TypeId)(i:TypeInfo)(z:Value)(ht:P.underlying t=some (.slice e))(XP:t'=t\/P.underlying t'=some .string)(hi:P.info? e=some i)(hz:i.zero=some z)
 (ba:Option Addr)(R3 T1:Nat)(T9:List Value)(UR:(Builtin.firstCells i.size R3 (.slice ba R3 T1)).run P w.drew=.ok T9.toArray w.drew)
 (Y:Value)(n:Nat)(news:List Value)(hl:(Builtin.lenOf Y).run P w=.ok n w)(hf:(Builtin.firstCells i.size n Y).run P w.drew=.ok news.toArray w.drew)
 (hg:T1<R3+n)(h63:((R3+n:Nat):Int)<=9223372036854775807)(Sd:Builtin.nextslicecap (R3+n) T1*i.bytes<=281474976710656):
 (Builtin.append_ #[t,t'] ty #[.slice ba R3 T1,Y]).run P w=
   .ok (.slice (some ⟨w.heap.size,0,none⟩) (R3+n) (grownCap w (R3+n) T1 e))
    (w.drew.alloc (.cells (T9.toArray++news.toArray++Builtin.zeroCells z.cells (grownCap w (R3+n) T1 e-(R3+n))) e)):=by
 have hn:¬(R3+n<=T1):=by omega
 have h63':¬(9223372036854775807<((R3:Int)+(n:Int))):=by omega
 have h48':¬(281474976710656<Builtin.nextslicecap (R3+n) T1*i.bytes):=by omega
 rcases XP with rfl|XP
 .simp[Builtin.append_,run_underlying ht,sizeOf,typeInfo,zeroValue,hi,hz,hl,hn,h63',h48',Question.forced,hf,UR,newRow,grownCap];congr 2;apply Array.ext';simp[ly]
 .simp[Builtin.append_,run_underlying ht,run_underlying XP,sizeOf,typeInfo,zeroValue,hi,hz,hl,hn,h63',h48',Question.forced,hf,UR,newRow,grownCap];congr 2;apply Array.ext';simp[ly]
def qO{rows:List V}{sz:Nat}(h:∀r∈rows,r.cells.length=sz)(k:Nat):flat (rows.take k)=(flat rows).take (k*sz):=by
 induction rows generalizing k with
 |nil=>simp[flat]
 |cons r rs ih=>
  have e:∀l,flat (r::l)=r.cells++flat l:=λl=>by simp[flat]
  cases k with
  |zero=>simp[flat]
  |succ k=>
   rw[Bo,e,e,ih (λx hx=>h x (by simp[hx])),Nat.add_mul,Nat.one_mul,BP,<-h r (by simp),List.take_length_add_append]
def qh{F:Fr}{st:St}{a:Act}(hs:dh F I st a w){o:Oper}{t t' e:TypeId}{x y:Operand}{args:Array Operand}{argTypes:Array TypeId}
 (UT:o.op=.call { callee:=.builtin .append,args:=args,argTypes:=argTypes })(QM:args=#[x,y])(Vr:argTypes=#[t,t'])(XP:t'=t\/P.underlying t'=some .string)(ht:P.underlying t=some (.slice e))
 {i:TypeInfo}{z:Value}(hz:zeroOf P e=some (i,z)){base src:List V}{PU:Option Nat}
 (hd:cZ st.U e i.size ((cx F.n x).ev st.s)=some (base,PU))(WW:cK st.U i.size ((cx F.n y).ev st.s)=some src)
 (YB:(base.length+src.length)*(i.bytes+1)<=140737488355328):
 ∃id,st.U id=none/\∃r w' Y',(execOp a.eval o).run P w=.ok (.value r) w'/\
  dh F Y' ⟨aZ st.s (o.dst.filter (·<F.n)) (.own id 0 (base.length+src.length)),C' (bI st.U PU) id ⟨e,i.size,base++src⟩⟩ (a.put o.dst r) w':=by
 obtain⟨hi,Ye,hk,XN,Rb,hszc⟩:=eP hz;have QR:0<i.size:=by rw[hszc];exact(dU hk).2.2
 have hbytes1:(base.length+src.length)*i.bytes<=140737488355328:=mq (Nat.mul_le_mul_left _ (by omega)) YB;have hbytes2:base.length+src.length<=140737488355328:=mq (Nat.le_mul_of_pos_right _ (by omega)) YB;obtain⟨news,hY,n1,n2,n3,n4,n5⟩:=oe (P:=P) hs.sat QR WW (cz hs y);have YD:∀r w',(Builtin.append_ #[t,t'] o.type #[a.eval x,a.eval y]).run P w=.ok r w'->(execOp a.eval o).run P w=.ok (.value r) w':=by
  intro r w' h;unfold execOp;rw[UT];subst QM Vr;simp[resolve,invoke,Go.builtin,h]
 have hdrew:∀b off u,w.cell? ⟨b,off,none⟩=some u->w.drew.cell? ⟨b,off,none⟩=some u:=λ_ _ _ h=>h;have h63:base.length+src.length<=maxLen:=by simp only[maxLen];omega
 have h63':((base.length+src.length:Nat):Int)<=9223372036854775807:=by omega
 have hnew:∀(PU:Option Nat) (ba:Option Addr) (YE:Nat) (T9:List Value),YE<base.length+src.length->a.eval x=.slice ba base.length YE->
  (Builtin.firstCells i.size base.length (.slice ba base.length YE)).run P w.drew=.ok T9.toArray w.drew->T9.length=base.length*i.size->
  (∀r∈base,r.cells.length=i.size)->ax I (aI I st.U) w (flat base) T9->(∀u∈T9,u.oneCell'=true)->
  ∃id,st.U id=none/\∃r w' Y',(execOp a.eval o).run P w=.ok (.value r) w'/\
   dh F Y' ⟨aZ st.s (o.dst.filter (·<F.n)) (.own id 0 (base.length+src.length)),C' (bI st.U PU) id ⟨e,i.size,base++src⟩⟩ (a.put o.dst r) w':=by
  intro PU ba YE T9 hold hX UR hol Tg QD hb3;have Qq:=ud (P:=P) (w:=w) t t' o.type e i z ht XP hi Ye ba base.length YE T9 UR (a.eval y) src.length news (hY w) (n5 w.drew hdrew) hold h63' (growslice_fits hold hbytes1);rw[<-hX]at Qq;have UU:=grownCap_ge w (base.length+src.length) YE e;have hle:=grownCap_le_maxLen w (base.length+src.length) YE e h63;have hlen2:(T9.toArray++news.toArray++Builtin.zeroCells z.cells (grownCap w (base.length+src.length) YE e-(base.length+src.length))).size=grownCap w (base.length+src.length) YE e*i.size:=by
   simp only[Array.size_append,List.size_toArray,size_zeroCells,XN,hol,n4,<-Nat.add_mul];congr 1;omega
  obtain⟨id,M',Y',g1,g2,g3,g4⟩:=hs.sat.renew (row:=none)
   (w':=w.drew.alloc (.cells (T9.toArray++news.toArray++Builtin.zeroCells z.cells (grownCap w (base.length+src.length) YE e-(base.length+src.length))) e))
   ⟨rfl,rfl,rfl,by simp,λk hk _=>heap_alloc_old w.drew _ k hk⟩ PU (.inl rfl) w.heap.size i.size (grownCap w (base.length+src.length) YE e) _ e (base++src) (T9++news)
   (.inr (Qt _)) (heap_alloc_new w.drew _) QR hlen2 (by simpa using UU) hle
   (by intro r hr;rcases ei.1 hr with hr|hr;exact Tg r hr;exact n1 r hr) (by rw[ij];exact QD.append n2)
   (by intro u hu;rcases ei.1 hu with hu|hu;exact hb3 u hu;exact n3 u hu)
   (by intro j u hu
       have hj:=(nY.1 hu).1;rw[<-Array.getElem?_toList];simp only[Array.toList_append];rw[Fc (by simpa using hj)];exact hu)
  refine⟨id,M',_,_,Y',YD _ _ Qq,hs.step g3 g2 g4 (by simp) ?_⟩;simp only[E',g1];exact⟨0,_,rfl,UU,by omega,.inl (by omega),by omega⟩
 have WV:a.eval x=.slice none 0 0->base=[]->∃id,st.U id=none/\∃r w' Y',(execOp a.eval o).run P w=.ok (.value r) w'/\
  dh F Y' ⟨aZ st.s (o.dst.filter (·<F.n)) (.own id 0 (base.length+src.length)),C' (bI st.U PU) id ⟨e,i.size,base++src⟩⟩ (a.put o.dst r) w':=by
  rintro hX rfl;by_cases h0:src.length=0
  .have hsrc0:src=[]:=qK h0;subst hsrc0;obtain⟨id,M',Y',g1,g2,g3,g4⟩:=hs.sat.GD PU e i.size;have hf:=n5 w (λ_ _ _ h=>h);refine⟨id,M',.slice none 0 0,w,Y',YD _ _ ?_,hs.step g3 g2 g4 (Qt _) (by simp[E',g1])⟩;rw[hX];have hl:=hY w;simp only[List.length_nil]at hf hl|-;rcases XP with rfl|XP
   .simp[Builtin.append_,run_underlying ht,sizeOf,typeInfo,hi,hl,hf]
   .simp[Builtin.append_,run_underlying ht,run_underlying XP,sizeOf,typeInfo,hi,hl,hf]
  .exact hnew PU none 0 [] (by simp;omega) hX (by simp[Builtin.firstCells]) (by simp) (by simp) (by simp[flat,ax]) (by simp)
 have hx:=cz hs x;unfold cZ at hd;split at hd
 .rename_i id off len hxv;rw[hxv]at hx;split at hd
  .rename_i ob Q5;split at hd
   .rename_i hc;obtain⟨c1,c2,rfl,c4⟩:=hc;simp only[bf,Prod.mk.injEq]at hd;obtain⟨rfl,rfl⟩:=hd;have Ro:=hs.sat.obj id ob Q5;simp only[E']at hx;split at hx
    .exact hx.elim
    .rename_i M';obtain⟨hX,_,rfl⟩:=hx;exact WV hX (by simp)
    .rename_i b Tr cap M';obtain⟨Ux,c,hX,Xt,Yx,Sa,hz⟩:=hx;have ho:Ux=0:=by
      rcases Sa with Sa|Sa
      .simpa using Sa
      .exact absurd rfl Sa.2
     subst ho;rw[M']at Ro;obtain⟨cur,e1,e2,e3,e4,e5,e6,e7⟩:=Ro.plain hz;obtain⟨q1,xs,q2,q3,q4,q5⟩:=e7.cur e1;rw[c2]at e1;have hszb:Tr=i.size:=by omega
     subst hszb;have QX:(ob.rows.take len).length=len:=by simp;omega
     have holen:(xs.take (len*i.size)).length=len*i.size:=by
      rw[kK,q4];exact Nat.min_eq_left (Nat.mul_le_mul_right _ c4)
     have Tg:∀r∈ob.rows.take len,r.cells.length=i.size:=λr hr=>q1 r (qL hr);have QD:ax I (aI I st.U) w (flat (ob.rows.take len)) (xs.take (len*i.size)):=by rw[qO q1];exact q2.take _
     have hb3:∀u∈xs.take (len*i.size),u.oneCell'=true:=λu hu=>q3 u (qL hu);have US:∀(j:Nat) u,(xs.take (len*i.size))[j]?=some u->cur.toList[j]?=some u:=by
      intro j u hu;rw[List.getElem?_take]at hu;split at hu
      .exact q5 j u hu
      .cases hu
     by_cases V8:len+src.length<=c
     .have WQ:len+src.length<=cap:=by omega
      have Sd:len*i.size+news.length<=cur.size:=by rw[n4,e4,<-Nat.add_mul];exact Nat.mul_le_mul_right _ WQ
      have hf:=n5 w (λ_ _ _ h=>h);have Qq:=sT (P:=P) (w:=w) t t' o.type e i ht XP hi b len c cur e1 (a.eval y) src.length news (hY w) hf n3 V8 Sd;rw[<-hX]at Qq;obtain⟨Sq,WX,Y',g1,g2,g3,g4⟩:=hs.sat.renew (row:=some b)
       (w':=w.setRow b (cur.toList.take (len*i.size)++news++cur.toList.drop (len*i.size+news.length)).toArray)
       ⟨rfl,rfl,rfl,by simp,λk hk T0=>setRow_other w b k _ (λe=>T0 (by rw[e]))⟩ (some id) (.inr ⟨id,ob,i.size,cap,b,rfl,Q5,M',rfl⟩) b i.size cap _ e (ob.rows.take len++src)
       (xs.take (len*i.size)++news) (.inl rfl) (setRow_heap w b cur _ e _ e1) e3
       (by simp only[List.size_toArray,gY,kK,wh,Array.length_toList];omega) (by rw[gY,QX];exact WQ) e6
       (by intro r hr;rcases ei.1 hr with hr|hr;exact Tg r hr;exact n1 r hr) (by rw[ij];exact QD.append n2)
       (by intro u hu;rcases ei.1 hu with hu|hu;exact hb3 u hu;exact n3 u hu)
       (by intro j u hu
           have hj:=(nY.1 hu).1;have htake:cur.toList.take (len*i.size)=xs.take (len*i.size):=by
            apply List.ext_getElem?;intro k;by_cases hk:k<len*i.size
            .have hkx:k<(xs.take (len*i.size)).length:=by omega
             rw[Tq hkx,List.getElem?_take_of_lt hk];exact US k _ (Tq hkx)
            .rw[rC (by simp;omega),rC (by omega)]
           rw[<-Array.getElem?_toList];simp only[];rw[htake,Fc (by simpa using hj)];exact hu)
      rw[QX];refine⟨Sq,WX,_,_,Y',YD _ _ Qq,hs.step g3 g2 g4 (by simp) ?_⟩;simp only[E',g1];exact⟨0,c,rfl,V8,by omega,.inl (by omega),by omega⟩
     .refine hnew (some id) (some ⟨b,0,none⟩) c (xs.take (len*i.size)) (by rw[QX];omega) (by rw[QX];exact hX) ?_ (by rw[QX];exact holen) Tg QD hb3;rw[QX];refine run_firstCells_some (P:=P) w.drew i.size len ⟨b,0,none⟩ len c _ holen (λj u hu=>?_);rw[fY,kI,World.cell?_drew,cell_of_row w b j cur e (0,0) e1];simpa using US j u hu
   .cases hd
  .cases hd
 .rename_i hxv;rw[hxv]at hx;simp only[bf,Prod.mk.injEq]at hd;obtain⟨rfl,rfl⟩:=hd;simp only[E']at hx;exact WV hx rfl
 .cases hd
def vy{F:Fr}{st:St}{a:Act}(hs:dh F I st a w){o:Oper}{t tn e:TypeId}{kn:IntKind}{x y:Operand}{args:Array Operand}{argTypes:Array TypeId}
 (UT:o.op=.call { callee:=.builtin .append,args:=args,argTypes:=argTypes })(QM:args=#[x,y])(Vr:argTypes=#[t,tn])(ht:P.underlying t=some (.slice e))(htn:P.underlying tn=some (.int kn))
 {i:TypeInfo}{z:Value}(hz:zeroOf P e=some (i,z))(hx:(cx F.n x).ev st.s=.aT){kq:IntKind}{m:Int}(hm:(cx F.n y).ev st.s=.int kq m)(h0:0<m)
 (hb:m.toNat*(i.bytes+1)<=140737488355328):
 ∃id,st.U id=none/\∃r w' Y',(execOp a.eval o).run P w=.ok (.value r) w'/\
  dh F Y' ⟨aZ st.s (o.dst.filter (·<F.n)) (.own id 0 m.toNat),C' st.U id ⟨e,i.size,List.replicate m.toNat (ofValue z)⟩⟩ (a.put o.dst r) w':=by
 obtain⟨hi,Ye,hk,XN,Rb,hszc⟩:=eP hz;have QR:0<i.size:=by rw[hszc];exact(dU hk).2.2
 have QG:=gQ Rb;obtain⟨k,rfl⟩:∃k:Nat,m=k:=⟨m.toNat,by omega⟩
 simp only[fp]at hb|-;have hkb:k*i.bytes<=140737488355328:=mq (Nat.mul_le_mul_left _ (by omega)) hb;have R0:k<=140737488355328:=mq (Nat.le_mul_of_pos_right _ (by omega)) hb;have hX:a.eval x=.slice none 0 0:=by
  have:=cz hs x;rw[hx]at this;simpa[E']using this
 have hY:a.eval y=.int kq k:=by
  have:=cz hs y;rw[hm]at this;simpa[E']using this
 have Qq:=Lib.run_append_grow_zeros (P:=P) w t tn o.type e i z kq kn ht htn hi Ye none 0 0 [] (run_firstCells_none w.drew i.size 0 0 0) k (by omega) QR (by omega) (by omega) (by omega)
  (growslice_fits (by omega) (by rw[kI];exact hkb))
 rw[<-hX,<-hY,kI]at Qq;have UU:=grownCap_ge w k 0 e;have hle:=grownCap_le_maxLen w k 0 e (by simp only[maxLen];omega);have hl:=kj z.cells k;have Rc:∀n,ax I (aI I st.U) w (flat (List.replicate n (ofValue z))) (List.replicate n z.cells.toList).flatten:=by
  intro n
  induction n with
  |zero=>simp[flat,ax]
  |succ n ih=>
   simp only[List.replicate_succ,flat,yF,List.flatten_cons]at ih|-;refine ax.append ?_ ih;rw[QG];exact fc _
 obtain⟨id,M',Y',g1,g2,g3,g4⟩:=hs.sat.renew (row:=none)
  (w':=w.drew.alloc (.cells (([]:List Value).toArray++Builtin.zeroCells z.cells k++Builtin.zeroCells z.cells (grownCap w k 0 e-k)) e))
  ⟨rfl,rfl,rfl,by simp,λk hk _=>heap_alloc_old w.drew _ k hk⟩ none (.inl rfl) w.heap.size i.size (grownCap w k 0 e) _ e (List.replicate k (ofValue z)) (Builtin.zeroCells z.cells k).toList
  (.inr (Qt _)) (heap_alloc_new w.drew _) QR (by
    simp only[Array.size_append,List.size_toArray,size_zeroCells,XN,List.length_nil,kI,<-Nat.add_mul];congr 1;omega) (by simpa using UU) hle
  (by
    intro r hr;rw[(List.mem_replicate.1 hr).2,QG];simp[XN]) (by rw[hl];exact Rc k)
  (by
    rw[hl];intro u hu;simp only[List.mem_flatten,List.mem_replicate]at hu;obtain⟨l',⟨_,rfl⟩,hu⟩:=hu;exact Rb u hu)
  (by
    intro j u hu;have hj:=(nY.1 hu).1;rw[<-Array.getElem?_toList];simp only[Array.toList_append,mo];rw[Fc hj];exact hu)
 refine⟨id,M',.slice (some ⟨w.heap.size,0,none⟩) k (grownCap w k 0 e),_,Y',?_,hs.step g3 g2 g4 (by simp) ?_⟩
 .unfold execOp;rw[UT];subst QM Vr;simp[resolve,invoke,Go.builtin,Qq]
 .simp only[E',g1];exact⟨0,_,rfl,UU,by omega,.inl (by omega),by omega⟩
end Go.Vc
