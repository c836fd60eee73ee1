/- Part 2 of the library of this proof. -/
import Derived.Test.YtmkknagmafmcpaaGreatDoorW1
import Derived.Test.YtmkknagmafmcpaaGreatDoorRows
import Derived.Stop.LaidErr
import Derived.RowKitTokens
import Derived.KernelRfl
import Derived.Calls
import Derived.Below
import Derived.Laws.AppendOwn
import Derived.Tactics
import Derived.ChangeKeysEq
import Derived.Orders
import Derived.Laws.MakeOwn
import Derived.Lib.AppendZerosOnto
import Derived.Lib.AppendStr
set_option linter.all false
set_option maxHeartbeats 8000000
namespace Go.Vc
open Go.Proofs Go.Proofs.YtmkknagmafmcpaaGreatDoor Go.RowKit Go.ChangeShapes
def zK:"*"++"errors.errorString"="*errors.errorString":=by decide
def FP(u:TypeId)(h:Tryz.prog.typeName? 3 u=some "*errors.errorString"):u=355:=
 typeName_ptr_named (nm:="errors.errorString") (by rw[zK];kernel_rfl) (by kernel_rfl) (by decide) u (by rw[zK];exact h)
def lJ{w:World}(h:laidMet Tryz.prog Rows.gaugeFitsRow.laid w):Ai w:=by
 have h1:=h.tail;have h2:=h1.tail;have h3:=h2.tail;have h4:=h3.tail;have h5:=h4.tail;have h6:=h5.tail;refine⟨?_,?_,?_⟩
 .exact Lib.tabIs_of_head (g:=3) (n:=20) (e:=206) (t:=359) (by kernel_rfl) (by kernel_rfl) (by kernel_rfl) (by kernel_rfl) (by kernel_rfl) (by kernel_rfl) h2
 .obtain⟨a,s,hv,_⟩:=laid_sentinel h5 (g:=1) (ti:=144) (tp:=355) (te:=357) (ts:=9) (by kernel_rfl) (by kernel_rfl) Tryz.underlying144 FP Tryz.underlying355 Tryz.underlying357 rfl rfl Tryz.underlying9 (by kernel_rfl) (by kernel_rfl);exact⟨_,_,hv⟩
 .obtain⟨a,s,hv,_⟩:=laid_sentinel h4 (g:=2) (ti:=144) (tp:=355) (te:=357) (ts:=9) (by kernel_rfl) (by kernel_rfl) Tryz.underlying144 FP Tryz.underlying355 Tryz.underlying357 rfl rfl Tryz.underlying9 (by kernel_rfl) (by kernel_rfl);exact⟨_,_,hv⟩
inductive V where
 |undef
 |int (k:IntKind) (n:Int)
 |bool (b:Bool)
 |str (s:List UInt8)
 |aL
 |sl (sz:Nat) (rows:List V)
 |own (id off len:Nat)
 |ptr (id i k:Nat)
 |rp (v:V)
 |US
 |fn (f:FuncId) (caps:List V)
 |bm (f:FuncId) (first:List V)
 |Rh
 |iface (t:TypeId) (v:V)
 |QN
 |agg (cells:List V)
 |PI (vs:List V)
 |raw (v:Value)
 |obj (o:Obj)
 |gp (id:Nat)
 |yl (id:Nat)
 |mp (id:Nat)
 deriving Inhabited
inductive Pl where
 |dv
 |nil
 |Qz (b sz cap:Nat)
abbrev Mu:=Nat->Pl
structure Ob where
 elem:TypeId
 sz:Nat
 rows:List V
abbrev ag:=Nat->Option Ob
def V.cells:V->List V
 |.agg vs=>vs
 |v=>[v]
mutual
def A'(I:Mu)(ow:Nat->Prop)(w:World):V->Value->Prop
 |.undef,_=>True
 |.int k n,x=>x=.int k n
 |.bool b,x=>x=.bool b
 |.str s,x=>x=.string ⟨s.toArray⟩
 |.aL,x=>x=.slice none 0 0
 |.sl sz rows,x=>∃a cap,x=.slice a rows.length cap/\rows.length<=cap/\
   (rows=[]\/∃b off,a=some ⟨b,off,none⟩/\¬ow b/\0<sz/\aX I ow w rows b off sz)
 |.own id off len,x=>match I id with
   |.dv=>False
   |.nil=>x=.slice none 0 0/\off=0/\len=0
   |.Qz b sz cap=>∃o c,x=.slice (some ⟨b,o,none⟩) len c/\len<=c/\off+c<=cap/\(o=off*sz\/c=0/\off≠0)/\0<sz
 |.ptr id i k,x=>match I id with
   |.Qz b sz _=>x=.pointer (some ⟨b,i*sz+k,none⟩)/\0<sz
   |_=>False
 |.rp v,x=>∃b off,x=.pointer (some ⟨b,off,none⟩)/\b<w.heap.size/\(v.cells=[]\/¬ow b)/\bt I ow w v b off
 |.US,x=>x=.pointer none
 |.fn f caps,x=>∃vals,x=.func (.func f) #[] ⟨vals⟩/\aq I ow w caps vals
 |.bm f first,x=>∃vals,x=.func (.func f) ⟨vals⟩ #[]/\aq I ow w first vals
 |.Rh,x=>x=.nilFunc
 |.iface t v,x=>∃y,x=.iface t y/\A' I ow w v y
 |.QN,x=>x=.nilIface
 |.agg vs,x=>∃vals,x=.agg ⟨vals⟩/\aq I ow w vs vals/\∀u∈vals,u.oneCell'=true
 |.PI vs,x=>∃vals,x=.tuple ⟨vals⟩/\aq I ow w vs vals
 |.raw v,x=>x=v
 |.obj _,_=>False
 |.gp id,x=>match I id with
   |.Qz b 0 _=>x=.pointer (some ⟨b,0,none⟩)
   |_=>False
 |.yl id,x=>match I id with
   |.Qz b 0 _=>x=.func (.yield b) #[] #[]
   |_=>False
 |.mp id,x=>match I id with
   |.Qz b 0 _=>x=.map (some b)
   |_=>False
/-- one by one -/
def aq(I:Mu)(ow:Nat->Prop)(w:World):List V->List Value->Prop
 |[],l=>l=[]
 |v::vs,l=>∃x xs,l=x::xs/\A' I ow w v x/\aq I ow w vs xs
/-- cells,one behind the other -/
def aQ(I:Mu)(ow:Nat->Prop)(w:World):List V->Nat->Nat->Prop
 |[],_,_=>True
 |v::vs,b,off=>(∃x,w.cell? ⟨b,off,none⟩=some x/\A' I ow w v x/\x.oneCell'=true)/\aQ I ow w vs b (off+1)
/-- an element -/
def bt(I:Mu)(ow:Nat->Prop)(w:World):V->Nat->Nat->Prop
 |.agg vs,b,off=>aQ I ow w vs b off
 |v,b,off=>∃x,w.cell? ⟨b,off,none⟩=some x/\A' I ow w v x/\x.oneCell'=true
/-- elements,one behind the other -/
def aX(I:Mu)(ow:Nat->Prop)(w:World):List V->Nat->Nat->Nat->Prop
 |[],_,_,_=>True
 |r::rs,b,off,sz=>r.cells.length=sz/\bt I ow w r b off/\aX I ow w rs b (off+sz) sz
end
def dR(I:Mu)(ow:Nat->Prop)(w:World)(v:V)(b off:Nat):bt I ow w v b off↔aQ I ow w v.cells b off:=by
 cases v<;>simp[bt,aQ,V.cells]
def cm(I Y':Mu):Prop:=∀id,I id≠.dv->Y' id=I id
def cm.refl(I:Mu):cm I I:=λ_ _=>rfl
def cm.trans{I Y' Y'':Mu}(h:cm I Y')(h':cm Y' Y''):cm I Y'':=λid hid=>by
 have e:=h id hid;rw[h' id (by rw[e];exact hid),e]
def cG(ow RI:Nat->Prop)(w w':World):Prop:=∀b,b<w.heap.size->¬ow b->¬RI b/\w'.heap[b]?=w.heap[b]?
def qp(ow RI:Nat->Prop)(w w':World):Prop:=∀b,(∃off x,w.cell? ⟨b,off,none⟩=some x)->¬ow b->¬RI b/\∀(off:Nat) (x:Value),w.cell? ⟨b,off,none⟩=some x->w'.cell? ⟨b,off,none⟩=some x
def eA{w w':World}{b:Nat}(h:w'.heap[b]?=w.heap[b]?)(off:Nat)(x:Value)(hx:w.cell? ⟨b,off,none⟩=some x):w'.cell? ⟨b,off,none⟩=some x:=by
 rw[World.cell?_of_block (w:=w) (w':=w') (a:=⟨b,off,none⟩) h];exact hx
def cG.toC{ow RI:Nat->Prop}{w w':World}(h:cG ow RI w w'):qp ow RI w w':=λb ⟨off,x,hx⟩ hn=>by
 have hb:b<w.heap.size:=World.block_lt_of_cell? w _ hx;exact⟨(h b hb hn).1,eA (h b hb hn).2⟩
section
variable {I Y':Mu} {ow RI:Nat->Prop} {w w':World} (hm:cm I Y') (hk:qp ow RI w w') (hz:w.heap.size<=w'.heap.size)
include hm hk hz
mutual
def A'.bU:∀(v:V) (x:Value),A' I ow w v x->A' Y' RI w' v x
 |.undef,_,_=>by simp[A']
 |.int k n,x,h=>by simpa[A']using h
 |.bool b,x,h=>by simpa[A']using h
 |.str s,x,h=>by simpa[A']using h
 |.aL,x,h=>by simpa[A']using h
 |.sl sz rows,x,h=>by
  simp only[A']at h|-;obtain⟨a,cap,hx,hl,hr⟩:=h;refine⟨a,cap,hx,hl,?_⟩;rcases hr with hr|⟨b,off,ha,hb,hs,hr⟩
  .exact .inl hr
  .cases rows with
   |nil=>exact .inl rfl
   |cons r rs=>
    have C':∃o y,w.cell? ⟨b,o,none⟩=some y:=by
     have h2:=hr;simp only[aX]at h2;obtain⟨h1,h2,_⟩:=h2;rw[dR]at h2;cases hc:r.cells with
     |nil=>rw[hc]at h1;simp at h1;omega
     |cons c cs=>
      rw[hc]at h2;simp only[aQ]at h2;obtain⟨⟨y,hy,_⟩,_⟩:=h2;exact⟨_,y,hy⟩
    exact .inr ⟨b,off,ha,(hk b C' hb).1,hs,aX.bU (r::rs) b off sz (hk b C' hb).2 hr⟩
 |.own id off len,x,h=>by
  simp only[A']at h|-;cases hid:I id with
  |dv=>rw[hid]at h;exact h.elim
  |nil=>rw[hm id (by rw[hid];simp)];exact h
  |Qz b sz cap=>rw[hm id (by rw[hid];simp)];exact h
 |.ptr id i k,x,h=>by
  simp only[A']at h|-;cases hid:I id with
  |dv=>rw[hid]at h;exact h.elim
  |nil=>rw[hid]at h;exact h.elim
  |Qz b sz cap=>rw[hm id (by rw[hid];simp)];exact h
 |.rp v,x,h=>by
  simp only[A']at h|-;obtain⟨b,off,hx,C',hb,hr⟩:=h;refine⟨b,off,hx,Nat.lt_of_lt_of_le C' hz,?_⟩;cases hc:v.cells with
  |nil=>
   refine⟨.inl rfl,?_⟩;rw[dR,hc];simp[aQ]
  |cons c cs=>
   have h2:=hr;rw[dR,hc]at h2;simp only[aQ]at h2;obtain⟨⟨y,hy,_⟩,_⟩:=h2;have QU:=hk b ⟨_,y,hy⟩ (hb.resolve_left (by rw[hc];simp));exact⟨.inr QU.1,bt.bU v b off QU.2 hr⟩
 |.US,x,h=>by simpa[A']using h
 |.fn f caps,x,h=>by
  simp only[A']at h|-;obtain⟨vals,hx,hr⟩:=h;exact⟨vals,hx,aq.bU caps vals hr⟩
 |.bm f caps,x,h=>by
  simp only[A']at h|-;obtain⟨vals,hx,hr⟩:=h;exact⟨vals,hx,aq.bU caps vals hr⟩
 |.Rh,x,h=>by simpa[A']using h
 |.iface t v,x,h=>by
  simp only[A']at h|-;obtain⟨y,hx,hr⟩:=h;exact⟨y,hx,A'.bU v y hr⟩
 |.QN,x,h=>by simpa[A']using h
 |.agg vs,x,h=>by
  simp only[A']at h|-;obtain⟨vals,hx,hr,h1⟩:=h;exact⟨vals,hx,aq.bU vs vals hr,h1⟩
 |.PI vs,x,h=>by
  simp only[A']at h|-;obtain⟨vals,hx,hr⟩:=h;exact⟨vals,hx,aq.bU vs vals hr⟩
 |.raw v,x,h=>by simpa[A']using h
 |.obj o,x,h=>by simp[A']at h
 |.gp id,x,h=>by
  simp only[A']at h|-;cases hid:I id with
  |dv=>rw[hid]at h;exact h.elim
  |nil=>rw[hid]at h;exact h.elim
  |Qz b sz cap=>rw[hm id (by rw[hid];simp)];exact h
 |.yl id,x,h=>by
  simp only[A']at h|-;cases hid:I id with
  |dv=>rw[hid]at h;exact h.elim
  |nil=>rw[hid]at h;exact h.elim
  |Qz b sz cap=>rw[hm id (by rw[hid];simp)];exact h
 |.mp id,x,h=>by
  simp only[A']at h|-;cases hid:I id with
  |dv=>rw[hid]at h;exact h.elim
  |nil=>rw[hid]at h;exact h.elim
  |Qz b sz cap=>rw[hm id (by rw[hid];simp)];exact h
def aq.bU:∀(vs:List V) (l:List Value),aq I ow w vs l->aq Y' RI w' vs l
 |[],l,h=>by simpa[aq]using h
 |v::vs,l,h=>by
  simp only[aq]at h|-;obtain⟨x,xs,hx,h1,h2⟩:=h;exact⟨x,xs,hx,A'.bU v x h1,aq.bU vs xs h2⟩
def aQ.bU:∀(vs:List V) (b off:Nat),(∀(off:Nat) (x:Value),w.cell? ⟨b,off,none⟩=some x->w'.cell? ⟨b,off,none⟩=some x)->aQ I ow w vs b off->aQ Y' RI w' vs b off
 |[],_,_,_,_=>by simp[aQ]
 |v::vs,b,off,hb,h=>by
  simp only[aQ]at h|-;obtain⟨⟨x,hx,h1,h2⟩,h3⟩:=h;exact⟨⟨x,hb _ _ hx,A'.bU v x h1,h2⟩,aQ.bU vs b (off+1) hb h3⟩
def bt.bU:∀(v:V) (b off:Nat),(∀(off:Nat) (x:Value),w.cell? ⟨b,off,none⟩=some x->w'.cell? ⟨b,off,none⟩=some x)->bt I ow w v b off->bt Y' RI w' v b off
 |.agg vs,b,off,hb,h=>by
  simp only[bt]at h|-;exact aQ.bU vs b off hb h
 |.undef,b,off,hb,h=>by simp only[bt]at h|-;obtain⟨x,hx,h1,h2⟩:=h;exact⟨x,hb _ _ hx,A'.bU _ x h1,h2⟩
 |.int k n,b,off,hb,h=>by simp only[bt]at h|-;obtain⟨x,hx,h1,h2⟩:=h;exact⟨x,hb _ _ hx,A'.bU _ x h1,h2⟩
 |.bool t,b,off,hb,h=>by simp only[bt]at h|-;obtain⟨x,hx,h1,h2⟩:=h;exact⟨x,hb _ _ hx,A'.bU _ x h1,h2⟩
 |.str s,b,off,hb,h=>by simp only[bt]at h|-;obtain⟨x,hx,h1,h2⟩:=h;exact⟨x,hb _ _ hx,A'.bU _ x h1,h2⟩
 |.aL,b,off,hb,h=>by simp only[bt]at h|-;obtain⟨x,hx,h1,h2⟩:=h;exact⟨x,hb _ _ hx,A'.bU _ x h1,h2⟩
 |.sl sz rows,b,off,hb,h=>by simp only[bt]at h|-;obtain⟨x,hx,h1,h2⟩:=h;exact⟨x,hb _ _ hx,A'.bU _ x h1,h2⟩
 |.own id o len,b,off,hb,h=>by simp only[bt]at h|-;obtain⟨x,hx,h1,h2⟩:=h;exact⟨x,hb _ _ hx,A'.bU _ x h1,h2⟩
 |.ptr id i k,b,off,hb,h=>by simp only[bt]at h|-;obtain⟨x,hx,h1,h2⟩:=h;exact⟨x,hb _ _ hx,A'.bU _ x h1,h2⟩
 |.rp v,b,off,hb,h=>by simp only[bt]at h|-;obtain⟨x,hx,h1,h2⟩:=h;exact⟨x,hb _ _ hx,A'.bU _ x h1,h2⟩
 |.US,b,off,hb,h=>by simp only[bt]at h|-;obtain⟨x,hx,h1,h2⟩:=h;exact⟨x,hb _ _ hx,A'.bU _ x h1,h2⟩
 |.fn f caps,b,off,hb,h=>by simp only[bt]at h|-;obtain⟨x,hx,h1,h2⟩:=h;exact⟨x,hb _ _ hx,A'.bU _ x h1,h2⟩
 |.bm f caps,b,off,hb,h=>by simp only[bt]at h|-;obtain⟨x,hx,h1,h2⟩:=h;exact⟨x,hb _ _ hx,A'.bU _ x h1,h2⟩
 |.Rh,b,off,hb,h=>by simp only[bt]at h|-;obtain⟨x,hx,h1,h2⟩:=h;exact⟨x,hb _ _ hx,A'.bU _ x h1,h2⟩
 |.iface t v,b,off,hb,h=>by simp only[bt]at h|-;obtain⟨x,hx,h1,h2⟩:=h;exact⟨x,hb _ _ hx,A'.bU _ x h1,h2⟩
 |.QN,b,off,hb,h=>by simp only[bt]at h|-;obtain⟨x,hx,h1,h2⟩:=h;exact⟨x,hb _ _ hx,A'.bU _ x h1,h2⟩
 |.PI vs,b,off,hb,h=>by simp only[bt]at h|-;obtain⟨x,hx,h1,h2⟩:=h;exact⟨x,hb _ _ hx,A'.bU _ x h1,h2⟩
 |.raw v,b,off,hb,h=>by simp only[bt]at h|-;obtain⟨x,hx,h1,h2⟩:=h;exact⟨x,hb _ _ hx,A'.bU _ x h1,h2⟩
 |.obj o',b,off,hb,h=>by simp only[bt]at h|-;obtain⟨x,hx,h1,h2⟩:=h;exact⟨x,hb _ _ hx,A'.bU _ x h1,h2⟩
 |.gp o',b,off,hb,h=>by simp only[bt]at h|-;obtain⟨x,hx,h1,h2⟩:=h;exact⟨x,hb _ _ hx,A'.bU _ x h1,h2⟩
 |.yl o',b,off,hb,h=>by simp only[bt]at h|-;obtain⟨x,hx,h1,h2⟩:=h;exact⟨x,hb _ _ hx,A'.bU _ x h1,h2⟩
 |.mp o',b,off,hb,h=>by simp only[bt]at h|-;obtain⟨x,hx,h1,h2⟩:=h;exact⟨x,hb _ _ hx,A'.bU _ x h1,h2⟩
def aX.bU:∀(rs:List V) (b off sz:Nat),(∀(off:Nat) (x:Value),w.cell? ⟨b,off,none⟩=some x->w'.cell? ⟨b,off,none⟩=some x)->aX I ow w rs b off sz->aX Y' RI w' rs b off sz
 |[],_,_,_,_,_=>by simp[aX]
 |r::rs,b,off,sz,hb,h=>by
  simp only[aX]at h|-;exact⟨h.1,bt.bU r b off hb h.2.1,aX.bU rs b (off+sz) sz hb h.2.2⟩
end
end
section
variable {I Y':Mu} {ow RI:Nat->Prop} {w w':World} (hm:cm I Y') (hk:cG ow RI w w') (hz:w.heap.size<=w'.heap.size)
include hm hk hz
def A'.mono(v:V)(x:Value):A' I ow w v x->A' Y' RI w' v x:=A'.bU hm hk.toC hz v x
def aq.mono(vs:List V)(l:List Value):aq I ow w vs l->aq Y' RI w' vs l:=aq.bU hm hk.toC hz vs l
def bt.mono(v:V)(b off:Nat)(hb:w'.heap[b]?=w.heap[b]?):bt I ow w v b off->bt Y' RI w' v b off:=bt.bU hm hk.toC hz v b off (eA hb)
def aX.mono(rs:List V)(b off sz:Nat)(hb:w'.heap[b]?=w.heap[b]?):aX I ow w rs b off sz->aX Y' RI w' rs b off sz:=aX.bU hm hk.toC hz rs b off sz (eA hb)
end
def aB(I:Mu)(U:ag)(b:Nat):Prop:=∃id o sz cap,U id=some o/\I id=.Qz b sz cap
def tmpsOf:Obj->List Value
 |.loop r=>r.tmps.toList
 |.map es _=>es.toList.map (·.val)
 |.mapIter (some b) _ _ _=>[.map (some b)]
 |_=>[]
def pg(I:Mu)(ow:Nat->Prop)(w:World)(o:Ob):Pl->Prop
 |.dv=>False
 |.nil=>o.rows=[]
 |.Qz b sz cap=>(∃cur,w.heap[b]?=some (.cells cur o.elem (0,0))/\o.sz=sz/\0<sz/\cur.size=cap*sz/\o.rows.length<=cap/\cap<=maxLen/\
   aX I ow w o.rows b 0 sz)\/(sz=0/\o.sz=0/\∃(ob:Obj) (env:List V),o.rows=.obj ob::env/\w.heap[b]?=some ob/\aq I ow w env (tmpsOf ob))
def Mp(w:World)(ow:Nat->Prop):Prop:=∃b:World,Ai b/\b.heap.size<=w.heap.size/\∀i,i<b.heap.size->¬ow i/\w.heap[i]?=b.heap[i]?
structure Sat(w0:World)(QA:Nat->Prop)(I:Mu)(U:ag)(w:World):Prop where
 size:w0.heap.size<=w.heap.size
 os:w.os=w0.os
 tape:w.tape=w0.tape
 output:w.output=w0.output
 same:∀b,b<w0.heap.size->¬QA b->w.heap[b]?=w0.heap[b]?
 fin:∃N,∀id,N<=id->I id=.dv
 inj:∀id Sd o o' b sz cap Sr QP,U id=some o->U Sd=some o'->I id=.Qz b sz cap->I Sd=.Qz b Sr QP->id=Sd
 obj:∀id o,U id=some o->pg I (aB I U) w o (I id)
 fresh:∀b,aB I U b->b<w0.heap.size->QA b
 Se:Mp w0 QA
def Sat.kQ{w0 w:World}{QA:Nat->Prop}{I:Mu}{U:ag}(h:Sat w0 QA I U w):Mp w (aB I U):=by
 obtain⟨b,h1,h2,h3⟩:=h.Se;refine⟨b,h1,iq h2 h.size,λi hi=>?_⟩;obtain⟨h4,h5⟩:=h3 i hi;exact⟨λho=>h4 (h.fresh i ho (Nat.lt_of_lt_of_le hi h2)),(h.same i (Nat.lt_of_lt_of_le hi h2) h4).trans h5⟩
def aa(Z' U:ag):Prop:=∀id o,Z' id=some o->U id=some o
def aa.refl(U:ag):aa U U:=λ_ _ h=>h
def aa.trans{a b c:ag}(h:aa a b)(h':aa b c):aa a c:=λid o e=>h' id o (h id o e)
def u'(U:ag)(id:Nat)(o:Ob):ag:=λi=>if i=id then some o else U i
def del(U:ag)(id:Nat):ag:=λi=>if i=id then none else U i
def aa.HW{Z' U:ag}{id:Nat}{o:Ob}(h:aa Z' U)(hid:Z' id=none):aa Z' (u' U id o):=λi u e=>by
 have PZ:i≠id:=λe'=>by rw[e',hid]at e;cases e
 simp[u',PZ,h i u e]
def aa.x7(U:ag)(id:Nat):aa (del U id) U:=λi o e=>by
 unfold del at e;split at e
 .cases e
 .exact e
def aB.sub{I:Mu}{U Z':ag}(h:aa Z' U){b:Nat}(hb:aB I Z' b):aB I U b:=by
 obtain⟨id,o,sz,cap,h1,h2⟩:=hb;exact⟨id,o,sz,cap,h id o h1,h2⟩
def cG.sub{I:Mu}{U Z':ag}(w:World)(h:aa Z' U):cG (aB I U) (aB I Z') w w:=
 λ_ _ hn=>⟨λhb=>hn (hb.sub h),rfl⟩
def pg.bU{I Y':Mu}{ow RI:Nat->Prop}{w w':World}(hm:cm I Y')(hk:qp ow RI w w')(hz:w.heap.size<=w'.heap.size){o:Ob}{p:Pl}
 (hb:∀b sz cap,p=.Qz b sz cap->w'.heap[b]?=w.heap[b]?)(h:pg I ow w o p):pg Y' RI w' o p:=by
 cases p with
 |dv=>exact h
 |nil=>exact h
 |Qz b sz cap=>
  have e:=hb b sz cap rfl;rcases h with⟨cur,h1,h2,h3,h4,h5,h6,h7⟩|⟨h1,h2,ob,env,h3,h4,h5⟩
  .exact .inl ⟨cur,e.trans h1,h2,h3,h4,h5,h6,aX.bU hm hk hz _ _ _ _ (eA e) h7⟩
  .exact .inr ⟨h1,h2,ob,env,h3,e.trans h4,aq.bU hm hk hz _ _ h5⟩
def pg.mono{I Y':Mu}{ow RI:Nat->Prop}{w w':World}(hm:cm I Y')(hk:cG ow RI w w')(hz:w.heap.size<=w'.heap.size){o:Ob}{p:Pl}
 (hb:∀b sz cap,p=.Qz b sz cap->w'.heap[b]?=w.heap[b]?)(h:pg I ow w o p):pg Y' RI w' o p:=h.bU hm hk.toC hz hb
def pg.plain{I:Mu}{ow:Nat->Prop}{w:World}{o:Ob}{b sz cap:Nat}(h:pg I ow w o (.Qz b sz cap))(hz:0<sz):∃cur,w.heap[b]?=some (.cells cur o.elem (0,0))/\o.sz=sz/\0<sz/\cur.size=cap*sz/\o.rows.length<=cap/\cap<=maxLen/\
 aX I ow w o.rows b 0 sz:=by
 rcases h with h|⟨h1,_⟩
 .exact h
 .omega
def pg.rows{I:Mu}{ow:Nat->Prop}{w:World}{o:Ob}{b sz cap:Nat}(h:pg I ow w o (.Qz b sz cap))(hz:0<sz):o.sz=sz/\0<sz/\o.rows.length<=cap/\cap<=maxLen/\aX I ow w o.rows b 0 sz:=by
 obtain⟨cur,h1,h2,h3,h4,h5,h6,h7⟩:=h.plain hz;exact⟨h2,h3,h5,h6,h7⟩
def Sat.drop{w0 w:World}{QA:Nat->Prop}{I:Mu}{U Z':ag}(h:Sat w0 QA I U w)(hs:aa Z' U):Sat w0 QA I Z' w where
 size:=h.size
 os:=h.os
 tape:=h.tape
 output:=h.output
 same:=h.same
 fin:=h.fin
 inj:=λid Sd o o' b sz cap Sr QP h1 h2 h3 h4=>h.inj id Sd o o' b sz cap Sr QP (hs _ _ h1) (hs _ _ h2) h3 h4
 obj:=λid o ho=>(h.obj id o (hs _ _ ho)).mono (cm.refl I) (cG.sub w hs) (Qh _) (λ_ _ _ _=>rfl)
 fresh:=λb hb=>h.fresh b (hb.sub hs)
 Se:=h.Se
def aB.lt{w0 w:World}{QA:Nat->Prop}{I:Mu}{U:ag}(h:Sat w0 QA I U w){b:Nat}(hb:aB I U b):b<w.heap.size:=by
 obtain⟨id,o,sz,cap,h1,h2⟩:=hb;have:=h.obj id o h1;rw[h2]at this;rcases this with⟨cur,h3,_⟩|⟨_,_,ob,_,_,h3,_⟩<;>exact(qk.1 h3).1
def Sat.put{w0 w w':World}{QA:Nat->Prop}{I Y':Mu}{U Z':ag}{row:Option Nat}(h:Sat w0 QA I U w)(hg:w.grownBy w' row)
 (QD:∀b,row=some b->aB I U b)(hμ:cm I Y')(Q3:∃N,∀id,N<=id->Y' id=.dv)(U5:Nat)(ob:Ob)
 (hZ':∀o,Z' U5=some o->o=ob)
 (hold:∀id o,id≠U5->Z' id=some o->U id=some o/\∀b sz cap,I id=.Qz b sz cap->some b≠row)
 (Uc:∀b sz cap,Y' U5=.Qz b sz cap->some b=row\/w.heap.size<=b)
 (QK:cG (aB I U) (aB Y' Z') w w'->pg Y' (aB Y' Z') w' ob (Y' U5)):
 Sat w0 QA Y' Z' w'/\cG (aB I U) (aB Y' Z') w w':=by
 have RB:∀id o,U id=some o->Y' id=I id:=λid o ho=>hμ id (λe=>by
  have:=h.obj id o ho;rw[e]at this;exact this)
 have Ys:∀b,aB Y' Z' b->aB I U b\/w.heap.size<=b:=by
  rintro b ⟨id,o,sz,cap,h1,h2⟩;by_cases hid:id=U5
  .subst hid;rcases Uc b sz cap h2 with h3|h3
   .exact .inl (QD b h3.symm)
   .exact .inr h3
  .obtain⟨h3,_⟩:=hold id o hid h1;exact .inl ⟨id,o,sz,cap,h3,(RB id o h3)▸h2⟩
 have hk:cG (aB I U) (aB Y' Z') w w':=λb hb hn=>⟨λho=>by
  rcases Ys b ho with h1|h1
  .exact hn h1
  .omega,hg.block b hb (λe=>hn (QD b e.symm))⟩
 refine⟨⟨iq h.size hg.size,hg.os.trans h.os,hg.tape.trans h.tape,hg.output.trans h.output,?_,Q3,?_,?_,?_,h.Se⟩,hk⟩
 .intro b hb hn;have h1:¬aB I U b:=λho=>hn (h.fresh b ho hb);rw[(hk b (Nat.lt_of_lt_of_le hb h.size) h1).2,h.same b hb hn]
 .intro id Sd o o' b sz cap Sr QP h1 h2 h3 h4;by_cases e:id=U5
  .by_cases e':Sd=U5
   .rw[e,e']
   .exfalso;obtain⟨h5,h6⟩:=hold Sd o' e' h2;have h7:=(RB Sd o' h5)▸h4;subst e;rcases Uc b sz cap h3 with h8|h8
    .exact h6 b Sr QP h7 h8
    .have:=aB.lt h ⟨Sd,o',Sr,QP,h5,h7⟩;omega
  .obtain⟨h5,h6⟩:=hold id o e h1;have h7:=(RB id o h5)▸h3;by_cases e':Sd=U5
   .exfalso;subst e';rcases Uc b Sr QP h4 with h8|h8
    .exact h6 b sz cap h7 h8
    .have:=aB.lt h ⟨id,o,sz,cap,h5,h7⟩;omega
   .obtain⟨SM,_⟩:=hold Sd o' e' h2;exact h.inj id Sd o o' b sz cap Sr QP h5 SM h7 ((RB Sd o' SM)▸h4)
 .intro id o ho;by_cases e:id=U5
  .subst e;rw[hZ' o ho];exact QK hk
  .obtain⟨h5,h6⟩:=hold id o e ho;rw[RB id o h5];refine(h.obj id o h5).mono hμ hk hg.size (λb sz cap hp=>hg.block b ?_ (h6 b sz cap hp));exact aB.lt h ⟨id,o,sz,cap,h5,hp⟩
 .intro b hb C';rcases Ys b hb with h1|h1
  .exact h.fresh b h1 C'
  .have:=h.size;omega
structure Fr where
 w0:World
 QA:Nat->Prop
 X0:Mu
 n:Nat
 rd:Option (Nat×Loop)
structure Iu(F:Fr)(ow:Nat->Prop)(ds:List Deferred)(w:World):Prop where
 rnd:∀l r,F.rd=some (l,r)->w.heap[l]?=some (.loop r)/\¬ow l
 marks:∃Ds:List Nat,ds=Ds.map (λD=>{ target:=.collected D,args:=#[] })/\Ds.Nodup/\∀D∈Ds,F.w0.heap.size<=D/\w.heap[D]?=some (.deferred (some []))/\¬ow D
def Iu.pV{F:Fr}{ow RI:Nat->Prop}{ds:List Deferred}{w w':World}(h:Iu F ow ds w)(hk:cG ow RI w w'):Iu F RI ds w' where
 rnd:=λl r e=>by
  obtain⟨h1,h2⟩:=h.rnd l r e;have h3:=hk l (qk.1 h1).1 h2;exact⟨h3.2.trans h1,h3.1⟩
 marks:=by
  obtain⟨Ds,h1,h2,h3⟩:=h.marks;refine⟨Ds,h1,h2,λD hD=>?_⟩;obtain⟨g1,g2,g3⟩:=h3 D hD;have h4:=hk D (qk.1 g2).1 g3;exact⟨g1,h4.2.trans g2,h4.1⟩
structure St where
 s:Nat->V
 U:ag
structure cI(F:Fr)(I:Mu)(st:St)(a:Act)(w:World):Prop where
 sat:Sat F.w0 F.QA I st.U w
 le:cm F.X0 I
 size:a.tmps.size=F.n
 book:Iu F (aB I st.U) a.defers w
 slot:∀i,i<F.n->A' I (aB I st.U) w (st.s i) (a.tmps.getD i undef)
def eH(F:Fr)(st:St)(a:Act)(w:World):Prop:=∃I,cI F I st a w
def ry(P:Program)(f:FuncId)(args:List V)(U:ag)(Post:V->ag->Prop):Prop:=
 ∀I w vals,Sat w (aB I U) I U w->aq I (aB I U) w args vals->Calls P f vals.toArray w λe w'=>
  ∃r Z' Y' val,e=.returned val/\Post r Z'/\cm I Y'/\Sat w (aB I U) Y' Z' w'/\A' Y' (aB Y' Z') w' r val
def ry.mono{P:Program}{f:FuncId}{args:List V}{U:ag}{Post TV:V->ag->Prop}(h:ry P f args U Post)
 (hp:∀r Z',Post r Z'->TV r Z'):ry P f args U TV:=λI w vals hs hr=>
 (h I w vals hs hr).mono λ_ _ ⟨r,Z',Y',val,h1,h2,h3⟩=>⟨r,Z',Y',val,h1,hp _ _ h2,h3⟩
inductive VX where
 |t (n:Nat)
 |c (v:V)
def cellOf:Value->V
 |.int k n=>.int k n
 |.bool b=>.bool b
 |.string s=>.str s.data.toList
 |.slice a n c=>if a=none/\n=0/\c=0 then .aL else .raw (.slice a n c)
 |.pointer a=>if a=none then .US else .raw (.pointer a)
 |.nilFunc=>.Rh
 |.nilIface=>.QN
 |v=>.raw v
def ofValue:Value->V
 |.agg cs=>if cs.toList.all (·.oneCell')then .agg (cs.toList.map cellOf)else .raw (.agg cs)
 |v=>cellOf v
inductive MOp where
 |Xe (t:TypeId)
 |mkB (f:FuncId)
 |nilP (neg:Bool)
 |sV
 |uy
 |cpy (sz:Nat)
 |tas (t:TypeId) (ok:Bool) (zero:V)
 |inv (tbl:List (TypeId×FuncId))
 |mkMap
 |C7
 |tF (ok:Bool) (zero:V)
 |delM
 |insS (kt:TypeId)
 |VO (kt:TypeId) (ok:Bool) (zero:V)
 |E0
 |GR
 |EV
inductive Qc where
 |more (m:MOp) (xs:List VX)
 |Qo (x:VX)
 |pick (c a b:VX)
 |bin (op:BinOp) (x y:VX)
 |not (x:VX)
 |neg (x:VX)
 |len (str:Bool) (x:VX)
 |fld (agg:Bool) (off sz:Nat) (x:VX)
 |PN (agg:Bool) (off sz:Nat) (x:VX)
 |UT (SA:Nat) (x i:VX)
 |Yt (agg:Bool) (n SA:Nat) (x i:VX)
 |idxV (agg:Bool) (n SA:Nat) (x i:VX)
 |idxS (x i:VX)
 |load (agg:Bool) (sz:Nat) (x:VX)
 |slice (SA:Nat) (x:VX) (lo hi mx:Option VX)
 |Vh (x:VX) (lo hi:Option VX)
 |ext (i:Nat) (x:VX)
 |XG (f:FuncId) (caps:List VX)
 |Xf (k:IntKind) (x:VX)
 |nilCheck (x:VX)
 |RL (neg:Bool) (x y:VX)
 |eqS (neg:Bool) (ks:List Nat) (x y:VX)
 |TM (max:Bool) (x y:VX)
 |WC (x:VX)
 |box (elem sz:Nat) (x:VX)
 |clear (sz:Nat) (zero:V) (x:VX)
 |alloc (elem sz:Nat) (zero:V)
 |store (sz:Nat) (a x:VX)
 |ed (elem sz:Nat) (parts:List VX)
 |build (zero:List V) (parts:List (Nat×Nat×VX))
 |append (elem sz bytes:Nat) (a b:VX)
 |cap (x:VX)
 |mk (elem sz bytes:Nat) (zero:V) (n:VX)
 |Vi (elem sz bytes:Nat) (zero:V) (a n:VX)
 |call (f:VX) (args:List VX)
 |rngS (rune:Bool) (x:VX)
 |nxtS (x:VX)
 |bad
structure aG where
 dst:Option Nat
 op:Qc
 g:Option (VX×Bool)
inductive bh where
 |skip
 |VP (draw:Bool) (l:List aG)
 |seq (a b:bh)
 |cond (c:VX) (a b:bh)
 |block (id:Nat) (a:bh)
 |loop (a:bh)
 |exit (id:Nat)
 |ret
 |eK (g:VX) (ps:List Nat) (a b:bh)
 |kI (l:List aG) (deps:List (List Nat))
 |yk (l e:List aG)
 |bad
def bp:Qc->Nat
 |.call ..=>1
 |.store ..=>2
 |.alloc ..|.box ..|.ed ..|.append ..|.mk ..|.Vi ..=>3
 |.clear ..|.rngS ..|.nxtS _|.bad=>4
 |.more (.Xe _) _|.more (.mkB _) _|.more (.tas ..) _|.more (.nilP _) _=>0
 |.more ..=>4
 |_=>0
def Qc.xs:Qc->List VX
 |.Qo x|.not x|.neg x|.len _ x|.fld _ _ _ x|.PN _ _ _ x|.load _ _ x|.ext _ x|.Xf _ x|.nilCheck x|.WC x|.box _ _ x|.clear _ _ x|.cap x|.mk _ _ _ _ x|.rngS _ x|.nxtS x=>[x]
 |.bin _ x y|.UT _ x y|.Yt _ _ _ x y|.idxV _ _ _ x y|.idxS x y|.RL _ x y|.eqS _ _ x y|.TM _ x y|.store _ x y|.append _ _ _ x y|.Vi _ _ _ _ x y=>[x,y]
 |.pick x y z=>[x,y,z]
 |.slice _ x lo hi mx=>x::(lo.toList++hi.toList++mx.toList)
 |.Vh x lo hi=>x::(lo.toList++hi.toList)
 |.XG _ xs=>xs
 |.more _ xs=>xs
 |.ed _ _ xs=>xs
 |.build _ ps=>ps.map (·.2.2)
 |.call f xs=>f::xs
 |.alloc ..|.bad=>[]
def VX.Ix:VX->Option Nat
 |.t d=>some d
 |.c _=>none
def aG.kX(i:aG):List Nat:=(i.op.xs++(i.g.map (·.1)).toList).filterMap VX.Ix
def j5:Qc->Bool
 |.load ..|.UT ..|.slice ..|.WC ..=>false
 |op=>bp op==0
def B1(A B:aG):Bool:=
 (match A.dst with
  |some d=>!B.kX.contains d&&B.dst != some d
  |none=>true)&&
 (match B.dst with
  |some d=>!A.kX.contains d
  |none=>true)
def fk(i:aG):Bool:=decide (bp i.op<=1)
def rL(i:aG):Bool:=bp i.op==2||bp i.op==3
def Xe(i:aG):Bool:=match i.op with
 |.alloc ..|.box ..|.ed ..|.mk ..=>true
 |_=>false
def DG(i:aG):Bool:=match i.op with
 |.alloc ..|.box ..|.ed ..|.append ..|.mk ..=>true
 |_=>false
def jR(i:aG):Bool:=bp i.op==0
def mR(A B:aG):Bool:=B1 A B&&((fk A&&fk B)||(rL A&&j5 B.op)||(j5 A.op&&rL B)||(fk A&&Xe B)||(DG A&&jR B)||(DG A&&Xe B))
def J6(P:Program)(a b:TypeId):Bool:=match P.underlying a,P.underlying b with
 |some (.int _),some .string=>true
 |_,_=>false
section comp
variable (P:Program) (n:Nat)
def cx:Operand->VX
 |.tmp t=>if t<n then .t t else .c (.PI [])
 |.const v=>.c (ofValue v)
 |.func f=>.c (.fn f [])
 |.global g=>.c (.raw (.pointer (some ⟨g,0,none⟩)))
def fg(t:TypeId):Bool:=match P.underlying t with
 |some (.struct _)|some (.array _ _)=>true
 |_=>false
def bS(t:TypeId):Bool:=(P.info? t).isSome&&(P.underlying t).isSome&&P.cellsOf t != 0
def zeroOf(e:TypeId):Option (TypeInfo×Value):=match P.info? e with
 |some i=>match i.zero with
  |some z=>if bS P e&&z.cells.size==i.size&&z.cells.toList.all (·.oneCell')then some (i,z)else none
  |none=>none
 |none=>none
def nQ(t:TypeId):Bool:=match P.underlying t,P.info? t with
 |some (.struct fs),some i=>fs.size==0&&(i.size==0&&(match i.zero with
  |some (.agg z)=>z.size==0
  |_=>false))
 |_,_=>false
def u8T(t:TypeId):Bool:=match P.underlying t with
 |some (.int .u8)=>true
 |_=>false
def Gi(t:TypeId):Bool:=match P.underlying t with
 |some (.int _)|some .bool|some .string=>true
 |_=>false
def oV(t:TypeId):Nat:=match P.underlying t with
 |some (.int _)=>0
 |some .bool=>1
 |some .string=>2
 |_=>3
def GD(t:TypeId)(fs:Array Field):Bool:=
 (fs.toList.map (·.offset)==List.range fs.size)&&(fs.toList.all λf=>Gi P f.type&&f.name != "_"&&bS P f.type)&&!P.stoodInHeld t&&!P.eqGuardType P.depth t
def MO:Value->Bool
 |.slice none _ _=>true
 |_=>false
def Ep:Operand->Bool
 |.const v=>MO v
 |_=>false
def bE(op:BinOp)(x:VX)(y:Operand):Qc:=if op=.eql/\Ep y=true then .RL false x (.c (.iface 0 .undef))else .bad
def x4(t:TypeId):Bool:=match P.underlying t with
 |some (.slice _)=>true
 |_=>false
def pL(t:TypeId):Bool:=match P.underlying t with
 |some (.interface _)=>true
 |_=>false
def JE:Operand->Bool
 |.const .nilIface=>true
 |_=>false
def Nn(t:TypeId):Bool:=match P.underlying t with
 |some (.func _ _ _)=>true
 |_=>false
def Mg:Operand->Bool
 |.const .nilFunc=>true
 |_=>false
def ML(t:TypeId):Bool:=match P.underlying t with
 |some (.pointer _)=>true
 |_=>false
def Ji:Operand->Bool
 |.const (.pointer none)=>true
 |_=>false
def vj(t:TypeId):Option TypeId:=match P.underlying t with
 |some (.map k e)=>match P.underlying k with
  |some (.int _)=>some e
  |_=>none
 |_=>none
def wU(t:TypeId):Option (TypeId×TypeId):=match P.underlying t with
 |some (.map k e)=>match P.underlying k with
  |some (.struct _)=>some (k,e)
  |_=>none
 |_=>none
def MK(name:String)(t:TypeId):Option FuncId:=match P.info? t with
 |some i=>match i.methods.find? (·.name==name)with
  |some m=>if m.path.isEmpty then match m.func,P.underlying t with
     |some (f,true),some (.pointer _)=>some f
     |some (_,false),some (.pointer _)=>none
     |some (f,false),some _=>some f
     |_,_=>none
   else none
  |none=>none
 |none=>none
def Lo(name:String):List (TypeId×FuncId):=(List.range P.types.size).filterMap λt=>(MK P name t).map λf=>(t,f)
def sq:Operand->Operand->Bool
 |.tmp a,.tmp b=>a==b
 |.const (.int k a),.const (.int k' b)=>decide (k=k'/\a=b)
 |_,_=>false
def PO:Op->Qc
 |.move x|.assign x=>.Qo (cx n x)
 |.pick c a b=>.pick (cx n c) (cx n a) (cx n b)
 |.binOp op t x y _=>match P.underlying t with
   |some .bool=>match op with
    |.eql=>.RL false (cx n x) (cx n y)
    |.neq=>.RL true (cx n x) (cx n y)
    |_=>.bad
   |some (.struct fs)=>if GD P t fs then match op with
    |.eql=>.eqS false (fs.toList.map λf=>oV P f.type) (cx n x) (cx n y)
    |.neq=>.eqS true (fs.toList.map λf=>oV P f.type) (cx n x) (cx n y)
    |_=>.bad
    else .bad
   |_=>if x4 P t then bE op (cx n x) y else if pL P t then(if(op=.eql\/op=.neq)/\JE y=true then .RL (op==.neq) (cx n x) (.c (.iface 1 .undef))else .bad)else if Nn P t then(if(op=.eql\/op=.neq)/\Mg y=true then .RL (op==.neq) (cx n x) (.c (.iface 2 .undef))else .bad)else if ML P t&&Ji y then(if op=.eql\/op=.neq then .more (.nilP (op==.neq)) [cx n x]else .bad)else .bin op (cx n x) (cx n y)
 |.nilCheck x=>.nilCheck (cx n x)
 |.box e x=>if bS P e then .box e (P.cellsOf e) (cx n x)else .bad
 |.unOp .not _ x=>.not (cx n x)
 |.unOp .neg _ x=>.neg (cx n x)
 |.field s x f=>match P.underlying s with
   |some (.struct fs)=>match fs[f]? with
    |some fd=>if bS P fd.type then .fld (fg P fd.type) fd.offset (P.cellsOf fd.type) (cx n x)else .bad
    |none=>.bad
   |_=>.bad
 |.fieldAddr s x f=>match P.underlying s with
   |some (.struct fs)=>match fs[f]? with
    |some fd=>if bS P fd.type then .PN (fg P fd.type) fd.offset (P.cellsOf fd.type) (cx n x)else .bad
    |none=>.bad
   |_=>.bad
 |.indexAddr t x i=>match P.underlying t with
   |some (.slice e)=>if bS P e then .UT (P.cellsOf e) (cx n x) (cx n i)else .bad
   |some (.array k e)=>if bS P e then .Yt (fg P e) k (P.cellsOf e) (cx n x) (cx n i)else .bad
   |_=>.bad
 |.index t x i=>match P.underlying t with
   |some (.array k e)=>if bS P e then .idxV (fg P e) k (P.cellsOf e) (cx n x) (cx n i)else .bad
   |some .string=>.idxS (cx n x) (cx n i)
   |_=>.bad
 |.load t x=>if bS P t then .load (fg P t) (P.cellsOf t) (cx n x)else .bad
 |.slice t x lo hi mx=>match P.underlying t with
   |some (.slice e)=>if bS P e&&(mx.isNone||hi.isSome)then .slice (P.cellsOf e) (cx n x) (lo.map (cx n)) (hi.map (cx n)) (mx.map (cx n))else .bad
   |some .string=>if mx.isNone then .Vh (cx n x) (lo.map (cx n)) (hi.map (cx n))else .bad
   |_=>.bad
 |.extract x i=>.ext i (cx n x)
 |.makeFunc (.func f) first caps=>if first.size=0 then .XG f (caps.toList.map (cx n))else if caps.size=0 then .more (.mkB f) (first.toList.map (cx n))else .bad
 |.convert src dst x=>match P.underlying src,P.underlying dst with
   |some (.int _),some (.int k)=>.Xf k (cx n x)
   |some (.slice e),some .string=>if u8T P e then .WC (cx n x)else .bad
   |_,_=>if J6 P src dst then .rngS true (cx n x)else .bad
 |.alloc e=>match zeroOf P e with
   |some (i,z)=>.alloc e i.size (ofValue z)
   |none=>if nQ P e then .more .sV []else .bad
 |.store t a x=>if bS P t then .store (P.cellsOf t) (cx n a) (cx n x)else if nQ P t then .more .uy [cx n a,cx n x]else .bad
 |.buildSlice t len parts=>match P.underlying t with
   |some (.slice e)=>match zeroOf P e with
    |some (i,_)=>if parts.toList.map (·.1)=List.range len/\len*i.size<=16777216 then .ed e i.size (parts.toList.map λp=>cx n p.2)else .bad
    |none=>.bad
   |_=>.bad
 |.build t parts=>if nQ P t&&parts.size==0 then .Qo (.c (.agg []))else match zeroOf P t,P.underlying t with
   |some (_,.agg z),some (.struct fs)=>
    if(fs.toList.all λf=>bS P f.type)&&(parts.toList.all λp=>decide (p.1<fs.size))then
     .build (z.toList.map cellOf) (parts.toList.map λp=>(((fs[p.1]?).map (·.offset)).getD 0,((fs[p.1]?).map λf=>P.cellsOf f.type).getD 0,cx n p.2))
    else .bad
   |some (_,.agg z),some (.array _ e)=>if bS P e then .build (z.toList.map cellOf) (parts.toList.map λp=>(p.1*P.cellsOf e,P.cellsOf e,cx n p.2))else .bad
   |_,_=>.bad
 |.call { callee:=.builtin .len,args,argTypes }=>match args.toList,argTypes[0]? with
   |[x],some t=>match P.underlying t with
    |some (.slice _)=>.len false (cx n x)
    |some .string=>.len true (cx n x)
    |_=>.bad
   |_,_=>.bad
 |.call { callee:=.builtin .append,args,argTypes }=>match args.toList,argTypes.toList with
   |[a,b],[t,t']=>if t=t' then match P.underlying t with
    |some (.slice e)=>match zeroOf P e with
     |some (i,_)=>.append e i.size i.bytes (cx n a) (cx n b)
     |none=>.bad
    |_=>.bad
    else match P.underlying t,P.underlying t' with
    |some (.slice e),some (.int _)=>match zeroOf P e with
     |some (i,z)=>.Vi e i.size i.bytes (ofValue z) (cx n a) (cx n b)
     |none=>.bad
    |some (.slice e),some .string=>match zeroOf P e with
     |some (i,_)=>.append e i.size i.bytes (cx n a) (cx n b)
     |none=>.bad
    |_,_=>.bad
   |_,_=>.bad
 |.makeSlice t l c=>match P.underlying t with
   |some (.slice e)=>match zeroOf P e with
    |some (i,z)=>if sq l c then .mk e i.size i.bytes (ofValue z) (cx n l)else .bad
    |none=>.bad
   |_=>.bad
 |.call { callee:=.builtin .cap,args,argTypes }=>match args.toList,argTypes[0]? with
   |[x],some t=>if x4 P t then .cap (cx n x)else .bad
   |_,_=>.bad
 |.call { callee:=.builtin .min,args,.. }=>match args.toList with
   |[x,y]=>.TM false (cx n x) (cx n y)
   |_=>.bad
 |.call { callee:=.builtin .max,args,.. }=>match args.toList with
   |[x,y]=>.TM true (cx n x) (cx n y)
   |_=>.bad
 |.call { callee:=.builtin .clear,args,argTypes }=>match args.toList,argTypes[0]? with
   |[x],some t=>match P.underlying t with
    |some (.slice e)=>match zeroOf P e with
     |some (i,z)=>.clear i.size (ofValue z) (cx n x)
     |none=>.bad
    |_=>.bad
   |_,_=>.bad
 |.call { callee:=.builtin .copy,args,argTypes }=>match args.toList,argTypes[0]? with
   |[x,y],some t=>match P.underlying t with
    |some (.slice e)=>if bS P e then .more (.cpy (P.cellsOf e)) [cx n x,cx n y]else .bad
    |_=>.bad
   |_,_=>.bad
 |.call { callee:=.value f,args,.. }=>.call (cx n f) (args.toList.map (cx n))
 |.range t x=>match P.underlying t with
   |some .string=>.rngS false (cx n x)
   |_=>if(vj P t).isSome then .more .E0 [cx n x]else .bad
 |.makeInterface t x=>if(P.underlying t).isSome&&!pL P t then .more (.Xe t) [cx n x]else .bad
 |.typeAssert x _ t ok=>if pL P t then .bad else match zeroOf P t with
   |some (_,z)=>.more (.tas t ok (ofValue z)) [cx n x]
   |none=>if nQ P t then .more (.tas t ok (.agg [])) [cx n x]else .bad
 |.call { callee:=.invoke r name,args,.. }=>.more (.inv (Lo P name)) (cx n r::args.toList.map (cx n))
 |.makeMap t r=>if r.isNone&&((vj P t).isSome||(wU P t).isSome)then .more .mkMap []else .bad
 |.insert t m k x|.mapUpdate t m k x=>if(vj P t).isSome then .more .C7 [cx n m,cx n k,cx n x]else match wU P t with
   |some (kt,_)=>.more (.insS kt) [cx n m,cx n k,cx n x]
   |none=>.bad
 |.lookup t x i ok=>match vj P t with
   |some e=>match zeroOf P e with
    |some (_,z)=>.more (.tF ok (ofValue z)) [cx n x,cx n i]
    |none=>.bad
   |none=>match wU P t with
    |some (kt,e)=>match zeroOf P e with
     |some (_,z)=>.more (.VO kt ok (ofValue z)) [cx n x,cx n i]
     |none=>.bad
    |none=>.bad
 |.call { callee:=.builtin .delete,args,argTypes }=>match args.toList,argTypes[0]? with
   |[m,k],some t=>if(vj P t).isSome then .more .delM [cx n m,cx n k]else .bad
   |_,_=>.bad
 |.next it b=>if b=true then .nxtS (cx n it)else .more .GR [cx n it]
 |.entry it=>.more .EV [cx n it]
 |_=>.bad
def cq(all:Array Oper)(o:Oper):aG where
 dst:=o.dst.filter (·<n)
 op:=PO P n o.op
 g:=o.guard.map λ(j,want)=>(match(all[j]?).bind (·.dst)with
  |some d=>if d<n then .t d else .c (.PI [])
  |none=>.c (.PI []),want)
def CU(ops:Array Oper)(k:Nat)(listed:Array Bool):Bool:=match ops[k]? with
 |some ok=>(List.range ops.size).all λj=>j==k||listed.getD j true||(match ops[j]? with
    |some oj=>((Region.before ops).getD j 0).testBit k||mR (cq P n ops ok) (cq P n ops oj)
    |none=>true)
 |none=>false
def Ev(ops:Array Oper):Nat->Nat->Array Bool->Bool
 |0,_,listed=>(Region.ready .any ops listed).isEmpty
 |m+1,k,listed=>(Region.ready .any ops listed).contains k&&CU P n ops k listed&&Ev ops m (k+1) (listed.setIfInBounds k true)
def IM(l:List aG):Bool:=l.any λi=>match i.op with
 |.append _ _ _ (.t d) _=>l.any λj=>j.dst==some d&&(match j.op with|.call ..=>true|_=>false)
 |_=>false
def yN(l:List aG)(d:Nat):Option Qc:=(l.find? λj=>j.dst==some d).map (·.op)
def xN:Option Qc->Bool
 |some (.call ..)=>true
 |_=>false
def Il(l:List aG):Bool:=l.any λi=>match i.op with
 |.append _ _ _ (.t d) (.t v)=>xN (yN l v)&&(match yN l d with
  |some (.append _ _ _ _ (.t w))=>xN (yN l w)
  |_=>false)
 |.call (.t f) _=>match yN l f with
  |some (.idxV _ _ _ (.t a) _)=>xN (yN l a)
  |_=>false
 |_=>false
def KJ(l:List aG):Bool:=(l.any λi=>match i.op with|.XG _ (_::_)=>true|_=>false)&&(l.any λi=>match i.op with|.call ..=>true|_=>false)&&l.any λi=>match i.op with|.store ..=>true|_=>false
def vQ(l:List aG):Bool:=IM l||Il l||KJ l||
 (l.any λi=>match i.op with|.call ..=>true|_=>false)&&(l.any λi=>match i.op with|.nilCheck _=>true|_=>false)&&l.any λi=>match i.op with|.store ..=>true|_=>false
def xW(ops:Array Oper):Bool:=P.follows .mixedOrders&&(!(vQ (ops.toList.map (cq P n ops)))&&Ev P n ops ops.size 0 (Array.replicate ops.size false))
def FR(ops:Array Oper)(m:Nat):Nat->Nat->Array Bool->Bool
 |0,_,listed=>decide (Region.ready .any ops listed=[m])&&(Region.ready .any ops (listed.setIfInBounds m true)).isEmpty
 |f+1,k,listed=>((Region.ready .any ops listed).contains k&&(decide (k≠m)&&((Region.before ops).getD m 0).testBit k))&&(CU P n ops k listed&&FR ops m f (k+1) (listed.setIfInBounds k true))
def HA:aG->Bool
 |⟨_,.call ..,_⟩=>true
 |_=>false
def xy(ops:Array Oper):Bool:=P.follows .mixedOrders&&(decide (0<ops.size)&&(((ops.toList.drop (ops.size-1)).map (cq P n ops)).any HA&&(!(vQ ((ops.toList.take (ops.size-1)).map (cq P n ops)))&&FR P n ops (ops.size-1) (ops.size-1) 0 (Array.replicate ops.size false))))
def dh:Code->bh
 |.skip=>.skip
 |.region _ ops draw=>if draw&&xy P n ops then .yk ((ops.toList.take (ops.size-1)).map (cq P n ops)) ((ops.toList.drop (ops.size-1)).map (cq P n ops))else if draw&&!(xW P n ops)then .kI (ops.toList.map (cq P n ops)) (ops.toList.map λo=>(o.after.toList.filter (Region.binds .any)).map (·.on))else .VP draw (ops.toList.map (cq P n ops))
 |.seq a b=>.seq (dh a) (dh b)
 |.cond c a b=>.cond (cx n c) (dh a) (dh b)
 |.block id a=>.block id (dh a)
 |.loop a=>.loop (dh a)
 |.exit id=>.exit id
 |.ret=>.ret
 |.rangeFunc g ps a c=>.eK (cx n g) ps.toList (dh a) (dh c)
 |_=>.bad
end comp
def VX.ev(s:Nat->V):VX->V
 |.t n=>s n
 |.c v=>v
def PM(k:IntKind)(n:Int):Prop:=k.wrap n=n
def dF(op:BinOp)(k:IntKind)(a b:Int):Option V:=
 match op with
 |.add=>some (.int k (a+b))
 |.sub=>some (.int k (a-b))
 |.mul=>some (.int k (a*b))
 |.quo=>if b=0 then none else some (.int k (a.tdiv b))
 |.rem=>if b=0 then none else some (.int k (a.tmod b))
 |.eql=>some (.bool (decide (a=b)))
 |.neq=>some (.bool (decide (a≠b)))
 |.lss=>some (.bool (decide (a<b)))
 |.leq=>some (.bool (decide (a<=b)))
 |.gtr=>some (.bool (decide (a>b)))
 |.geq=>some (.bool (decide (a>=b)))
 |.and=>some (.int k (k.wrap (BitVec.ofInt k.bits a &&& BitVec.ofInt k.bits b).toNat))
 |.or=>some (.int k (k.wrap (BitVec.ofInt k.bits a ||| BitVec.ofInt k.bits b).toNat))
 |.shl=>if b<0 then none else some (.int k (k.wrap (a*2^(min b.toNat k.bits))))
 |.shr=>if b<0 then none else some (.int k (a.fdiv (2^(min b.toNat k.bits))))
 |_=>none
def dG(op:BinOp)(k:IntKind)(a b:Int):Prop:=
 match op with
 |.add=>PM k (a+b)
 |.sub=>PM k (a-b)
 |.mul=>PM k (a*b)
 |.quo=>PM k (a.tdiv b)
 |_=>True
def dB(op:BinOp)(a b:List UInt8):Option V:=
 match op with
 |.add=>some (.str (a++b))
 |.eql=>some (.bool (decide (a=b)))
 |.neq=>some (.bool (decide (a≠b)))
 |_=>none
def dE(op:BinOp)(a b:List UInt8):Prop:=
 match op with
 |.add=>a.length+b.length<=9223372036854775807
 |_=>True
def DH(op:BinOp):V->V->Option V
 |.int k a,.int k' b=>if k=k' then dF op k a b else none
 |.str a,.str b=>dB op a b
 |_,_=>none
def qn(op:BinOp):V->V->Prop
 |.int k a,.int _ b=>dG op k a b
 |.str a,.str b=>dE op a b
 |_,_=>True
def bx(agg:Bool)(off sz:Nat)(vs:List V):Option V:=
 if agg then some (.agg ((vs.drop off).take sz))else vs[off]?
def ji:V->Option V
 |.aL=>some (.int .i64 0)
 |_=>none
def dY:Bool->V->Option V
 |false,.own _ _ n=>some (.int .i64 n)
 |false,.sl _ rows=>some (.int .i64 rows.length)
 |false,.aL=>some (.int .i64 0)
 |true,.str s=>some (.int .i64 s.length)
 |_,_=>none
def jm(agg:Bool)(off sz:Nat):V->Option V
 |.agg vs=>bx agg off sz vs
 |_=>none
def dZ(agg:Bool)(off sz:Nat):V->Option V
 |.ptr id i k=>some (.ptr id i (k+off))
 |.rp v=>(bx agg off sz v.cells).map .rp
 |_=>none
def bL(U:ag)(SA:Nat):V->V->Option V
 |.own id off len,.int _ j=>match U id with
   |some ob=>if ob.sz=SA/\0<=j/\j<len then some (.ptr id (off+j.toNat) 0)else none
   |none=>none
 |.sl sz rows,.int _ j=>if sz=SA/\0<=j then match rows[j.toNat]? with
   |some r=>some (.rp r)
   |none=>none
   else none
 |_,_=>none
def cQ(agg:Bool)(n SA:Nat):V->V->Option V
 |.ptr id i k,.int _ j=>if 0<=j/\j<n then some (.ptr id i (k+j.toNat*SA))else none
 |.rp v,.int _ j=>if 0<=j/\j<n then(bx agg (j.toNat*SA) SA v.cells).map .rp else none
 |_,_=>none
def fa(agg:Bool)(n SA:Nat):V->V->Option V
 |.agg vs,.int _ j=>if 0<=j/\j<n then bx agg (j.toNat*SA) SA vs else none
 |_,_=>none
def fb:V->V->Option V
 |.str s,.int _ j=>if 0<=j then match s[j.toNat]? with
   |some b=>some (.int .u8 b.toNat)
   |none=>none
   else none
 |_,_=>none
def bT(U:ag)(agg:Bool)(sz:Nat):V->Option V
 |.ptr id i k=>match U id with
   |some ob=>match ob.rows[i]? with
    |some r=>if agg then(if k=0/\r.cells.length=sz then some (.agg r.cells)else if k+sz<=r.cells.length then some (.agg ((r.cells.drop k).take sz))else none)
       else r.cells[k]?
    |none=>none
   |none=>none
 |.rp v=>if agg then(if v.cells.length=sz then some (.agg v.cells)else none)else match v with
   |.agg _=>none
   |v=>some v
 |_=>none
def bI(d:Int):Option V->Option Int
 |none=>some d
 |some (.int _ j)=>some j
 |_=>none
def gI(U:ag)(id SA:Nat):Bool:=match U id with
 |some ob=>ob.sz==SA
 |none=>false
def cJ(U:ag)(SA:Nat)(x:V)(lo hi mx:Option V):Option V:=
 match x with
 |.own id off len=>match bI 0 lo,bI len hi,bI len mx with
   |some l,some h,some m=>if 0<=l/\l<=h/\h<=m/\m<=len/\gI U id SA=true then some (.own id (off+l.toNat) (h.toNat-l.toNat))else none
   |_,_,_=>none
 |.sl sz rows=>match bI 0 lo,bI rows.length hi,bI rows.length mx with
   |some l,some h,some m=>if 0<=l/\l<=h/\h<=m/\m<=rows.length/\sz=SA then some (.sl sz ((rows.drop l.toNat).take (h.toNat-l.toNat)))else none
   |_,_,_=>none
 |.aL=>match bI 0 lo,bI 0 hi,bI 0 mx with
   |some l,some h,some m=>if l=0/\h=0/\m=0 then some .aL else none
   |_,_,_=>none
 |_=>none
def cy(x:V)(lo hi:Option V):Option V:=
 match x with
 |.str s=>match bI 0 lo,bI s.length hi with
   |some l,some h=>if 0<=l/\l<=h/\h<=s.length then some (.str ((s.drop l.toNat).take (h.toNat-l.toNat)))else none
   |_,_=>none
 |_=>none
def bJ{α:Type}(l:List α)(off:Nat)(xs:List α):List α:=l.take off++xs++l.drop (off+xs.length)
def V.stays:V->Bool
 |.undef=>false
 |.PI _=>false
 |.raw v=>v.oneCell'
 |_=>true
def cP(zero:List V):List (Nat×Nat×V)->Option (List V)
 |[]=>some zero
 |(off,sz,x)::r=>if x.cells.length=sz/\x.stays=true/\off+sz<=zero.length then cP (bJ zero off x.cells) r else none
def jg(i:Nat):V->Option V
 |.PI vs=>vs[i]?
 |_=>none
def cO:V->V->Option Bool
 |.int k a,.int k' b=>if k=k' then some (decide (a=b))else none
 |.bool a,.bool b=>some (a==b)
 |.str a,.str b=>some (decide (a=b))
 |_,_=>none
def bY:List V->List V->Option Bool
 |[],[]=>some true
 |v::vs,u::us=>match cO v u,bY vs us with
   |some a,some b=>some (a&&b)
   |_,_=>none
 |_,_=>none
def di:List Nat->List V->Bool
 |[],[]=>true
 |0::ks,.int _ _::vs=>di ks vs
 |1::ks,.bool _::vs=>di ks vs
 |2::ks,.str _::vs=>di ks vs
 |_,_=>false
def iy(neg:Bool)(ks:List Nat):V->V->Option V
 |.agg vs,.agg us=>if di ks vs=true/\us.length=vs.length then match bY vs us with
   |some b=>some (.bool (if neg then !b else b))
   |none=>none
   else none
 |_,_=>none
def binBV(neg:Bool):V->V->Option V
 |.bool a,.bool b=>some (.bool (if neg then !(a==b)else a==b))
 |_,_=>none
def cF(max:Bool):V->V->Option V
 |.int k a,.int k' b=>if k=k' then some (.int k (if max then(if b>a then b else a)else(if b<a then b else a)))else none
 |_,_=>none
def byteOf:V->Option UInt8
 |.int .u8 n=>some (UInt8.ofNat n.toNat)
 |_=>none
def bytesOf:List V->Option (List UInt8)
 |[]=>some []
 |v::vs=>match byteOf v,bytesOf vs with
   |some b,some l=>some (b::l)
   |_,_=>none
def cX(U:ag):V->Option V
 |.aL=>some (.str [])
 |.own id off len=>match U id with
   |some ob=>if ob.sz=1/\off+len<=ob.rows.length then(bytesOf ((ob.rows.drop off).take len)).map .str else none
   |none=>none
 |_=>none
def bD:V->Option V
 |.ptr id i k=>some (.ptr id i k)
 |.rp v=>some (.rp v)
 |.fn f caps=>some (.fn f caps)
 |.iface t v=>some (.iface t v)
 |_=>none
def Fb(neg:Bool):V->Option V
 |.US=>some (.bool (!neg))
 |.ptr _ _ _=>some (.bool neg)
 |.rp _=>some (.bool neg)
 |_=>none
def Hz(t:TypeId)(ok:Bool)(zero:V):V->Option V
 |.iface t' v=>if t'=t then some (if ok then .PI [v,.bool true]else v)else(if ok then some (.PI [zero,.bool false])else none)
 |.QN=>if ok then some (.PI [zero,.bool false])else none
 |_=>none
def aH(U:ag)(s:Nat->V):Qc->Option V
 |.Qo x=>some (x.ev s)
 |.pick c a b=>match c.ev s with
   |.bool t=>some (if t then a.ev s else b.ev s)
   |_=>none
 |.bin op x y=>DH op (x.ev s) (y.ev s)
 |.not x=>match x.ev s with
   |.bool b=>some (.bool (!b))
   |_=>none
 |.neg x=>match x.ev s with
   |.int k a=>some (.int k (0-a))
   |_=>none
 |.len b x=>dY b (x.ev s)
 |.cap x=>ji (x.ev s)
 |.fld agg off sz x=>jm agg off sz (x.ev s)
 |.PN agg off sz x=>dZ agg off sz (x.ev s)
 |.UT SA x i=>bL U SA (x.ev s) (i.ev s)
 |.Yt agg n SA x i=>cQ agg n SA (x.ev s) (i.ev s)
 |.idxV agg n SA x i=>fa agg n SA (x.ev s) (i.ev s)
 |.idxS x i=>fb (x.ev s) (i.ev s)
 |.load agg sz x=>bT U agg sz (x.ev s)
 |.slice SA x lo hi mx=>cJ U SA (x.ev s) (lo.map (·.ev s)) (hi.map (·.ev s)) (mx.map (·.ev s))
 |.Vh x lo hi=>cy (x.ev s) (lo.map (·.ev s)) (hi.map (·.ev s))
 |.nilCheck x=>bD (x.ev s)
 |.RL neg x y=>binBV neg (x.ev s) (y.ev s)
 |.eqS neg ks x y=>iy neg ks (x.ev s) (y.ev s)
 |.TM m x y=>cF m (x.ev s) (y.ev s)
 |.WC x=>cX U (x.ev s)
 |.ext i x=>jg i (x.ev s)
 |.build zero parts=>(cP zero (parts.map λp=>(p.1,p.2.1,p.2.2.ev s))).map .agg
 |.XG f caps=>some (.fn f (caps.map (·.ev s)))
 |.more (.Xe t) [x]=>some (.iface t (x.ev s))
 |.more (.mkB f) xs=>some (.bm f (xs.map (·.ev s)))
 |.more (.tas t ok z) [x]=>Hz t ok z (x.ev s)
 |.more (.nilP neg) [x]=>Fb neg (x.ev s)
 |.Xf k x=>match x.ev s with
   |.int _ a=>some (.int k a)
   |_=>none
 |_=>none
def eT(s:Nat->V):Qc->Prop
 |.bin op x y=>qn op (x.ev s) (y.ev s)
 |.neg x=>match x.ev s with
   |.int k a=>PM k (0-a)
   |_=>True
 |.Xf k x=>match x.ev s with
   |.int _ a=>PM k a
   |_=>True
 |_=>True
variable {P:Program} {I:Mu} {ow:Nat->Prop} {w:World}
def pI{α:Type}[DecidableEq α][BEq α][LawfulBEq α](a b:α):(a==b)=decide (a=b):=by by_cases h:a=b<;>simp[h]
def Ig{α:Type}[DecidableEq α][BEq α][LawfulBEq α](a b:α):(a != b)=decide (a≠b):=by by_cases h:a=b<;>simp[h]
def addr_add(b off j:Nat):(⟨b,off,none⟩:Addr).add j=⟨b,off+j,none⟩:=by
 unfold Addr.add;split<;>simp_all
def aq.length:∀{vs:List V} {l:List Value},aq I ow w vs l->l.length=vs.length
 |[],l,h=>by simp[aq]at h;simp[h]
 |v::vs,l,h=>by
  simp only[aq]at h;obtain⟨x,xs,rfl,_,h2⟩:=h;simp[aq.length h2]
def aq.get:∀{vs:List V} {l:List Value} {i:Nat} {v:V},aq I ow w vs l->vs[i]?=some v->∃x,l[i]?=some x/\A' I ow w v x
 |[],l,i,v,_,h=>by simp at h
 |u::vs,l,i,v,h,hv=>by
  simp only[aq]at h;obtain⟨x,xs,rfl,h1,h2⟩:=h;cases i with
  |zero=>simp at hv;subst hv;exact⟨x,by simp,h1⟩
  |succ i=>simpa using aq.get h2 (by simpa using hv)
def aq.drop:∀{vs:List V} {l:List Value} (k:Nat),aq I ow w vs l->aq I ow w (vs.drop k) (l.drop k)
 |[],l,k,h=>by simp[aq]at h;subst h;simp[aq]
 |v::vs,l,0,h=>by simpa using h
 |v::vs,l,k+1,h=>by
  simp only[aq]at h;obtain⟨x,xs,rfl,h1,h2⟩:=h;simpa using aq.drop k h2
def aq.take:∀{vs:List V} {l:List Value} (k:Nat),aq I ow w vs l->aq I ow w (vs.take k) (l.take k)
 |[],l,k,h=>by simp[aq]at h;subst h;simp[aq]
 |v::vs,l,0,h=>by simp[aq]
 |v::vs,l,k+1,h=>by
  simp only[aq]at h;obtain⟨x,xs,rfl,h1,h2⟩:=h;simp only[BG,aq];exact⟨x,_,rfl,h1,aq.take k h2⟩
def aQ.get:∀{vs:List V} {b off k:Nat} {v:V},aQ I ow w vs b off->vs[k]?=some v->
 ∃x,w.cell? ⟨b,off+k,none⟩=some x/\A' I ow w v x/\x.oneCell'=true
 |[],_,_,_,_,_,h=>by simp at h
 |u::vs,b,off,k,v,h,hv=>by
  simp only[aQ]at h;cases k with
  |zero=>simp at hv;subst hv;exact h.1
  |succ k=>
   have:=aQ.get (k:=k) h.2 (by simpa using hv)
   rwa [show off+1+k=off+(k+1) by omega]at this
def aQ.drop:∀{vs:List V} {b off:Nat} (k:Nat),aQ I ow w vs b off->aQ I ow w (vs.drop k) b (off+k)
 |[],_,_,_,_=>by simp[aQ]
 |u::vs,b,off,0,h=>by simpa using h
 |u::vs,b,off,k+1,h=>by
  simp only[aQ]at h;have:=aQ.drop k h.2;rw[show off+1+k=off+(k+1) by omega]at this;simpa using this
def aQ.take:∀{vs:List V} {b off:Nat} (k:Nat),aQ I ow w vs b off->aQ I ow w (vs.take k) b off
 |[],_,_,_,_=>by simp[aQ]
 |u::vs,b,off,0,h=>by simp[aQ]
 |u::vs,b,off,k+1,h=>by
  simp only[aQ]at h;simp only[BG,aQ];exact⟨h.1,aQ.take k h.2⟩
def aQ.Cp:∀{vs:List V} {b off:Nat},aQ I ow w vs b off->
 ∃xs,aq I ow w vs xs/\(∀u∈xs,u.oneCell'=true)/\∀(j:Nat) u,xs[j]?=some u->w.cell? ⟨b,off+j,none⟩=some u
 |[],_,_,_=>⟨[],by simp[aq],by simp,by simp⟩
 |v::vs,b,off,h=>by
  simp only[aQ]at h;obtain⟨⟨x,h1,h2,h3⟩,h4⟩:=h;obtain⟨xs,h5,h6,h7⟩:=aQ.Cp h4;refine⟨x::xs,by simp only[aq];exact⟨x,xs,rfl,h2,h5⟩,by simpa using⟨h3,h6⟩,?_⟩;intro j u hu;cases j with
  |zero=>simp at hu;subst hu;exact h1
  |succ j=>
   have:=h7 j u (by simpa using hu)
   rwa [show off+1+j=off+(j+1) by omega]at this
def aX.get:∀{rows:List V} {b off sz i:Nat} {r:V},aX I ow w rows b off sz->rows[i]?=some r->
 r.cells.length=sz/\aQ I ow w r.cells b (off+i*sz)
 |[],_,_,_,_,_,_,h=>by simp at h
 |u::rows,b,off,sz,i,r,h,hr=>by
  simp only[aX]at h;cases i with
  |zero=>simp at hr;subst hr;exact⟨h.1,by simpa using(dR ..).1 h.2.1⟩
  |succ i=>
   have:=aX.get (i:=i) h.2.2 (by simpa using hr)
   rwa [show off+sz+i*sz=off+(i+1)*sz by rw[Nat.add_mul];omega]at this
def aX.drop:∀{rows:List V} {b off sz:Nat} (k:Nat),aX I ow w rows b off sz->aX I ow w (rows.drop k) b (off+k*sz) sz
 |[],_,_,_,_,_=>by simp[aX]
 |u::rows,b,off,sz,0,h=>by simpa using h
 |u::rows,b,off,sz,k+1,h=>by
  simp only[aX]at h;have:=aX.drop k h.2.2;rw[show off+sz+k*sz=off+(k+1)*sz by rw[Nat.add_mul];omega]at this;simpa using this
def aX.take:∀{rows:List V} {b off sz:Nat} (k:Nat),aX I ow w rows b off sz->aX I ow w (rows.take k) b off sz
 |[],_,_,_,_,_=>by simp[aX]
 |u::rows,b,off,sz,0,h=>by simp[aX]
 |u::rows,b,off,sz,k+1,h=>by
  simp only[aX]at h;simp only[BG,aX];exact⟨h.1,h.2.1,aX.take k h.2.2⟩
def oy(v:Value):A' I ow w (cellOf v) v:=by
 cases v<;>simp only[cellOf]<;>(try split)<;>simp_all [A']
def eR:∀(l:List Value),aq I ow w (l.map cellOf) l
 |[]=>by simp[aq]
 |v::l=>by simp only[dO,aq];exact⟨v,l,rfl,oy v,eR l⟩
def j9(v:Value):A' I ow w (ofValue v) v:=by
 unfold ofValue;split
 .rename_i cs;split
  .rename_i h;simp only[A'];exact⟨cs.toList,by simp,eR _,λu hu=>eQ.1 h u hu⟩
  .simp[A']
 .exact oy v
def p9{t:TypeId}(h:(P.underlying t).isSome):(isAgg t).run P w=.ok (fg P t) w:=by
 obtain⟨d,hd⟩:=Option.isSome_iff_exists.1 h;unfold isAgg fg;simp only[Sem.run_bind,run_underlying hd,Result.andThen_ok,hd];cases d<;>rfl
def dD{t:TypeId}(h:bS P t=true):(P.underlying t).isSome/\(∃i,P.info? t=some i/\i.size=P.cellsOf t)/\0<P.cellsOf t:=by
 simp only[bS,Ba,bne_iff_ne]at h;obtain⟨⟨h1,h2⟩,h3⟩:=h;obtain⟨i,hi⟩:=Option.isSome_iff_exists.1 h1;exact⟨h2,⟨i,hi,by simp[Program.cellsOf,hi]⟩,by omega⟩
def cc{t:TypeId}(h:bS P t=true):(sizeOf t).run P w=.ok (P.cellsOf t) w:=by
 obtain⟨_,⟨i,hi,_⟩,_⟩:=dD h;exact run_sizeOf w hi
def yE{t:TypeId}(h:bS P t=true){vals:List Value}{vs:List V}{off:Nat}{v:V}(hr:aq I ow w vs vals)
 (h1:∀u∈vals,u.oneCell'=true)(hv:bx (fg P t) off (P.cellsOf t) vs=some v):
 ∃x,(part t ⟨vals⟩ off).run P w=.ok x w/\A' I ow w v x:=by
 unfold part;simp only[Sem.run_bind,p9 (dD h).1,Result.andThen_ok];unfold bx at hv;cases RC:fg P t
 .simp only[RC,gj,if_false]at hv|-;obtain⟨x,hx,XH⟩:=hr.get hv;have:(⟨vals⟩:Array Value)[off]?=some x:=by simpa using hx
  exact⟨x,by simp[this],XH⟩
 .simp only[RC,if_true,bb]at hv|-;subst hv;refine⟨.agg ((⟨vals⟩:Array Value).extract off (off+P.cellsOf t)),by simp[cc h],?_⟩;simp only[A'];refine⟨(vals.drop off).take (P.cellsOf t),?_,(hr.drop off).take _,λu hu=>h1 u (List.mem_of_mem_drop (qw hu))⟩;have e:(⟨vals⟩:Array Value)=vals.toArray:=rfl;rw[e,List.extract_toArray];simp
def iN{t:TypeId}(h:bS P t=true){vs:List V}{b off:Nat}(hr:aQ I ow w vs b off){v:V}
 (hv:(if fg P t then(if vs.length=P.cellsOf t then some (V.agg vs)else none)else vs[0]?)=some v):
 ∃x,(loadVar t ⟨b,off,none⟩).run P w=.ok x w/\A' I ow w v x:=by
 unfold loadVar;simp only[Sem.run_bind,p9 (dD h).1,Result.andThen_ok];cases RC:fg P t
 .simp only[RC,gj,if_false]at hv|-;obtain⟨x,hx,h1,h2⟩:=hr.get hv;exact⟨x,by simp[show w.cell? ⟨b,off,none⟩=some x by simpa using hx],h1⟩
 .simp only[RC,if_true]at hv|-;split at hv
  .rename_i hl;simp only[bb]at hv;subst hv;obtain⟨xs,h1,h2,h3⟩:=hr.Cp;have hlen:xs.length=P.cellsOf t:=by rw[h1.length,hl]
   refine⟨.agg xs.toArray,?_,by simp only[A'];exact⟨xs,rfl,h1,h2⟩⟩;simp only[Sem.run_bind,cc h,Result.andThen_ok];rw[<-hlen,run_loadCells_list (P:=P) w ⟨b,off,none⟩ xs (λj u hu=>by rw[addr_add];exact h3 j u hu)];simp
  .cases hv
def IP{op:BinOp}{t:TypeId}{x y v:V}{X Y:Value}{xo yo:Operand}(hx:A' I ow w x X)(hy:A' I ow w y Y)(hp:qn op x y)
 (hv:DH op x y=some v):∃z,(do eqGuard op t xo yo X Y;binOp op t X Y:Sem Value).run P w=.ok z w/\A' I ow w v z:=by
 unfold DH at hv;split at hv
 .rename_i k a k' b;split at hv
  .rename_i hk;subst hk;simp only[A']at hx hy;subst hx hy;simp only[qn]at hp;have hg:(eqGuard op t xo yo (.int k a) (.int k b)).run P w=.ok () w:=by
    unfold eqGuard;simp
   simp only[Sem.run_bind,hg,Result.andThen_ok];cases op<;>simp only[dF,reduceCtorEq]at hv<;>simp only[dG]at hp<;>
    first
    |(split at hv
      .cases hv
      .rename_i hb;simp only[bb]at hv;subst hv
       first
       |exact⟨_,by simp only[binOp,Op.shift,aF hb];rfl,by simp[A']⟩
       |simp_all [binOp,Op.intDiv,A',PM])
    |(simp only[bb]at hv;subst hv;simp_all [binOp,Op.intArith,Op.intCmp,Op.intBits,A',PM,pI,Ig])
  .cases hv
 .rename_i a b;simp only[A']at hx hy;subst hx hy;simp only[qn]at hp;have hg:(eqGuard op t xo yo (.string ⟨a.toArray⟩) (.string ⟨b.toArray⟩)).run P w=.ok () w:=by
   unfold eqGuard;simp
  simp only[Sem.run_bind,hg,Result.andThen_ok];have RM:∀l:List UInt8,(⟨l.toArray⟩:ByteArray).size=l.length:=λl=>by simp[ByteArray.size]
  have hl:∀l:List UInt8,(⟨l.toArray⟩:ByteArray).toList=l:=λl=>by rw[ByteArray.toList_eq]
  cases op<;>simp only[dB,reduceCtorEq]at hv<;>simp only[dE]at hp<;>simp only[bb]at hv<;>subst hv
  .refine⟨.string (⟨a.toArray⟩++⟨b.toArray⟩),?_,?_⟩
   .simp only[binOp,Op.stringOp,RM];rw[aF (by simp[IntKind.max,IntKind.signed,IntKind.bits];omega)];simp
   .simp only[A'];congr 1
  .exact⟨.bool (decide (a=b)),by simp[binOp,Op.stringOp,hl,pI],by simp[A']⟩
  .exact⟨.bool (decide (a≠b)),by simp[binOp,Op.stringOp,hl,pI],by simp[A']⟩
 .cases hv
def qP{s:TypeId}{fs:Array Field}{f:Nat}{fd:Field}(hs:P.underlying s=some (.struct fs))(hf:fs[f]?=some fd)(hk:bS P fd.type=true)
 (b o:Nat):(Instr.fieldAt s (.pointer (some ⟨b,o,none⟩)) f).run P w=.ok (.pointer (some ⟨b,o+fd.offset,none⟩)) w:=by
 have PZ:P.cellsOf fd.type≠0:=Nat.pos_iff_ne_zero.1 (dD hk).2.2;simp[Instr.fieldAt,run_underlying hs,hf,Instr.sureAddr,fieldPlace,cc hk,PZ,addr_add]
def Eb{s:TypeId}{fs:Array Field}{f:Nat}{fd:Field}(hs:P.underlying s=some (.struct fs))(hf:fs[f]?=some fd)(hk:bS P fd.type=true)
 {x v:V}{X:Value}(hx:A' I ow w x X)(hv:dZ (fg P fd.type) fd.offset (P.cellsOf fd.type) x=some v):
 ∃z,(Instr.fieldAt s X f).run P w=.ok z w/\A' I ow w v z:=by
 unfold dZ at hv;split at hv
 .rename_i id i k;simp only[bb]at hv;subst hv;simp only[A']at hx;split at hx
  .rename_i b sz cap hid;obtain⟨rfl,RM⟩:=hx;exact⟨_,qP hs hf hk b _,by simp only[A',hid];simp[Nat.add_assoc,RM]⟩
  .exact hx.elim
 .rename_i u;simp only[A']at hx;obtain⟨b,off,rfl,C',hb,hr⟩:=hx;rw[dR]at hr;refine⟨_,qP hs hf hk b off,?_⟩;cases B':bx (fg P fd.type) fd.offset (P.cellsOf fd.type) u.cells with
  |none=>simp[B']at hv
  |some y=>
   simp only[B',Option.map_some,bb]at hv;subst hv;simp only[A'];have Sf:y.cells=[]\/¬ow b:=hb.imp (λhu=>by
    rw[hu]at B';unfold bx at B';split at B'
    .simp only[List.drop_nil,List.take_nil,bb]at B';rw[<-B'];rfl
    .simp at B') id
   refine⟨b,off+fd.offset,rfl,C',Sf,?_⟩;rw[dR];unfold bx at B';split at B'
   .simp only[bb]at B';subst B';simp only[V.cells];exact(hr.drop _).take _
   .obtain⟨z,h1,h2,h3⟩:=hr.get B';have hy:y.cells=[y]:=by
     cases y<;>simp only[V.cells];simp only[A']at h2;obtain⟨vals,rfl,_⟩:=h2;simp[Value.oneCell']at h3
    rw[hy];simp only[aQ,and_true];exact⟨z,h1,h2,h3⟩
 .cases hv
def pT{y:V}{z:Value}(h2:A' I ow w y z)(h3:z.oneCell'=true):y.cells=[y]:=by
 cases y<;>simp only[V.cells];simp only[A']at h2;obtain⟨vals,rfl,_⟩:=h2;simp[Value.oneCell']at h3
def B0{u y:V}{agg:Bool}{o sz b off:Nat}(C':b<w.heap.size)(hb:u.cells=[]\/¬ow b)(hr:aQ I ow w u.cells b off)(B':bx agg o sz u.cells=some y):
 A' I ow w (.rp y) (.pointer (some ⟨b,off+o,none⟩)):=by
 simp only[A'];have Sf:y.cells=[]\/¬ow b:=hb.imp (λhu=>by
  rw[hu]at B';unfold bx at B';split at B'
  .simp only[List.drop_nil,List.take_nil,bb]at B';rw[<-B'];rfl
  .simp at B') id
 refine⟨b,off+o,rfl,C',Sf,?_⟩;rw[dR];unfold bx at B';split at B'
 .simp only[bb]at B';subst B';simp only[V.cells];exact(hr.drop _).take _
 .obtain⟨z,h1,h2,h3⟩:=hr.get B';rw[pT h2 h3];simp only[aQ,and_true];exact⟨z,h1,h2,h3⟩
def Eg{w0:World}{QA:Nat->Prop}{U:ag}(RT:Sat w0 QA I U w){t e:TypeId}(ht:P.underlying t=some (.slice e))(hk:bS P e=true)
 {x y v:V}{X Y:Value}(hx:A' I (aB I U) w x X)(hy:A' I (aB I U) w y Y)(hv:bL U (P.cellsOf e) x y=some v):
 ∃z,(Instr.indexAt t X Y).run P w=.ok z w/\A' I (aB I U) w v z:=by
 unfold bL at hv;split at hv
 .rename_i id off len k j;split at hv
  .rename_i ob QK;split at hv
   .rename_i hc;obtain⟨RM,h0,h1⟩:=hc;simp only[bb]at hv;subst hv;simp only[A']at hx hy;subst hy;have Ri:=RT.obj id ob QK;split at hx
    .exact hx.elim
    .obtain⟨rfl,rfl,rfl⟩:=hx;exfalso;simp at h1;omega
    .rename_i b sz cap hid;obtain⟨o,c,rfl,XI,Yu,R5,hz⟩:=hx;rw[hid]at Ri;obtain⟨cur,_,hsz2,_⟩:=Ri.plain hz;have ho:o=off*sz:=by
      rcases R5 with R5|R5
      .exact R5
      .omega
     subst ho;refine⟨.pointer (some ⟨b,off*sz+j.toNat*P.cellsOf e,none⟩),?_,?_⟩
     .simp[Instr.indexAt,asIntOf,run_underlying ht,h0,h1,cc hk,addr_add]
     .simp only[A',hid];rw[<-RM,hsz2,Nat.add_mul];simp[hz]
   .cases hv
  .cases hv
 .rename_i sz rows k j;split at hv
  .rename_i h0;obtain⟨rfl,h0⟩:=h0;split at hv
   .rename_i r hr;simp only[bb]at hv;subst hv;simp only[A']at hx hy;subst hy;obtain⟨a,cap,rfl,WD,Tw⟩:=hx;have C':j.toNat<rows.length:=by
     have:=mL.1 hr;exact this.1
    rcases Tw with rfl|⟨b,off,rfl,hb,RM,Qj⟩
    .simp at C'
    .obtain⟨h1,h2⟩:=Qj.get hr;refine⟨.pointer (some ⟨b,off+j.toNat*P.cellsOf e,none⟩),?_,?_⟩
     .have:j<(rows.length:Int):=by omega
      simp[Instr.indexAt,asIntOf,run_underlying ht,h0,this,cc hk,addr_add]
     .simp only[A'];refine⟨b,_,rfl,?_,.inr hb,(dR ..).2 h2⟩;cases hc:r.cells with
      |nil=>rw[hc]at h1;simp at h1;omega
      |cons c cs=>
       rw[hc]at h2;simp only[aQ]at h2;obtain⟨⟨y,hy,_⟩,_⟩:=h2;exact World.block_lt_of_cell? w _ hy
   .cases hv
  .cases hv
 .cases hv
def Bi{t e:TypeId}{n:Nat}(ht:P.underlying t=some (.array n e))(hk:bS P e=true)
 {x y v:V}{X Y:Value}(hx:A' I ow w x X)(hy:A' I ow w y Y)(hv:cQ (fg P e) n (P.cellsOf e) x y=some v):
 ∃z,(Instr.indexAt t X Y).run P w=.ok z w/\A' I ow w v z:=by
 unfold cQ at hv;split at hv
 .rename_i id i k kk j;split at hv
  .rename_i hc;simp only[bb]at hv;subst hv;simp only[A']at hx hy;subst hy;split at hx
   .rename_i b sz cap hid;obtain⟨rfl,RM⟩:=hx;refine⟨.pointer (some ⟨b,i*sz+k+j.toNat*P.cellsOf e,none⟩),?_,by simp only[A',hid];simp[Nat.add_assoc,RM]⟩;simp[Instr.indexAt,asIntOf,run_underlying ht,hc,cc hk,addr_add,Instr.sureAddr]
   .exact hx.elim
  .cases hv
 .rename_i u kk j;split at hv
  .rename_i hc;simp only[A']at hx hy;subst hy;obtain⟨b,off,rfl,C',hb,hr⟩:=hx;rw[dR]at hr;cases B':bx (fg P e) (j.toNat*P.cellsOf e) (P.cellsOf e) u.cells with
   |none=>simp[B']at hv
   |some y=>
    simp only[B',Option.map_some,bb]at hv;subst hv;refine⟨_,?_,B0 C' hb hr B'⟩;simp[Instr.indexAt,asIntOf,run_underlying ht,hc,cc hk,addr_add,Instr.sureAddr]
  .cases hv
 .cases hv
def Dt{t e:TypeId}{n:Nat}(ht:P.underlying t=some (.array n e))(hk:bS P e=true)
 {x y v:V}{X Y:Value}(hx:A' I ow w x X)(hy:A' I ow w y Y)(hv:fa (fg P e) n (P.cellsOf e) x y=some v):
 ∃z,(Instr.index t X Y).run P w=.ok z w/\A' I ow w v z:=by
 unfold fa at hv;split at hv
 .rename_i vs kk j;split at hv
  .rename_i hc;simp only[A']at hx hy;subst hy;obtain⟨vals,rfl,hr,h1⟩:=hx;obtain⟨z,hz,WE⟩:=yE (w:=w) hk hr h1 hv;exact⟨z,by simp[Instr.index,asIntOf,run_underlying ht,hc,cc hk,hz],WE⟩
  .cases hv
 .cases hv
def Es{t:TypeId}(ht:P.underlying t=some .string)
 {x y v:V}{X Y:Value}(hx:A' I ow w x X)(hy:A' I ow w y Y)(hv:fb x y=some v):
 ∃z,(Instr.index t X Y).run P w=.ok z w/\A' I ow w v z:=by
 unfold fb at hv;split at hv
 .rename_i s k j;split at hv
  .rename_i h0;split at hv
   .rename_i b hb;simp only[bb]at hv;subst hv;simp only[A']at hx hy;subst hx hy;have e:(⟨s.toArray⟩:ByteArray)[j.toNat]?=some b:=by
     have:=mL.1 hb;obtain⟨h1,h2⟩:=this;rw[getElem?_pos (h:=by simpa[ByteArray.size]using h1)];simp[<-h2,ByteArray.getElem_eq_getElem_data]
    exact⟨.int .u8 b.toNat,by simp[Instr.index,asIntOf,run_underlying ht,h0,e],by simp[A']⟩
   .cases hv
  .cases hv
 .cases hv
variable {P:Program} {I:Mu} {ow:Nat->Prop} {w:World}
def wb{w0:World}{QA:Nat->Prop}{U:ag}(RT:Sat w0 QA I U w){t:TypeId}(hk:bS P t=true)
 {x v:V}{X:Value}(hx:A' I (aB I U) w x X)(hv:bT U (fg P t) (P.cellsOf t) x=some v):
 ∃z,(Instr.loadAt t X).run P w=.ok z w/\A' I (aB I U) w v z:=by
 unfold bT at hv;split at hv
 .rename_i id i k;split at hv
  .rename_i ob QK;split at hv
   .rename_i r hr;have Ri:=RT.obj id ob QK;simp only[A']at hx;split at hx
    .rename_i b sz cap hid;obtain⟨rfl,RM⟩:=hx;rw[hid]at Ri;obtain⟨_,_,_,_,Qj⟩:=Ri.rows RM;obtain⟨hl,Ut⟩:=Qj.get hr;simp only[gY]at Ut;have hd:=Ut.drop k;cases RC:fg P t
     .simp only[RC,gj,if_false]at hv;obtain⟨z,hz,WE⟩:=iN (P:=P) hk hd (v:=v) (by simp only[RC,gj,if_false];simpa using hv);exact⟨z,by simp[Instr.loadAt,Instr.sureAddr,hz],WE⟩
     .simp only[RC,if_true]at hv;split at hv
      .rename_i hc;obtain⟨rfl,hlen⟩:=hc;simp only[bb]at hv;subst hv;obtain⟨z,hz,WE⟩:=iN (P:=P) hk hd (v:=.agg r.cells) (by simp[RC,hlen]);exact⟨z,by simpa[Instr.loadAt,Instr.sureAddr]using hz,WE⟩
      .split at hv
       .rename_i hle;simp only[bb]at hv;subst hv;obtain⟨z,hz,WE⟩:=iN (P:=P) hk (hd.take (P.cellsOf t)) (v:=.agg ((r.cells.drop k).take (P.cellsOf t)))
         (by rw[aE RC,aE (by simp;omega)])
        exact⟨z,by simp[Instr.loadAt,Instr.sureAddr,hz],WE⟩
       .cases hv
    .exact hx.elim
   .cases hv
  .cases hv
 .rename_i u;simp only[A']at hx;obtain⟨b,off,rfl,C',hb,hr⟩:=hx;rw[dR]at hr;cases RC:fg P t
  .simp only[RC,gj,if_false]at hv;have WG:u=v/\u.cells=[u]:=by
    cases u<;>simp_all [V.cells]
   obtain⟨rfl,hc⟩:=WG;rw[hc]at hr;obtain⟨z,hz,WE⟩:=iN (P:=P) hk hr (v:=u) (by simp[RC]);exact⟨z,by simp[Instr.loadAt,Instr.sureAddr,hz],WE⟩
  .simp only[RC,if_true]at hv;split at hv
   .rename_i hl;simp only[bb]at hv;subst hv;obtain⟨z,hz,WE⟩:=iN (P:=P) hk hr (v:=.agg u.cells) (by simp[RC,hl]);exact⟨z,by simp[Instr.loadAt,Instr.sureAddr,hz],WE⟩
   .cases hv
 .cases hv
def ml{d:Int}{o:Option V}{O:Option Value}(ho:match o,O with|none,none=>True|some v,some x=>A' I ow w v x|_,_=>False){j:Int}
 (hj:bI d o=some j):(o=none/\O=none/\j=d)\/∃k,o=some (.int k j)/\O=some (.int k j):=by
 unfold bI at hj;split at hj
 .simp only[bb]at hj;cases O with
  |none=>exact .inl ⟨rfl,rfl,hj.symm⟩
  |some x=>exact ho.elim
 .rename_i k j';simp only[bb]at hj;subst hj;cases O with
  |none=>exact ho.elim
  |some x=>
   simp only[A']at ho;subst ho;exact .inr ⟨k,rfl,rfl⟩
 .cases hj
def iZ(I:Mu)(ow:Nat->Prop)(w:World)(o:Option V)(O:Option Value):Prop:=
 match o,O with|none,none=>True|some v,some x=>A' I ow w v x|_,_=>False
def dq(k:IntKind)(i:Int)(y:Nat)(code:BoundsCode)(h0:0<=i)(h1:i<=y):
 (Instr.sliceBound (.int k i) y code).run P w=.ok i.toNat w:=by
 simp[Instr.sliceBound,asIntOf,h0,h1]
def fc{n c:Nat}{lo hi mx:Option V}{LO HI MX:Option Value}(h1:iZ I ow w lo LO)(h2:iZ I ow w hi HI)(h3:iZ I ow w mx MX)
 {l h m:Int}(hl:bI 0 lo=some l)(hh:bI n hi=some h)(hm:bI n mx=some m)(h0:0<=l)(h01:l<=h)(h12:h<=m)(h23:m<=n)(hnc:n<=c)
 (hmh:mx≠none->hi≠none)(s:Bool):
 ∃m',(Instr.sliceBounds s n c LO HI MX).run P w=.ok (l.toNat,h.toNat,m') w/\h.toNat<=m'/\m'<=c:=by
 rcases ml h3 hm with⟨_,rfl,rfl⟩|⟨km,rfl,rfl⟩
 .refine⟨c,?_,by omega,Qh _⟩;rcases ml h2 hh with⟨_,rfl,rfl⟩|⟨kh,_,rfl⟩<;>rcases ml h1 hl with⟨_,rfl,rfl⟩|⟨kl,_,rfl⟩<;>
   simp only[Instr.sliceBounds,Sem.run_bind,Sem.run_pure,Result.andThen_ok]
  .simp
  .rw[dq kl l n _ h0 (by omega)];simp
  .rw[dq kh h c _ (by omega) (by omega)];simp
  .rw[dq kh h c _ (by omega) (by omega)];simp only[Result.andThen_ok];rw[dq kl l h.toNat _ h0 (by omega)];simp
 .refine⟨m.toNat,?_,by omega,by omega⟩;rcases ml h2 hh with⟨rfl,rfl,rfl⟩|⟨kh,_,rfl⟩
  .exact absurd rfl (hmh (by simp))
  .rcases ml h1 hl with⟨_,rfl,rfl⟩|⟨kl,_,rfl⟩<;>
    simp only[Instr.sliceBounds,Sem.run_bind,Sem.run_pure,Result.andThen_ok]
   .rw[dq km m c _ (by omega) (by omega)];simp only[Result.andThen_ok];rw[dq kh h m.toNat _ (by omega) (by omega)];simp
   .rw[dq km m c _ (by omega) (by omega)];simp only[Result.andThen_ok];rw[dq kh h m.toNat _ (by omega) (by omega)];simp only[Result.andThen_ok];rw[dq kl l h.toNat _ h0 (by omega)];simp
def sK{w0:World}{QA:Nat->Prop}{U:ag}(RT:Sat w0 QA I U w){t e:TypeId}(ht:P.underlying t=some (.slice e))(hk:bS P e=true)
 {x v:V}{X:Value}(hx:A' I ow w x X){lo hi mx:Option V}{LO HI MX:Option Value}(h1:iZ I ow w lo LO)(h2:iZ I ow w hi HI)(h3:iZ I ow w mx MX)
 (hmh:mx≠none->hi≠none)(hv:cJ U (P.cellsOf e) x lo hi mx=some v):
 ∃z,(Instr.sliceAt t X LO HI MX).run P w=.ok z w/\A' I ow w v z:=by
 have RJ:∀(a:Option Addr) (n c:Nat) (r:Nat×Nat×Nat),(Instr.sliceBounds true n c LO HI MX).run P w=.ok r w->
  (Instr.sliceAt t (.slice a n c) LO HI MX).run P w=.ok (.slice (if r.2.2=r.1 then a else a.map (·.add (r.1*P.cellsOf e))) (r.2.1-r.1) (r.2.2-r.1)) w:=by
  intro a n c r hr;simp[Instr.sliceAt,Instr.slice,run_underlying ht,hr,cc hk]
 cases x with
 |own id off len=>
  simp only[cJ]at hv;split at hv
  .rename_i l h m hl hh hm;split at hv
   .rename_i hc;obtain⟨c0,c1,c2,c3,c4⟩:=hc;simp only[bb]at hv;subst hv;simp only[A']at hx;split at hx
    .exact hx.elim
    .rename_i hid;obtain⟨rfl,rfl,rfl⟩:=hx;obtain⟨m',hr,hm1,hm2⟩:=fc (P:=P) (c:=0) h1 h2 h3 hl hh hm c0 c1 c2 c3 (Qh _) hmh true;refine⟨_,RJ none 0 0 _ hr,?_⟩;simp only[A',hid];have:h.toNat=0:=by omega
     have:l.toNat=0:=by omega
     simp_all;omega
    .rename_i b sz cap hid;obtain⟨o,c,rfl,XI,Yu,R5,hz⟩:=hx;obtain⟨m',hr,hm1,hm2⟩:=fc (P:=P) (c:=c) h1 h2 h3 hl hh hm c0 c1 c2 c3 XI hmh true;refine⟨_,RJ _ len c _ hr,?_⟩;have hsz':sz=P.cellsOf e:=by
      cases QK:U id with
      |none=>simp[gI,QK]at c4
      |some ob=>
       simp only[gI,QK,beq_iff_eq]at c4;have:=RT.obj id ob QK;rw[hid]at this;exact(this.rows hz).1.symm.trans c4
     simp only[A',hid];by_cases e':m'=l.toNat
     .rw[aE e'];refine⟨o,m'-l.toNat,rfl,by omega,by omega,?_,hz⟩;by_cases h0:off+l.toNat=0
      .left;have h1:off=0:=by omega
       rcases R5 with R5|R5
       .rw[h0,R5,h1]
       .exact absurd h1 R5.2
      .exact .inr ⟨by omega,h0⟩
     .rw[aF e'];simp only[Option.map_some,addr_add];refine⟨o+l.toNat*P.cellsOf e,m'-l.toNat,rfl,by omega,by omega,.inl ?_,hz⟩;rcases R5 with R5|R5
      .rw[R5,hsz',Nat.add_mul]
      .omega
   .cases hv
  .cases hv
 |sl sz rows=>
  simp only[cJ]at hv;split at hv
  .rename_i l h m hl hh hm;split at hv
   .rename_i hc;obtain⟨c0,c1,c2,c3,rfl⟩:=hc;simp only[bb]at hv;subst hv;simp only[A']at hx;obtain⟨a,cap,rfl,WD,Tw⟩:=hx;obtain⟨m',hr,hm1,hm2⟩:=fc (P:=P) (c:=cap) h1 h2 h3 hl hh hm c0 c1 c2 c3 WD hmh true;refine⟨_,RJ _ _ cap _ hr,?_⟩;simp only[A'];have hlen:((rows.drop l.toNat).take (h.toNat-l.toNat)).length=h.toNat-l.toNat:=by simp;omega
    refine⟨_,_,by rw[hlen],by omega,?_⟩;by_cases e':m'=l.toNat
    .left;have:h.toNat-l.toNat=0:=by omega
     rw[this];simp
    .rw[aF e'];rcases Tw with rfl|⟨b,off,rfl,hb,hs,Qj⟩
     .left;simp
     .exact .inr ⟨b,off+l.toNat*P.cellsOf e,by simp[addr_add],hb,hs,(Qj.drop _).take _⟩
   .cases hv
  .cases hv
 |aL=>
  simp only[cJ]at hv;split at hv
  .rename_i l h m hl hh hm;split at hv
   .rename_i hc;obtain⟨rfl,rfl,rfl⟩:=hc;simp only[bb]at hv;subst hv;simp only[A']at hx;subst hx;obtain⟨m',hr,hm1,hm2⟩:=fc (P:=P) (n:=0) (c:=0) h1 h2 h3 hl hh hm (by omega) (by omega) (by omega) (by simp) (Qh _) hmh true;refine⟨_,RJ none 0 0 _ hr,?_⟩;simp[A'];omega
   .cases hv
  .cases hv
 |_=>simp[cJ]at hv
def tR{t:TypeId}(ht:P.underlying t=some .string){x v:V}{X:Value}(hx:A' I ow w x X){lo hi:Option V}{LO HI:Option Value}(h1:iZ I ow w lo LO)(h2:iZ I ow w hi HI)
 (hv:cy x lo hi=some v):
 ∃z,(Instr.sliceAt t X LO HI none).run P w=.ok z w/\A' I ow w v z:=by
 unfold cy at hv;split at hv
 case h_2=>cases hv
 rename_i s;split at hv
 .rename_i l h hl hh;split at hv
  .rename_i hc;obtain⟨c0,c1,c2⟩:=hc;simp only[bb]at hv;subst hv;simp only[A']at hx;subst hx;have RM:(⟨s.toArray⟩:ByteArray).size=s.length:=by simp[ByteArray.size]
   obtain⟨m',hr,hm1,hm2⟩:=fc (P:=P) (w:=w) (n:=s.length) (c:=s.length) (mx:=none) (MX:=none) h1 h2 (by simp[iZ]) hl hh (m:=s.length) (by simp[bI]) c0 c1 c2 (Int.le_refl _) (Qh _) (by simp) false;refine⟨.string ((⟨s.toArray⟩:ByteArray).extract l.toNat h.toNat),?_,?_⟩
   .simp[Instr.sliceAt,Instr.slice,run_underlying ht,RM,hr]
   .simp only[A'];congr 1;apply ByteArray.ext;simp[ByteArray.data_extract]
  .cases hv
 .cases hv
def bK{F:Fr}{st:St}{a:Act}(hs:cI F I st a w)(x:Operand):A' I (aB I st.U) w ((cx F.n x).ev st.s) (a.eval x):=by
 cases x with
 |tmp t=>
  by_cases ht:t<F.n
  .simp only[cx,Act.eval,aE ht];exact hs.slot t ht
  .have hle:a.tmps.size<=t:=by rw[hs.size];exact Nat.le_of_not_lt ht
   simp only[cx,Act.eval,aF ht,VX.ev,A'];exact⟨[],by rw[SW,Array.getElem?_eq_none hle];rfl,by simp[aq]⟩
 |const v=>exact j9 v
 |global g=>simp[cx,VX.ev,Act.eval,A']
 |func f=>simp[cx,VX.ev,Act.eval,A',aq]
def mZ{F:Fr}{st:St}{a:Act}(hs:cI F I st a w):∀(l:List Operand),aq I (aB I st.U) w ((l.map (cx F.n)).map (·.ev st.s)) (l.map a.eval)
 |[]=>by simp[aq]
 |x::l=>by simp only[dO,aq];exact⟨_,_,rfl,bK hs x,mZ hs l⟩
def tB{F:Fr}{st:St}{a:Act}(hs:cI F I st a w)(o:Option Operand):iZ I (aB I st.U) w ((o.map (cx F.n)).map (·.ev st.s)) (o.map a.eval):=by
 cases o with
 |none=>simp[iZ]
 |some x=>simpa[iZ]using bK hs x
def aq.append:∀{vs us:List V} {l m:List Value},aq I ow w vs l->aq I ow w us m->aq I ow w (vs++us) (l++m)
 |[],us,l,m,h,h'=>by simp[aq]at h;subst h;simpa using h'
 |v::vs,us,l,m,h,h'=>by
  simp only[aq]at h;obtain⟨x,xs,rfl,h1,h2⟩:=h;simp only[List.cons_append,aq];exact⟨x,xs++m,rfl,h1,h2.append h'⟩
def A'.one{v:V}{x:Value}(h:A' I ow w v x)(hs:v.stays=true)(ha:∀vs,v≠.agg vs):x.oneCell'=true:=by
 cases v<;>simp only[A']at h<;>(try simp[V.stays]at hs)
 case agg vs=>exact absurd rfl (ha vs)
 case sl=>obtain⟨a,c,rfl,_⟩:=h;rfl
 case own=>
  split at h
  .exact h.elim
  .rw[h.1];rfl
  .obtain⟨o,c,rfl,_⟩:=h;rfl
 case ptr=>
  split at h
  .rw[h.1];rfl
  .exact h.elim
 case gp=>
  split at h
  .rw[h];rfl
  .exact h.elim
 case yl=>
  split at h
  .rw[h];rfl
  .exact h.elim
 case mp=>
  split at h
  .rw[h];rfl
  .exact h.elim
 case rp=>obtain⟨b,o,rfl,_⟩:=h;rfl
 case fn=>obtain⟨vals,rfl,_⟩:=h;rfl
 case bm=>obtain⟨vals,rfl,_⟩:=h;rfl
 case iface=>obtain⟨y,rfl,_⟩:=h;rfl
 all_goals first|(subst h;rfl)|(subst h;exact hs)
def A'.cells{v:V}{x:Value}(h:A' I ow w v x)(hs:v.stays=true):aq I ow w v.cells x.cells.toList/\∀u∈x.cells.toList,u.oneCell'=true:=by
 by_cases ha:∃vs,v=.agg vs
 .obtain⟨vs,rfl⟩:=ha;simp only[A']at h;obtain⟨vals,rfl,h1,h2⟩:=h;exact⟨by simpa[V.cells,Value.cells]using h1,by simpa[Value.cells]using h2⟩
 .have h1:=h.one hs (λvs e=>ha ⟨vs,e⟩);have hc:x.cells=#[x]:=by cases x<;>simp_all [Value.cells,Value.oneCell']
  have hv:v.cells=[v]:=pT h h1;rw[hc,hv];simp only[aq];exact⟨⟨x,[],rfl,h,rfl⟩,by simpa using h1⟩
def A'.jk{v:V}{x:Value}(h:A' I ow w v x)(hs:v.stays=true):x.cells.size=v.cells.length:=by
 have:=(h.cells hs).1.length;simpa using this
def y8(off:Nat):∀(vs:List Value) (k:Nat) (cs:Array Value),off+k+vs.length<=cs.size->
 ((vs.zipIdx k).foldl (λcs (p:Value×Nat)=>cs.setIfInBounds (off+p.2) p.1) cs).toList=bJ cs.toList (off+k) vs
 |[],k,cs,_=>by simp[bJ]
 |v::vs,k,cs,h=>by
  simp only[Rc]at h;simp only[List.zipIdx_cons,iY];rw[y8 off vs (k+1) _ (by simp;omega)];have hk:off+k<cs.toList.length:=by simp;omega
  simp only[bJ,Array.toList_setIfInBounds,Rc];rw[List.set_eq_take_append_cons_drop,aE hk];have e1:(cs.toList.take (off+k)).length=off+k:=by simp;omega
  rw[show off+(k+1)=(cs.toList.take (off+k)).length+1 by omega,List.take_length_add_append,show(cs.toList.take (off+k)).length+1+vs.length=(cs.toList.take (off+k)).length+(1+vs.length) by omega,
   List.drop_length_add_append]
  simp[List.drop_drop,Eu,Nat.add_left_comm,Nat.add_assoc]
def ky{α:Type}(l:List α)(off:Nat)(xs:List α)(h:off+xs.length<=l.length):(bJ l off xs).length=l.length:=by
 simp[bJ];omega
def mX(place:Nat->Option (Nat×Nat)):∀(parts:List (Nat×Value)) (cells:Array Value),
 (∀p∈parts,∃off sz,place p.1=some (off,sz)/\p.2.cells.size=sz/\off+sz<=cells.size)->
 ∃cs,Instr.fill place cells parts=some cs/\cs.size=cells.size/\cs.toList=parts.foldl (λl p=>bJ l (((place p.1).map (·.1)).getD 0) p.2.cells.toList) cells.toList
 |[],cells,_=>⟨cells,rfl,rfl,rfl⟩
 |(i,v)::rest,cells,h=>by
  obtain⟨off,sz,h1,h2,h3⟩:=h (i,v) (by simp);simp only at h1 h2;have hs:(v.cells.zipIdx.foldl (λcs (p:Value×Nat)=>cs.setIfInBounds (off+p.2) p.1) cells).toList=bJ cells.toList off v.cells.toList:=by
   have:=y8 off v.cells.toList 0 cells (by simp;omega);rw[<-Array.foldl_toList,Array.toList_zipIdx];simpa using this
  have RM:(v.cells.zipIdx.foldl (λcs (p:Value×Nat)=>cs.setIfInBounds (off+p.2) p.1) cells).size=cells.size:=by
   have:=congrArg List.length hs;rw[ky _ _ _ (by simp;omega)]at this;simpa using this
  obtain⟨cs,h4,h5,h6⟩:=mX place rest _ (λp hp=>by
   obtain⟨Uu,Sr,g1,g2,g3⟩:=h p (by simp[hp]);exact⟨Uu,Sr,g1,g2,by rw[RM];exact g3⟩)
  refine⟨cs,?_,by rw[h5,RM],?_⟩
  .simp only[Instr.fill,h1];rw[aF (by simp;omega)];exact h4
  .rw[h6,hs];simp[h1]
def zg{b:Bool}{x v:V}{X:Value}(hx:A' I ow w x X)(hv:dY b x=some v){t:TypeId}(ty:TypeId)
 (ht:if b then P.underlying t=some .string else∃e,P.underlying t=some (.slice e)):
 ∃z,(Builtin.len_ #[t] ty #[X]).run P w=.ok z w/\A' I ow w v z:=by
 cases b
 .simp only[gj,if_false]at ht;obtain⟨e,ht⟩:=ht;have RJ:∀a n c,(Builtin.len_ #[t] ty #[.slice a n c]).run P w=.ok (.int .i64 n) w:=λa n c=>by simp[Builtin.len_,run_underlying ht,goInt]
  cases x<;>simp only[dY,reduceCtorEq,bb]at hv<;>subst hv<;>simp only[A']at hx
  .subst hx;exact⟨_,RJ _ _ _,by simp[A']⟩
  .obtain⟨a,cap,rfl,_⟩:=hx;exact⟨_,RJ _ _ _,by simp[A']⟩
  .split at hx
   .exact hx.elim
   .obtain⟨rfl,_,rfl⟩:=hx;exact⟨_,RJ _ _ _,by simp[A']⟩
   .obtain⟨o,c,rfl,_⟩:=hx;exact⟨_,RJ _ _ _,by simp[A']⟩
 .simp only[if_true]at ht;cases x<;>simp only[dY,reduceCtorEq,bb]at hv;subst hv;simp only[A']at hx;subst hx;exact⟨_,by simp[Builtin.len_,run_underlying ht,goInt];rfl,by simp[A',ByteArray.size]⟩
def eu{t:TypeId}{i:TypeInfo}{z:Value}(h:zeroOf P t=some (i,z)):P.info? t=some i/\i.zero=some z/\bS P t=true/\z.cells.size=i.size/\
 (∀u∈z.cells.toList,u.oneCell'=true)/\i.size=P.cellsOf t:=by
 unfold zeroOf at h;split at h
 .rename_i i' hi;split at h
  .rename_i z' hz;split at h
   .rename_i hc;simp only[bb,Prod.mk.injEq]at h;obtain⟨rfl,rfl⟩:=h;simp only[Ba,beq_iff_eq,eQ]at hc;exact⟨hi,hz,hc.1.1,hc.1.2,hc.2,by simp[Program.cellsOf,hi]⟩
   .cases h
  .cases h
 .cases h
def dn{t:TypeId}{i:TypeInfo}{z:Value}(h:zeroOf P t=some (i,z)):(zeroValue t).run P w=.ok z w:=by
 obtain⟨h1,h2,_⟩:=eu h;simp[zeroValue,typeInfo,h1,h2]
def ng{t:TypeId}(h:nQ P t=true):∃i,P.underlying t=some (.struct #[])/\P.info? t=some i/\i.size=0/\i.zero=some (.agg #[]):=by
 unfold nQ at h;split at h
 .rename_i fs i h1 h2;simp only[Ba,beq_iff_eq]at h;obtain⟨h3,h4,h5⟩:=h;split at h5
  .rename_i z hz;have e1:fs=#[]:=Array.eq_empty_of_size_eq_zero h3;have e2:z=#[]:=Array.eq_empty_of_size_eq_zero (by simpa using h5);exact⟨i,by rw[h1,e1],h2,h4,by rw[hz,e2]⟩
  .cases h5
 .cases h
def qe{t:TypeId}(h:nQ P t=true):(zeroValue t).run P w=.ok (.agg #[]) w:=by
 obtain⟨i,_,h1,_,h2⟩:=ng h;simp[zeroValue,typeInfo,h1,h2]
def BZ{t:TypeId}(h:nQ P t=true):(Instr.build t #[]).run P w=.ok (.agg #[]) w:=by
 obtain⟨i,h0,h1,_,h2⟩:=ng h;simp[Instr.build,qe h,run_underlying h0,Value.cells,Instr.fill]
def aq.bJ{vs us:List V}{l m:List Value}(off:Nat)(h:aq I ow w vs l)(h':aq I ow w us m):aq I ow w (bJ vs off us) (Vc.bJ l off m):=by
 unfold Vc.bJ;rw[h'.length];exact((h.take off).append h').append (h.drop _)
def oM{α:Type}(off sz:α->Nat)(v:α->V)(x:α->Value):∀{l:List α} {zero cells:List V} {zs:List Value},
 cP zero (l.map λp=>(off p,sz p,v p))=some cells->aq I ow w zero zs->(∀p∈l,A' I ow w (v p) (x p))->
 aq I ow w cells (l.foldl (λacc p=>Vc.bJ acc (off p) (x p).cells.toList) zs)/\
 ((∀u∈zs,u.oneCell'=true)->∀u∈l.foldl (λacc p=>Vc.bJ acc (off p) (x p).cells.toList) zs,u.oneCell'=true)/\
 ∀p∈l,(x p).cells.size=sz p/\off p+sz p<=zero.length
 |[],zero,cells,zs,h,hz,hp=>by
  simp only[List.map_nil,cP,bb]at h;subst h;simpa using hz
 |p::r,zero,cells,zs,h,hz,hp=>by
  simp only[dO,cP]at h;split at h
  .rename_i hc;have h1:=hp p (by simp);obtain⟨g1,g2⟩:=h1.cells hc.2.1;have hl:=h1.jk hc.2.1;obtain⟨ih1,ih2,ih3⟩:=oM off sz v x h (hz.bJ (off p) g1) (λq hq=>hp q (by simp[hq]));refine⟨by simpa using ih1,λh0=>?_,λq hq=>?_⟩
   .refine ih2 ?_;intro u hu;simp only[Vc.bJ,dM]at hu;rcases hu with(hu|hu)|hu
    .exact h0 u (qw hu)
    .exact g2 u hu
    .exact h0 u (List.mem_of_mem_drop hu)
   .rcases cD.1 hq with rfl|hq
    .exact⟨by rw[hl,hc.1],hc.2.2⟩
    .have:=ih3 q hq;rw[ky _ _ _ (by omega)]at this;exact this
  .cases h
def run_places(fs:Array Field)(h:∀f∈fs.toList,bS P f.type=true):
 (fs.mapM (λf=>Functor.map (Prod.mk f.offset) (sizeOf f.type):Field->Sem (Nat×Nat))).run P w=.ok (fs.map λf=>(f.offset,P.cellsOf f.type)) w:=by
 rw[Array.mapM_eq_mapM_toList];have:∀(l:List Field),(∀f∈l,bS P f.type=true)->
  (l.mapM (λf=>Functor.map (Prod.mk f.offset) (sizeOf f.type):Field->Sem (Nat×Nat))).run P w=.ok (l.map λf=>(f.offset,P.cellsOf f.type)) w:=by
  intro l
  induction l with
  |nil=>intro _;simp
  |cons f l ih=>
   intro hl;simp[cc (hl f (by simp)),ih (λx hx=>hl x (by simp[hx]))]
 simp[this fs.toList (by simpa using h)];apply Array.ext';simp
def run_build{F:Fr}{st:St}{a:Act}(hs:cI F I st a w){t:TypeId}{i:TypeInfo}{z:Array Value}{fs:Array Field}(hz:zeroOf P t=some (i,.agg z))
 (Rr:P.underlying t=some (.struct fs)){parts:Array (Nat×Operand)}(hk:(∀f∈fs.toList,bS P f.type=true)/\∀p∈parts.toList,p.1<fs.size){cells:List V}
 (hb:cP (z.toList.map cellOf) ((parts.toList.map λp=>(((fs[p.1]?).map (·.offset)).getD 0,((fs[p.1]?).map λf=>P.cellsOf f.type).getD 0,cx F.n p.2)).map λp=>(p.1,p.2.1,p.2.2.ev st.s))=some cells):
 ∃y,(Instr.build t (parts.map λ(i,x)=>(i,a.eval x))).run P w=.ok y w/\A' I (aB I st.U) w (.agg cells) y:=by
 obtain⟨_,_,_,_,Re,_⟩:=eu hz;rw[List.map_map]at hb;obtain⟨g1,g2,g3⟩:=oM (I:=I) (ow:=aB I st.U) (w:=w) (λp:Nat×Operand=>((fs[p.1]?).map (·.offset)).getD 0) (λp=>((fs[p.1]?).map λf=>P.cellsOf f.type).getD 0)
  (λp=>(cx F.n p.2).ev st.s) (λp=>a.eval p.2) hb (eR z.toList) (λp _=>bK hs p.2)
 obtain⟨cs,e1,e2,e3⟩:=mX (λk=>(fs.map λf=>(f.offset,P.cellsOf f.type))[k]?) ((parts.map λ(i,x)=>(i,a.eval x)).toList) z (by
  intro p hp;simp only[Array.toList_map,eI]at hp;obtain⟨q,hq,rfl⟩:=hp;have C':=hk.2 q hq;obtain⟨q1,q2⟩:=g3 q hq;have QG:fs[q.1]?=some fs[q.1]:=by simp[C']
  simp only[QG,Option.map_some,Option.getD_some]at q1 q2;exact⟨fs[q.1].offset,P.cellsOf fs[q.1].type,by simp[QG],q1,by simpa using q2⟩)
 refine⟨.agg cs,?_,?_⟩
 .simp only[Array.toList_map,Array.getElem?_map]at e1;simp[Instr.build,dn hz,run_underlying Rr,run_places fs (by simpa using hk.1),Value.cells];rw[e1];rfl
 .have VQ:cs.toList=parts.toList.foldl (λacc p=>Vc.bJ acc (((fs[p.1]?).map (·.offset)).getD 0) (a.eval p.2).cells.toList) z.toList:=by
   rw[e3,Array.toList_map,List.foldl_map];congr 1;funext acc p;congr 1;cases hp:fs[p.1]?<;>simp[hp]
  simp only[A'];refine⟨cs.toList,rfl,?_,?_⟩
  .rw[VQ];exact g1
  .rw[VQ];exact g2 (by simpa[Value.cells]using Re)
def BH{F:Fr}{st:St}{a:Act}(hs:cI F I st a w){t e:TypeId}{k:Nat}{i:TypeInfo}{z:Array Value}(hz:zeroOf P t=some (i,.agg z))
 (Rr:P.underlying t=some (.array k e)){parts:Array (Nat×Operand)}(hk:bS P e=true){cells:List V}
 (hb:cP (z.toList.map cellOf) ((parts.toList.map λp=>(p.1*P.cellsOf e,P.cellsOf e,cx F.n p.2)).map λp=>(p.1,p.2.1,p.2.2.ev st.s))=some cells):
 ∃y,(Instr.build t (parts.map λ(i,x)=>(i,a.eval x))).run P w=.ok y w/\A' I (aB I st.U) w (.agg cells) y:=by
 obtain⟨_,_,_,_,Re,_⟩:=eu hz;rw[List.map_map]at hb;obtain⟨g1,g2,g3⟩:=oM (I:=I) (ow:=aB I st.U) (w:=w) (λp:Nat×Operand=>p.1*P.cellsOf e) (λ_=>P.cellsOf e)
  (λp=>(cx F.n p.2).ev st.s) (λp=>a.eval p.2) hb (eR z.toList) (λp _=>bK hs p.2)
 obtain⟨cs,e1,e2,e3⟩:=mX (λi=>some (i*P.cellsOf e,P.cellsOf e)) ((parts.map λ(i,x)=>(i,a.eval x)).toList) z (by
  intro p hp;simp only[Array.toList_map,eI]at hp;obtain⟨q,hq,rfl⟩:=hp;obtain⟨q1,q2⟩:=g3 q hq;exact⟨q.1*P.cellsOf e,P.cellsOf e,rfl,q1,by simpa using q2⟩)
 refine⟨.agg cs,?_,?_⟩
 .simp only[Array.toList_map]at e1;simp[Instr.build,dn hz,run_underlying Rr,cc hk,Value.cells];rw[e1];rfl
 .have VQ:cs.toList=parts.toList.foldl (λacc p=>Vc.bJ acc (p.1*P.cellsOf e) (a.eval p.2).cells.toList) z.toList:=by
   rw[e3,Array.toList_map,List.foldl_map];rfl
  simp only[A'];refine⟨cs.toList,rfl,?_,?_⟩
  .rw[VQ];exact g1
  .rw[VQ];exact g2 (by simpa[Value.cells]using Re)
def BN(msg:String)(vs:List V)(bs:List UInt8)(l:List Value)(hb:bytesOf vs=some bs)(hr:aq I ow w vs l)(s0:ByteArray):
 (forIn l s0 (λc s=>match c with
   |.int .u8 n=>pure (ForInStep.yield (s.push (UInt8.ofNat n.toNat)))
   |_=>(do stuck msg;pure (ForInStep.yield s))):Sem ByteArray).run P w=.ok ⟨s0.data++bs.toArray⟩ w:=by
 induction vs generalizing bs l s0 with
 |nil=>
  simp only[bytesOf,bb]at hb;simp only[aq]at hr;subst hb hr;simp
 |cons v vs ih=>
  simp only[bytesOf]at hb;split at hb
  .rename_i b l' h1 h2;simp only[bb]at hb;subst hb;simp only[aq]at hr;obtain⟨x,xs,rfl,h3,h4⟩:=hr;unfold byteOf at h1;split at h1
   .rename_i n;simp only[bb]at h1;simp only[A']at h3;subst h3 h1;simp only[List.forIn_cons,Sem.run_bind,Sem.run_pure,Result.andThen_ok];rw[ih l' xs h2 h4];simp[ByteArray.push]
   .cases h1
  .cases hb
def qZ:∀{rows:List V} {bs:List UInt8} {b off:Nat},aX I ow w rows b off 1->bytesOf rows=some bs->
 ∃xs,aq I ow w rows xs/\xs.length=rows.length/\∀(j:Nat) u,xs[j]?=some u->w.cell? ⟨b,off+j,none⟩=some u
 |[],_,_,_,_,_=>⟨[],by simp[aq],rfl,by simp⟩
 |v::vs,bs,b,off,h,hb=>by
  simp only[bytesOf]at hb;split at hb
  .rename_i c l h1 h2;simp only[aX]at h;obtain⟨_,h3,h4⟩:=h;have h5:∃x,w.cell? ⟨b,off,none⟩=some x/\A' I ow w v x:=by
    unfold byteOf at h1;split at h1
    .simp only[bt]at h3;obtain⟨x,g1,g2,_⟩:=h3;exact⟨x,g1,g2⟩
    .cases h1
   obtain⟨x,g1,g2⟩:=h5;obtain⟨xs,i1,i2,i3⟩:=qZ h4 h2;refine⟨x::xs,by simp only[aq];exact⟨x,xs,rfl,g2,i1⟩,by simp[i2],λj u hu=>?_⟩;cases j with
   |zero=>simp at hu;subst hu;exact g1
   |succ j=>
    have:=i3 j u (by simpa using hu)
    rwa [show off+1+j=off+(j+1) by omega]at this
  .cases hb
def BJ{w0:World}{QA:Nat->Prop}{U:ag}(RT:Sat w0 QA I U w){x v:V}{X:Value}(hx:A' I (aB I U) w x X)(hv:cX U x=some v):
 ∃z,(Conv.bytesToString X).run P w=.ok z w/\A' I (aB I U) w v z:=by
 unfold cX at hv;split at hv
 .simp only[A']at hx;simp only[bb]at hv;subst hx hv;exact⟨_,rfl,by simp only[A'];rfl⟩
 .rename_i id off len;split at hv
  .rename_i ob QK;split at hv
   .rename_i hc;simp only[Zq8]at hv;obtain⟨bs,hb,rfl⟩:=hv;have Ri:=RT.obj id ob QK;simp only[A']at hx;split at hx
    .exact hx.elim
    .obtain⟨rfl,_,rfl⟩:=hx;simp only[List.take_zero,bytesOf,bb]at hb;subst hb;exact⟨_,rfl,by simp only[A'];rfl⟩
    .rename_i b Tx cap hid;obtain⟨o,c,rfl,XI,Yu,R5,hz⟩:=hx;rw[hid]at Ri;obtain⟨g1,g2,g3,g4,g5⟩:=Ri.rows hz;by_cases h0:len=0
     .subst h0;simp only[List.take_zero,bytesOf,bb]at hb;subst hb;exact⟨_,by simp[Conv.bytesToString,loadCells,loadCellsFrom];rfl,by simp only[A'];rfl⟩
     .have ho:o=off*Tx:=by
       rcases R5 with R5|R5
       .exact R5
       .omega
      have hs:Tx=1:=by omega
      subst ho;subst hs;have hr:=(g5.drop off).take len;rw[gY,Nat.mul_one]at hr;obtain⟨xs,i1,i2,i3⟩:=qZ hr hb;have hl:xs.length=len:=by rw[i2];simp;omega
      refine⟨.string ⟨bs.toArray⟩,?_,by simp only[A']⟩;have hld:=run_loadCells_list (P:=P) w ⟨b,off,none⟩ xs (λj u hu=>by rw[addr_add];exact i3 j u hu);rw[hl]at hld;have hp:=λmsg=>BN (P:=P) msg _ bs xs hb i1 .empty;simp only[Conv.bytesToString,Nat.mul_one,Sem.run_bind,hld,Result.andThen_ok];rw[List.forIn_toArray];rw[show(.string ⟨bs.toArray⟩:Value)=.string ⟨ByteArray.empty.data++bs.toArray⟩ by rw[show ByteArray.empty.data=#[]from rfl,Array.empty_append]];have key:∀r:Result ByteArray,r=.ok ⟨ByteArray.empty.data++bs.toArray⟩ w->(r.andThen λa w'=>Sem.run P (pure (Value.string a)) w')=.ok (.string ⟨ByteArray.empty.data++bs.toArray⟩) w:=by
       rintro r rfl;simp
      exact key _ (hp _)
   .cases hv
  .cases hv
 .cases hv
def rH{m:Bool}{x y v:V}{X Y:Value}(ts:Array TypeId)(t:TypeId)(hx:A' I ow w x X)(hy:A' I ow w y Y)(hv:cF m x y=some v):
 ∃z,(if m then(do pure (Next.value (<-Builtin.max_ ts t #[X,Y])):Sem Next)else(do pure (Next.value (<-Builtin.min_ ts t #[X,Y])))).run P w=.ok (.value z) w/\A' I ow w v z:=by
 unfold cF at hv;split at hv
 .rename_i k a k' b;split at hv
  .simp only[A']at hx hy;simp only[bb]at hv;subst hv hx hy;cases m
   .exact⟨_,by simp[Builtin.min_,Builtin.min2];rfl,by simp[A']⟩
   .exact⟨_,by simp[Builtin.max_,Builtin.max2];rfl,by simp[A']⟩
  .cases hv
 .cases hv
def xz{x y:V}{X Y:Value}{b:Bool}(hx:A' I ow w x X)(hy:A' I ow w y Y)(hv:cO x y=some b){t:TypeId}(ht:Gi P t=true)(d:Nat)
 (Vj:(∃k,P.underlying t=some (.int k))->∃k n,x=.int k n)(htb:P.underlying t=some .bool->∃c,x=.bool c)(Um:P.underlying t=some .string->∃c,x=.str c):
 (Op.equalIn (d+1) t X Y).run P w=.ok b w:=by
 unfold Gi at ht;split at ht
 .rename_i k hk;obtain⟨k1,n1,rfl⟩:=Vj ⟨k,hk⟩;cases y<;>simp only[cO,reduceCtorEq]at hv;split at hv
  .rename_i Ud;simp only[bb]at hv;simp only[A']at hx hy;subst hx hy hv Ud;rw[run_equalIn_int w d t _ _ _ _ hk,pI]
  .cases hv
 .rename_i hk;obtain⟨c,rfl⟩:=htb hk;cases y<;>simp only[cO,reduceCtorEq,bb]at hv;simp only[A']at hx hy;subst hx hy hv;exact run_equalIn_bool' w d t _ _ hk
 .rename_i hk;obtain⟨c,rfl⟩:=Um hk;cases y<;>simp only[cO,reduceCtorEq,bb]at hv;simp only[A']at hx hy;subst hx hy hv;rw[run_equalIn_string w d t _ _ hk];simp[ByteArray.toList_eq,pI]
 .cases ht
def jO(P:Program)(t:TypeId)(x:V):Bool:=match P.underlying t,x with
 |some (.int _),.int _ _=>true
 |some .bool,.bool _=>true
 |some .string,.str _=>true
 |_,_=>false
def mP{xs ys:List Value}{vs us:List V}(hx:aq I ow w vs xs)(hy:aq I ow w us ys)(d:Nat):∀(fl:List Field) (k:Nat) (b:Bool),
 fl.map (·.offset)=List.range' k fl.length->(∀f∈fl,Gi P f.type=true/\f.name≠"_"/\bS P f.type=true)->(∀(j:Nat) f v,fl[j]?=some f->vs[k+j]?=some v->jO P f.type v=true)->
 vs.length=k+fl.length->us.length=k+fl.length->
 bY (vs.drop k) (us.drop k)=some b->(Op.eqFields (d+1) ⟨xs⟩ ⟨ys⟩ fl).run P w=.ok b w
 |[],k,b,_,_,_,h1,h2,h=>by
  simp only[List.length_nil,Nat.add_zero]at h1 h2;rw[List.drop_of_length_le (by omega),List.drop_of_length_le (by omega)]at h;simp only[bY,bb]at h;subst h;simp[Op.eqFields]
 |f::fl,k,b,ho,hf,hc,h1,h2,h=>by
  simp only[Rc]at h1 h2;simp only[dO,Rc,List.range'_succ,List.cons.injEq]at ho;obtain⟨e1,e2⟩:=ho;obtain⟨f1,f2,f3⟩:=hf f (by simp);have hkv:k<vs.length:=by omega
  have hku:k<us.length:=by omega
  rw[gT hkv,gT hku]at h;simp only[bY]at h;split at h
  .rename_i c b' hcell Tw;simp only[bb]at h;obtain⟨X,hX,hrX⟩:=hx.get (i:=k) (by rw[SQ hkv]);obtain⟨Y,hY,hrY⟩:=hy.get (i:=k) (by rw[SQ hku]);have RC:fg P f.type=false:=by
    unfold Gi at f1;unfold fg;split at f1<;>simp_all
   have hp:∀(l:List Value) (Z:Value),l[k]?=some Z->(part f.type ⟨l⟩ f.offset).run P w=.ok Z w:=by
    intro l Z hZ;have:(⟨l⟩:Array Value)[k]?=some Z:=by simpa using hZ
    simp[part,p9 (dD f3).1,RC,e1,this]
   have Rj:=hc 0 f _ (by simp) (by rw[Nat.add_zero,SQ hkv]);have heq:=xz (P:=P) hrX hrY hcell f1 d
    (by rintro⟨kk,Ud⟩;unfold jO at Rj;rw[Ud]at Rj;generalize vs[k]=z at*;cases z<;>simp at Rj;exact⟨_,_,rfl⟩)
    (by intro Ud;unfold jO at Rj;rw[Ud]at Rj;generalize vs[k]=z at*;cases z<;>simp at Rj;exact⟨_,rfl⟩)
    (by intro Ud;unfold jO at Rj;rw[Ud]at Rj;generalize vs[k]=z at*;cases z<;>simp at Rj;exact⟨_,rfl⟩)
   simp only[Op.eqFields,f2,ne_eq,not_false_eq_true,if_true,Sem.run_bind,hp xs X hX,hp ys Y hY,Result.andThen_ok,heq];cases c
   .simp at h;subst h;simp
   .simp only[Bool.true_and]at h;subst h;simp only[Bool.not_true,gj,if_false];exact mP hx hy d fl (k+1) b' e2 (λg hg=>hf g (by simp[hg])) (λj g v hg hv=>hc (j+1) g v (by simpa using hg) (by rw[show k+(j+1)=k+1+j by omega];exact hv)) (by omega) (by omega) Tw
  .cases h
def qV:∀(fl:List Field) (vs:List V),di (fl.map λf=>oV P f.type) vs=true->
 vs.length=fl.length/\∀(j:Nat) f v,fl[j]?=some f->vs[j]?=some v->jO P f.type v=true
 |[],[],_=>by simp
 |[],_::_,h=>by simp[di]at h
 |f::fl,[],h=>by
  simp only[dO]at h;generalize oV P f.type=q at h;revert h
  match q with
  |0=>simp[di]
  |1=>simp[di]
  |2=>simp[di]
  |n+3=>simp[di]
 |f::fl,v::vs,h=>by
  have key:jO P f.type v=true/\di (fl.map λf=>oV P f.type) vs=true:=by
   simp only[dO]at h;generalize (fl.map λf=>oV P f.type)=ks at h|-;unfold oV at h;unfold jO;cases hd:P.underlying f.type with
   |none=>rw[hd]at h;simp[di]at h
   |some d=>
    rw[hd]at h;cases d<;>cases v<;>simp_all [di]
  obtain⟨k1,k2⟩:=key;obtain⟨h1,h2⟩:=qV fl vs k2;refine⟨by simp[h1],λj g u hg hu=>?_⟩;cases j with
  |zero=>simp at hg hu;subst hg hu;exact k1
  |succ j=>exact h2 j g u (by simpa using hg) (by simpa using hu)
def Ja{t:TypeId}{fs:Array Field}(ht:P.underlying t=some (.struct fs))(hf:GD P t fs=true){neg:Bool}{x y v:V}{X Y:Value}(hx:A' I ow w x X)(hy:A' I ow w y Y)
 (xo yo:Operand){op:BinOp}(PL:op=if neg then .neq else .eql)(hv:iy neg (fs.toList.map λf=>oV P f.type) x y=some v):
 ∃z,(do eqGuard op t xo yo X Y;binOp op t X Y:Sem Value).run P w=.ok z w/\A' I ow w v z:=by
 unfold iy at hv;split at hv
 .rename_i vs us;split at hv
  .rename_i Rj;split at hv
   .rename_i b hb;simp only[bb]at hv;subst hv;simp only[A']at hx hy;obtain⟨xs,rfl,hx1,_⟩:=hx;obtain⟨ys,rfl,hy1,_⟩:=hy;simp only[GD,Ba,beq_iff_eq,Bool.not_eq_true',eQ,bne_iff_ne,ne_eq]at hf;obtain⟨⟨⟨f1,f2⟩,f3⟩,f4⟩:=hf;obtain⟨g3,g2⟩:=Rj;obtain⟨g1,g4⟩:=qV (P:=P) fs.toList vs g3;have Uv:P.fieldsOf t=fs:=by simp[Program.fieldsOf,ht]
    have hE:=mP (P:=P) hx1 hy1 9998 fs.toList 0 b (by rw[f1];simp[List.range_eq_range']) (λf hf=>⟨(f2 f hf).1.1,(f2 f hf).1.2,(f2 f hf).2⟩)
     (λj f v hj hv=>by
       rw[gY]at hv;exact g4 j f v hj hv) (by omega) (by omega) (by simpa using hb)
    have PY:(Op.equalIn 10000 t (.agg ⟨xs⟩) (.agg ⟨ys⟩)).run P w=.ok b w:=by
     rw[run_equalIn_struct w 9999 t _ _ (by rw[Uv];exact ht) f3,Uv];exact hE
    have Vk:=run_eqGuard_agg (P:=P) w op t xo yo ⟨xs⟩ ⟨ys⟩ f4;refine⟨.bool (if neg then !b else b),?_,by simp[A']⟩;simp only[Sem.run_bind,Vk,Result.andThen_ok];cases neg<;>simp only[gj,if_false,if_true]at PL|-<;>subst PL
    .rw[run_eql_struct,PY];rfl
    .rw[run_neq_struct,PY];rfl
   .cases hv
  .cases hv
 .cases hv
def AL{P:Program}(w:World){t e:TypeId}(ht:P.underlying t=some (.pointer e))(q:Option Addr):
 (binOp .eql t (.pointer q) (.pointer none)).run P w=.ok (.bool q.isNone) w/\(binOp .neq t (.pointer q) (.pointer none)).run P w=.ok (.bool (!q.isNone)) w:=by
 have he:(Op.equal t (.pointer q) (.pointer none)).run P w=.ok q.isNone w:=by
  unfold Op.equal;rw[show Op.maxDepth=9999+1 from rfl];generalize 9999=d;cases q<;>simp[Op.equalIn,run_underlying ht]
 exact⟨by simp[binOp,he],by simp[binOp,he]⟩
def rA{F:Fr}{st:St}{a:Act}(hs:cI F I st a w)(o:Oper){v:V}(hp:eT st.s (PO P F.n o.op))(hv:aH st.U st.s (PO P F.n o.op)=some v):
 ∃z,(execOp a.eval o).run P w=.ok (.value z) w/\A' I (aB I st.U) w v z:=by
 have R:=bK hs;have VV:∀(x:Sem Value) (z:Value),x.run P w=.ok z w->(do pure (.value (<-x)):Sem Next).run P w=.ok (.value z) w:=λx z h=>by simp[h]
 unfold execOp;cases ho:o.op
 all_goals rw[ho]at hp hv;simp only[PO]at hp hv
 all_goals try (simp only[aH,reduceCtorEq]at hv;done)
 case move x=>simp only[aH,bb]at hv;subst hv;exact⟨_,rfl,R x⟩
 case assign x=>simp only[aH,bb]at hv;subst hv;exact⟨_,rfl,R x⟩
 case pick c x y=>
  simp only[aH]at hv;have hc:=R c;split at hv
  .rename_i t ht;rw[ht]at hc;simp only[A']at hc;simp only[bb]at hv;subst hv;cases t
   .exact⟨_,by simp[hc,asBool],R y⟩
   .exact⟨_,by simp[hc,asBool],R x⟩
  .cases hv
 case alloc=>(repeat' split at hv)<;>simp[aH]at hv
 case range=>(repeat' split at hv)<;>simp[aH]at hv
 case makeMap=>split at hv<;>simp[aH]at hv
 case insert=>(repeat' split at hv)<;>simp[aH]at hv
 case mapUpdate=>(repeat' split at hv)<;>simp[aH]at hv
 case lookup=>(repeat' split at hv)<;>simp[aH]at hv
 case makeInterface t x=>
  split at hv
  .rename_i hc;simp only[Ba,Bool.not_eq_true']at hc;simp only[aH,bb]at hv;subst hv;refine⟨.iface t (a.eval x),?_,by simp only[A'];exact⟨_,rfl,R x⟩⟩;refine VV _ _ ?_;cases hu:P.underlying t with
   |none=>rw[hu]at hc;simp at hc
   |some d=>
    cases d
    case interface ms=>simp[pL,hu]at hc
    all_goals simp[Instr.makeInterface,run_underlying hu]
  .simp[aH]at hv
 case typeAssert x xt t ok=>
  split at hv
  .simp[aH]at hv
  .rename_i hi;obtain⟨zv,z,hzv,hzr,hus,hv⟩:∃(zv:V) (z:Value),(zeroValue t).run P w=.ok z w/\A' I (aB I st.U) w zv z/\(P.underlying t).isSome=true/\aH st.U st.s (.more (.tas t ok zv) [cx F.n x])=some v:=by
    split at hv
    .rename_i i z hz;refine⟨_,z,dn hz,j9 z,?_,hv⟩;have hk:=(eu hz).2.2.1;simp only[bS,Ba]at hk;exact hk.1.2
    .split at hv
     .rename_i hn;obtain⟨_,h0,_⟩:=ng hn;exact⟨.agg [],.agg #[],qe hn,by simp only[A'];exact⟨[],rfl,by simp[aq],by simp⟩,by rw[h0];rfl,hv⟩
     .simp[aH]at hv
   .simp only[aH]at hv;have hx:=R x;obtain⟨d,hu,Q8⟩:∃d,P.underlying t=some d/\∀ms,d≠.interface ms:=by
     cases hu:P.underlying t with
     |none=>simp[hu]at hus
     |some d=>exact⟨d,rfl,λms e=>hi (by simp[pL,hu,e])⟩
    have hfail:ok=true->(∀xx:Value,(Instr.typeAssert xx xt t ok).run P w=(do pure (Value.tuple #[<-zeroValue t,.bool false]):Sem Value).run P w->(Instr.typeAssert xx xt t ok).run P w=.ok (.tuple #[z,.bool false]) w):=λ_ xx h=>by
     rw[h];simp[hzv]
    unfold Hz at hv;split at hv
    .rename_i t' v' hxv;rw[hxv]at hx;simp only[A']at hx;obtain⟨y,hy,hry⟩:=hx;by_cases ht:t'=t
     .subst ht;rw[aE rfl]at hv;simp only[bb]at hv;subst hv;cases ok
      .refine⟨y,VV _ _ ?_,hry⟩;rw[hy];cases d
       case interface ms=>exact absurd rfl (Q8 ms)
       all_goals simp[Instr.typeAssert,run_underlying hu]
      .refine⟨.tuple #[y,.bool true],VV _ _ ?_,by simp only[if_true,A'];exact⟨_,rfl,by simp only[aq,A'];exact⟨_,_,rfl,hry,_,_,rfl,rfl,rfl⟩⟩⟩;rw[hy];cases d
       case interface ms=>exact absurd rfl (Q8 ms)
       all_goals simp[Instr.typeAssert,run_underlying hu]
     .rw[aF ht]at hv;cases ok
      .simp at hv
      .simp only[if_true,bb]at hv;subst hv;refine⟨.tuple #[z,.bool false],VV _ _ (hfail rfl _ ?_),by simp only[A'];exact⟨_,rfl,by simp only[aq,A'];exact⟨_,_,rfl,hzr,_,_,rfl,rfl,rfl⟩⟩⟩;rw[hy];cases d
       case interface ms=>exact absurd rfl (Q8 ms)
       all_goals simp[Instr.typeAssert,run_underlying hu,ht]
    .rename_i hxv;rw[hxv]at hx;simp only[A']at hx;cases ok
     .simp at hv
     .simp only[if_true,bb]at hv;subst hv;refine⟨.tuple #[z,.bool false],VV _ _ (hfail rfl _ ?_),by simp only[A'];exact⟨_,rfl,by simp only[aq,A'];exact⟨_,_,rfl,hzr,_,_,rfl,rfl,rfl⟩⟩⟩;rw[hx];cases d
      case interface ms=>exact absurd rfl (Q8 ms)
      all_goals simp[Instr.typeAssert,run_underlying hu]
    .cases hv
 case next it b=>cases b<;>simp[aH]at hv
 case buildSlice=>split at hv<;>(try split at hv)<;>(try split at hv)<;>simp[aH]at hv
 case makeSlice=>split at hv<;>(try split at hv)<;>(try split at hv)<;>simp[aH]at hv
 case build t parts=>
  split at hv
  .rename_i hn;simp only[Ba,beq_iff_eq]at hn;have hp:parts=#[]:=Array.eq_empty_of_size_eq_zero hn.2;subst hp;simp only[aH,VX.ev,bb]at hv;subst hv;exact⟨.agg #[],VV _ _ (by rw[Array.map_empty];exact BZ hn.1),by simp only[A'];exact⟨[],rfl,by simp[aq],by simp⟩⟩
  split at hv
  .rename_i i z fs hz Rr;split at hv
   .rename_i hk;simp only[aH,Zq8]at hv;obtain⟨cells,hb,rfl⟩:=hv;obtain⟨y,h1,h2⟩:=run_build hs hz Rr (by simpa only[Ba,eQ,SX]using hk) hb;exact⟨y,VV _ _ h1,h2⟩
   .simp[aH]at hv
  .rename_i i z k e hz Rr;split at hv
   .rename_i hk;simp only[aH,Zq8]at hv;obtain⟨cells,hb,rfl⟩:=hv;obtain⟨y,h1,h2⟩:=BH hs hz Rr hk hb;exact⟨y,VV _ _ h1,h2⟩
   .simp[aH]at hv
  .simp[aH]at hv
 case store=>(repeat' split at hv)<;>simp[aH]at hv
 case load t x=>
  split at hv
  .rename_i hk;simp only[aH]at hv;obtain⟨z,h1,h2⟩:=wb hs.sat hk (R x) hv;exact⟨z,VV _ _ h1,h2⟩
  .simp[aH]at hv
 case binOp op t x y yt=>
  have hplain:∀(hp:eT st.s (.bin op (cx F.n x) (cx F.n y))) (hv:aH st.U st.s (.bin op (cx F.n x) (cx F.n y))=some v),
   ∃z,(do pure (Next.value (<-(do eqGuard op t x y (a.eval x) (a.eval y);binOp op t (a.eval x) (a.eval y):Sem Value))):Sem Next).run P w=.ok (.value z) w/\A' I (aB I st.U) w v z:=by
   intro hp hv;simp only[aH,eT]at hv hp;obtain⟨z,h1,h2⟩:=IP (P:=P) (t:=t) (xo:=x) (yo:=y) (R x) (R y) hp hv;exact⟨z,VV _ _ h1,h2⟩
  split at hv
  .rename_i ht;have key:∀neg,(op=if neg then .neq else .eql)->aH st.U st.s (.RL neg (cx F.n x) (cx F.n y))=some v->
    ∃z,(do pure (Next.value (<-(do eqGuard op t x y (a.eval x) (a.eval y);binOp op t (a.eval x) (a.eval y):Sem Value))):Sem Next).run P w=.ok (.value z) w/\A' I (aB I st.U) w v z:=by
    intro neg PL hv;simp only[aH]at hv;have hx:=R x;have hy:=R y;generalize (cx F.n x).ev st.s=xv at*;generalize (cx F.n y).ev st.s=yv at*;unfold binBV at hv;split at hv
    .rename_i a' b';simp only[A']at hx hy;simp only[bb]at hv;subst hv;rw[hx,hy];refine⟨.bool (if neg then !(a'==b')else a'==b'),VV _ _ ?_,by simp only[A']⟩;cases neg<;>simp only[gj,if_false,if_true]at PL<;>subst PL
     .simp[eqGuard,run_eql_bool w t a' b' ht]
     .simp[eqGuard,run_neq_bool w t a' b' ht]
    .cases hv
   cases op<;>simp only[aH,reduceCtorEq]at hv
   .exact key false rfl (by simpa only[aH]using hv)
   .exact key true rfl (by simpa only[aH]using hv)
  .rename_i fs ht;split at hv
   .rename_i Uw;have key:∀neg,(op=if neg then .neq else .eql)->aH st.U st.s (.eqS neg (fs.toList.map λf=>oV P f.type) (cx F.n x) (cx F.n y))=some v->
     ∃z,(do pure (Next.value (<-(do eqGuard op t x y (a.eval x) (a.eval y);binOp op t (a.eval x) (a.eval y):Sem Value))):Sem Next).run P w=.ok (.value z) w/\A' I (aB I st.U) w v z:=by
     intro neg PL hv;simp only[aH]at hv;obtain⟨z,h1,h2⟩:=Ja (P:=P) ht Uw (R x) (R y) x y PL hv;exact⟨z,VV _ _ h1,h2⟩
    cases op<;>simp only[aH,reduceCtorEq]at hv
    .exact key false rfl (by simpa only[aH]using hv)
    .exact key true rfl (by simpa only[aH]using hv)
   .simp[aH]at hv
  .rename_i h1 h2;split at hv
   .unfold bE at hv;split at hv
    .simp only[aH,VX.ev]at hv;unfold binBV at hv;split at hv
     .rename_i hx;cases hx
     .cases hv
    .simp[aH]at hv
   .rename_i hns;split at hv
    .split at hv
     .simp only[aH,VX.ev]at hv;unfold binBV at hv;split at hv
      .rename_i hx;cases hx
      .cases hv
     .simp[aH]at hv
    .rename_i hni;split at hv
     .split at hv
      .simp only[aH,VX.ev]at hv;unfold binBV at hv;split at hv
       .rename_i hx;cases hx
       .cases hv
      .simp[aH]at hv
     .rename_i VS;split at hv
      .rename_i hnp;simp only[Ba]at hnp;obtain⟨hpt,Ru⟩:=hnp;unfold ML at hpt;split at hpt
       .rename_i e ht;unfold Ji at Ru;split at Ru
        .split at hv
         .rename_i PL;simp only[aH]at hv;have hx:=R x;generalize (cx F.n x).ev st.s=xv at*;have hY:a.eval (.const (.pointer none))=.pointer none:=rfl;have key:∀q:Option Addr,a.eval x=.pointer q->∃z,(do pure (Next.value (<-(do eqGuard op t x (.const (.pointer none)) (a.eval x) (a.eval (.const (.pointer none)));binOp op t (a.eval x) (a.eval (.const (.pointer none))):Sem Value))):Sem Next).run P w=.ok (.value z) w/\z=.bool (if op=.neq then !q.isNone else q.isNone):=by
           intro q hq;rw[hq,hY];obtain⟨q1,q2⟩:=AL (P:=P) w ht q;have hg:∀op,(eqGuard op t x (.const (.pointer none)) (.pointer q) (.pointer none)).run P w=.ok () w:=by intro op;simp[eqGuard]
           rcases PL with rfl|rfl
           .exact⟨_,by simp only[Sem.run_bind,hg,Result.andThen_ok,q1];rfl,by simp⟩
           .exact⟨_,by simp only[Sem.run_bind,hg,Result.andThen_ok,q2];rfl,by simp⟩
          unfold Fb at hv;split at hv
          .simp only[A']at hx;simp only[bb]at hv;subst hv;obtain⟨z,h3,rfl⟩:=key none hx;refine⟨_,h3,?_⟩;rcases PL with rfl|rfl<;>simp[A']
          .simp only[A']at hx;split at hx
           .simp only[bb]at hv;subst hv;obtain⟨z,h3,rfl⟩:=key _ hx.1;refine⟨_,h3,?_⟩;rcases PL with rfl|rfl<;>simp[A']
           .exact hx.elim
          .simp only[A']at hx;obtain⟨b,off,hx,_⟩:=hx;simp only[bb]at hv;subst hv;obtain⟨z,h3,rfl⟩:=key _ hx;refine⟨_,h3,?_⟩;rcases PL with rfl|rfl<;>simp[A']
          .cases hv
         .simp[aH]at hv
        .cases Ru
       .cases hpt
      .rename_i hnp;refine hplain ?_ hv;revert hp;split
       .rename_i h4;exact absurd h4 h1
       .rename_i fs h4;exact absurd h4 (h2 fs)
       .rw[aF hns,aF hni,aF VS,aF hnp];exact id
 case nilCheck x=>
  simp only[aH]at hv;have hx:=R x;generalize (cx F.n x).ev st.s=xv at*;unfold bD at hv;split at hv
  .simp only[bb]at hv;subst hv;have P7:=hx;simp only[A']at P7;split at P7
   .exact⟨a.eval x,by simp[P7],hx⟩
   .exact P7.elim
  .simp only[bb]at hv;subst hv;have P7:=hx;simp only[A']at P7;obtain⟨b,off,e,_⟩:=P7;exact⟨a.eval x,by simp[e],hx⟩
  .simp only[bb]at hv;subst hv;have P7:=hx;simp only[A']at P7;obtain⟨vals,e,_⟩:=P7;exact⟨a.eval x,by simp[e],hx⟩
  .simp only[bb]at hv;subst hv;have P7:=hx;simp only[A']at P7;obtain⟨y,e,_⟩:=P7;exact⟨a.eval x,by simp[e],hx⟩
  .cases hv
 case box=>split at hv<;>simp[aH]at hv
 case unOp op t x=>
  have hx:=R x;cases op<;>simp only[aH,reduceCtorEq]at hv<;>simp only[eT]at hp
  .split at hv
   .rename_i k n hn;simp only[hn]at hx hp;simp only[A']at hx;simp only[bb]at hv;subst hv;simp only[PM]at hp;exact⟨.int k (0-n),VV _ _ (by simp only[hx,Op.unary,Op.intArith];rw[hp];rfl),by simp[A']⟩
   .cases hv
  .split at hv
   .rename_i b hb;rw[hb]at hx;simp only[A']at hx;simp only[bb]at hv;subst hv;exact⟨.bool (!b),VV _ _ (by simp[hx,Op.unary]),by simp[A']⟩
   .cases hv
 case convert src dst x=>
  split at hv
  .rename_i k1 k2 h1 h2;simp only[h1,h2]at hp;have hx:=R x;simp only[aH,eT]at hv hp;split at hv
   .rename_i k n hn;rw[hn]at hx hp;simp only[A']at hx;simp only[bb]at hv;subst hv;simp only[PM]at hp;refine⟨.int k2 n,VV _ _ ?_,by simp[A']⟩;simp[Go.convert,run_underlying h1,run_underlying h2,hx,Conv.intToInt,hp]
   .cases hv
  .rename_i e h1 h2;split at hv
   .rename_i h3;have h3:P.underlying e=some (.int .u8):=by
     unfold u8T at h3;split at h3
     .assumption
     .cases h3
    simp only[aH]at hv;obtain⟨z,g1,g2⟩:=BJ (P:=P) hs.sat (R x) hv;refine⟨z,VV _ _ ?_,g2⟩;obtain⟨b,n,c,hX⟩:∃b n c,a.eval x=.slice b n c:=by
     have hx:=R x;unfold cX at hv;split at hv
     .rename_i P7;rw[P7]at hx;simp only[A']at hx;exact⟨_,_,_,hx⟩
     .rename_i P7;rw[P7]at hx;simp only[A']at hx;split at hx
      .exact hx.elim
      .exact⟨_,_,_,hx.1⟩
      .obtain⟨o,c,h,_⟩:=hx;exact⟨_,_,_,h⟩
     .cases hv
    rw[hX]at g1|-;cases b<;>simp[Go.convert,run_underlying h1,run_underlying h2,run_underlying h3,g1]
   .simp[aH]at hv
  .split at hv<;>simp[aH]at hv
 case makeFunc fn first caps=>
  cases fn
  case func f=>
   by_cases h0:first.size=0
   .simp only[aE h0,aH,bb]at hv;subst hv;refine⟨.func (.func f) #[] (caps.map a.eval),VV _ _ ?_,?_⟩
    .have:first=#[]:=Array.eq_empty_of_size_eq_zero h0
     subst this;simp[Instr.makeFunc]
    .simp only[A'];exact⟨caps.toList.map a.eval,by congr 1;apply Array.ext';simp,mZ hs _⟩
   .have WG:aH st.U st.s (if first.size=0 then Qc.XG f (caps.toList.map (cx F.n))else if caps.size=0 then .more (.mkB f) (first.toList.map (cx F.n))else .bad)=some v:=hv;rw[aF h0]at WG;by_cases h1:caps.size=0
    .rw[aE h1]at WG;simp only[aH,bb]at WG;subst WG;refine⟨.func (.func f) (first.map a.eval) #[],VV _ _ ?_,?_⟩
     .have:caps=#[]:=Array.eq_empty_of_size_eq_zero h1;subst this;simp[Instr.makeFunc]
     .simp only[A'];exact⟨first.toList.map a.eval,by congr 1;apply Array.ext';simp,mZ hs _⟩
    .rw[aF h1]at WG;simp only[aH,reduceCtorEq]at WG
  all_goals simp[aH]at hv
 case slice t x lo hi mx=>
  split at hv
  .rename_i e ht;split at hv
   .rename_i hk;simp only[Ba,ki]at hk;simp only[aH]at hv;obtain⟨z,h1,h2⟩:=sK hs.sat ht hk.1 (R x) (tB hs lo) (tB hs hi) (tB hs mx)
     (by intro h;rcases hk.2 with h'|h'<;>cases mx<;>cases hi<;>simp_all) hv
    exact⟨z,VV _ _ h1,h2⟩
   .simp[aH]at hv
  .rename_i ht;split at hv
   .rename_i hm;simp only[aH]at hv;have Xg:mx=none:=by simpa using hm
    subst Xg;obtain⟨z,h1,h2⟩:=tR (P:=P) ht (R x) (tB hs lo) (tB hs hi) hv;exact⟨z,VV _ _ h1,h2⟩
   .simp[aH]at hv
  .simp[aH]at hv
 case fieldAddr s x f=>
  split at hv
  .rename_i fs Rr;split at hv
   .rename_i fd hfd;split at hv
    .rename_i hk;simp only[aH]at hv;obtain⟨z,h1,h2⟩:=Eb (P:=P) Rr hfd hk (R x) hv;exact⟨z,VV _ _ h1,h2⟩
    .simp[aH]at hv
   .simp[aH]at hv
  .simp[aH]at hv
 case field s x f=>
  split at hv
  .rename_i fs Rr;split at hv
   .rename_i fd hfd;split at hv
    .rename_i hk;have hx:=R x;simp only[aH]at hv;unfold jm at hv;split at hv
     .rename_i vs Yv;rw[Yv]at hx;simp only[A']at hx;obtain⟨vals,hX,hr,h1⟩:=hx;obtain⟨z,hz,WE⟩:=yE (P:=P) (w:=w) hk hr h1 hv;exact⟨z,VV _ _ (by simp[Instr.field,run_underlying Rr,hfd,hX,asAgg,hz]),WE⟩
     .cases hv
    .simp[aH]at hv
   .simp[aH]at hv
  .simp[aH]at hv
 case indexAddr t x i=>
  split at hv
  .rename_i e ht;split at hv
   .rename_i hk;simp only[aH]at hv;obtain⟨z,h1,h2⟩:=Eg hs.sat ht hk (R x) (R i) hv;exact⟨z,VV _ _ h1,h2⟩
   .simp[aH]at hv
  .rename_i k e ht;split at hv
   .rename_i hk;simp only[aH]at hv;obtain⟨z,h1,h2⟩:=Bi (P:=P) ht hk (R x) (R i) hv;exact⟨z,VV _ _ h1,h2⟩
   .simp[aH]at hv
  .simp[aH]at hv
 case index t x i=>
  split at hv
  .rename_i k e ht;split at hv
   .rename_i hk;simp only[aH]at hv;obtain⟨z,h1,h2⟩:=Dt (P:=P) ht hk (R x) (R i) hv;exact⟨z,VV _ _ h1,h2⟩
   .simp[aH]at hv
  .rename_i ht;simp only[aH]at hv;obtain⟨z,h1,h2⟩:=Es (P:=P) ht (R x) (R i) hv;exact⟨z,VV _ _ h1,h2⟩
  .simp[aH]at hv
 case extract x i=>
  simp only[aH]at hv;have hx:=R x;unfold jg at hv;split at hv
  .rename_i vs Yv;rw[Yv]at hx;simp only[A']at hx;obtain⟨vals,hX,hr⟩:=hx;obtain⟨z,hz,WE⟩:=hr.get hv;exact⟨z,VV _ _ (by simp[Instr.extract,hX,hz]),WE⟩
  .cases hv
 case call c=>
  obtain⟨callee,args,argTypes⟩:=c;cases callee
  case value=>simp only[aH,reduceCtorEq]at hv
  case invoke=>simp only[aH,reduceCtorEq]at hv
  case builtin b=>
   cases b
   case delete=>simp only[]at hv;split at hv<;>(try split at hv)<;>simp[aH]at hv
   case copy=>simp only[]at hv;split at hv<;>(try split at hv)<;>(try split at hv)<;>simp[aH]at hv
   case len=>
    simp only[]at hv;split at hv
    .rename_i x t QB ht;have hx:=R x;have Tc:args=#[x]:=by apply Array.ext';simpa using QB
     have hlen:∀z,(Builtin.len_ argTypes o.type #[a.eval x]).run P w=.ok z w->
      (do let d <-resolve a.eval { callee:=.builtin .len,args:=args,argTypes:=argTypes } o.type;invoke d.target d.args:Sem Next).run P w=.ok (.value z) w:=by
      intro z hz;simp[resolve,invoke,Go.builtin,Tc,hz]
     have Vj:Builtin.len_ argTypes o.type #[a.eval x]=Builtin.len_ #[t] o.type #[a.eval x]:=by
      simp[Builtin.len_,ht]
     split at hv
     .rename_i e he;obtain⟨z,h1,h2⟩:=zg (P:=P) hx (by simpa only[aH]using hv) o.type (t:=t) (by simp[he]);exact⟨z,hlen z (Vj▸h1),h2⟩
     .rename_i he;obtain⟨z,h1,h2⟩:=zg (P:=P) hx (by simpa only[aH]using hv) o.type (t:=t) (by simp[he]);exact⟨z,hlen z (Vj▸h1),h2⟩
     .simp[aH]at hv
    .simp[aH]at hv
   case cap=>
    simp only[]at hv;split at hv
    .rename_i x t QB ht;have hx:=R x;have Tc:args=#[x]:=by apply Array.ext';simpa using QB
     split at hv
     .rename_i Ty;obtain⟨e,he⟩:∃e,P.underlying t=some (.slice e):=by
       unfold x4 at Ty;split at Ty
       .rename_i e he;exact⟨e,he⟩
       .cases Ty
      simp only[aH,ji]at hv;split at hv
      .rename_i hn;rw[hn]at hx;simp only[A']at hx;simp only[bb]at hv;subst hv;refine⟨.int .i64 0,?_,by simp[A']⟩;simp[resolve,invoke,Go.builtin,Tc,Builtin.cap_,ht,run_underlying he,hx,goInt]
      .cases hv
     .simp[aH]at hv
    .simp[aH]at hv
   case min=>
    simp only[]at hv;split at hv
    .rename_i x y QB;have Tc:args=#[x,y]:=by apply Array.ext';simpa using QB
     obtain⟨z,h1,h2⟩:=rH (P:=P) (w:=w) (m:=false) argTypes o.type (R x) (R y) (by simpa only[aH]using hv);exact⟨z,by simpa[resolve,invoke,Go.builtin,Tc]using h1,h2⟩
    .simp[aH]at hv
   case max=>
    simp only[]at hv;split at hv
    .rename_i x y QB;have Tc:args=#[x,y]:=by apply Array.ext';simpa using QB
     obtain⟨z,h1,h2⟩:=rH (P:=P) (w:=w) (m:=true) argTypes o.type (R x) (R y) (by simpa only[aH]using hv);exact⟨z,by simpa[resolve,invoke,Go.builtin,Tc]using h1,h2⟩
    .simp[aH]at hv
   case clear=>
    simp only[]at hv;split at hv
    .split at hv
     .split at hv<;>simp[aH]at hv
     .simp[aH]at hv
    .simp[aH]at hv
   case append=>
    simp only[]at hv;split at hv
    .split at hv
     .split at hv
      .split at hv<;>simp[aH]at hv
      .simp[aH]at hv
     .split at hv
      .split at hv<;>simp[aH]at hv
      .split at hv<;>simp[aH]at hv
      .simp[aH]at hv
    .simp[aH]at hv
   all_goals simp[aH]at hv
variable {P:Program} {I:Mu} {ow:Nat->Prop} {w w':World}
def flat(rows:List V):List V:=rows.flatMap V.cells
def aQ.append:∀{vs us:List V} {b off:Nat},aQ I ow w (vs++us) b off↔aQ I ow w vs b off/\aQ I ow w us b (off+vs.length)
 |[],us,b,off=>by simp[aQ]
 |v::vs,us,b,off=>by
  simp only[List.cons_append,aQ,aQ.append (vs:=vs),Rc];rw[show off+(vs.length+1)=off+1+vs.length by omega,and_assoc]
def iI:∀{rows:List V} {b off sz:Nat},aX I ow w rows b off sz↔(∀r∈rows,r.cells.length=sz)/\aQ I ow w (flat rows) b off
 |[],b,off,sz=>by simp[aX,flat,aQ]
 |r::rs,b,off,sz=>by
  have ih:=iI (rows:=rs) (b:=b) (off:=off+sz) (sz:=sz);simp only[aX,ih,dR];have e:flat (r::rs)=r.cells++flat rs:=by simp[flat]
  rw[e,aQ.append];constructor
  .rintro⟨h1,h2,h3,h4⟩;exact⟨λx hx=>(cD.1 hx).elim (λe'=>e'▸h1) (h3 x),h2,by rw[h1];exact h4⟩
  .rintro⟨h1,h2,h3⟩;have h0:=h1 r (by simp);exact⟨h0,h2,λx hx=>h1 x (by simp[hx]),by rw[h0]at h3;exact h3⟩
def rD{rows:List V}{sz:Nat}(h:∀r∈rows,r.cells.length=sz):(flat rows).length=rows.length*sz:=by
 induction rows with
 |nil=>simp[flat]
 |cons r rs ih=>
  have e:flat (r::rs)=r.cells++flat rs:=by simp[flat]
  rw[e,fB,h r (by simp),ih (λx hx=>h x (by simp[hx])),Rc,Nat.add_mul];omega
def gF(a b:List V):flat (a++b)=flat a++flat b:=by simp[flat]
def j7:∀{vs:List V} {xs:List Value} {b off:Nat},aq I ow w vs xs->(∀u∈xs,u.oneCell'=true)->
 (∀(j:Nat) u,xs[j]?=some u->w.cell? ⟨b,off+j,none⟩=some u)->aQ I ow w vs b off
 |[],_,_,_,_,_,_=>by simp[aQ]
 |v::vs,l,b,off,h,h1,h2=>by
  simp only[aq]at h;obtain⟨x,xs,rfl,h3,h4⟩:=h;simp only[aQ];refine⟨⟨x,by simpa using h2 0 x (by simp),h3,h1 x (by simp)⟩,j7 h4 (λu hu=>h1 u (by simp[hu])) ?_⟩;intro j u hu;have:=h2 (j+1) u (by simpa using hu)
  rwa [show off+(j+1)=off+1+j by omega]at this
def bF(U:ag):Option Nat->ag
 |none=>U
 |some i=>del U i
def wG{U:ag}{o:Option Nat}{i:Nat}{x:Ob}(h:bF U o i=some x):U i=some x/\some i≠o:=by
 cases o with
 |none=>exact⟨h,by simp⟩
 |some k=>
  simp only[bF,del]at h;split at h
  .cases h
  .rename_i PZ;exact⟨h,by simpa using PZ⟩
def Sat.dv{w0:World}{QA:Nat->Prop}{U:ag}(h:Sat w0 QA I U w):∃id,I id=.dv/\U id=none/\∀p,∃N,∀i,N<=i->(λk=>if k=id then p else I k:Mu) i=.dv:=by
 obtain⟨N,hN⟩:=h.fin;refine⟨N,hN N (Qh _),?_,λp=>⟨N+1,λi hi=>?_⟩⟩
 .cases ho:U N with
  |none=>rfl
  |some o=>
   have:=h.obj N o ho;rw[hN N (Qh _)]at this;exact this.elim
 .simp[show i≠N by omega,hN i (by omega)]
def Sat.renew{w0:World}{QA:Nat->Prop}{U:ag}(h:Sat w0 QA I U w){row:Option Nat}(hg:w.grownBy w' row)(PU:Option Nat)
 (hA:row=none\/∃i oA sz cap b,PU=some i/\U i=some oA/\I i=.Qz b sz cap/\row=some b)
 (b sz cap:Nat)(cur:Array Value)(e:TypeId)(rows:List V)(xs:List Value)(hb:some b=row\/w.heap.size<=b)
 (TW:w'.heap[b]?=some (.cells cur e (0,0)))(RM:0<sz)(hcur:cur.size=cap*sz)(Qj:rows.length<=cap)(WD:cap<=maxLen)
 (hlen:∀r∈rows,r.cells.length=sz)(hx:aq I (aB I U) w (flat rows) xs)(Re:∀u∈xs,u.oneCell'=true)
 (SD:∀(j:Nat) u,xs[j]?=some u->cur[j]?=some u):
 ∃id,U id=none/\∃Y':Mu,Y' id=.Qz b sz cap/\cm I Y'/\Sat w0 QA Y' (u' (bF U PU) id ⟨e,sz,rows⟩) w'/\
  cG (aB I U) (aB Y' (u' (bF U PU) id ⟨e,sz,rows⟩)) w w':=by
 obtain⟨id,hid,P3,Q3⟩:=h.dv;refine⟨id,P3,λk=>if k=id then .Qz b sz cap else I k,by simp,λk hk=>?_,?_⟩
 .have:k≠id:=λe'=>hk (e'▸hid);simp[this]
 .have hle:cm I (λk=>if k=id then .Qz b sz cap else I k):=λk hk=>by
   have:k≠id:=λe'=>hk (e'▸hid);simp[this]
  have QD:∀b',row=some b'->aB I U b':=λb' Sf=>by
   rcases hA with h1|⟨i,oA,Sr,QP,b'',h1,h2,h3,h4⟩
   .rw[h1]at Sf;cases Sf
   .rw[h4]at Sf;cases Sf;exact⟨i,oA,Sr,QP,h2,h3⟩
  refine h.put hg QD hle (Q3 _) id ⟨e,sz,rows⟩ (λo ho=>?_) (λi o hi ho=>?_) (λb' Sr QP Sf=>?_) (λhk=>?_)
  .simp[u']at ho;exact ho.symm
  .simp only[u',aF hi]at ho;obtain⟨h1,h2⟩:=wG ho;refine⟨h1,λb' Sr QP h3 h4=>?_⟩;rcases hA with h5|⟨iA,oA,szA,capA,bA,h5,h6,h7,h8⟩
   .rw[h5]at h4;cases h4
   .rw[h8]at h4;cases h4;have:=h.inj i iA o oA _ _ _ _ _ h1 h6 h3 h7;exact h2 (by rw[this,h5])
  .simp only[if_true,Pl.Qz.injEq]at Sf;rw[<-Sf.1];exact hb
  .simp only[if_true,pg];refine .inl ⟨cur,TW,trivial,RM,hcur,Qj,WD,?_⟩;rw[iI];refine⟨hlen,j7 (aq.mono hle hk hg.size _ _ hx) Re ?_⟩;intro j u hu;rw[cell_of_row w' b _ cur e (0,0) TW];simpa using SD j u hu
def Sat.EZ{w0:World}{QA:Nat->Prop}{U:ag}(h:Sat w0 QA I U w)(PU:Option Nat)(e:TypeId)(sz:Nat):
 ∃id,U id=none/\∃Y':Mu,Y' id=.nil/\cm I Y'/\Sat w0 QA Y' (u' (bF U PU) id ⟨e,sz,[]⟩) w/\
  cG (aB I U) (aB Y' (u' (bF U PU) id ⟨e,sz,[]⟩)) w w:=by
 obtain⟨id,hid,P3,Q3⟩:=h.dv;have hle:cm I (λk=>if k=id then .nil else I k):=λk hk=>by
  have:k≠id:=λe'=>hk (e'▸hid);simp[this]
 refine⟨id,P3,λk=>if k=id then .nil else I k,by simp,hle,?_⟩;refine h.put (row:=none) ⟨rfl,rfl,rfl,Qh _,λ_ _ _=>rfl⟩ (by simp) hle (Q3 _) id ⟨e,sz,[]⟩ (λo ho=>?_) (λi o hi ho=>?_) (λb' Sr QP Sf=>?_) (λhk=>?_)
 .simp[u']at ho;exact ho.symm
 .simp only[u',aF hi]at ho;exact⟨(wG ho).1,by simp⟩
 .simp at Sf
 .simp[pg]
def Sat.change{w0:World}{QA:Nat->Prop}{U:ag}(h:Sat w0 QA I U w){id b sz cap:Nat}{o:Ob}(ho:U id=some o)(hid:I id=.Qz b sz cap)(hz:0<sz)
 (hg:w.grownBy w' (some b))(cur:Array Value)(rows:List V)(xs:List Value)
 (TW:w'.heap[b]?=some (.cells cur o.elem (0,0)))(hcur:cur.size=cap*sz)(Qj:rows.length<=cap)
 (hlen:∀r∈rows,r.cells.length=sz)(hx:aq I (aB I U) w (flat rows) xs)(Re:∀u∈xs,u.oneCell'=true)
 (SD:∀(j:Nat) u,xs[j]?=some u->cur[j]?=some u):
 Sat w0 QA I (u' U id { o with rows:=rows }) w'/\cG (aB I U) (aB I (u' U id { o with rows:=rows })) w w':=by
 have Ri:=h.obj id o ho;rw[hid]at Ri;obtain⟨_,_,h2,h3,_,_,h6,_⟩:=Ri.plain hz;refine h.put hg (λb' Sf=>by cases Sf;exact⟨id,o,sz,cap,ho,hid⟩) (cm.refl _) h.fin id { o with rows:=rows } (λx P7=>by simp[u']at P7;exact P7.symm)
  (λi x hi P7=>?_) (λb' Sr QP Sf=>?_) (λhk=>?_)
 .simp only[u',aF hi]at P7;refine⟨P7,λb' Sr QP h4 h5=>hi ?_⟩;cases h5;exact h.inj i id x o _ _ _ _ _ P7 ho h4 hid
 .rw[hid]at Sf;cases Sf;exact .inl rfl
 .rw[hid];refine .inl ⟨cur,TW,h2,h3,hcur,Qj,h6,?_⟩;rw[iI];refine⟨hlen,j7 (aq.mono (cm.refl _) hk hg.size _ _ hx) Re ?_⟩;intro j u hu;rw[cell_of_row w' b _ cur o.elem (0,0) TW];simpa using SD j u hu
def aW(s:Nat->V):Option Nat->V->Nat->V
 |none,_=>s
 |some d,v=>λi=>if i=d then v else s i
def cI.step{F:Fr}{Y':Mu}{st:St}{a:Act}{Z':ag}(hs:cI F I st a w)(h1:Sat F.w0 F.QA Y' Z' w')(h2:cm I Y')
 (h3:cG (aB I st.U) (aB Y' Z') w w')(h4:w.heap.size<=w'.heap.size){d:Option Tmp}{v:V}{x:Value}(hv:A' Y' (aB Y' Z') w' v x):
 cI F Y' ⟨aW st.s (d.filter (·<F.n)) v,Z'⟩ (a.put d x) w' where
 sat:=h1
 le:=hs.le.trans h2
 size:=by cases d<;>simp[Act.put,hs.size]
 book:=by
  have:=hs.book.pV h3;cases d<;>simpa[Act.put]using this
 slot:=λi hi=>by
  have hold:=A'.mono h2 h3 h4 _ _ (hs.slot i hi);cases d with
  |none=>simpa[Act.put,aW]using hold
  |some d=>
   simp only[Act.put,Option.filter_some];by_cases hd:d<F.n
   .simp only[hd,decide_true,if_true,aW];by_cases hid:i=d
    .subst hid;simp only[if_true];rw[SW,Array.getElem?_setIfInBounds_self_of_lt (by rw[hs.size];exact hi)];exact hv
    .simp only[aF hid];rw[SW,Array.getElem?_setIfInBounds_ne (λe=>hid e.symm),<-SW];exact hold
   .simp only[hd,decide_false,gj,if_false,aW];rw[SW,Array.getElem?_setIfInBounds_ne (λ(e:d=i)=>hd (e▸hi)),<-SW];exact hold
def cI.pure{F:Fr}{st:St}{a:Act}(hs:cI F I st a w){d:Option Tmp}{v:V}{x:Value}(hv:A' I (aB I st.U) w v x):
 cI F I ⟨aW st.s (d.filter (·<F.n)) v,st.U⟩ (a.put d x) w:=
 hs.step hs.sat (cm.refl _) (λ_ _ h=>⟨h,rfl⟩) (Qh _) hv
variable {P:Program} {I:Mu} {ow:Nat->Prop} {w w':World}
def bM(r:V)(k sz:Nat)(x:V):Option V:=
 if x.cells.length=sz/\x.stays=true then
  (if k=0/\r.cells.length=sz then some x
   else if k+sz<=r.cells.length then some (.agg (r.cells.take k++x.cells++r.cells.drop (k+sz)))else none)
 else none
def ve{r x r':V}{k sz:Nat}(h:bM r k sz x=some r'):x.cells.length=sz/\x.stays=true/\k+sz<=r.cells.length/\
 r'.cells=r.cells.take k++x.cells++r.cells.drop (k+sz):=by
 unfold bM at h;split at h
 .rename_i h1;split at h
  .rename_i h2;obtain⟨rfl,h3⟩:=h2;simp only[bb]at h;subst h;refine⟨h1.1,h1.2,by omega,?_⟩;simp[h3]
  .split at h
   .rename_i h3;simp only[bb]at h;subst h;exact⟨h1.1,h1.2,h3,by simp[V.cells]⟩
   .cases h
 .cases h
def G0{rows:List V}{ZH:Nat}(hlen:∀r∈rows,r.cells.length=ZH){i:Nat}{r r':V}(hr:rows[i]?=some r){k sz:Nat}{xs:List V}
 (hk:k+sz<=ZH)(hc:r'.cells=r.cells.take k++xs++r.cells.drop (k+sz)):
 flat (rows.set i r')=(flat rows).take (i*ZH+k)++xs++(flat rows).drop (i*ZH+k+sz):=by
 induction rows generalizing i with
 |nil=>simp at hr
 |cons q rows ih=>
  have hq:=hlen q (by simp);have e:∀l,flat (q::l)=q.cells++flat l:=λl=>by simp[flat]
  cases i with
  |zero=>
   simp only[EE,bb]at hr;subst hr;simp only[List.set_cons_zero,Nat.zero_mul,gY];rw[e,show flat (r'::rows)=r'.cells++flat rows by simp[flat],hc];rw[LD (by omega),Iq (by omega)];simp
  |succ i=>
   simp only[Du]at hr;simp only[List.set_cons_succ];rw[e,e,ih (λx hx=>hlen x (by simp[hx])) hr];have e1:(i+1)*ZH+k=q.cells.length+(i*ZH+k):=by rw[hq,Nat.add_mul];omega
   have e2:(i+1)*ZH+k+sz=q.cells.length+(i*ZH+k+sz):=by omega
   rw[e1,show q.cells.length+(i*ZH+k)+sz=q.cells.length+(i*ZH+k+sz) by omega,List.take_length_add_append,List.drop_length_add_append];simp
def kx{α:Type}(l xs vals:List α)(h:∀(j:Nat) u,xs[j]?=some u->l[j]?=some u)(o:Nat)(ho:o+vals.length<=xs.length):
 ∀(j:Nat) u,(xs.take o++vals++xs.drop (o+vals.length))[j]?=some u->(l.take o++vals++l.drop (o+vals.length))[j]?=some u:=by
 have hl:xs.length<=l.length:=by
  rcases Nat.lt_or_ge l.length xs.length with h1|h1
  .have h2:=h l.length xs[l.length] (by simp[h1]);simp at h2
  .exact h1
 intro j u hu;simp only[gw]at hu|-;rw[KD]at hu|-;simp only[jt,Nat.min_eq_left (show o<=xs.length by omega),Nat.min_eq_left (show o<=l.length by omega)]at hu|-;split at hu
 .rename_i h1;rw[aE h1];rw[List.getElem?_take_of_lt h1]at hu|-;exact h j u hu
 .rename_i h1;rw[aF h1];rw[KD]at hu|-;split at hu
  .rename_i h2;rw[aE h2];exact hu
  .rename_i h2;rw[aF h2];rw[Mb]at hu|-;exact h _ u hu
def aX.cur{rows:List V}{b sz:Nat}{cur:Array Value}{e:TypeId}{fr:Nat×Nat}(h:aX I ow w rows b 0 sz)(hc:w.heap[b]?=some (.cells cur e fr)):
 (∀r∈rows,r.cells.length=sz)/\∃xs,aq I ow w (flat rows) xs/\(∀u∈xs,u.oneCell'=true)/\xs.length=rows.length*sz/\∀(j:Nat) u,xs[j]?=some u->cur.toList[j]?=some u:=by
 rw[iI]at h;obtain⟨h1,h2⟩:=h;obtain⟨xs,h3,h4,h5⟩:=h2.Cp;refine⟨h1,xs,h3,h4,by rw[h3.length,rD h1],λj u hu=>?_⟩;have:=h5 j u hu;rw[cell_of_row w b _ cur e fr hc]at this;simpa using this
def ra{F:Fr}{st:St}{a:Act}(hs:cI F I st a w){o:Oper}{t:TypeId}{x y:Operand}(UU:o.op=.store t x y)(hk:bS P t=true)
 {id i k:Nat}(h1:(cx F.n x).ev st.s=.ptr id i k){ob:Ob}(h2:st.U id=some ob){r r':V}(h3:ob.rows[i]?=some r)(h4:bM r k (P.cellsOf t) ((cx F.n y).ev st.s)=some r'):
 ∃w',(execOp a.eval o).run P w=.ok .skip w'/\cI F I ⟨aW st.s (o.dst.filter (·<F.n)) (.PI []),u' st.U id { ob with rows:=ob.rows.set i r' }⟩ (a.put o.dst undef) w':=by
 have R:=bK hs;obtain⟨c1,c2,c3,c4⟩:=ve h4;have hx:=R x;have hy:=R y;rw[h1]at hx;simp only[A']at hx;split at hx
 .rename_i b Tx cap hid;have QK:=hs.sat.obj id ob h2;rw[hid]at QK;obtain⟨hx,hz⟩:=hx;obtain⟨cur,e1,e2,e3,e4,e5,e6,e7⟩:=QK.plain hz;obtain⟨g1,xs,g2,g3,g4,g5⟩:=e7.cur e1;obtain⟨v1,v2⟩:=hy.cells c2;have vl:=hy.jk c2;have hr:r∈ob.rows:=oe h3;have Ux:=g1 r hr;have hilt:i<ob.rows.length:=(mL.1 h3).1;have hbound:i*Tx+k+P.cellsOf t<=ob.rows.length*Tx:=by
   have:(i+1)*Tx<=ob.rows.length*Tx:=Nat.mul_le_mul_right _ hilt;rw[Nat.add_mul]at this;omega
  have Xh:ob.rows.length*Tx<=cap*Tx:=Nat.mul_le_mul_right _ e5;have Yw:(a.eval y).cells.toList.length=P.cellsOf t:=by rw[Array.length_toList,vl,c1]
  have P8:=run_storeCells_at P b (i*Tx+k) ob.elem (a.eval y).cells.toList 0 cur w e1 (by rw[Yw];omega) v2;simp only[Nat.add_zero]at P8;refine⟨w.setRow b (cur.toList.take (i*Tx+k)++(a.eval y).cells.toList++cur.toList.drop (i*Tx+k+(a.eval y).cells.toList.length)).toArray,?_,?_⟩
  .unfold execOp;rw[UU];simp only[Sem.run_bind,Instr.storeAt,hx,Instr.sureAddr,Sem.run_pure,Result.andThen_ok,storeVar,cc hk,Sem.run_ite,vl,c1,ne_eq,not_true_eq_false,if_false,P8]
  .have VT:w.grownBy (w.setRow b (cur.toList.take (i*Tx+k)++(a.eval y).cells.toList++cur.toList.drop (i*Tx+k+(a.eval y).cells.toList.length)).toArray) (some b):=
    ⟨rfl,rfl,rfl,by simp,λkk _ Ud=>setRow_other w b kk _ (λe=>Ud (by rw[e]))⟩
   have Uy:∀q∈ob.rows.set i r',q.cells.length=Tx:=by
    intro q hq;rcases List.mem_or_eq_of_mem_set hq with hq|rfl
    .exact g1 q hq
    .rw[c4];simp;omega
   have Uw:=G0 g1 h3 (k:=k) (sz:=P.cellsOf t) (xs:=V.cells ((cx F.n y).ev st.s)) (r':=r') (by omega) c4;have Ye:=hs.sat.change h2 hid hz VT _ (ob.rows.set i r') (xs.take (i*Tx+k)++(a.eval y).cells.toList++xs.drop (i*Tx+k+(a.eval y).cells.toList.length))
    (setRow_heap w b cur _ ob.elem _ e1) (by simp only[List.size_toArray,fB,jt,vD,Array.length_toList];rw[Array.length_toList]at Yw;omega) (by simpa using e5) Uy
    (by rw[Uw,<-c1,<-v1.length];rw[show(a.eval y).cells.toList.length=(a.eval y).cells.toList.length from rfl];exact((g2.take _).append v1).append (g2.drop _))
    (by intro u hu
        simp only[dM]at hu;rcases hu with(hu|hu)|hu
        .exact g3 u (qw hu)
        .exact v2 u hu
        .exact g3 u (List.mem_of_mem_drop hu))
    (by intro j u hu
        have:=kx cur.toList xs _ g5 (i*Tx+k) (by rw[Yw,g4];omega) j u hu;simpa using this)
   exact hs.step Ye.1 (cm.refl _) Ye.2 (by simp) (by simp only[A'];exact⟨[],rfl,by simp[aq]⟩)
 .exact hx.elim
def gq{z:Value}(h:∀u∈z.cells.toList,u.oneCell'=true):(ofValue z).cells=z.cells.toList.map cellOf:=by
 unfold ofValue;split
 .rename_i cs;rw[aE (by simpa only[eQ,Value.cells]using h)];simp[V.cells,Value.cells]
 .rename_i hz;have hc:z.cells=#[z]:=by cases z<;>simp_all [Value.cells]
  have h1:=h z (by simp[hc]);rw[hc];simpa using pT (I:=λ_=>.dv) (ow:=λ_=>True) (w:=default) (oy z) h1
def qN{F:Fr}{st:St}{a:Act}(hs:cI F I st a w){o:Oper}{t:TypeId}(UU:o.op=.alloc t){i:TypeInfo}{z:Value}(hz:zeroOf P t=some (i,z)):
 ∃id,st.U id=none/\∃x w' Y',(execOp a.eval o).run P w=.ok (.value x) w'/\
  cI F Y' ⟨aW st.s (o.dst.filter (·<F.n)) (.ptr id 0 0),u' st.U id ⟨t,i.size,[ofValue z]⟩⟩ (a.put o.dst x) w':=by
 obtain⟨hi,Yf,hk,XJ,Re,RM⟩:=eu hz;have QQ:=(dD hk).2.2;have QT:=gq Re;obtain⟨id,hid,Y',h1,h2,h3,h4⟩:=hs.sat.renew (row:=none) (World.grownBy_alloc w (.cells z.cells t) none) none (.inl rfl) w.heap.size i.size 1 z.cells t [ofValue z] z.cells.toList (.inr (Qh _))
  (heap_alloc_new w _) (by omega) (by omega) (by simp) (by simp[maxLen]) (by intro r hr;simp at hr;subst hr;rw[QT];simp[XJ])
  (by simp only[flat,xA,List.flatMap_nil,kj,QT];exact eR _) Re (by intro j u hu;simpa using hu)
 refine⟨id,hid,.pointer (some ⟨w.heap.size,0,none⟩),w.alloc (.cells z.cells t),Y',?_,hs.step h3 h2 h4 (by simp) (by simp[A',h1];omega)⟩;unfold execOp;rw[UU];simp[Instr.alloc,dn hz,newVar,newRow]
def uN{β:Type}(X:Nat×β->List Value)(sz:Nat):∀(ps:List (Nat×β)) (k:Nat) (l:List Value),ps.map (·.1)=List.range' k ps.length->
 (∀p∈ps,(X p).length=sz)->l.length=(k+ps.length)*sz->ps.foldl (λl p=>bJ l (p.1*sz) (X p)) l=l.take (k*sz)++ps.flatMap X
 |[],k,l,_,_,hl=>by
  simp only[List.length_nil,Nat.add_zero]at hl;simp[<-hl]
 |p::ps,k,l,h,hX,hl=>by
  simp only[dO,Rc,List.range'_succ,List.cons.injEq]at h;obtain⟨h1,h2⟩:=h;have hp:=hX p (by simp);simp only[Rc]at hl;have hle:k*sz+sz<=l.length:=by
   rw[hl,<-Nat.add_one_mul];exact Nat.mul_le_mul_right _ (by omega)
  simp only[iY,xA];rw[uN X sz ps (k+1) _ h2 (λq hq=>hX q (by simp[hq])) (by
   rw[ky _ _ _ (by rw[h1,hp];exact hle),hl];congr 1;omega)]
  rw[h1,bJ,hp,Nat.add_one_mul];have e1:(l.take (k*sz)).length=k*sz:=by simp;omega
  have e2:k*sz+sz=(l.take (k*sz)++X p).length:=by rw[fB,e1,hp]
  rw[e2,List.take_left];simp
def oS{F:Fr}{st:St}{a:Act}(hs:cI F I st a w){o:Oper}{t e:TypeId}{len:Nat}{parts:Array (Nat×Operand)}(UU:o.op=.buildSlice t len parts)
 (ht:P.underlying t=some (.slice e)){i:TypeInfo}{z:Value}(hz:zeroOf P e=some (i,z))(WH:parts.toList.map (·.1)=List.range len)(hlen:len*i.size<=16777216)
 (hx:∀x∈parts.toList.map (λp=>(cx F.n p.2).ev st.s),x.cells.length=i.size/\x.stays=true):
 ∃id,st.U id=none/\∃x w' Y',(execOp a.eval o).run P w=.ok (.value x) w'/\
  cI F Y' ⟨aW st.s (o.dst.filter (·<F.n)) (.own id 0 len),u' st.U id ⟨e,i.size,parts.toList.map λp=>(cx F.n p.2).ev st.s⟩⟩ (a.put o.dst x) w':=by
 obtain⟨hi,Yf,hk,XJ,Re,RM⟩:=eu hz;have QQ:=(dD hk).2.2;have hl:parts.toList.length=len:=by
  have:=congrArg List.length WH;simpa using this
 have hX:∀p∈parts.toList,((cx F.n p.2).ev st.s).cells.length=i.size/\((cx F.n p.2).ev st.s).stays=true:=λp hp=>hx _ (by
  simp only[eI];exact⟨p,hp,rfl⟩)
 have hXl:∀p∈parts.toList,(a.eval p.2).cells.toList.length=i.size:=λp hp=>by
  rw[Array.length_toList,(bK hs p.2).jk (hX p hp).2,(hX p hp).1]
 have hzero:∃Z:Array Value,(len*i.size=0->Z=#[])/\(len*i.size≠0->Z=z.cells):=by
  by_cases h0:len*i.size=0
  .exact⟨#[],λ_=>rfl,λh=>absurd h0 h⟩
  .exact⟨z.cells,λh=>absurd h h0,λ_=>rfl⟩
 obtain⟨Z,hZ0,hZ1⟩:=hzero;obtain⟨cs,e1,e2,e3⟩:=mX (λk=>some (k*i.size,i.size)) ((parts.map λ(j,x)=>(j,a.eval x)).toList) ((Array.range (len*i.size)).map (Z[·%Z.size]!)) (by
  intro p hp;simp only[Array.toList_map,eI]at hp;obtain⟨q,hq,rfl⟩:=hp;refine⟨q.1*i.size,i.size,rfl,by simpa using hXl q hq,?_⟩;have:q.1∈List.range len:=by rw[<-WH];exact eI.2 ⟨q,hq,rfl⟩
  simp only[List.mem_range]at this;simp only[Array.size_map,Array.size_range];rw[<-Nat.add_one_mul];exact Nat.mul_le_mul_right _ this)
 have ZI:cs.toList=parts.toList.flatMap λp=>(a.eval p.2).cells.toList:=by
  have e3':=e3;simp only[Array.toList_map,List.foldl_map,Option.map_some,Option.getD_some]at e3';rw[e3'];have:=uN (λp:Nat×Operand=>(a.eval p.2).cells.toList) i.size parts.toList 0 ((Array.range (len*i.size)).map (Z[·%Z.size]!)).toList
   (by rw[WH,hl];exact List.range_eq_range') hXl (by simp[hl])
  simpa using this
 have hsize:cs.size=len*i.size:=by simpa using e2
 have QR:∀(l:List (Nat×Operand)),(∀p∈l,((cx F.n p.2).ev st.s).stays=true)->aq I (aB I st.U) w (flat (l.map λp=>(cx F.n p.2).ev st.s)) (l.flatMap λp=>(a.eval p.2).cells.toList)/\
  ∀u∈l.flatMap λp=>(a.eval p.2).cells.toList,u.oneCell'=true:=by
  intro l
  induction l with
  |nil=>intro _;simp[flat,aq]
  |cons p l ih=>
   intro h;obtain⟨g1,g2⟩:=(bK hs p.2).cells (h p (by simp));obtain⟨g3,g4⟩:=ih (λq hq=>h q (by simp[hq]));refine⟨?_,?_⟩
   .simp only[flat,dO,xA]at g3|-;exact g1.append g3
   .intro u hu;simp only[xA,dM]at hu;rcases hu with hu|hu
    .exact g2 u hu
    .exact g4 u hu
 obtain⟨r1,r2⟩:=QR parts.toList (λp hp=>(hX p hp).2);have hmax:len<=maxLen:=by
  have:len*1<=len*i.size:=Nat.mul_le_mul_left _ (by omega);simp only[maxLen];omega
 obtain⟨id,hid,Y',h1,h2,h3,h4⟩:=hs.sat.renew (row:=none) (World.grownBy_alloc w (.cells cs e) none) none (.inl rfl) w.heap.size i.size len cs e
  (parts.toList.map λp=>(cx F.n p.2).ev st.s) cs.toList (.inr (Qh _))
  (heap_alloc_new w _) (by omega) hsize (by simp[hl]) hmax (by intro r hr;simp only[eI]at hr;obtain⟨p,hp,rfl⟩:=hr;exact(hX p hp).1)
  (by rw[ZI];exact r1) (by rw[ZI];exact r2) (by intro j u hu;simpa using hu)
 refine⟨id,hid,.slice (some ⟨w.heap.size,0,none⟩) len len,w.alloc (.cells cs e),Y',?_,hs.step h3 h2 h4 (by simp) ?_⟩
 .have e1':=e1;simp only[Array.toList_map]at e1';unfold execOp;rw[UU];simp only[Instr.buildSlice,Sem.run_bind,run_underlying ht,Result.andThen_ok,cc hk,<-RM,Sem.run_ite];rw[aF (by omega)];by_cases h0:len*i.size=0
  .rw[hZ0 h0]at e1';rw[aE h0];simp only[Sem.run_pure,Result.andThen_ok,Array.toList_map];rw[e1'];simp[newRow]
  .rw[hZ1 h0]at e1';rw[aF h0];simp only[Sem.run_pure,Result.andThen_ok,Array.toList_map,dn hz];rw[e1'];simp[newRow]
 .simp only[A',h1];exact⟨0,len,rfl,Qh _,by omega,.inl (by omega),by omega⟩
def jG(z:Array Value)(n:Nat):(Builtin.zeroCells z n).toList=(List.replicate n z.toList).flatten:=by
 induction n with
 |zero=>simp[Builtin.zeroCells]
 |succ n ih=>
  rw[List.replicate_succ',List.flatten_append,<-ih];simp only[Builtin.zeroCells,Array.toList_map,Array.toList_range];rw[Nat.add_mul,Nat.one_mul,List.range_add,eo,List.map_map];congr 1;simp only[List.flatten_cons,List.flatten_nil,kj];apply List.ext_getElem
  .simp
  .intro i h1 h2;simp only[cL,List.length_range]at h1;simp[Nat.add_mod,Nat.mul_mod_left,Nat.mod_eq_of_lt h1,getElem!_pos,h1]
def tt(z:V)(n:Nat):flat (List.replicate n z)=(List.replicate n z.cells).flatten:=by
 simp[flat,List.flatMap]
def Ao{F:Fr}{st:St}{a:Act}(hs:cI F I st a w){o:Oper}{t e:TypeId}{l c:Operand}(UU:o.op=.makeSlice t l c)(heq:sq l c=true)
 (ht:P.underlying t=some (.slice e)){i:TypeInfo}{z:Value}(hz:zeroOf P e=some (i,z)){m:Int}(hm:(cx F.n l).ev st.s=.int .i64 m)(h0:0<=m)
 (hb:m.toNat*(i.bytes+1)<=140737488355328):
 ∃id,st.U id=none/\∃x w' Y',(execOp a.eval o).run P w=.ok (.value x) w'/\
  cI F Y' ⟨aW st.s (o.dst.filter (·<F.n)) (.own id 0 m.toNat),u' st.U id ⟨e,i.size,List.replicate m.toNat (ofValue z)⟩⟩ (a.put o.dst x) w':=by
 obtain⟨hi,Yf,hk,XJ,Re,RM⟩:=eu hz;have QQ:=(dD hk).2.2;have QT:=gq Re;obtain⟨k,rfl⟩:∃k:Nat,m=k:=⟨m.toNat,by omega⟩
 simp only[eL]at hb|-;have TY:a.eval l=.int .i64 k:=by
  have:=bK hs l;rw[hm]at this;simpa[A']using this
 have XK:a.eval c=.int .i64 k:=by
  have:a.eval c=a.eval l:=by
   cases l<;>cases c<;>simp only[sq,gj]at heq
   case tmp.tmp x y=>
    have:x=y:=by simpa using heq
    rw[this]
   case const.const x y=>
    split at heq
    .rename_i k1 a1 k2 b1 _ _;have:=of_decide_eq_true heq;rename_i e1 e2;simp_all
    .simp_all
    .cases heq
  rw[this,TY]
 have hkb:k*i.bytes<=140737488355328:=iq (Nat.mul_le_mul_left _ (by omega)) hb;have Sc:k<=140737488355328:=iq (Nat.le_mul_of_pos_right _ (by omega)) hb;have PY:=run_make (P:=P) w t e i z ht hi Yf .i64 .i64 k k (by omega) (by omega) (by
  have:((k*i.bytes:Nat):Int)<=140737488355328:=by omega
  rw[Int.natCast_mul]at this;rw[Int.mul_comm];omega) (by omega)
 have hmade:madeCells z.cells (k*i.size)=Builtin.zeroCells z.cells k:=by rw[madeCells,Builtin.zeroCells,XJ]
 simp only[eL]at PY;rw[hmade]at PY;have hl:=jG z.cells k;have QR:∀n,aq I (aB I st.U) w (flat (List.replicate n (ofValue z))) (List.replicate n z.cells.toList).flatten:=by
  intro n
  induction n with
  |zero=>simp[flat,aq]
  |succ n ih=>
   simp only[List.replicate_succ,flat,xA,List.flatten_cons]at ih|-;refine aq.append ?_ ih;rw[QT];exact eR _
 obtain⟨id,hid,Y',h1,h2,h3,h4⟩:=hs.sat.renew (row:=none) (World.grownBy_alloc w (.cells (Builtin.zeroCells z.cells k) e) none) none (.inl rfl) w.heap.size i.size k (Builtin.zeroCells z.cells k) e
  (List.replicate k (ofValue z)) (Builtin.zeroCells z.cells k).toList (.inr (Qh _))
  (heap_alloc_new w _) (by omega) (by rw[size_zeroCells,XJ]) (by simp) (by simp only[maxLen];omega) (by
    intro r hr;rw[(List.mem_replicate.1 hr).2,QT];simp[XJ])
  (by rw[hl];exact QR k) (by
    rw[hl];intro u hu;simp only[List.mem_flatten,List.mem_replicate]at hu;obtain⟨l',⟨_,rfl⟩,hu⟩:=hu;exact Re u hu) (by intro j u hu;simpa using hu)
 refine⟨id,hid,.slice (some ⟨w.heap.size,0,none⟩) k k,w.alloc (.cells (Builtin.zeroCells z.cells k) e),Y',?_,hs.step h3 h2 h4 (by simp) ?_⟩
 .unfold execOp;rw[UU];simp only[TY,XK];simp[PY]
 .simp only[A',h1];exact⟨0,k,rfl,Qh _,by omega,.inl (by omega),by omega⟩
variable {P:Program} {I:Mu} {ow:Nat->Prop} {w w':World}
def cA(U:ag)(sz:Nat):V->Option (List V)
 |.own id off len=>match U id with
   |some ob=>if ob.sz=sz/\off+len<=ob.rows.length then some ((ob.rows.drop off).take len)else none
   |none=>none
 |.sl Sr rows=>if Sr=sz then some rows else none
 |.aL=>some []
 |.str s=>if sz=1 then some (s.map λb=>.int .u8 b.toNat)else none
 |_=>none
def cK(U:ag)(e:TypeId)(sz:Nat):V->Option (List V×Option Nat)
 |.own id off len=>match U id with
   |some ob=>if ob.sz=sz/\ob.elem=e/\off=0/\len<=ob.rows.length then some (ob.rows.take len,some id)else none
   |none=>none
 |.aL=>some ([],none)
 |_=>none
def nJ{w0:World}{QA:Nat->Prop}{U:ag}(RT:Sat w0 QA I U w){sz:Nat}(RM:0<sz){v:V}{x:Value}{rows:List V}(h:cA U sz v=some rows)
 (hx:A' I (aB I U) w v x):∃news,(∀w':World,(Builtin.lenOf x).run P w'=.ok rows.length w')/\(∀r∈rows,r.cells.length=sz)/\aq I (aB I U) w (flat rows) news/\(∀u∈news,u.oneCell'=true)/\
   news.length=rows.length*sz/\∀w',(∀b off u,w.cell? ⟨b,off,none⟩=some u->w'.cell? ⟨b,off,none⟩=some u)->(Builtin.firstCells sz rows.length x).run P w'=.ok news.toArray w':=by
 have Yx:∀(rs:List V) (b off:Nat) (c:Nat),aX I (aB I U) w rs b off sz->x=.slice (some ⟨b,off,none⟩) rs.length c->rs=rows->
  ∃news,(∀w':World,(Builtin.lenOf x).run P w'=.ok rows.length w')/\(∀r∈rows,r.cells.length=sz)/\aq I (aB I U) w (flat rows) news/\(∀u∈news,u.oneCell'=true)/\
  news.length=rows.length*sz/\∀w',(∀b off u,w.cell? ⟨b,off,none⟩=some u->w'.cell? ⟨b,off,none⟩=some u)->(Builtin.firstCells sz rows.length x).run P w'=.ok news.toArray w':=by
  rintro rs b off c hr rfl rfl;rw[iI]at hr;obtain⟨h1,h2⟩:=hr;obtain⟨news,h3,h4,h5⟩:=h2.Cp;have hl:news.length=rs.length*sz:=by rw[h3.length,rD h1]
  refine⟨news,λ_=>rfl,h1,h3,h4,hl,λw' hw'=>?_⟩;exact run_firstCells_some (P:=P) w' sz rs.length ⟨b,off,none⟩ rs.length c news hl (λj v hv=>by rw[addr_add];exact hw' _ _ _ (h5 j v hv))
 have Tz:∀(a:Option Addr) (c:Nat),x=.slice a 0 c->rows=[]->
  ∃news,(∀w':World,(Builtin.lenOf x).run P w'=.ok rows.length w')/\(∀r∈rows,r.cells.length=sz)/\aq I (aB I U) w (flat rows) news/\(∀u∈news,u.oneCell'=true)/\
  news.length=rows.length*sz/\∀w',(∀b off u,w.cell? ⟨b,off,none⟩=some u->w'.cell? ⟨b,off,none⟩=some u)->(Builtin.firstCells sz rows.length x).run P w'=.ok news.toArray w':=by
  rintro a c rfl rfl;refine⟨[],λ_=>rfl,by simp,by simp[flat,aq],by simp,by simp,λw' _=>?_⟩;cases a<;>simp[Builtin.firstCells,loadCells,loadCellsFrom]
 unfold cA at h;split at h
 .rename_i id off len;split at h
  .rename_i ob QK;split at h
   .rename_i hc;simp only[bb]at h;simp only[A']at hx;have Ri:=RT.obj id ob QK;have hlen:rows.length=len:=by rw[<-h];simp;omega
    split at hx
    .exact hx.elim
    .obtain⟨rfl,rfl,rfl⟩:=hx;exact Tz none 0 rfl (by rw[<-h];simp)
    .rename_i b Tx cap hid;obtain⟨o,c,rfl,XI,Yu,R5,hz⟩:=hx;by_cases h0:len=0
     .subst h0;exact Tz _ c rfl (rO hlen)
     .rw[hid]at Ri;obtain⟨g1,g2,g3,g4,g5⟩:=Ri.rows hz;have ho:o=off*Tx:=by
       rcases R5 with R5|R5
       .exact R5
       .omega
      subst ho;have hs:Tx=sz:=by omega
      subst hs;have:=(g5.drop off).take len;rw[gY]at this;exact Yx _ b _ c this (by rw[h,hlen]) h
   .cases h
  .cases h
 .rename_i Sr Qv;split at h
  .rename_i hsz';subst hsz';simp only[bb]at h;subst h;simp only[A']at hx;obtain⟨a,cap,rfl,hl,hr⟩:=hx;rcases hr with rfl|⟨b,off,rfl,hb,hs,hr⟩
   .exact Tz a cap rfl rfl
   .exact Yx Qv b off cap hr rfl rfl
  .cases h
 .simp only[bb]at h;subst h;simp only[A']at hx;exact Tz none 0 hx rfl
 .rename_i s;split at h
  .rename_i h1;simp only[bb]at h;subst h h1;simp only[A']at hx;subst hx;have Te:∀l:List UInt8,aq I (aB I U) w (flat (l.map λb=>V.int .u8 b.toNat)) (l.map λb=>Value.int .u8 b.toNat):=by
    intro l
    induction l with
    |nil=>simp[flat,aq]
    |cons b l ih=>simp only[flat,dO,xA,V.cells,List.singleton_append,aq]at ih|-;exact⟨_,_,rfl,by simp[A'],ih⟩
   refine⟨s.map λb=>Value.int .u8 b.toNat,λ_=>by simp[Builtin.lenOf,ByteArray.size],by simp[V.cells],Te s,by simp[Value.oneCell'],by simp,λw' _=>?_⟩;have:=Lib.run_firstCells_string (P:=P) w' 1 ⟨s.toArray⟩;simpa[ByteArray.size,Lib.strCells]using this
  .cases h
 .cases h
def rJ(t t' ty e:TypeId)(i:TypeInfo)(ht:P.underlying t=some (.slice e))(XL:t'=t\/P.underlying t'=some .string)(hi:P.info? e=some i)
 (b RU Ue:Nat)(cur:Array Value)(hg:w.heap[b]?=some (.cells cur e (0,0)))(Y:Value)(n:Nat)(news:List Value)(hl:(Builtin.lenOf Y).run P w=.ok n w)
 (hf:(Builtin.firstCells i.size n Y).run P w=.ok news.toArray w)(h1:∀u∈news,u.oneCell'=true)
 (VU:RU+n<=Ue)(Rj:RU*i.size+news.length<=cur.size):
 (Builtin.append_ #[t,t'] ty #[.slice (some ⟨b,0,none⟩) RU Ue,Y]).run P w=
   .ok (.slice (some ⟨b,0,none⟩) (RU+n) Ue) (w.setRow b (cur.toList.take (RU*i.size)++news++cur.toList.drop (RU*i.size+news.length)).toArray):=by
 have P8:=run_storeCells_at P b (RU*i.size) e news 0 cur w hg (by simpa using Rj) h1;simp only[Nat.add_zero]at P8;rcases XL with rfl|XL
 .simp[Builtin.append_,run_underlying ht,sizeOf,typeInfo,hi,hl,VU,hf,Addr.add_lit,P8]
 .simp[Builtin.append_,run_underlying ht,run_underlying XL,sizeOf,typeInfo,hi,hl,VU,hf,Addr.add_lit,P8]
def uw(t t' ty e:TypeId)(i:TypeInfo)(z:Value)(ht:P.underlying t=some (.slice e))(XL:t'=t\/P.underlying t'=some .string)(hi:P.info? e=some i)(hz:i.zero=some z)
 (ba:Option Addr)(RU Ue:Nat)(Uf:List Value)(Uv:(Builtin.firstCells i.size RU (.slice ba RU Ue)).run P w.drew=.ok Uf.toArray w.drew)
 (Y:Value)(n:Nat)(news:List Value)(hl:(Builtin.lenOf Y).run P w=.ok n w)(hf:(Builtin.firstCells i.size n Y).run P w.drew=.ok news.toArray w.drew)
 (hg:Ue<RU+n)(h63:((RU+n:Nat):Int)<=9223372036854775807)(Rj:Builtin.nextslicecap (RU+n) Ue*i.bytes<=281474976710656):
 (Builtin.append_ #[t,t'] ty #[.slice ba RU Ue,Y]).run P w=
   .ok (.slice (some ⟨w.heap.size,0,none⟩) (RU+n) (grownCap w (RU+n) Ue e))
    (w.drew.alloc (.cells (Uf.toArray++news.toArray++Builtin.zeroCells z.cells (grownCap w (RU+n) Ue e-(RU+n))) e)):=by
 have hn:¬(RU+n<=Ue):=by omega
 have h63':¬(9223372036854775807<((RU:Int)+(n:Int))):=by omega
 have h48':¬(281474976710656<Builtin.nextslicecap (RU+n) Ue*i.bytes):=by omega
 rcases XL with rfl|XL
 .simp[Builtin.append_,run_underlying ht,sizeOf,typeInfo,zeroValue,hi,hz,hl,hn,h63',h48',Question.forced,hf,Uv,newRow,grownCap];congr 2;apply Array.ext';simp[gw]
 .simp[Builtin.append_,run_underlying ht,run_underlying XL,sizeOf,typeInfo,zeroValue,hi,hz,hl,hn,h63',h48',Question.forced,hf,Uv,newRow,grownCap];congr 2;apply Array.ext';simp[gw]
def p7{rows:List V}{sz:Nat}(h:∀r∈rows,r.cells.length=sz)(k:Nat):flat (rows.take k)=(flat rows).take (k*sz):=by
 induction rows generalizing k with
 |nil=>simp[flat]
 |cons r rs ih=>
  have e:∀l,flat (r::l)=r.cells++flat l:=λl=>by simp[flat]
  cases k with
  |zero=>simp[flat]
  |succ k=>
   rw[BG,e,e,ih (λx hx=>h x (by simp[hx])),Nat.add_mul,Nat.one_mul,Eu,<-h r (by simp),List.take_length_add_append]
def pf{F:Fr}{st:St}{a:Act}(hs:cI F I st a w){o:Oper}{t t' e:TypeId}{x y:Operand}{args:Array Operand}{argTypes:Array TypeId}
 (UU:o.op=.call { callee:=.builtin .append,args:=args,argTypes:=argTypes })(QB:args=#[x,y])(Vj:argTypes=#[t,t'])(XL:t'=t\/P.underlying t'=some .string)(ht:P.underlying t=some (.slice e))
 {i:TypeInfo}{z:Value}(hz:zeroOf P e=some (i,z)){base src:List V}{PU:Option Nat}
 (hd:cK st.U e i.size ((cx F.n x).ev st.s)=some (base,PU))(WI:cA st.U i.size ((cx F.n y).ev st.s)=some src)
 (Yy:(base.length+src.length)*(i.bytes+1)<=140737488355328):
 ∃id,st.U id=none/\∃r w' Y',(execOp a.eval o).run P w=.ok (.value r) w'/\
  cI F Y' ⟨aW st.s (o.dst.filter (·<F.n)) (.own id 0 (base.length+src.length)),u' (bF st.U PU) id ⟨e,i.size,base++src⟩⟩ (a.put o.dst r) w':=by
 obtain⟨hi,Yf,hk,XJ,Re,hszc⟩:=eu hz;have QQ:0<i.size:=by rw[hszc];exact(dD hk).2.2
 have hbytes1:(base.length+src.length)*i.bytes<=140737488355328:=iq (Nat.mul_le_mul_left _ (by omega)) Yy;have hbytes2:base.length+src.length<=140737488355328:=iq (Nat.le_mul_of_pos_right _ (by omega)) Yy;obtain⟨news,hY,n1,n2,n3,n4,n5⟩:=nJ (P:=P) hs.sat QQ WI (bK hs y);have Yz:∀r w',(Builtin.append_ #[t,t'] o.type #[a.eval x,a.eval y]).run P w=.ok r w'->(execOp a.eval o).run P w=.ok (.value r) w':=by
  intro r w' h;unfold execOp;rw[UU];subst QB Vj;simp[resolve,invoke,Go.builtin,h]
 have hdrew:∀b off u,w.cell? ⟨b,off,none⟩=some u->w.drew.cell? ⟨b,off,none⟩=some u:=λ_ _ _ h=>h;have h63:base.length+src.length<=maxLen:=by simp only[maxLen];omega
 have h63':((base.length+src.length:Nat):Int)<=9223372036854775807:=by omega
 have hnew:∀(PU:Option Nat) (ba:Option Addr) (YA:Nat) (Uf:List Value),YA<base.length+src.length->a.eval x=.slice ba base.length YA->
  (Builtin.firstCells i.size base.length (.slice ba base.length YA)).run P w.drew=.ok Uf.toArray w.drew->Uf.length=base.length*i.size->
  (∀r∈base,r.cells.length=i.size)->aq I (aB I st.U) w (flat base) Uf->(∀u∈Uf,u.oneCell'=true)->
  ∃id,st.U id=none/\∃r w' Y',(execOp a.eval o).run P w=.ok (.value r) w'/\
   cI F Y' ⟨aW st.s (o.dst.filter (·<F.n)) (.own id 0 (base.length+src.length)),u' (bF st.U PU) id ⟨e,i.size,base++src⟩⟩ (a.put o.dst r) w':=by
  intro PU ba YA Uf hold hX Uv hol UI Qp hb3;have PY:=uw (P:=P) (w:=w) t t' o.type e i z ht XL hi Yf ba base.length YA Uf Uv (a.eval y) src.length news (hY w) (n5 w.drew hdrew) hold h63' (growslice_fits hold hbytes1);rw[<-hX]at PY;have UJ:=grownCap_ge w (base.length+src.length) YA e;have hle:=grownCap_le_maxLen w (base.length+src.length) YA e h63;have hlen2:(Uf.toArray++news.toArray++Builtin.zeroCells z.cells (grownCap w (base.length+src.length) YA e-(base.length+src.length))).size=grownCap w (base.length+src.length) YA e*i.size:=by
   simp only[Array.size_append,List.size_toArray,size_zeroCells,XJ,hol,n4,<-Nat.add_mul];congr 1;omega
  obtain⟨id,hid,Y',g1,g2,g3,g4⟩:=hs.sat.renew (row:=none)
   (w':=w.drew.alloc (.cells (Uf.toArray++news.toArray++Builtin.zeroCells z.cells (grownCap w (base.length+src.length) YA e-(base.length+src.length))) e))
   ⟨rfl,rfl,rfl,by simp,λk hk _=>heap_alloc_old w.drew _ k hk⟩ PU (.inl rfl) w.heap.size i.size (grownCap w (base.length+src.length) YA e) _ e (base++src) (Uf++news)
   (.inr (Qh _)) (heap_alloc_new w.drew _) QQ hlen2 (by simpa using UJ) hle
   (by intro r hr;rcases dM.1 hr with hr|hr;exact UI r hr;exact n1 r hr) (by rw[gF];exact Qp.append n2)
   (by intro u hu;rcases dM.1 hu with hu|hu;exact hb3 u hu;exact n3 u hu)
   (by intro j u hu
       have hj:=(mL.1 hu).1;rw[<-Array.getElem?_toList];simp only[Array.toList_append];rw[E7 (by simpa using hj)];exact hu)
  refine⟨id,hid,_,_,Y',Yz _ _ PY,hs.step g3 g2 g4 (by simp) ?_⟩;simp only[A',g1];exact⟨0,_,rfl,UJ,by omega,.inl (by omega),by omega⟩
 have Tz:a.eval x=.slice none 0 0->base=[]->∃id,st.U id=none/\∃r w' Y',(execOp a.eval o).run P w=.ok (.value r) w'/\
  cI F Y' ⟨aW st.s (o.dst.filter (·<F.n)) (.own id 0 (base.length+src.length)),u' (bF st.U PU) id ⟨e,i.size,base++src⟩⟩ (a.put o.dst r) w':=by
  rintro hX rfl;by_cases h0:src.length=0
  .have hsrc0:src=[]:=rO h0;subst hsrc0;obtain⟨id,hid,Y',g1,g2,g3,g4⟩:=hs.sat.EZ PU e i.size;have hf:=n5 w (λ_ _ _ h=>h);refine⟨id,hid,.slice none 0 0,w,Y',Yz _ _ ?_,hs.step g3 g2 g4 (Qh _) (by simp[A',g1])⟩;rw[hX];have hl:=hY w;simp only[List.length_nil]at hf hl|-;rcases XL with rfl|XL
   .simp[Builtin.append_,run_underlying ht,sizeOf,typeInfo,hi,hl,hf]
   .simp[Builtin.append_,run_underlying ht,run_underlying XL,sizeOf,typeInfo,hi,hl,hf]
  .exact hnew PU none 0 [] (by simp;omega) hX (by simp[Builtin.firstCells]) (by simp) (by simp) (by simp[flat,aq]) (by simp)
 have hx:=bK hs x;unfold cK at hd;split at hd
 .rename_i id off len hxv;rw[hxv]at hx;split at hd
  .rename_i ob QK;split at hd
   .rename_i hc;obtain⟨c1,c2,rfl,c4⟩:=hc;simp only[bb,Prod.mk.injEq]at hd;obtain⟨rfl,rfl⟩:=hd;have Ri:=hs.sat.obj id ob QK;simp only[A']at hx;split at hx
    .exact hx.elim
    .rename_i hid;obtain⟨hX,_,rfl⟩:=hx;exact Tz hX (by simp)
    .rename_i b Tx cap hid;obtain⟨Uu,c,hX,XI,Yu,R5,hz⟩:=hx;have ho:Uu=0:=by
      rcases R5 with R5|R5
      .simpa using R5
      .exact absurd rfl R5.2
     subst ho;rw[hid]at Ri;obtain⟨cur,e1,e2,e3,e4,e5,e6,e7⟩:=Ri.plain hz;obtain⟨q1,xs,q2,q3,q4,q5⟩:=e7.cur e1;rw[c2]at e1;have hszb:Tx=i.size:=by omega
     subst hszb;have Q0:(ob.rows.take len).length=len:=by simp;omega
     have holen:(xs.take (len*i.size)).length=len*i.size:=by
      rw[jt,q4];exact Nat.min_eq_left (Nat.mul_le_mul_right _ c4)
     have UI:∀r∈ob.rows.take len,r.cells.length=i.size:=λr hr=>q1 r (qw hr);have Qp:aq I (aB I st.U) w (flat (ob.rows.take len)) (xs.take (len*i.size)):=by rw[p7 q1];exact q2.take _
     have hb3:∀u∈xs.take (len*i.size),u.oneCell'=true:=λu hu=>q3 u (qw hu);have SD:∀(j:Nat) u,(xs.take (len*i.size))[j]?=some u->cur.toList[j]?=some u:=by
      intro j u hu;rw[List.getElem?_take]at hu;split at hu
      .exact q5 j u hu
      .cases hu
     by_cases VU:len+src.length<=c
     .have WD:len+src.length<=cap:=by omega
      have Rj:len*i.size+news.length<=cur.size:=by rw[n4,e4,<-Nat.add_mul];exact Nat.mul_le_mul_right _ WD
      have hf:=n5 w (λ_ _ _ h=>h);have PY:=rJ (P:=P) (w:=w) t t' o.type e i ht XL hi b len c cur e1 (a.eval y) src.length news (hY w) hf n3 VU Rj;rw[<-hX]at PY;obtain⟨Sd,SR,Y',g1,g2,g3,g4⟩:=hs.sat.renew (row:=some b)
       (w':=w.setRow b (cur.toList.take (len*i.size)++news++cur.toList.drop (len*i.size+news.length)).toArray)
       ⟨rfl,rfl,rfl,by simp,λk hk Ud=>setRow_other w b k _ (λe=>Ud (by rw[e]))⟩ (some id) (.inr ⟨id,ob,i.size,cap,b,rfl,QK,hid,rfl⟩) b i.size cap _ e (ob.rows.take len++src)
       (xs.take (len*i.size)++news) (.inl rfl) (setRow_heap w b cur _ e _ e1) e3
       (by simp only[List.size_toArray,fB,jt,vD,Array.length_toList];omega) (by rw[fB,Q0];exact WD) e6
       (by intro r hr;rcases dM.1 hr with hr|hr;exact UI r hr;exact n1 r hr) (by rw[gF];exact Qp.append n2)
       (by intro u hu;rcases dM.1 hu with hu|hu;exact hb3 u hu;exact n3 u hu)
       (by intro j u hu
           have hj:=(mL.1 hu).1;have htake:cur.toList.take (len*i.size)=xs.take (len*i.size):=by
            apply List.ext_getElem?;intro k;by_cases hk:k<len*i.size
            .have hkx:k<(xs.take (len*i.size)).length:=by omega
             rw[SQ hkx,List.getElem?_take_of_lt hk];exact SD k _ (SQ hkx)
            .rw[nF (by simp;omega),nF (by omega)]
           rw[<-Array.getElem?_toList];simp only[];rw[htake,E7 (by simpa using hj)];exact hu)
      rw[Q0];refine⟨Sd,SR,_,_,Y',Yz _ _ PY,hs.step g3 g2 g4 (by simp) ?_⟩;simp only[A',g1];exact⟨0,c,rfl,VU,by omega,.inl (by omega),by omega⟩
     .refine hnew (some id) (some ⟨b,0,none⟩) c (xs.take (len*i.size)) (by rw[Q0];omega) (by rw[Q0];exact hX) ?_ (by rw[Q0];exact holen) UI Qp hb3;rw[Q0];refine run_firstCells_some (P:=P) w.drew i.size len ⟨b,0,none⟩ len c _ holen (λj u hu=>?_);rw[addr_add,gY,World.cell?_drew,cell_of_row w b j cur e (0,0) e1];simpa using SD j u hu
   .cases hd
  .cases hd
 .rename_i hxv;rw[hxv]at hx;simp only[bb,Prod.mk.injEq]at hd;obtain⟨rfl,rfl⟩:=hd;simp only[A']at hx;exact Tz hx rfl
 .cases hd
def tA{F:Fr}{st:St}{a:Act}(hs:cI F I st a w){o:Oper}{t tn e:TypeId}{kn:IntKind}{x y:Operand}{args:Array Operand}{argTypes:Array TypeId}
 (UU:o.op=.call { callee:=.builtin .append,args:=args,argTypes:=argTypes })(QB:args=#[x,y])(Vj:argTypes=#[t,tn])(ht:P.underlying t=some (.slice e))(htn:P.underlying tn=some (.int kn))
 {i:TypeInfo}{z:Value}(hz:zeroOf P e=some (i,z))(hx:(cx F.n x).ev st.s=.aL){kq:IntKind}{m:Int}(hm:(cx F.n y).ev st.s=.int kq m)(h0:0<m)
 (hb:m.toNat*(i.bytes+1)<=140737488355328):
 ∃id,st.U id=none/\∃r w' Y',(execOp a.eval o).run P w=.ok (.value r) w'/\
  cI F Y' ⟨aW st.s (o.dst.filter (·<F.n)) (.own id 0 m.toNat),u' st.U id ⟨e,i.size,List.replicate m.toNat (ofValue z)⟩⟩ (a.put o.dst r) w':=by
 obtain⟨hi,Yf,hk,XJ,Re,hszc⟩:=eu hz;have QQ:0<i.size:=by rw[hszc];exact(dD hk).2.2
 have QT:=gq Re;obtain⟨k,rfl⟩:∃k:Nat,m=k:=⟨m.toNat,by omega⟩
 simp only[eL]at hb|-;have hkb:k*i.bytes<=140737488355328:=iq (Nat.mul_le_mul_left _ (by omega)) hb;have Sc:k<=140737488355328:=iq (Nat.le_mul_of_pos_right _ (by omega)) hb;have hX:a.eval x=.slice none 0 0:=by
  have:=bK hs x;rw[hx]at this;simpa[A']using this
 have hY:a.eval y=.int kq k:=by
  have:=bK hs y;rw[hm]at this;simpa[A']using this
 have PY:=Lib.run_append_grow_zeros (P:=P) w t tn o.type e i z kq kn ht htn hi Yf none 0 0 [] (run_firstCells_none w.drew i.size 0 0 0) k (by omega) QQ (by omega) (by omega) (by omega)
  (growslice_fits (by omega) (by rw[gY];exact hkb))
 rw[<-hX,<-hY,gY]at PY;have UJ:=grownCap_ge w k 0 e;have hle:=grownCap_le_maxLen w k 0 e (by simp only[maxLen];omega);have hl:=jG z.cells k;have QR:∀n,aq I (aB I st.U) w (flat (List.replicate n (ofValue z))) (List.replicate n z.cells.toList).flatten:=by
  intro n
  induction n with
  |zero=>simp[flat,aq]
  |succ n ih=>
   simp only[List.replicate_succ,flat,xA,List.flatten_cons]at ih|-;refine aq.append ?_ ih;rw[QT];exact eR _
 obtain⟨id,hid,Y',g1,g2,g3,g4⟩:=hs.sat.renew (row:=none)
  (w':=w.drew.alloc (.cells (([]:List Value).toArray++Builtin.zeroCells z.cells k++Builtin.zeroCells z.cells (grownCap w k 0 e-k)) e))
  ⟨rfl,rfl,rfl,by simp,λk hk _=>heap_alloc_old w.drew _ k hk⟩ none (.inl rfl) w.heap.size i.size (grownCap w k 0 e) _ e (List.replicate k (ofValue z)) (Builtin.zeroCells z.cells k).toList
  (.inr (Qh _)) (heap_alloc_new w.drew _) QQ (by
    simp only[Array.size_append,List.size_toArray,size_zeroCells,XJ,List.length_nil,gY,<-Nat.add_mul];congr 1;omega) (by simpa using UJ) hle
  (by
    intro r hr;rw[(List.mem_replicate.1 hr).2,QT];simp[XJ]) (by rw[hl];exact QR k)
  (by
    rw[hl];intro u hu;simp only[List.mem_flatten,List.mem_replicate]at hu;obtain⟨l',⟨_,rfl⟩,hu⟩:=hu;exact Re u hu)
  (by
    intro j u hu;have hj:=(mL.1 hu).1;rw[<-Array.getElem?_toList];simp only[Array.toList_append,jU];rw[E7 hj];exact hu)
 refine⟨id,hid,.slice (some ⟨w.heap.size,0,none⟩) k (grownCap w k 0 e),_,Y',?_,hs.step g3 g2 g4 (by simp) ?_⟩
 .unfold execOp;rw[UU];subst QB Vj;simp[resolve,invoke,Go.builtin,PY]
 .simp only[A',g1];exact⟨0,_,rfl,UJ,by omega,.inl (by omega),by omega⟩
end Go.Vc
