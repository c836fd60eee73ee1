/- Part 1 of the library of this proof. -/
import Derived.Calls
import Derived.Below
import Derived.Laws.AppendOwn
import Derived.Tactics
import Derived.ChangeKeysEq
import Derived.Orders
import Derived.Laws.MakeOwn
import Derived.Lib.AppendZerosOnto
import Derived.Lib.AppendStr
set_option linter.all false
namespace Go.Vc
theorem Oi {α:Type _} (a b:α):(some a=some b)=(a=b):=Option.some.injEq a b
theorem Ba (a b:Bool):((a && b)=true)=(a=true∧b=true):=Bool.and_eq_true a b
inductive V where
 | undef
 | int (k:IntKind) (n:Int)
 | bool (b:Bool)
 | str (s:List UInt8)
 | aD
 | sl (sz:Nat) (rows:List V)
 | own (id off len:Nat)
 | ptr (id i k:Nat)
 | rp (v:V)
 | nilp
 | fn (f:FuncId) (caps:List V)
 | bm (f:FuncId) (first:List V)
 | nilfn
 | iface (t:TypeId) (v:V)
 | niliface
 | agg (cells:List V)
 | tup (vs:List V)
 | raw (v:Value)
 | obj (o:Obj)
 | gp (id:Nat)
 | yl (id:Nat)
 | mp (id:Nat)
 deriving Inhabited
inductive Pl where
 | dj
 | nil
 | lies (b sz cap:Nat)
abbrev Mu:=Nat→Pl
structure Ob where
 elem:TypeId
 sz:Nat
 rows:List V
abbrev af:=Nat→Option Ob
def V.cells:V→List V
 | .agg vs=>vs
 | v=>[v]
mutual
def Rep (μ:Mu) (ow:Nat→Prop) (w:World):V→Value→Prop
 | .undef,_=>True
 | .int k n,x=>x=.int k n
 | .bool b,x=>x=.bool b
 | .str s,x=>x=.string ⟨s.toArray⟩
 | .aD,x=>x=.slice none 0 0
 | .sl sz rows,x=>∃a cap,x=.slice a rows.length cap∧rows.length≤cap ∧
    (rows=[]∨∃b off,a=some ⟨b,off,none⟩∧¬ow b∧0 < sz∧aX μ ow w rows b off sz)
 | .own id off len,x=>match μ id with
    | .dj=>False
    | .nil=>x=.slice none 0 0∧off=0∧len=0
    | .lies b sz cap=>∃o c,x=.slice (some ⟨b,o,none⟩) len c∧len≤c∧off+c≤cap∧(o=off*sz∨c=0∧off≠0)∧0 < sz
 | .ptr id i k,x=>match μ id with
    | .lies b sz _=>x=.pointer (some ⟨b,i*sz+k,none⟩)∧0 < sz
    | _=>False
 | .rp v,x=>∃b off,x=.pointer (some ⟨b,off,none⟩)∧b < w.heap.size∧(v.cells=[]∨¬ow b)∧bt μ ow w v b off
 | .nilp,x=>x=.pointer none
 | .fn f caps,x=>∃vals,x=.func (.func f) #[] ⟨vals⟩∧au μ ow w caps vals
 | .bm f first,x=>∃vals,x=.func (.func f) ⟨vals⟩ #[]∧au μ ow w first vals
 | .nilfn,x=>x=.nilFunc
 | .iface t v,x=>∃y,x=.iface t y∧Rep μ ow w v y
 | .niliface,x=>x=.nilIface
 | .agg vs,x=>∃vals,x=.agg ⟨vals⟩∧au μ ow w vs vals∧∀u∈vals,u.oneCell'=true
 | .tup vs,x=>∃vals,x=.tuple ⟨vals⟩∧au μ ow w vs vals
 | .raw v,x=>x=v
 | .obj _,_=>False
 | .gp id,x=>match μ id with
    | .lies b 0 _=>x=.pointer (some ⟨b,0,none⟩)
    | _=>False
 | .yl id,x=>match μ id with
    | .lies b 0 _=>x=.func (.yield b) #[] #[]
    | _=>False
 | .mp id,x=>match μ id with
    | .lies b 0 _=>x=.map (some b)
    | _=>False
/-- one by one -/
def au (μ:Mu) (ow:Nat→Prop) (w:World):List V→List Value→Prop
 | [],l=>l=[]
 | v::vs,l=>∃x xs,l=x::xs∧Rep μ ow w v x∧au μ ow w vs xs
/-- cells,one behind the other -/
def aP (μ:Mu) (ow:Nat→Prop) (w:World):List V→Nat→Nat→Prop
 | [],_,_=>True
 | v::vs,b,off=>(∃x,w.cell? ⟨b,off,none⟩=some x∧Rep μ ow w v x∧x.oneCell'=true)∧aP μ ow w vs b (off+1)
/-- an element -/
def bt (μ:Mu) (ow:Nat→Prop) (w:World):V→Nat→Nat→Prop
 | .agg vs,b,off=>aP μ ow w vs b off
 | v,b,off=>∃x,w.cell? ⟨b,off,none⟩=some x∧Rep μ ow w v x∧x.oneCell'=true
/-- elements,one behind the other -/
def aX (μ:Mu) (ow:Nat→Prop) (w:World):List V→Nat→Nat→Nat→Prop
 | [],_,_,_=>True
 | r::rs,b,off,sz=>r.cells.length=sz∧bt μ ow w r b off∧aX μ ow w rs b (off+sz) sz
end
theorem dF (μ:Mu) (ow:Nat→Prop) (w:World) (v:V) (b off:Nat):bt μ ow w v b off↔aP μ ow w v.cells b off:=by
 cases v <;> simp [bt,aP,V.cells]
def cH (μ μ':Mu):Prop:=∀id,μ id≠.dj→μ' id=μ id
theorem cH.refl (μ:Mu):cH μ μ:=fun _ _=>rfl
theorem cH.trans {μ μ' μ'':Mu} (h:cH μ μ') (h':cH μ' μ''):cH μ μ'':=fun id hid=>by
 have e:=h id hid;rw [h' id (by rw [e]; exact hid),e]
def cE (ow ow':Nat→Prop) (w w':World):Prop:=∀b,b < w.heap.size→¬ow b→¬ow' b∧w'.heap[b]?=w.heap[b]?
def oS (ow ow':Nat→Prop) (w w':World):Prop:=∀b,(∃off x,w.cell? ⟨b,off,none⟩=some x)→¬ow b→¬ow' b∧∀(off:Nat) (x:Value),w.cell? ⟨b,off,none⟩=some x→w'.cell? ⟨b,off,none⟩=some x
theorem ef {w w':World} {b:Nat} (h:w'.heap[b]?=w.heap[b]?) (off:Nat) (x:Value) (hx:w.cell? ⟨b,off,none⟩=some x):w'.cell? ⟨b,off,none⟩=some x:=by
 rw [World.cell?_of_block (w:=w) (w':=w') (a:=⟨b,off,none⟩) h]; exact hx
theorem cE.toC {ow ow':Nat→Prop} {w w':World} (h:cE ow ow' w w'):oS ow ow' w w':=fun b ⟨off,x,hx⟩ hn=>by
 have hb:b < w.heap.size:=World.block_lt_of_cell? w _ hx;exact ⟨(h b hb hn).1,ef (h b hb hn).2⟩
section
variable {μ μ':Mu} {ow ow':Nat→Prop} {w w':World} (hm:cH μ μ') (hk:oS ow ow' w w') (hz:w.heap.size≤w'.heap.size)
include hm hk hz
mutual
theorem Rep.bP:∀(v:V) (x:Value),Rep μ ow w v x→Rep μ' ow' w' v x
 | .undef,_,_=>by simp [Rep]
 | .int k n,x,h=>by simpa [Rep] using h
 | .bool b,x,h=>by simpa [Rep] using h
 | .str s,x,h=>by simpa [Rep] using h
 | .aD,x,h=>by simpa [Rep] using h
 | .sl sz rows,x,h=>by
   simp only [Rep] at h ⊢;obtain ⟨a,cap,hx,hl,hr⟩:=h;refine ⟨a,cap,hx,hl,?_⟩;rcases hr with hr | ⟨b,off,ha,hb,hs,hr⟩
   ·exact .inl hr
   ·cases rows with
    | nil=>exact .inl rfl
    | cons r rs =>
      have hlt:∃o y,w.cell? ⟨b,o,none⟩=some y:=by
       have h2:=hr;simp only [aX] at h2;obtain ⟨h1,h2,_⟩:=h2;rw [dF] at h2;cases hc:r.cells with
       | nil=>rw [hc] at h1; simp at h1; omega
       | cons c cs =>
         rw [hc] at h2;simp only [aP] at h2;obtain ⟨⟨y,hy,_⟩,_⟩:=h2;exact ⟨_,y,hy⟩
      exact .inr ⟨b,off,ha,(hk b hlt hb).1,hs,aX.bP (r::rs) b off sz (hk b hlt hb).2 hr⟩
 | .own id off len,x,h=>by
   simp only [Rep] at h ⊢;cases hid:μ id with
   | dj=>rw [hid] at h; exact h.elim
   | nil=>rw [hm id (by rw [hid]; simp)]; exact h
   | lies b sz cap=>rw [hm id (by rw [hid]; simp)]; exact h
 | .ptr id i k,x,h=>by
   simp only [Rep] at h ⊢;cases hid:μ id with
   | dj=>rw [hid] at h; exact h.elim
   | nil=>rw [hid] at h; exact h.elim
   | lies b sz cap=>rw [hm id (by rw [hid]; simp)]; exact h
 | .rp v,x,h=>by
   simp only [Rep] at h ⊢;obtain ⟨b,off,hx,hlt,hb,hr⟩:=h;refine ⟨b,off,hx,Nat.lt_of_lt_of_le hlt hz,?_⟩;cases hc:v.cells with
   | nil =>
     refine ⟨.inl rfl,?_⟩;rw [dF,hc];simp [aP]
   | cons c cs =>
     have h2:=hr;rw [dF,hc] at h2;simp only [aP] at h2;obtain ⟨⟨y,hy,_⟩,_⟩:=h2;have hk':=hk b ⟨_,y,hy⟩ (hb.resolve_left (by rw [hc]; simp));exact ⟨.inr hk'.1,bt.bP v b off hk'.2 hr⟩
 | .nilp,x,h=>by simpa [Rep] using h
 | .fn f caps,x,h=>by
   simp only [Rep] at h ⊢;obtain ⟨vals,hx,hr⟩:=h;exact ⟨vals,hx,au.bP caps vals hr⟩
 | .bm f caps,x,h=>by
   simp only [Rep] at h ⊢;obtain ⟨vals,hx,hr⟩:=h;exact ⟨vals,hx,au.bP caps vals hr⟩
 | .nilfn,x,h=>by simpa [Rep] using h
 | .iface t v,x,h=>by
   simp only [Rep] at h ⊢;obtain ⟨y,hx,hr⟩:=h;exact ⟨y,hx,Rep.bP v y hr⟩
 | .niliface,x,h=>by simpa [Rep] using h
 | .agg vs,x,h=>by
   simp only [Rep] at h ⊢;obtain ⟨vals,hx,hr,h1⟩:=h;exact ⟨vals,hx,au.bP vs vals hr,h1⟩
 | .tup vs,x,h=>by
   simp only [Rep] at h ⊢;obtain ⟨vals,hx,hr⟩:=h;exact ⟨vals,hx,au.bP vs vals hr⟩
 | .raw v,x,h=>by simpa [Rep] using h
 | .obj o,x,h=>by simp [Rep] at h
 | .gp id,x,h=>by
   simp only [Rep] at h ⊢;cases hid:μ id with
   | dj=>rw [hid] at h; exact h.elim
   | nil=>rw [hid] at h; exact h.elim
   | lies b sz cap=>rw [hm id (by rw [hid]; simp)]; exact h
 | .yl id,x,h=>by
   simp only [Rep] at h ⊢;cases hid:μ id with
   | dj=>rw [hid] at h; exact h.elim
   | nil=>rw [hid] at h; exact h.elim
   | lies b sz cap=>rw [hm id (by rw [hid]; simp)]; exact h
 | .mp id,x,h=>by
   simp only [Rep] at h ⊢;cases hid:μ id with
   | dj=>rw [hid] at h; exact h.elim
   | nil=>rw [hid] at h; exact h.elim
   | lies b sz cap=>rw [hm id (by rw [hid]; simp)]; exact h
theorem au.bP:∀(vs:List V) (l:List Value),au μ ow w vs l→au μ' ow' w' vs l
 | [],l,h=>by simpa [au] using h
 | v::vs,l,h=>by
   simp only [au] at h ⊢;obtain ⟨x,xs,hx,h1,h2⟩:=h;exact ⟨x,xs,hx,Rep.bP v x h1,au.bP vs xs h2⟩
theorem aP.bP:∀(vs:List V) (b off:Nat),(∀(off:Nat) (x:Value),w.cell? ⟨b,off,none⟩=some x→w'.cell? ⟨b,off,none⟩=some x)→aP μ ow w vs b off→aP μ' ow' w' vs b off
 | [],_,_,_,_=>by simp [aP]
 | v::vs,b,off,hb,h=>by
   simp only [aP] at h ⊢;obtain ⟨⟨x,hx,h1,h2⟩,h3⟩:=h;exact ⟨⟨x,hb _ _ hx,Rep.bP v x h1,h2⟩,aP.bP vs b (off+1) hb h3⟩
theorem bt.bP:∀(v:V) (b off:Nat),(∀(off:Nat) (x:Value),w.cell? ⟨b,off,none⟩=some x→w'.cell? ⟨b,off,none⟩=some x)→bt μ ow w v b off→bt μ' ow' w' v b off
 | .agg vs,b,off,hb,h=>by
   simp only [bt] at h ⊢;exact aP.bP vs b off hb h
 | .undef,b,off,hb,h=>by simp only [bt] at h ⊢; obtain ⟨x,hx,h1,h2⟩:=h; exact ⟨x,hb _ _ hx,Rep.bP _ x h1,h2⟩
 | .int k n,b,off,hb,h=>by simp only [bt] at h ⊢; obtain ⟨x,hx,h1,h2⟩:=h; exact ⟨x,hb _ _ hx,Rep.bP _ x h1,h2⟩
 | .bool t,b,off,hb,h=>by simp only [bt] at h ⊢; obtain ⟨x,hx,h1,h2⟩:=h; exact ⟨x,hb _ _ hx,Rep.bP _ x h1,h2⟩
 | .str s,b,off,hb,h=>by simp only [bt] at h ⊢; obtain ⟨x,hx,h1,h2⟩:=h; exact ⟨x,hb _ _ hx,Rep.bP _ x h1,h2⟩
 | .aD,b,off,hb,h=>by simp only [bt] at h ⊢; obtain ⟨x,hx,h1,h2⟩:=h; exact ⟨x,hb _ _ hx,Rep.bP _ x h1,h2⟩
 | .sl sz rows,b,off,hb,h=>by simp only [bt] at h ⊢; obtain ⟨x,hx,h1,h2⟩:=h; exact ⟨x,hb _ _ hx,Rep.bP _ x h1,h2⟩
 | .own id o len,b,off,hb,h=>by simp only [bt] at h ⊢; obtain ⟨x,hx,h1,h2⟩:=h; exact ⟨x,hb _ _ hx,Rep.bP _ x h1,h2⟩
 | .ptr id i k,b,off,hb,h=>by simp only [bt] at h ⊢; obtain ⟨x,hx,h1,h2⟩:=h; exact ⟨x,hb _ _ hx,Rep.bP _ x h1,h2⟩
 | .rp v,b,off,hb,h=>by simp only [bt] at h ⊢; obtain ⟨x,hx,h1,h2⟩:=h; exact ⟨x,hb _ _ hx,Rep.bP _ x h1,h2⟩
 | .nilp,b,off,hb,h=>by simp only [bt] at h ⊢; obtain ⟨x,hx,h1,h2⟩:=h; exact ⟨x,hb _ _ hx,Rep.bP _ x h1,h2⟩
 | .fn f caps,b,off,hb,h=>by simp only [bt] at h ⊢; obtain ⟨x,hx,h1,h2⟩:=h; exact ⟨x,hb _ _ hx,Rep.bP _ x h1,h2⟩
 | .bm f caps,b,off,hb,h=>by simp only [bt] at h ⊢; obtain ⟨x,hx,h1,h2⟩:=h; exact ⟨x,hb _ _ hx,Rep.bP _ x h1,h2⟩
 | .nilfn,b,off,hb,h=>by simp only [bt] at h ⊢; obtain ⟨x,hx,h1,h2⟩:=h; exact ⟨x,hb _ _ hx,Rep.bP _ x h1,h2⟩
 | .iface t v,b,off,hb,h=>by simp only [bt] at h ⊢; obtain ⟨x,hx,h1,h2⟩:=h; exact ⟨x,hb _ _ hx,Rep.bP _ x h1,h2⟩
 | .niliface,b,off,hb,h=>by simp only [bt] at h ⊢; obtain ⟨x,hx,h1,h2⟩:=h; exact ⟨x,hb _ _ hx,Rep.bP _ x h1,h2⟩
 | .tup vs,b,off,hb,h=>by simp only [bt] at h ⊢; obtain ⟨x,hx,h1,h2⟩:=h; exact ⟨x,hb _ _ hx,Rep.bP _ x h1,h2⟩
 | .raw v,b,off,hb,h=>by simp only [bt] at h ⊢; obtain ⟨x,hx,h1,h2⟩:=h; exact ⟨x,hb _ _ hx,Rep.bP _ x h1,h2⟩
 | .obj o',b,off,hb,h=>by simp only [bt] at h ⊢; obtain ⟨x,hx,h1,h2⟩:=h; exact ⟨x,hb _ _ hx,Rep.bP _ x h1,h2⟩
 | .gp o',b,off,hb,h=>by simp only [bt] at h ⊢; obtain ⟨x,hx,h1,h2⟩:=h; exact ⟨x,hb _ _ hx,Rep.bP _ x h1,h2⟩
 | .yl o',b,off,hb,h=>by simp only [bt] at h ⊢; obtain ⟨x,hx,h1,h2⟩:=h; exact ⟨x,hb _ _ hx,Rep.bP _ x h1,h2⟩
 | .mp o',b,off,hb,h=>by simp only [bt] at h ⊢; obtain ⟨x,hx,h1,h2⟩:=h; exact ⟨x,hb _ _ hx,Rep.bP _ x h1,h2⟩
theorem aX.bP:∀(rs:List V) (b off sz:Nat),(∀(off:Nat) (x:Value),w.cell? ⟨b,off,none⟩=some x→w'.cell? ⟨b,off,none⟩=some x)→aX μ ow w rs b off sz→aX μ' ow' w' rs b off sz
 | [],_,_,_,_,_=>by simp [aX]
 | r::rs,b,off,sz,hb,h=>by
   simp only [aX] at h ⊢;exact ⟨h.1,bt.bP r b off hb h.2.1,aX.bP rs b (off+sz) sz hb h.2.2⟩
end
end
section
variable {μ μ':Mu} {ow ow':Nat→Prop} {w w':World} (hm:cH μ μ') (hk:cE ow ow' w w') (hz:w.heap.size≤w'.heap.size)
include hm hk hz
theorem Rep.mono (v:V) (x:Value):Rep μ ow w v x→Rep μ' ow' w' v x:=Rep.bP hm hk.toC hz v x
theorem au.mono (vs:List V) (l:List Value):au μ ow w vs l→au μ' ow' w' vs l:=au.bP hm hk.toC hz vs l
theorem bt.mono (v:V) (b off:Nat) (hb:w'.heap[b]?=w.heap[b]?):bt μ ow w v b off→bt μ' ow' w' v b off:=bt.bP hm hk.toC hz v b off (ef hb)
theorem aX.mono (rs:List V) (b off sz:Nat) (hb:w'.heap[b]?=w.heap[b]?):aX μ ow w rs b off sz→aX μ' ow' w' rs b off sz:=aX.bP hm hk.toC hz rs b off sz (ef hb)
end
def MH (_:World):Prop:=True
def aC (μ:Mu) (σ:af) (b:Nat):Prop:=∃id o sz cap,σ id=some o∧μ id=.lies b sz cap
def tmpsOf:Obj→List Value
 | .loop r=>r.tmps.toList
 | .map es _=>es.toList.map (·.val)
 | _=>[]
def oL (μ:Mu) (ow:Nat→Prop) (w:World) (o:Ob):Pl→Prop
 | .dj=>False
 | .nil=>o.rows=[]
 | .lies b sz cap=>(∃cur,w.heap[b]?=some (.cells cur o.elem (0,0))∧o.sz=sz∧0 < sz∧cur.size=cap*sz∧o.rows.length≤cap∧cap≤maxLen ∧
    aX μ ow w o.rows b 0 sz)∨(sz=0∧o.sz=0∧∃(ob:Obj) (env:List V),o.rows=.obj ob::env∧w.heap[b]?=some ob∧au μ ow w env (tmpsOf ob))
def LS (w:World) (ow:Nat→Prop):Prop:=∃b:World,MH b∧b.heap.size≤w.heap.size∧∀i,i < b.heap.size→¬ow i∧w.heap[i]?=b.heap[i]?
structure Sat (w0:World) (ow0:Nat→Prop) (μ:Mu) (σ:af) (w:World):Prop where
 size:w0.heap.size≤w.heap.size
 os:w.os=w0.os
 tape:w.tape=w0.tape
 output:w.output=w0.output
 same:∀b,b < w0.heap.size→¬ow0 b→w.heap[b]?=w0.heap[b]?
 fin:∃N,∀id,N≤id→μ id=.dj
 inj:∀id id' o o' b sz cap sz' cap',σ id=some o→σ id'=some o'→μ id=.lies b sz cap→μ id'=.lies b sz' cap'→id=id'
 obj:∀id o,σ id=some o→oL μ (aC μ σ) w o (μ id)
 fresh:∀b,aC μ σ b→b < w0.heap.size→ow0 b
 glob:LS w0 ow0
theorem Sat.nT {w0 w:World} {ow0:Nat→Prop} {μ:Mu} {σ:af} (h:Sat w0 ow0 μ σ w):LS w (aC μ σ):=by
 obtain ⟨b,h1,h2,h3⟩:=h.glob;refine ⟨b,h1,Nat.le_trans h2 h.size,fun i hi=>?_⟩;obtain ⟨h4,h5⟩:=h3 i hi;exact ⟨fun ho=>h4 (h.fresh i ho (Nat.lt_of_lt_of_le hi h2)),(h.same i (Nat.lt_of_lt_of_le hi h2) h4).trans h5⟩
def aa (σ' σ:af):Prop:=∀id o,σ' id=some o→σ id=some o
theorem aa.refl (σ:af):aa σ σ:=fun _ _ h=>h
theorem aa.trans {a b c:af} (h:aa a b) (h':aa b c):aa a c:=fun id o e=>h' id o (h id o e)
def upd (σ:af) (id:Nat) (o:Ob):af:=fun i=>if i=id then some o else σ i
def del (σ:af) (id:Nat):af:=fun i=>if i=id then none else σ i
theorem aa.HM {σ' σ:af} {id:Nat} {o:Ob} (h:aa σ' σ) (hid:σ' id=none):aa σ' (upd σ id o):=fun i u e=>by
 have hne:i≠id:=fun e'=>by rw [e',hid] at e; cases e
 simp [upd,hne,h i u e]
theorem aa.wC (σ:af) (id:Nat):aa (del σ id) σ:=fun i o e=>by
 unfold del at e; split at e
 ·cases e
 ·exact e
theorem aC.sub {μ:Mu} {σ σ':af} (h:aa σ' σ) {b:Nat} (hb:aC μ σ' b):aC μ σ b:=by
 obtain ⟨id,o,sz,cap,h1,h2⟩:=hb;exact ⟨id,o,sz,cap,h id o h1,h2⟩
theorem cE.sub {μ:Mu} {σ σ':af} (w:World) (h:aa σ' σ):cE (aC μ σ) (aC μ σ') w w :=
 fun _ _ hn=>⟨fun hb=>hn (hb.sub h),rfl⟩
theorem oL.bP {μ μ':Mu} {ow ow':Nat→Prop} {w w':World} (hm:cH μ μ') (hk:oS ow ow' w w') (hz:w.heap.size≤w'.heap.size) {o:Ob} {p:Pl}
 (hb:∀b sz cap,p=.lies b sz cap→w'.heap[b]?=w.heap[b]?) (h:oL μ ow w o p):oL μ' ow' w' o p:=by
 cases p with
 | dj=>exact h
 | nil=>exact h
 | lies b sz cap =>
   have e:=hb b sz cap rfl;rcases h with ⟨cur,h1,h2,h3,h4,h5,h6,h7⟩ | ⟨h1,h2,ob,env,h3,h4,h5⟩
   ·exact .inl ⟨cur,e.trans h1,h2,h3,h4,h5,h6,aX.bP hm hk hz _ _ _ _ (ef e) h7⟩
   ·exact .inr ⟨h1,h2,ob,env,h3,e.trans h4,au.bP hm hk hz _ _ h5⟩
theorem oL.mono {μ μ':Mu} {ow ow':Nat→Prop} {w w':World} (hm:cH μ μ') (hk:cE ow ow' w w') (hz:w.heap.size≤w'.heap.size) {o:Ob} {p:Pl}
 (hb:∀b sz cap,p=.lies b sz cap→w'.heap[b]?=w.heap[b]?) (h:oL μ ow w o p):oL μ' ow' w' o p:=h.bP hm hk.toC hz hb
theorem oL.plain {μ:Mu} {ow:Nat→Prop} {w:World} {o:Ob} {b sz cap:Nat} (h:oL μ ow w o (.lies b sz cap)) (hz:0 < sz):∃cur,w.heap[b]?=some (.cells cur o.elem (0,0))∧o.sz=sz∧0 < sz∧cur.size=cap*sz∧o.rows.length≤cap∧cap≤maxLen ∧
 aX μ ow w o.rows b 0 sz:=by
 rcases h with h | ⟨h1,_⟩
 ·exact h
 ·omega
theorem oL.rows {μ:Mu} {ow:Nat→Prop} {w:World} {o:Ob} {b sz cap:Nat} (h:oL μ ow w o (.lies b sz cap)) (hz:0 < sz):o.sz=sz∧0 < sz∧o.rows.length≤cap∧cap≤maxLen∧aX μ ow w o.rows b 0 sz:=by
 obtain ⟨cur,h1,h2,h3,h4,h5,h6,h7⟩:=h.plain hz;exact ⟨h2,h3,h5,h6,h7⟩
theorem Sat.drop {w0 w:World} {ow0:Nat→Prop} {μ:Mu} {σ σ':af} (h:Sat w0 ow0 μ σ w) (hs:aa σ' σ):Sat w0 ow0 μ σ' w where
 size:=h.size
 os:=h.os
 tape:=h.tape
 output:=h.output
 same:=h.same
 fin:=h.fin
 inj:=fun id id' o o' b sz cap sz' cap' h1 h2 h3 h4=>h.inj id id' o o' b sz cap sz' cap' (hs _ _ h1) (hs _ _ h2) h3 h4
 obj:=fun id o ho=>(h.obj id o (hs _ _ ho)).mono (cH.refl μ) (cE.sub w hs) (Nat.le_refl _) (fun _ _ _ _=>rfl)
 fresh:=fun b hb=>h.fresh b (hb.sub hs)
 glob:=h.glob
theorem aC.lt {w0 w:World} {ow0:Nat→Prop} {μ:Mu} {σ:af} (h:Sat w0 ow0 μ σ w) {b:Nat} (hb:aC μ σ b):b < w.heap.size:=by
 obtain ⟨id,o,sz,cap,h1,h2⟩:=hb;have:=h.obj id o h1;rw [h2] at this;rcases this with ⟨cur,h3,_⟩ | ⟨_,_,ob,_,_,h3,_⟩ <;> exact (Array.getElem?_eq_some_iff.1 h3).1
theorem Sat.put {w0 w w':World} {ow0:Nat→Prop} {μ μ':Mu} {σ σ':af} {row:Option Nat} (h:Sat w0 ow0 μ σ w) (hg:w.grownBy w' row)
 (hrow:∀b,row=some b→aC μ σ b) (hμ:cH μ μ') (hfin:∃N,∀id,N≤id→μ' id=.dj) (id0:Nat) (ob:Ob)
 (hσ':∀o,σ' id0=some o→o=ob)
 (hold:∀id o,id≠id0→σ' id=some o→σ id=some o∧∀b sz cap,μ id=.lies b sz cap→some b≠row)
 (hpl:∀b sz cap,μ' id0=.lies b sz cap→some b=row∨w.heap.size≤b)
 (hob:cE (aC μ σ) (aC μ' σ') w w'→oL μ' (aC μ' σ') w' ob (μ' id0)) :
 Sat w0 ow0 μ' σ' w'∧cE (aC μ σ) (aC μ' σ') w w':=by
 have hborn:∀id o,σ id=some o→μ' id=μ id:=fun id o ho=>hμ id (fun e=>by
  have:=h.obj id o ho; rw [e] at this; exact this)
 have howned:∀b,aC μ' σ' b→aC μ σ b∨w.heap.size≤b:=by
  rintro b ⟨id,o,sz,cap,h1,h2⟩;by_cases hid:id=id0
  ·subst hid;rcases hpl b sz cap h2 with h3 | h3
   ·exact .inl (hrow b h3.symm)
   ·exact .inr h3
  ·obtain ⟨h3,_⟩:=hold id o hid h1;exact .inl ⟨id,o,sz,cap,h3,(hborn id o h3) ▸ h2⟩
 have hk:cE (aC μ σ) (aC μ' σ') w w':=fun b hb hn=>⟨fun ho=>by
  rcases howned b ho with h1 | h1
  ·exact hn h1
  ·omega,hg.block b hb (fun e=>hn (hrow b e.symm))⟩
 refine ⟨⟨Nat.le_trans h.size hg.size,hg.os.trans h.os,hg.tape.trans h.tape,hg.output.trans h.output,?_,hfin,?_,?_,?_,h.glob⟩,hk⟩
 ·intro b hb hn;have h1:¬aC μ σ b:=fun ho=>hn (h.fresh b ho hb);rw [(hk b (Nat.lt_of_lt_of_le hb h.size) h1).2,h.same b hb hn]
 ·intro id id' o o' b sz cap sz' cap' h1 h2 h3 h4;by_cases e:id=id0
  ·by_cases e':id'=id0
   ·rw [e,e']
   ·exfalso;obtain ⟨h5,h6⟩:=hold id' o' e' h2;have h7:=(hborn id' o' h5) ▸ h4;subst e;rcases hpl b sz cap h3 with h8 | h8
    ·exact h6 b sz' cap' h7 h8
    ·have:=aC.lt h ⟨id',o',sz',cap',h5,h7⟩; omega
  ·obtain ⟨h5,h6⟩:=hold id o e h1;have h7:=(hborn id o h5) ▸ h3;by_cases e':id'=id0
   ·exfalso;subst e';rcases hpl b sz' cap' h4 with h8 | h8
    ·exact h6 b sz cap h7 h8
    ·have:=aC.lt h ⟨id,o,sz,cap,h5,h7⟩; omega
   ·obtain ⟨h5',_⟩:=hold id' o' e' h2;exact h.inj id id' o o' b sz cap sz' cap' h5 h5' h7 ((hborn id' o' h5') ▸ h4)
 ·intro id o ho;by_cases e:id=id0
  ·subst e; rw [hσ' o ho]; exact hob hk
  ·obtain ⟨h5,h6⟩:=hold id o e ho;rw [hborn id o h5];refine (h.obj id o h5).mono hμ hk hg.size (fun b sz cap hp=>hg.block b ?_ (h6 b sz cap hp));exact aC.lt h ⟨id,o,sz,cap,h5,hp⟩
 ·intro b hb hlt;rcases howned b hb with h1 | h1
  ·exact h.fresh b h1 hlt
  ·have:=h.size; omega
structure Fr where
 w0:World
 ow0:Nat→Prop
 μ0:Mu
 n:Nat
 rd:Option (Nat×Loop)
structure Hm (F:Fr) (ow:Nat→Prop) (ds:List Deferred) (w:World):Prop where
 rnd:∀l r,F.rd=some (l,r)→w.heap[l]?=some (.loop r)∧¬ow l
 marks:∃Ds:List Nat,ds=Ds.map (fun D=>{ target:=.collected D,args:=#[] })∧Ds.Nodup∧∀D∈Ds,F.w0.heap.size≤D∧w.heap[D]?=some (.deferred (some []))∧¬ow D
theorem Hm.lS {F:Fr} {ow ow':Nat→Prop} {ds:List Deferred} {w w':World} (h:Hm F ow ds w) (hk:cE ow ow' w w'):Hm F ow' ds w' where
 rnd:=fun l r e=>by
  obtain ⟨h1,h2⟩:=h.rnd l r e;have h3:=hk l (Array.getElem?_eq_some_iff.1 h1).1 h2;exact ⟨h3.2.trans h1,h3.1⟩
 marks:=by
  obtain ⟨Ds,h1,h2,h3⟩:=h.marks;refine ⟨Ds,h1,h2,fun D hD=>?_⟩;obtain ⟨g1,g2,g3⟩:=h3 D hD;have h4:=hk D (Array.getElem?_eq_some_iff.1 g2).1 g3;exact ⟨g1,h4.2.trans g2,h4.1⟩
structure St where
 s:Nat→V
 σ:af
structure cN (F:Fr) (μ:Mu) (st:St) (a:Act) (w:World):Prop where
 sat:Sat F.w0 F.ow0 μ st.σ w
 le:cH F.μ0 μ
 size:a.tmps.size=F.n
 book:Hm F (aC μ st.σ) a.defers w
 slot:∀i,i < F.n→Rep μ (aC μ st.σ) w (st.s i) (a.tmps.getD i undef)
def eZ (F:Fr) (st:St) (a:Act) (w:World):Prop:=∃μ,cN F μ st a w
def qm (P:Program) (f:FuncId) (args:List V) (σ:af) (Post:V→af→Prop):Prop :=
 ∀μ w vals,Sat w (aC μ σ) μ σ w→au μ (aC μ σ) w args vals→Calls P f vals.toArray w fun e w' =>
  ∃r σ' μ' val,e=.returned val∧Post r σ'∧cH μ μ'∧Sat w (aC μ σ) μ' σ' w'∧Rep μ' (aC μ' σ') w' r val
theorem qm.mono {P:Program} {f:FuncId} {args:List V} {σ:af} {Post Post':V→af→Prop} (h:qm P f args σ Post)
 (hp:∀r σ',Post r σ'→Post' r σ'):qm P f args σ Post':=fun μ w vals hs hr =>
 (h μ w vals hs hr).mono fun _ _ ⟨r,σ',μ',val,h1,h2,h3⟩=>⟨r,σ',μ',val,h1,hp _ _ h2,h3⟩
inductive VX where
 | t (n:Nat)
 | c (v:V)
def cellOf:Value→V
 | .int k n=>.int k n
 | .bool b=>.bool b
 | .string s=>.str s.data.toList
 | .slice a n c=>if a=none∧n=0∧c=0 then .aD else .raw (.slice a n c)
 | .pointer a=>if a=none then .nilp else .raw (.pointer a)
 | .nilFunc=>.nilfn
 | .nilIface=>.niliface
 | v=>.raw v
def ofValue:Value→V
 | .agg cs=>if cs.toList.all (·.oneCell') then .agg (cs.toList.map cellOf) else .raw (.agg cs)
 | v=>cellOf v
inductive MOp where
 | mkI (t:TypeId)
 | mkB (f:FuncId)
 | nilP (neg:Bool)
 | oO
 | oU
 | cpy (sz:Nat)
 | tas (t:TypeId) (ok:Bool) (zero:V)
 | inv (tbl:List (TypeId×FuncId))
 | mkMap
 | insM
 | lookM (ok:Bool) (zero:V)
 | delM
inductive VOp where
 | more (m:MOp) (xs:List VX)
 | mov (x:VX)
 | pick (c a b:VX)
 | bin (op:BinOp) (x y:VX)
 | not (x:VX)
 | neg (x:VX)
 | len (str:Bool) (x:VX)
 | fld (agg:Bool) (off sz:Nat) (x:VX)
 | fldA (agg:Bool) (off sz:Nat) (x:VX)
 | idxA (esz:Nat) (x i:VX)
 | idxAA (agg:Bool) (n esz:Nat) (x i:VX)
 | idxV (agg:Bool) (n esz:Nat) (x i:VX)
 | idxS (x i:VX)
 | load (agg:Bool) (sz:Nat) (x:VX)
 | slice (esz:Nat) (x:VX) (lo hi mx:Option VX)
 | sliceS (x:VX) (lo hi:Option VX)
 | ext (i:Nat) (x:VX)
 | mkfn (f:FuncId) (caps:List VX)
 | convI (k:IntKind) (x:VX)
 | nilCheck (x:VX)
 | binB (neg:Bool) (x y:VX)
 | eqS (neg:Bool) (ks:List Nat) (x y:VX)
 | minmax (max:Bool) (x y:VX)
 | bstr (x:VX)
 | box (elem sz:Nat) (x:VX)
 | clear (sz:Nat) (zero:V) (x:VX)
 | alloc (elem sz:Nat) (zero:V)
 | store (sz:Nat) (a x:VX)
 | bf (elem sz:Nat) (parts:List VX)
 | build (zero:List V) (parts:List (Nat×Nat×VX))
 | append (elem sz bytes:Nat) (a b:VX)
 | cap (x:VX)
 | mk (elem sz bytes:Nat) (zero:V) (n:VX)
 | appz (elem sz bytes:Nat) (zero:V) (a n:VX)
 | call (f:VX) (args:List VX)
 | rngS (rune:Bool) (x:VX)
 | nxtS (x:VX)
 | bad
structure aG where
 dst:Option Nat
 op:VOp
 g:Option (VX×Bool)
inductive bB where
 | skip
 | reg (draw:Bool) (l:List aG)
 | seq (a b:bB)
 | cond (c:VX) (a b:bB)
 | block (id:Nat) (a:bB)
 | loop (a:bB)
 | exit (id:Nat)
 | ret
 | cC (g:VX) (ps:List Nat) (a b:bB)
 | regA (l:List aG) (deps:List (List Nat))
 | o6 (l e:List aG)
 | bad
def bp:VOp→Nat
 | .call ..=>1
 | .store ..=>2
 | .alloc .. | .box .. | .bf .. | .append .. | .mk .. | .appz ..=>3
 | .clear .. | .rngS .. | .nxtS _ | .bad=>4
 | .more (.mkI _) _ | .more (.mkB _) _ | .more (.tas ..) _ | .more (.nilP _) _=>0
 | .more ..=>4
 | _=>0
def VOp.xs:VOp→List VX
 | .mov x | .not x | .neg x | .len _ x | .fld _ _ _ x | .fldA _ _ _ x | .load _ _ x | .ext _ x | .convI _ x | .nilCheck x | .bstr x | .box _ _ x | .clear _ _ x | .cap x | .mk _ _ _ _ x | .rngS _ x | .nxtS x=>[x]
 | .bin _ x y | .idxA _ x y | .idxAA _ _ _ x y | .idxV _ _ _ x y | .idxS x y | .binB _ x y | .eqS _ _ x y | .minmax _ x y | .store _ x y | .append _ _ _ x y | .appz _ _ _ _ x y=>[x,y]
 | .pick x y z=>[x,y,z]
 | .slice _ x lo hi mx=>x::(lo.toList++hi.toList++mx.toList)
 | .sliceS x lo hi=>x::(lo.toList++hi.toList)
 | .mkfn _ xs=>xs
 | .more _ xs=>xs
 | .bf _ _ xs=>xs
 | .build _ ps=>ps.map (·.2.2)
 | .call f xs=>f::xs
 | .alloc .. | .bad=>[]
def VX.GM:VX→Option Nat
 | .t d=>some d
 | .c _=>none
def aG.j2 (i:aG):List Nat:=(i.op.xs++(i.g.map (·.1)).toList).filterMap VX.GM
def jw:VOp→Bool
 | .load .. | .idxA .. | .slice .. | .bstr ..=>false
 | op=>bp op == 0
def Ae (A B:aG):Bool :=
 (match A.dst with
  | some d=>!B.j2.contains d && B.dst != some d
  | none=>true) &&
 (match B.dst with
  | some d=>!A.j2.contains d
  | none=>true)
def eT (i:aG):Bool:=decide (bp i.op≤1)
def qI (i:aG):Bool:=bp i.op == 2 || bp i.op == 3
def mkI (i:aG):Bool:=match i.op with
 | .alloc .. | .box .. | .bf .. | .mk ..=>true
 | _=>false
def Dy (i:aG):Bool:=match i.op with
 | .alloc .. | .box .. | .bf .. | .append .. | .mk ..=>true
 | _=>false
def iV (i:aG):Bool:=bp i.op == 0
def kY (A B:aG):Bool:=Ae A B && ((eT A && eT B) || (qI A && jw B.op) || (jw A.op && qI B) || (eT A && mkI B) || (Dy A && iV B) || (Dy A && mkI B))
def KA (P:Program) (a b:TypeId):Bool:=match P.underlying a,P.underlying b with
 | some (.int _),some .string=>true
 | _,_=>false
section comp
variable (P:Program) (n:Nat)
def cx:Operand→VX
 | .tmp t=>if t < n then .t t else .c (.tup [])
 | .const v=>.c (ofValue v)
 | .func f=>.c (.fn f [])
 | .global g=>.c (.raw (.pointer (some ⟨g,0,none⟩)))
def eN (t:TypeId):Bool:=match P.underlying t with
 | some (.struct _) | some (.array _ _)=>true
 | _=>false
def bO (t:TypeId):Bool:=(P.info? t).isSome && (P.underlying t).isSome && P.cellsOf t != 0
def zeroOf (e:TypeId):Option (TypeInfo×Value):=match P.info? e with
 | some i=>match i.zero with
   | some z=>if bO P e && z.cells.size == i.size && z.cells.toList.all (·.oneCell') then some (i,z) else none
   | none=>none
 | none=>none
def mK (t:TypeId):Bool:=match P.underlying t,P.info? t with
 | some (.struct fs),some i=>fs.size == 0 && (i.size == 0 && (match i.zero with
   | some (.agg z)=>z.size == 0
   | _=>false))
 | _,_=>false
def u8T (t:TypeId):Bool:=match P.underlying t with
 | some (.int .u8)=>true
 | _=>false
def En (t:TypeId):Bool:=match P.underlying t with
 | some (.int _) | some .bool | some .string=>true
 | _=>false
def nY (t:TypeId):Nat:=match P.underlying t with
 | some (.int _)=>0
 | some .bool=>1
 | some .string=>2
 | _=>3
def Ek (t:TypeId) (fs:Array Field):Bool :=
 (fs.toList.map (·.offset) == List.range fs.size) && (fs.toList.all fun f=>En P f.type && f.name != "_" && bO P f.type) && !P.stoodInHeld t && !P.eqGuardType P.depth t
def LK:Value→Bool
 | .slice none _ _=>true
 | _=>false
def Ce:Operand→Bool
 | .const v=>LK v
 | _=>false
def ct (op:BinOp) (x:VX) (y:Operand):VOp:=if op=.eql∧Ce y=true then .binB false x (.c (.iface 0 .undef)) else .bad
def vK (t:TypeId):Bool:=match P.underlying t with
 | some (.slice _)=>true
 | _=>false
def tz (t:TypeId):Bool:=match P.underlying t with
 | some (.interface _)=>true
 | _=>false
def Mf:Operand→Bool
 | .const .nilIface=>true
 | _=>false
def Mt (t:TypeId):Bool:=match P.underlying t with
 | some (.func _ _ _)=>true
 | _=>false
def Mo:Operand→Bool
 | .const .nilFunc=>true
 | _=>false
def ML (t:TypeId):Bool:=match P.underlying t with
 | some (.pointer _)=>true
 | _=>false
def Is:Operand→Bool
 | .const (.pointer none)=>true
 | _=>false
def HW (t:TypeId):Option TypeId:=match P.underlying t with
 | some (.map k e)=>match P.underlying k with
   | some (.int _)=>some e
   | _=>none
 | _=>none
def Mc (name:String) (t:TypeId):Option FuncId:=match P.info? t with
 | some i=>match i.methods.find? (·.name == name) with
   | some m=>if m.path.isEmpty then match m.func,P.underlying t with
      | some (f,true),some (.pointer _)=>some f
      | some (_,false),some (.pointer _)=>none
      | some (f,false),some _=>some f
      | _,_=>none
     else none
   | none=>none
 | none=>none
def KD (name:String):List (TypeId×FuncId):=(List.range P.types.size).filterMap fun t=>(Mc P name t).map fun f=>(t,f)
def rb:Operand→Operand→Bool
 | .tmp a, .tmp b=>a == b
 | .const (.int k a), .const (.int k' b)=>decide (k=k'∧a=b)
 | _,_=>false
def cop:Op→VOp
 | .move x | .assign x=>.mov (cx n x)
 | .pick c a b=>.pick (cx n c) (cx n a) (cx n b)
 | .binOp op t x y _=>match P.underlying t with
    | some .bool=>match op with
      | .eql=>.binB false (cx n x) (cx n y)
      | .neq=>.binB true (cx n x) (cx n y)
      | _=>.bad
    | some (.struct fs)=>if Ek P t fs then match op with
      | .eql=>.eqS false (fs.toList.map fun f=>nY P f.type) (cx n x) (cx n y)
      | .neq=>.eqS true (fs.toList.map fun f=>nY P f.type) (cx n x) (cx n y)
      | _=>.bad
      else .bad
    | _=>if vK P t then ct op (cx n x) y else if tz P t then (if (op=.eql∨op=.neq)∧Mf y=true then .binB (op == .neq) (cx n x) (.c (.iface 1 .undef)) else .bad) else if Mt P t then (if (op=.eql∨op=.neq)∧Mo y=true then .binB (op == .neq) (cx n x) (.c (.iface 2 .undef)) else .bad) else if ML P t && Is y then (if op=.eql∨op=.neq then .more (.nilP (op == .neq)) [cx n x] else .bad) else .bin op (cx n x) (cx n y)
 | .nilCheck x=>.nilCheck (cx n x)
 | .box e x=>if bO P e then .box e (P.cellsOf e) (cx n x) else .bad
 | .unOp .not _ x=>.not (cx n x)
 | .unOp .neg _ x=>.neg (cx n x)
 | .field s x f=>match P.underlying s with
    | some (.struct fs)=>match fs[f]? with
      | some fd=>if bO P fd.type then .fld (eN P fd.type) fd.offset (P.cellsOf fd.type) (cx n x) else .bad
      | none=>.bad
    | _=>.bad
 | .fieldAddr s x f=>match P.underlying s with
    | some (.struct fs)=>match fs[f]? with
      | some fd=>if bO P fd.type then .fldA (eN P fd.type) fd.offset (P.cellsOf fd.type) (cx n x) else .bad
      | none=>.bad
    | _=>.bad
 | .indexAddr t x i=>match P.underlying t with
    | some (.slice e)=>if bO P e then .idxA (P.cellsOf e) (cx n x) (cx n i) else .bad
    | some (.array k e)=>if bO P e then .idxAA (eN P e) k (P.cellsOf e) (cx n x) (cx n i) else .bad
    | _=>.bad
 | .index t x i=>match P.underlying t with
    | some (.array k e)=>if bO P e then .idxV (eN P e) k (P.cellsOf e) (cx n x) (cx n i) else .bad
    | some .string=>.idxS (cx n x) (cx n i)
    | _=>.bad
 | .load t x=>if bO P t then .load (eN P t) (P.cellsOf t) (cx n x) else .bad
 | .slice t x lo hi mx=>match P.underlying t with
    | some (.slice e)=>if bO P e && (mx.isNone || hi.isSome) then .slice (P.cellsOf e) (cx n x) (lo.map (cx n)) (hi.map (cx n)) (mx.map (cx n)) else .bad
    | some .string=>if mx.isNone then .sliceS (cx n x) (lo.map (cx n)) (hi.map (cx n)) else .bad
    | _=>.bad
 | .extract x i=>.ext i (cx n x)
 | .makeFunc (.func f) first caps=>if first.size=0 then .mkfn f (caps.toList.map (cx n)) else if caps.size=0 then .more (.mkB f) (first.toList.map (cx n)) else .bad
 | .convert src dst x=>match P.underlying src,P.underlying dst with
    | some (.int _),some (.int k)=>.convI k (cx n x)
    | some (.slice e),some .string=>if u8T P e then .bstr (cx n x) else .bad
    | _,_=>if KA P src dst then .rngS true (cx n x) else .bad
 | .alloc e=>match zeroOf P e with
    | some (i,z)=>.alloc e i.size (ofValue z)
    | none=>if mK P e then .more .oO [] else .bad
 | .store t a x=>if bO P t then .store (P.cellsOf t) (cx n a) (cx n x) else if mK P t then .more .oU [cx n a,cx n x] else .bad
 | .buildSlice t len parts=>match P.underlying t with
    | some (.slice e)=>match zeroOf P e with
      | some (i,_)=>if parts.toList.map (·.1)=List.range len∧len*i.size≤16777216 then .bf e i.size (parts.toList.map fun p=>cx n p.2) else .bad
      | none=>.bad
    | _=>.bad
 | .build t parts=>if mK P t && parts.size == 0 then .mov (.c (.agg [])) else match zeroOf P t,P.underlying t with
    | some (_, .agg z),some (.struct fs) =>
      if (fs.toList.all fun f=>bO P f.type) && (parts.toList.all fun p=>decide (p.1 < fs.size)) then
       .build (z.toList.map cellOf) (parts.toList.map fun p=>(((fs[p.1]?).map (·.offset)).getD 0,((fs[p.1]?).map fun f=>P.cellsOf f.type).getD 0,cx n p.2))
      else .bad
    | some (_, .agg z),some (.array _ e)=>if bO P e then .build (z.toList.map cellOf) (parts.toList.map fun p=>(p.1*P.cellsOf e,P.cellsOf e,cx n p.2)) else .bad
    | _,_=>.bad
 | .call { callee:=.builtin .len,args,argTypes }=>match args.toList,argTypes[0]? with
    | [x],some t=>match P.underlying t with
      | some (.slice _)=>.len false (cx n x)
      | some .string=>.len true (cx n x)
      | _=>.bad
    | _,_=>.bad
 | .call { callee:=.builtin .append,args,argTypes }=>match args.toList,argTypes.toList with
    | [a,b],[t,t']=>if t=t' then match P.underlying t with
      | some (.slice e)=>match zeroOf P e with
        | some (i,_)=>.append e i.size i.bytes (cx n a) (cx n b)
        | none=>.bad
      | _=>.bad
      else match P.underlying t,P.underlying t' with
      | some (.slice e),some (.int _)=>match zeroOf P e with
        | some (i,z)=>.appz e i.size i.bytes (ofValue z) (cx n a) (cx n b)
        | none=>.bad
      | some (.slice e),some .string=>match zeroOf P e with
        | some (i,_)=>.append e i.size i.bytes (cx n a) (cx n b)
        | none=>.bad
      | _,_=>.bad
    | _,_=>.bad
 | .makeSlice t l c=>match P.underlying t with
    | some (.slice e)=>match zeroOf P e with
      | some (i,z)=>if rb l c then .mk e i.size i.bytes (ofValue z) (cx n l) else .bad
      | none=>.bad
    | _=>.bad
 | .call { callee:=.builtin .cap,args,argTypes }=>match args.toList,argTypes[0]? with
    | [x],some t=>if vK P t then .cap (cx n x) else .bad
    | _,_=>.bad
 | .call { callee:=.builtin .min,args, .. }=>match args.toList with
    | [x,y]=>.minmax false (cx n x) (cx n y)
    | _=>.bad
 | .call { callee:=.builtin .max,args, .. }=>match args.toList with
    | [x,y]=>.minmax true (cx n x) (cx n y)
    | _=>.bad
 | .call { callee:=.builtin .clear,args,argTypes }=>match args.toList,argTypes[0]? with
    | [x],some t=>match P.underlying t with
      | some (.slice e)=>match zeroOf P e with
        | some (i,z)=>.clear i.size (ofValue z) (cx n x)
        | none=>.bad
      | _=>.bad
    | _,_=>.bad
 | .call { callee:=.builtin .copy,args,argTypes }=>match args.toList,argTypes[0]? with
    | [x,y],some t=>match P.underlying t with
      | some (.slice e)=>if bO P e then .more (.cpy (P.cellsOf e)) [cx n x,cx n y] else .bad
      | _=>.bad
    | _,_=>.bad
 | .call { callee:=.value f,args, .. }=>.call (cx n f) (args.toList.map (cx n))
 | .range t x=>match P.underlying t with
    | some .string=>.rngS false (cx n x)
    | _=>.bad
 | .makeInterface t x=>if (P.underlying t).isSome && !tz P t then .more (.mkI t) [cx n x] else .bad
 | .typeAssert x _ t ok=>if tz P t then .bad else match zeroOf P t with
    | some (_,z)=>.more (.tas t ok (ofValue z)) [cx n x]
    | none=>if mK P t then .more (.tas t ok (.agg [])) [cx n x] else .bad
 | .call { callee:=.invoke r name,args, .. }=>.more (.inv (KD P name)) (cx n r::args.toList.map (cx n))
 | .makeMap t r=>if r.isNone && (HW P t).isSome then .more .mkMap [] else .bad
 | .insert t m k x | .mapUpdate t m k x=>if (HW P t).isSome then .more .insM [cx n m,cx n k,cx n x] else .bad
 | .lookup t x i ok=>match HW P t with
    | some e=>match zeroOf P e with
      | some (_,z)=>.more (.lookM ok (ofValue z)) [cx n x,cx n i]
      | none=>.bad
    | none=>.bad
 | .call { callee:=.builtin .delete,args,argTypes }=>match args.toList,argTypes[0]? with
    | [m,k],some t=>if (HW P t).isSome then .more .delM [cx n m,cx n k] else .bad
    | _,_=>.bad
 | .next it b=>if b=true then .nxtS (cx n it) else .bad
 | _=>.bad
def cP (all:Array Oper) (o:Oper):aG where
 dst:=o.dst.filter (· < n)
 op:=cop P n o.op
 g:=o.guard.map fun (j,want)=>(match (all[j]?).bind (·.dst) with
  | some d=>if d < n then .t d else .c (.tup [])
  | none=>.c (.tup []),want)
def By (ops:Array Oper) (k:Nat) (listed:Array Bool):Bool:=match ops[k]? with
 | some ok=>(List.range ops.size).all fun j=>j == k || listed.getD j true || (match ops[j]? with
    | some oj=>((Region.before ops).getD j 0).testBit k || kY (cP P n ops ok) (cP P n ops oj)
    | none=>true)
 | none=>false
def F4 (ops:Array Oper):Nat→Nat→Array Bool→Bool
 | 0,_,listed=>(Region.ready .any ops listed).isEmpty
 | m+1,k,listed=>(Region.ready .any ops listed).contains k && By P n ops k listed && F4 ops m (k+1) (listed.setIfInBounds k true)
def H5 (l:List aG):Bool:=l.any fun i=>match i.op with
 | .append _ _ _ (.t d) _=>l.any fun j=>j.dst == some d && (match j.op with | .call ..=>true | _=>false)
 | _=>false
def yr (l:List aG) (d:Nat):Option VOp:=(l.find? fun j=>j.dst == some d).map (·.op)
def vM:Option VOp→Bool
 | some (.call ..)=>true
 | _=>false
def Gv (l:List aG):Bool:=l.any fun i=>match i.op with
 | .append _ _ _ (.t d) (.t v)=>vM (yr l v) && (match yr l d with
   | some (.append _ _ _ _ (.t w))=>vM (yr l w)
   | _=>false)
 | .call (.t f) _=>match yr l f with
   | some (.idxV _ _ _ (.t a) _)=>vM (yr l a)
   | _=>false
 | _=>false
def vg (l:List aG):Bool:=H5 l || Gv l ||
 (l.any fun i=>match i.op with | .call ..=>true | _=>false) && (l.any fun i=>match i.op with | .nilCheck _=>true | _=>false) && l.any fun i=>match i.op with | .store ..=>true | _=>false
def vz (ops:Array Oper):Bool:=P.follows .mixedOrders && (!(vg (ops.toList.map (cP P n ops))) && F4 P n ops ops.size 0 (Array.replicate ops.size false))
def E0 (ops:Array Oper) (m:Nat):Nat→Nat→Array Bool→Bool
 | 0,_,listed=>decide (Region.ready .any ops listed=[m]) && (Region.ready .any ops (listed.setIfInBounds m true)).isEmpty
 | f+1,k,listed=>((Region.ready .any ops listed).contains k && (decide (k≠m) && ((Region.before ops).getD m 0).testBit k)) && (By P n ops k listed && E0 ops m f (k+1) (listed.setIfInBounds k true))
def Gu:aG→Bool
 | ⟨_, .call ..,_⟩=>true
 | _=>false
def vH (ops:Array Oper):Bool:=P.follows .mixedOrders && (decide (0 < ops.size) && (((ops.toList.drop (ops.size - 1)).map (cP P n ops)).any Gu && (!(vg ((ops.toList.take (ops.size - 1)).map (cP P n ops))) && E0 P n ops (ops.size - 1) (ops.size - 1) 0 (Array.replicate ops.size false))))
def cZ:Code→bB
 | .skip=>.skip
 | .region _ ops draw=>if draw && vH P n ops then .o6 ((ops.toList.take (ops.size - 1)).map (cP P n ops)) ((ops.toList.drop (ops.size - 1)).map (cP P n ops)) else if draw && !(vz P n ops) then .regA (ops.toList.map (cP P n ops)) (ops.toList.map fun o=>(o.after.toList.filter (Region.binds .any)).map (·.on)) else .reg draw (ops.toList.map (cP P n ops))
 | .seq a b=>.seq (cZ a) (cZ b)
 | .cond c a b=>.cond (cx n c) (cZ a) (cZ b)
 | .block id a=>.block id (cZ a)
 | .loop a=>.loop (cZ a)
 | .exit id=>.exit id
 | .ret=>.ret
 | .rangeFunc g ps a c=>.cC (cx n g) ps.toList (cZ a) (cZ c)
 | _=>.bad
end comp
def VX.ev (s:Nat→V):VX→V
 | .t n=>s n
 | .c v=>v
def inR (k:IntKind) (n:Int):Prop:=k.wrap n=n
def cG (op:BinOp) (k:IntKind) (a b:Int):Option V :=
 match op with
 | .add=>some (.int k (a+b))
 | .sub=>some (.int k (a - b))
 | .mul=>some (.int k (a*b))
 | .quo=>if b=0 then none else some (.int k (a.tdiv b))
 | .rem=>if b=0 then none else some (.int k (a.tmod b))
 | .eql=>some (.bool (decide (a=b)))
 | .neq=>some (.bool (decide (a≠b)))
 | .lss=>some (.bool (decide (a < b)))
 | .leq=>some (.bool (decide (a≤b)))
 | .gtr=>some (.bool (decide (a > b)))
 | .geq=>some (.bool (decide (a≥b)))
 | .and=>some (.int k (k.wrap (BitVec.ofInt k.bits a &&& BitVec.ofInt k.bits b).toNat))
 | .or=>some (.int k (k.wrap (BitVec.ofInt k.bits a ||| BitVec.ofInt k.bits b).toNat))
 | .shl=>if b < 0 then none else some (.int k (k.wrap (a*2 ^ (min b.toNat k.bits))))
 | .shr=>if b < 0 then none else some (.int k (a.fdiv (2 ^ (min b.toNat k.bits))))
 | _=>none
def eG (op:BinOp) (k:IntKind) (a b:Int):Prop :=
 match op with
 | .add=>inR k (a+b)
 | .sub=>inR k (a - b)
 | .mul=>inR k (a*b)
 | .quo=>inR k (a.tdiv b)
 | _=>True
def ed (op:BinOp) (a b:List UInt8):Option V :=
 match op with
 | .add=>some (.str (a++b))
 | .eql=>some (.bool (decide (a=b)))
 | .neq=>some (.bool (decide (a≠b)))
 | _=>none
def eF (op:BinOp) (a b:List UInt8):Prop :=
 match op with
 | .add=>a.length+b.length≤9223372036854775807
 | _=>True
def tX (op:BinOp):V→V→Option V
 | .int k a, .int k' b=>if k=k' then cG op k a b else none
 | .str a, .str b=>ed op a b
 | _,_=>none
def nG (op:BinOp):V→V→Prop
 | .int k a, .int _ b=>eG op k a b
 | .str a, .str b=>eF op a b
 | _,_=>True
def bE (agg:Bool) (off sz:Nat) (vs:List V):Option V :=
 if agg then some (.agg ((vs.drop off).take sz)) else vs[off]?
def kP:V→Option V
 | .aD=>some (.int .i64 0)
 | _=>none
def dD:Bool→V→Option V
 | false, .own _ _ n=>some (.int .i64 n)
 | false, .sl _ rows=>some (.int .i64 rows.length)
 | false, .aD=>some (.int .i64 0)
 | true, .str s=>some (.int .i64 s.length)
 | _,_=>none
def kv (agg:Bool) (off sz:Nat):V→Option V
 | .agg vs=>bE agg off sz vs
 | _=>none
def gr (agg:Bool) (off sz:Nat):V→Option V
 | .ptr id i k=>some (.ptr id i (k+off))
 | .rp v=>(bE agg off sz v.cells).map .rp
 | _=>none
def bD (σ:af) (esz:Nat):V→V→Option V
 | .own id off len, .int _ j=>match σ id with
    | some ob=>if ob.sz=esz∧0≤j∧j < len then some (.ptr id (off+j.toNat) 0) else none
    | none=>none
 | .sl sz rows, .int _ j=>if sz=esz∧0≤j then match rows[j.toNat]? with
    | some r=>some (.rp r)
    | none=>none
    else none
 | _,_=>none
def dM (agg:Bool) (n esz:Nat):V→V→Option V
 | .ptr id i k, .int _ j=>if 0≤j∧j < n then some (.ptr id i (k+j.toNat*esz)) else none
 | .rp v, .int _ j=>if 0≤j∧j < n then (bE agg (j.toNat*esz) esz v.cells).map .rp else none
 | _,_=>none
def fL (agg:Bool) (n esz:Nat):V→V→Option V
 | .agg vs, .int _ j=>if 0≤j∧j < n then bE agg (j.toNat*esz) esz vs else none
 | _,_=>none
def eB:V→V→Option V
 | .str s, .int _ j=>if 0≤j then match s[j.toNat]? with
    | some b=>some (.int .u8 b.toNat)
    | none=>none
    else none
 | _,_=>none
def bN (σ:af) (agg:Bool) (sz:Nat):V→Option V
 | .ptr id i k=>match σ id with
    | some ob=>match ob.rows[i]? with
      | some r=>if agg then (if k=0∧r.cells.length=sz then some (.agg r.cells) else if k+sz≤r.cells.length then some (.agg ((r.cells.drop k).take sz)) else none)
         else r.cells[k]?
      | none=>none
    | none=>none
 | .rp v=>if agg then (if v.cells.length=sz then some (.agg v.cells) else none) else match v with
    | .agg _=>none
    | v=>some v
 | _=>none
def bx (d:Int):Option V→Option Int
 | none=>some d
 | some (.int _ j)=>some j
 | _=>none
def ir (σ:af) (id esz:Nat):Bool:=match σ id with
 | some ob=>ob.sz == esz
 | none=>false
def cy (σ:af) (esz:Nat) (x:V) (lo hi mx:Option V):Option V :=
 match x with
 | .own id off len=>match bx 0 lo,bx len hi,bx len mx with
    | some l,some h,some m=>if 0≤l∧l≤h∧h≤m∧m≤len∧ir σ id esz=true then some (.own id (off+l.toNat) (h.toNat - l.toNat)) else none
    | _,_,_=>none
 | .sl sz rows=>match bx 0 lo,bx rows.length hi,bx rows.length mx with
    | some l,some h,some m=>if 0≤l∧l≤h∧h≤m∧m≤rows.length∧sz=esz then some (.sl sz ((rows.drop l.toNat).take (h.toNat - l.toNat))) else none
    | _,_,_=>none
 | .aD=>match bx 0 lo,bx 0 hi,bx 0 mx with
    | some l,some h,some m=>if l=0∧h=0∧m=0 then some .aD else none
    | _,_,_=>none
 | _=>none
def cK (x:V) (lo hi:Option V):Option V :=
 match x with
 | .str s=>match bx 0 lo,bx s.length hi with
    | some l,some h=>if 0≤l∧l≤h∧h≤s.length then some (.str ((s.drop l.toNat).take (h.toNat - l.toNat))) else none
    | _,_=>none
 | _=>none
def bS {α:Type} (l:List α) (off:Nat) (xs:List α):List α:=l.take off++xs++l.drop (off+xs.length)
def V.stays:V→Bool
 | .undef=>false
 | .tup _=>false
 | .raw v=>v.oneCell'
 | _=>true
def da (zero:List V):List (Nat×Nat×V)→Option (List V)
 | []=>some zero
 | (off,sz,x)::r=>if x.cells.length=sz∧x.stays=true∧off+sz≤zero.length then da (bS zero off x.cells) r else none
def kc (i:Nat):V→Option V
 | .tup vs=>vs[i]?
 | _=>none
def dO:V→V→Option Bool
 | .int k a, .int k' b=>if k=k' then some (decide (a=b)) else none
 | .bool a, .bool b=>some (a == b)
 | .str a, .str b=>some (decide (a=b))
 | _,_=>none
def cj:List V→List V→Option Bool
 | [],[]=>some true
 | v::vs,u::us=>match dO v u,cj vs us with
    | some a,some b=>some (a && b)
    | _,_=>none
 | _,_=>none
def dT:List Nat→List V→Bool
 | [],[]=>true
 | 0::ks, .int _ _::vs=>dT ks vs
 | 1::ks, .bool _::vs=>dT ks vs
 | 2::ks, .str _::vs=>dT ks vs
 | _,_=>false
def jS (neg:Bool) (ks:List Nat):V→V→Option V
 | .agg vs, .agg us=>if dT ks vs=true∧us.length=vs.length then match cj vs us with
    | some b=>some (.bool (if neg then !b else b))
    | none=>none
    else none
 | _,_=>none
def binBV (neg:Bool):V→V→Option V
 | .bool a, .bool b=>some (.bool (if neg then !(a == b) else a == b))
 | _,_=>none
def cU (max:Bool):V→V→Option V
 | .int k a, .int k' b=>if k=k' then some (.int k (if max then (if b > a then b else a) else (if b < a then b else a))) else none
 | _,_=>none
def byteOf:V→Option UInt8
 | .int .u8 n=>some (UInt8.ofNat n.toNat)
 | _=>none
def bytesOf:List V→Option (List UInt8)
 | []=>some []
 | v::vs=>match byteOf v,bytesOf vs with
    | some b,some l=>some (b::l)
    | _,_=>none
def dq (σ:af):V→Option V
 | .aD=>some (.str [])
 | .own id off len=>match σ id with
    | some ob=>if ob.sz=1∧off+len≤ob.rows.length then (bytesOf ((ob.rows.drop off).take len)).map .str else none
    | none=>none
 | _=>none
def bT:V→Option V
 | .ptr id i k=>some (.ptr id i k)
 | .rp v=>some (.rp v)
 | .fn f caps=>some (.fn f caps)
 | .iface t v=>some (.iface t v)
 | _=>none
def Bz (neg:Bool):V→Option V
 | .nilp=>some (.bool (!neg))
 | .ptr _ _ _=>some (.bool neg)
 | .rp _=>some (.bool neg)
 | _=>none
def FX (t:TypeId) (ok:Bool) (zero:V):V→Option V
 | .iface t' v=>if t'=t then some (if ok then .tup [v, .bool true] else v) else (if ok then some (.tup [zero, .bool false]) else none)
 | .niliface=>if ok then some (.tup [zero, .bool false]) else none
 | _=>none
def aE (σ:af) (s:Nat→V):VOp→Option V
 | .mov x=>some (x.ev s)
 | .pick c a b=>match c.ev s with
    | .bool t=>some (if t then a.ev s else b.ev s)
    | _=>none
 | .bin op x y=>tX op (x.ev s) (y.ev s)
 | .not x=>match x.ev s with
    | .bool b=>some (.bool (!b))
    | _=>none
 | .neg x=>match x.ev s with
    | .int k a=>some (.int k (0 - a))
    | _=>none
 | .len b x=>dD b (x.ev s)
 | .cap x=>kP (x.ev s)
 | .fld agg off sz x=>kv agg off sz (x.ev s)
 | .fldA agg off sz x=>gr agg off sz (x.ev s)
 | .idxA esz x i=>bD σ esz (x.ev s) (i.ev s)
 | .idxAA agg n esz x i=>dM agg n esz (x.ev s) (i.ev s)
 | .idxV agg n esz x i=>fL agg n esz (x.ev s) (i.ev s)
 | .idxS x i=>eB (x.ev s) (i.ev s)
 | .load agg sz x=>bN σ agg sz (x.ev s)
 | .slice esz x lo hi mx=>cy σ esz (x.ev s) (lo.map (·.ev s)) (hi.map (·.ev s)) (mx.map (·.ev s))
 | .sliceS x lo hi=>cK (x.ev s) (lo.map (·.ev s)) (hi.map (·.ev s))
 | .nilCheck x=>bT (x.ev s)
 | .binB neg x y=>binBV neg (x.ev s) (y.ev s)
 | .eqS neg ks x y=>jS neg ks (x.ev s) (y.ev s)
 | .minmax m x y=>cU m (x.ev s) (y.ev s)
 | .bstr x=>dq σ (x.ev s)
 | .ext i x=>kc i (x.ev s)
 | .build zero parts=>(da zero (parts.map fun p=>(p.1,p.2.1,p.2.2.ev s))).map .agg
 | .mkfn f caps=>some (.fn f (caps.map (·.ev s)))
 | .more (.mkI t) [x]=>some (.iface t (x.ev s))
 | .more (.mkB f) xs=>some (.bm f (xs.map (·.ev s)))
 | .more (.tas t ok z) [x]=>FX t ok z (x.ev s)
 | .more (.nilP neg) [x]=>Bz neg (x.ev s)
 | .convI k x=>match x.ev s with
    | .int _ a=>some (.int k a)
    | _=>none
 | _=>none
def eQ (s:Nat→V):VOp→Prop
 | .bin op x y=>nG op (x.ev s) (y.ev s)
 | .neg x=>match x.ev s with
    | .int k a=>inR k (0 - a)
    | _=>True
 | .convI k x=>match x.ev s with
    | .int _ a=>inR k a
    | _=>True
 | _=>True
variable {P:Program} {μ:Mu} {ow:Nat→Prop} {w:World}
theorem nJ {α:Type} [DecidableEq α] [BEq α] [LawfulBEq α] (a b:α):(a == b)=decide (a=b):=by by_cases h:a=b <;> simp [h]
theorem HL {α:Type} [DecidableEq α] [BEq α] [LawfulBEq α] (a b:α):(a != b)=decide (a≠b):=by by_cases h:a=b <;> simp [h]
theorem fC (b off j:Nat):(⟨b,off,none⟩:Addr).add j=⟨b,off+j,none⟩:=by
 unfold Addr.add; split <;> simp_all
theorem au.length:∀ {vs:List V} {l:List Value},au μ ow w vs l→l.length=vs.length
 | [],l,h=>by simp [au] at h; simp [h]
 | v::vs,l,h=>by
   simp only [au] at h;obtain ⟨x,xs,rfl,_,h2⟩:=h;simp [au.length h2]
theorem au.get:∀ {vs:List V} {l:List Value} {i:Nat} {v:V},au μ ow w vs l→vs[i]?=some v→∃x,l[i]?=some x∧Rep μ ow w v x
 | [],l,i,v,_,h=>by simp at h
 | u::vs,l,i,v,h,hv=>by
   simp only [au] at h;obtain ⟨x,xs,rfl,h1,h2⟩:=h;cases i with
   | zero=>simp at hv; subst hv; exact ⟨x,by simp,h1⟩
   | succ i=>simpa using au.get h2 (by simpa using hv)
theorem au.drop:∀ {vs:List V} {l:List Value} (k:Nat),au μ ow w vs l→au μ ow w (vs.drop k) (l.drop k)
 | [],l,k,h=>by simp [au] at h; subst h; simp [au]
 | v::vs,l,0,h=>by simpa using h
 | v::vs,l,k+1,h=>by
   simp only [au] at h;obtain ⟨x,xs,rfl,h1,h2⟩:=h;simpa using au.drop k h2
theorem au.take:∀ {vs:List V} {l:List Value} (k:Nat),au μ ow w vs l→au μ ow w (vs.take k) (l.take k)
 | [],l,k,h=>by simp [au] at h; subst h; simp [au]
 | v::vs,l,0,h=>by simp [au]
 | v::vs,l,k+1,h=>by
   simp only [au] at h;obtain ⟨x,xs,rfl,h1,h2⟩:=h;simp only [List.take_succ_cons,au];exact ⟨x,_,rfl,h1,au.take k h2⟩
theorem aP.get:∀ {vs:List V} {b off k:Nat} {v:V},aP μ ow w vs b off→vs[k]?=some v →
 ∃x,w.cell? ⟨b,off+k,none⟩=some x∧Rep μ ow w v x∧x.oneCell'=true
 | [],_,_,_,_,_,h=>by simp at h
 | u::vs,b,off,k,v,h,hv=>by
   simp only [aP] at h;cases k with
   | zero=>simp at hv; subst hv; exact h.1
   | succ k =>
     have:=aP.get (k:=k) h.2 (by simpa using hv)
     rwa [show off+1+k=off+(k+1) by omega] at this
theorem aP.drop:∀ {vs:List V} {b off:Nat} (k:Nat),aP μ ow w vs b off→aP μ ow w (vs.drop k) b (off+k)
 | [],_,_,_,_=>by simp [aP]
 | u::vs,b,off,0,h=>by simpa using h
 | u::vs,b,off,k+1,h=>by
   simp only [aP] at h;have:=aP.drop k h.2;rw [show off+1+k=off+(k+1) by omega] at this;simpa using this
theorem aP.take:∀ {vs:List V} {b off:Nat} (k:Nat),aP μ ow w vs b off→aP μ ow w (vs.take k) b off
 | [],_,_,_,_=>by simp [aP]
 | u::vs,b,off,0,h=>by simp [aP]
 | u::vs,b,off,k+1,h=>by
   simp only [aP] at h;simp only [List.take_succ_cons,aP];exact ⟨h.1,aP.take k h.2⟩
theorem aP.BX:∀ {vs:List V} {b off:Nat},aP μ ow w vs b off →
 ∃xs,au μ ow w vs xs∧(∀u∈xs,u.oneCell'=true)∧∀(j:Nat) u,xs[j]?=some u→w.cell? ⟨b,off+j,none⟩=some u
 | [],_,_,_=>⟨[],by simp [au],by simp,by simp⟩
 | v::vs,b,off,h=>by
   simp only [aP] at h;obtain ⟨⟨x,h1,h2,h3⟩,h4⟩:=h;obtain ⟨xs,h5,h6,h7⟩:=aP.BX h4;refine ⟨x::xs,by simp only [au]; exact ⟨x,xs,rfl,h2,h5⟩,by simpa using ⟨h3,h6⟩,?_⟩;intro j u hu;cases j with
   | zero=>simp at hu; subst hu; exact h1
   | succ j =>
     have:=h7 j u (by simpa using hu)
     rwa [show off+1+j=off+(j+1) by omega] at this
theorem aX.get:∀ {rows:List V} {b off sz i:Nat} {r:V},aX μ ow w rows b off sz→rows[i]?=some r →
 r.cells.length=sz∧aP μ ow w r.cells b (off+i*sz)
 | [],_,_,_,_,_,_,h=>by simp at h
 | u::rows,b,off,sz,i,r,h,hr=>by
   simp only [aX] at h;cases i with
   | zero=>simp at hr; subst hr; exact ⟨h.1,by simpa using (dF ..).1 h.2.1⟩
   | succ i =>
     have:=aX.get (i:=i) h.2.2 (by simpa using hr)
     rwa [show off+sz+i*sz=off+(i+1)*sz by rw [Nat.add_mul]; omega] at this
theorem aX.drop:∀ {rows:List V} {b off sz:Nat} (k:Nat),aX μ ow w rows b off sz→aX μ ow w (rows.drop k) b (off+k*sz) sz
 | [],_,_,_,_,_=>by simp [aX]
 | u::rows,b,off,sz,0,h=>by simpa using h
 | u::rows,b,off,sz,k+1,h=>by
   simp only [aX] at h;have:=aX.drop k h.2.2;rw [show off+sz+k*sz=off+(k+1)*sz by rw [Nat.add_mul]; omega] at this;simpa using this
theorem aX.take:∀ {rows:List V} {b off sz:Nat} (k:Nat),aX μ ow w rows b off sz→aX μ ow w (rows.take k) b off sz
 | [],_,_,_,_,_=>by simp [aX]
 | u::rows,b,off,sz,0,h=>by simp [aX]
 | u::rows,b,off,sz,k+1,h=>by
   simp only [aX] at h;simp only [List.take_succ_cons,aX];exact ⟨h.1,h.2.1,aX.take k h.2.2⟩
theorem mZ (v:Value):Rep μ ow w (cellOf v) v:=by
 cases v <;> simp only [cellOf] <;> (try split) <;> simp_all [Rep]
theorem eC:∀(l:List Value),au μ ow w (l.map cellOf) l
 | []=>by simp [au]
 | v::l=>by simp only [List.map_cons,au]; exact ⟨v,l,rfl,mZ v,eC l⟩
theorem qF (v:Value):Rep μ ow w (ofValue v) v:=by
 unfold ofValue;split
 ·rename_i cs;split
  ·rename_i h;simp only [Rep];exact ⟨cs.toList,by simp,eC _,fun u hu=>List.all_eq_true.1 h u hu⟩
  ·simp [Rep]
 ·exact mZ v
theorem pB {t:TypeId} (h:(P.underlying t).isSome):(isAgg t).run P w=.ok (eN P t) w:=by
 obtain ⟨d,hd⟩:=Option.isSome_iff_exists.1 h;unfold isAgg eN;simp only [Sem.run_bind,run_underlying hd,Result.andThen_ok,hd];cases d <;> rfl
theorem dp {t:TypeId} (h:bO P t=true):(P.underlying t).isSome∧(∃i,P.info? t=some i∧i.size=P.cellsOf t)∧0 < P.cellsOf t:=by
 simp only [bO,Ba,bne_iff_ne] at h;obtain ⟨⟨h1,h2⟩,h3⟩:=h;obtain ⟨i,hi⟩:=Option.isSome_iff_exists.1 h1;exact ⟨h2,⟨i,hi,by simp [Program.cellsOf,hi]⟩,by omega⟩
theorem bW {t:TypeId} (h:bO P t=true):(sizeOf t).run P w=.ok (P.cellsOf t) w:=by
 obtain ⟨_,⟨i,hi,_⟩,_⟩:=dp h;exact run_sizeOf w hi
theorem xT {t:TypeId} (h:bO P t=true) {vals:List Value} {vs:List V} {off:Nat} {v:V} (hr:au μ ow w vs vals)
 (h1:∀u∈vals,u.oneCell'=true) (hv:bE (eN P t) off (P.cellsOf t) vs=some v) :
 ∃x,(part t ⟨vals⟩ off).run P w=.ok x w∧Rep μ ow w v x:=by
 unfold part;simp only [Sem.run_bind,pB (dp h).1,Result.andThen_ok];unfold bE at hv;cases hagg:eN P t
 ·simp only [hagg,Bool.false_eq_true,if_false] at hv ⊢;obtain ⟨x,hx,hrx⟩:=hr.get hv;have:(⟨vals⟩:Array Value)[off]?=some x:=by simpa using hx
  exact ⟨x,by simp [this],hrx⟩
 ·simp only [hagg,if_true,Oi] at hv ⊢;subst hv;refine ⟨.agg ((⟨vals⟩:Array Value).extract off (off+P.cellsOf t)),by simp [bW h],?_⟩;simp only [Rep];refine ⟨(vals.drop off).take (P.cellsOf t),?_,(hr.drop off).take _,fun u hu=>h1 u (List.mem_of_mem_drop (List.mem_of_mem_take hu))⟩;have e:(⟨vals⟩:Array Value)=vals.toArray:=rfl;rw [e,List.extract_toArray];simp
theorem ic {t:TypeId} (h:bO P t=true) {vs:List V} {b off:Nat} (hr:aP μ ow w vs b off) {v:V}
 (hv:(if eN P t then (if vs.length=P.cellsOf t then some (V.agg vs) else none) else vs[0]?)=some v) :
 ∃x,(loadVar t ⟨b,off,none⟩).run P w=.ok x w∧Rep μ ow w v x:=by
 unfold loadVar;simp only [Sem.run_bind,pB (dp h).1,Result.andThen_ok];cases hagg:eN P t
 ·simp only [hagg,Bool.false_eq_true,if_false] at hv ⊢;obtain ⟨x,hx,h1,h2⟩:=hr.get hv;exact ⟨x,by simp [show w.cell? ⟨b,off,none⟩=some x by simpa using hx],h1⟩
 ·simp only [hagg,if_true] at hv ⊢;split at hv
  ·rename_i hl;simp only [Oi] at hv;subst hv;obtain ⟨xs,h1,h2,h3⟩:=hr.BX;have hlen:xs.length=P.cellsOf t:=by rw [h1.length,hl]
   refine ⟨.agg xs.toArray,?_,by simp only [Rep]; exact ⟨xs,rfl,h1,h2⟩⟩;simp only [Sem.run_bind,bW h,Result.andThen_ok];rw [←hlen,run_loadCells_list (P:=P) w ⟨b,off,none⟩ xs (fun j u hu=>by rw [fC]; exact h3 j u hu)];simp
  ·cases hv
theorem GK {op:BinOp} {t:TypeId} {x y v:V} {X Y:Value} {xo yo:Operand} (hx:Rep μ ow w x X) (hy:Rep μ ow w y Y) (hp:nG op x y)
 (hv:tX op x y=some v):∃z,(do eqGuard op t xo yo X Y; binOp op t X Y:Sem Value).run P w=.ok z w∧Rep μ ow w v z:=by
 unfold tX at hv;split at hv
 ·rename_i k a k' b;split at hv
  ·rename_i hk;subst hk;simp only [Rep] at hx hy;subst hx hy;simp only [nG] at hp;have hg:(eqGuard op t xo yo (.int k a) (.int k b)).run P w=.ok () w:=by
    unfold eqGuard; simp
   simp only [Sem.run_bind,hg,Result.andThen_ok];cases op <;> simp only [cG,reduceCtorEq] at hv <;> simp only [eG] at hp <;>
    first
    | (split at hv
       ·cases hv
       ·rename_i hb;simp only [Oi] at hv; subst hv
        first
        | exact ⟨_,by simp only [binOp,Op.shift,if_neg hb]; rfl,by simp [Rep]⟩
        | simp_all [binOp,Op.intDiv,Rep,inR])
    | (simp only [Oi] at hv; subst hv; simp_all [binOp,Op.intArith,Op.intCmp,Op.intBits,Rep,inR,nJ,HL])
  ·cases hv
 ·rename_i a b;simp only [Rep] at hx hy;subst hx hy;simp only [nG] at hp;have hg:(eqGuard op t xo yo (.string ⟨a.toArray⟩) (.string ⟨b.toArray⟩)).run P w=.ok () w:=by
   unfold eqGuard; simp
  simp only [Sem.run_bind,hg,Result.andThen_ok];have hsz:∀l:List UInt8,(⟨l.toArray⟩:ByteArray).size=l.length:=fun l=>by simp [ByteArray.size]
  have hl:∀l:List UInt8,(⟨l.toArray⟩:ByteArray).toList=l:=fun l=>by rw [ByteArray.toList_eq]
  cases op <;> simp only [ed,reduceCtorEq] at hv <;> simp only [eF] at hp <;> simp only [Oi] at hv <;> subst hv
  ·refine ⟨.string (⟨a.toArray⟩++⟨b.toArray⟩),?_,?_⟩
   ·simp only [binOp,Op.stringOp,hsz];rw [if_neg (by simp [IntKind.max,IntKind.signed,IntKind.bits]; omega)];simp
   ·simp only [Rep];congr 1
  ·exact ⟨.bool (decide (a=b)),by simp [binOp,Op.stringOp,hl,nJ],by simp [Rep]⟩
  ·exact ⟨.bool (decide (a≠b)),by simp [binOp,Op.stringOp,hl,nJ],by simp [Rep]⟩
 ·cases hv
theorem pW {s:TypeId} {fs:Array Field} {f:Nat} {fd:Field} (hs:P.underlying s=some (.struct fs)) (hf:fs[f]?=some fd) (hk:bO P fd.type=true)
 (b o:Nat):(Instr.fieldAt s (.pointer (some ⟨b,o,none⟩)) f).run P w=.ok (.pointer (some ⟨b,o+fd.offset,none⟩)) w:=by
 have hne:P.cellsOf fd.type≠0:=Nat.pos_iff_ne_zero.1 (dp hk).2.2;simp [Instr.fieldAt,run_underlying hs,hf,Instr.sureAddr,fieldPlace,bW hk,hne,fC]
theorem Cw {s:TypeId} {fs:Array Field} {f:Nat} {fd:Field} (hs:P.underlying s=some (.struct fs)) (hf:fs[f]?=some fd) (hk:bO P fd.type=true)
 {x v:V} {X:Value} (hx:Rep μ ow w x X) (hv:gr (eN P fd.type) fd.offset (P.cellsOf fd.type) x=some v) :
 ∃z,(Instr.fieldAt s X f).run P w=.ok z w∧Rep μ ow w v z:=by
 unfold gr at hv;split at hv
 ·rename_i id i k;simp only [Oi] at hv;subst hv;simp only [Rep] at hx;split at hx
  ·rename_i b sz cap hid;obtain ⟨rfl,hsz⟩:=hx;exact ⟨_,pW hs hf hk b _,by simp only [Rep,hid]; simp [Nat.add_assoc,hsz]⟩
  ·exact hx.elim
 ·rename_i u;simp only [Rep] at hx;obtain ⟨b,off,rfl,hlt,hb,hr⟩:=hx;rw [dF] at hr;refine ⟨_,pW hs hf hk b off,?_⟩;cases hsub:bE (eN P fd.type) fd.offset (P.cellsOf fd.type) u.cells with
  | none=>simp [hsub] at hv
  | some y =>
    simp only [hsub,Option.map_some,Oi] at hv;subst hv;simp only [Rep];have hb':y.cells=[]∨¬ow b:=hb.imp (fun hu=>by
     rw [hu] at hsub;unfold bE at hsub;split at hsub
     ·simp only [List.drop_nil,List.take_nil,Oi] at hsub; rw [←hsub]; rfl
     ·simp at hsub) id
    refine ⟨b,off+fd.offset,rfl,hlt,hb',?_⟩;rw [dF];unfold bE at hsub;split at hsub
    ·simp only [Oi] at hsub;subst hsub;simp only [V.cells];exact (hr.drop _).take _
    ·obtain ⟨z,h1,h2,h3⟩:=hr.get hsub;have hy:y.cells=[y]:=by
      cases y <;> simp only [V.cells];simp only [Rep] at h2;obtain ⟨vals,rfl,_⟩:=h2;simp [Value.oneCell'] at h3
     rw [hy];simp only [aP,and_true];exact ⟨z,h1,h2,h3⟩
 ·cases hv
theorem oW {y:V} {z:Value} (h2:Rep μ ow w y z) (h3:z.oneCell'=true):y.cells=[y]:=by
 cases y <;> simp only [V.cells];simp only [Rep] at h2;obtain ⟨vals,rfl,_⟩:=h2;simp [Value.oneCell'] at h3
theorem AK {u y:V} {agg:Bool} {o sz b off:Nat} (hlt:b < w.heap.size) (hb:u.cells=[]∨¬ow b) (hr:aP μ ow w u.cells b off) (hsub:bE agg o sz u.cells=some y) :
 Rep μ ow w (.rp y) (.pointer (some ⟨b,off+o,none⟩)):=by
 simp only [Rep];have hb':y.cells=[]∨¬ow b:=hb.imp (fun hu=>by
  rw [hu] at hsub;unfold bE at hsub;split at hsub
  ·simp only [List.drop_nil,List.take_nil,Oi] at hsub; rw [←hsub]; rfl
  ·simp at hsub) id
 refine ⟨b,off+o,rfl,hlt,hb',?_⟩;rw [dF];unfold bE at hsub;split at hsub
 ·simp only [Oi] at hsub;subst hsub;simp only [V.cells];exact (hr.drop _).take _
 ·obtain ⟨z,h1,h2,h3⟩:=hr.get hsub;rw [oW h2 h3];simp only [aP,and_true];exact ⟨z,h1,h2,h3⟩
theorem Dt {w0:World} {ow0:Nat→Prop} {σ:af} (hsat:Sat w0 ow0 μ σ w) {t e:TypeId} (ht:P.underlying t=some (.slice e)) (hk:bO P e=true)
 {x y v:V} {X Y:Value} (hx:Rep μ (aC μ σ) w x X) (hy:Rep μ (aC μ σ) w y Y) (hv:bD σ (P.cellsOf e) x y=some v) :
 ∃z,(Instr.indexAt t X Y).run P w=.ok z w∧Rep μ (aC μ σ) w v z:=by
 unfold bD at hv;split at hv
 ·rename_i id off len k j;split at hv
  ·rename_i ob hob;split at hv
   ·rename_i hc;obtain ⟨hsz,h0,h1⟩:=hc;simp only [Oi] at hv;subst hv;simp only [Rep] at hx hy;subst hy;have hobat:=hsat.obj id ob hob;split at hx
    ·exact hx.elim
    ·obtain ⟨rfl,rfl,rfl⟩:=hx;exfalso; simp at h1; omega
    ·rename_i b sz cap hid;obtain ⟨o,c,rfl,hc1,hc2,hc3,hz⟩:=hx;rw [hid] at hobat;obtain ⟨cur,_,hsz2,_⟩:=hobat.plain hz;have ho:o=off*sz:=by
      rcases hc3 with hc3 | hc3
      ·exact hc3
      ·omega
     subst ho;refine ⟨.pointer (some ⟨b,off*sz+j.toNat*P.cellsOf e,none⟩),?_,?_⟩
     ·simp [Instr.indexAt,asIntOf,run_underlying ht,h0,h1,bW hk,fC]
     ·simp only [Rep,hid];rw [←hsz,hsz2,Nat.add_mul]; simp [hz]
   ·cases hv
  ·cases hv
 ·rename_i sz rows k j;split at hv
  ·rename_i h0;obtain ⟨rfl,h0⟩:=h0;split at hv
   ·rename_i r hr;simp only [Oi] at hv;subst hv;simp only [Rep] at hx hy;subst hy;obtain ⟨a,cap,rfl,hcap,hrest⟩:=hx;have hlt:j.toNat < rows.length:=by
     have:=List.getElem?_eq_some_iff.1 hr;exact this.1
    rcases hrest with rfl | ⟨b,off,rfl,hb,hsz,hrows⟩
    ·simp at hlt
    ·obtain ⟨h1,h2⟩:=hrows.get hr;refine ⟨.pointer (some ⟨b,off+j.toNat*P.cellsOf e,none⟩),?_,?_⟩
     ·have:j < (rows.length:Int):=by omega
      simp [Instr.indexAt,asIntOf,run_underlying ht,h0,this,bW hk,fC]
     ·simp only [Rep];refine ⟨b,_,rfl,?_, .inr hb,(dF ..).2 h2⟩;cases hc:r.cells with
      | nil=>rw [hc] at h1; simp at h1; omega
      | cons c cs =>
        rw [hc] at h2;simp only [aP] at h2;obtain ⟨⟨y,hy,_⟩,_⟩:=h2;exact World.block_lt_of_cell? w _ hy
   ·cases hv
  ·cases hv
 ·cases hv
theorem Ag {t e:TypeId} {n:Nat} (ht:P.underlying t=some (.array n e)) (hk:bO P e=true)
 {x y v:V} {X Y:Value} (hx:Rep μ ow w x X) (hy:Rep μ ow w y Y) (hv:dM (eN P e) n (P.cellsOf e) x y=some v) :
 ∃z,(Instr.indexAt t X Y).run P w=.ok z w∧Rep μ ow w v z:=by
 unfold dM at hv;split at hv
 ·rename_i id i k kk j;split at hv
  ·rename_i hc;simp only [Oi] at hv;subst hv;simp only [Rep] at hx hy;subst hy;split at hx
   ·rename_i b sz cap hid;obtain ⟨rfl,hsz⟩:=hx;refine ⟨.pointer (some ⟨b,i*sz+k+j.toNat*P.cellsOf e,none⟩),?_,by simp only [Rep,hid]; simp [Nat.add_assoc,hsz]⟩;simp [Instr.indexAt,asIntOf,run_underlying ht,hc,bW hk,fC,Instr.sureAddr]
   ·exact hx.elim
  ·cases hv
 ·rename_i u kk j;split at hv
  ·rename_i hc;simp only [Rep] at hx hy;subst hy;obtain ⟨b,off,rfl,hlt,hb,hr⟩:=hx;rw [dF] at hr;cases hsub:bE (eN P e) (j.toNat*P.cellsOf e) (P.cellsOf e) u.cells with
   | none=>simp [hsub] at hv
   | some y =>
     simp only [hsub,Option.map_some,Oi] at hv;subst hv;refine ⟨_,?_,AK hlt hb hr hsub⟩;simp [Instr.indexAt,asIntOf,run_underlying ht,hc,bW hk,fC,Instr.sureAddr]
  ·cases hv
 ·cases hv
theorem CD {t e:TypeId} {n:Nat} (ht:P.underlying t=some (.array n e)) (hk:bO P e=true)
 {x y v:V} {X Y:Value} (hx:Rep μ ow w x X) (hy:Rep μ ow w y Y) (hv:fL (eN P e) n (P.cellsOf e) x y=some v) :
 ∃z,(Instr.index t X Y).run P w=.ok z w∧Rep μ ow w v z:=by
 unfold fL at hv;split at hv
 ·rename_i vs kk j;split at hv
  ·rename_i hc;simp only [Rep] at hx hy;subst hy;obtain ⟨vals,rfl,hr,h1⟩:=hx;obtain ⟨z,hz,hrz⟩:=xT (w:=w) hk hr h1 hv;exact ⟨z,by simp [Instr.index,asIntOf,run_underlying ht,hc,bW hk,hz],hrz⟩
  ·cases hv
 ·cases hv
theorem C4 {t:TypeId} (ht:P.underlying t=some .string)
 {x y v:V} {X Y:Value} (hx:Rep μ ow w x X) (hy:Rep μ ow w y Y) (hv:eB x y=some v) :
 ∃z,(Instr.index t X Y).run P w=.ok z w∧Rep μ ow w v z:=by
 unfold eB at hv;split at hv
 ·rename_i s k j;split at hv
  ·rename_i h0;split at hv
   ·rename_i b hb;simp only [Oi] at hv;subst hv;simp only [Rep] at hx hy;subst hx hy;have e:(⟨s.toArray⟩:ByteArray)[j.toNat]?=some b:=by
     have:=List.getElem?_eq_some_iff.1 hb;obtain ⟨h1,h2⟩:=this;rw [getElem?_pos (h:=by simpa [ByteArray.size] using h1)];simp [←h2,ByteArray.getElem_eq_getElem_data]
    exact ⟨.int .u8 b.toNat,by simp [Instr.index,asIntOf,run_underlying ht,h0,e],by simp [Rep]⟩
   ·cases hv
  ·cases hv
 ·cases hv
variable {P:Program} {μ:Mu} {ow:Nat→Prop} {w:World}
theorem uK {w0:World} {ow0:Nat→Prop} {σ:af} (hsat:Sat w0 ow0 μ σ w) {t:TypeId} (hk:bO P t=true)
 {x v:V} {X:Value} (hx:Rep μ (aC μ σ) w x X) (hv:bN σ (eN P t) (P.cellsOf t) x=some v) :
 ∃z,(Instr.loadAt t X).run P w=.ok z w∧Rep μ (aC μ σ) w v z:=by
 unfold bN at hv;split at hv
 ·rename_i id i k;split at hv
  ·rename_i ob hob;split at hv
   ·rename_i r hr;have hobat:=hsat.obj id ob hob;simp only [Rep] at hx;split at hx
    ·rename_i b sz cap hid;obtain ⟨rfl,hsz⟩:=hx;rw [hid] at hobat;obtain ⟨_,_,_,_,hrows⟩:=hobat.rows hsz;obtain ⟨hl,hcells⟩:=hrows.get hr;simp only [Nat.zero_add] at hcells;have hd:=hcells.drop k;cases hagg:eN P t
     ·simp only [hagg,Bool.false_eq_true,if_false] at hv;obtain ⟨z,hz,hrz⟩:=ic (P:=P) hk hd (v:=v) (by simp only [hagg,Bool.false_eq_true,if_false]; simpa using hv);exact ⟨z,by simp [Instr.loadAt,Instr.sureAddr,hz],hrz⟩
     ·simp only [hagg,if_true] at hv;split at hv
      ·rename_i hc;obtain ⟨rfl,hlen⟩:=hc;simp only [Oi] at hv;subst hv;obtain ⟨z,hz,hrz⟩:=ic (P:=P) hk hd (v:=.agg r.cells) (by simp [hagg,hlen]);exact ⟨z,by simpa [Instr.loadAt,Instr.sureAddr] using hz,hrz⟩
      ·split at hv
       ·rename_i hle;simp only [Oi] at hv;subst hv;obtain ⟨z,hz,hrz⟩:=ic (P:=P) hk (hd.take (P.cellsOf t)) (v:=.agg ((r.cells.drop k).take (P.cellsOf t)))
         (by rw [if_pos hagg,if_pos (by simp; omega)])
        exact ⟨z,by simp [Instr.loadAt,Instr.sureAddr,hz],hrz⟩
       ·cases hv
    ·exact hx.elim
   ·cases hv
  ·cases hv
 ·rename_i u;simp only [Rep] at hx;obtain ⟨b,off,rfl,hlt,hb,hr⟩:=hx;rw [dF] at hr;cases hagg:eN P t
  ·simp only [hagg,Bool.false_eq_true,if_false] at hv;have hv':u=v∧u.cells=[u]:=by
    cases u <;> simp_all [V.cells]
   obtain ⟨rfl,hc⟩:=hv';rw [hc] at hr;obtain ⟨z,hz,hrz⟩:=ic (P:=P) hk hr (v:=u) (by simp [hagg]);exact ⟨z,by simp [Instr.loadAt,Instr.sureAddr,hz],hrz⟩
  ·simp only [hagg,if_true] at hv;split at hv
   ·rename_i hl;simp only [Oi] at hv;subst hv;obtain ⟨z,hz,hrz⟩:=ic (P:=P) hk hr (v:=.agg u.cells) (by simp [hagg,hl]);exact ⟨z,by simp [Instr.loadAt,Instr.sureAddr,hz],hrz⟩
   ·cases hv
 ·cases hv
theorem lj {d:Int} {o:Option V} {O:Option Value} (ho:match o,O with | none,none=>True | some v,some x=>Rep μ ow w v x | _,_=>False) {j:Int}
 (hj:bx d o=some j):(o=none∧O=none∧j=d)∨∃k,o=some (.int k j)∧O=some (.int k j):=by
 unfold bx at hj;split at hj
 ·simp only [Oi] at hj;cases O with
  | none=>exact .inl ⟨rfl,rfl,hj.symm⟩
  | some x=>exact ho.elim
 ·rename_i k j';simp only [Oi] at hj;subst hj;cases O with
  | none=>exact ho.elim
  | some x =>
    simp only [Rep] at ho;subst ho;exact .inr ⟨k,rfl,rfl⟩
 ·cases hj
def iz (μ:Mu) (ow:Nat→Prop) (w:World) (o:Option V) (O:Option Value):Prop :=
 match o,O with | none,none=>True | some v,some x=>Rep μ ow w v x | _,_=>False
theorem cV (k:IntKind) (i:Int) (y:Nat) (code:BoundsCode) (h0:0≤i) (h1:i≤y) :
 (Instr.sliceBound (.int k i) y code).run P w=.ok i.toNat w:=by
 simp [Instr.sliceBound,asIntOf,h0,h1]
theorem eJ {n c:Nat} {lo hi mx:Option V} {LO HI MX:Option Value} (h1:iz μ ow w lo LO) (h2:iz μ ow w hi HI) (h3:iz μ ow w mx MX)
 {l h m:Int} (hl:bx 0 lo=some l) (hh:bx n hi=some h) (hm:bx n mx=some m) (h0:0≤l) (h01:l≤h) (h12:h≤m) (h23:m≤n) (hnc:n≤c)
 (hmh:mx≠none→hi≠none) (s:Bool) :
 ∃m',(Instr.sliceBounds s n c LO HI MX).run P w=.ok (l.toNat,h.toNat,m') w∧h.toNat≤m'∧m'≤c:=by
 rcases lj h3 hm with ⟨_,rfl,rfl⟩ | ⟨km,rfl,rfl⟩
 ·refine ⟨c,?_,by omega,Nat.le_refl _⟩;rcases lj h2 hh with ⟨_,rfl,rfl⟩ | ⟨kh,_,rfl⟩ <;> rcases lj h1 hl with ⟨_,rfl,rfl⟩ | ⟨kl,_,rfl⟩ <;>
   simp only [Instr.sliceBounds,Sem.run_bind,Sem.run_pure,Result.andThen_ok]
  ·simp
  ·rw [cV kl l n _ h0 (by omega)]; simp
  ·rw [cV kh h c _ (by omega) (by omega)]; simp
  ·rw [cV kh h c _ (by omega) (by omega)];simp only [Result.andThen_ok];rw [cV kl l h.toNat _ h0 (by omega)]; simp
 ·refine ⟨m.toNat,?_,by omega,by omega⟩;rcases lj h2 hh with ⟨rfl,rfl,rfl⟩ | ⟨kh,_,rfl⟩
  ·exact absurd rfl (hmh (by simp))
  ·rcases lj h1 hl with ⟨_,rfl,rfl⟩ | ⟨kl,_,rfl⟩ <;>
    simp only [Instr.sliceBounds,Sem.run_bind,Sem.run_pure,Result.andThen_ok]
   ·rw [cV km m c _ (by omega) (by omega)];simp only [Result.andThen_ok];rw [cV kh h m.toNat _ (by omega) (by omega)]; simp
   ·rw [cV km m c _ (by omega) (by omega)];simp only [Result.andThen_ok];rw [cV kh h m.toNat _ (by omega) (by omega)];simp only [Result.andThen_ok];rw [cV kl l h.toNat _ h0 (by omega)]; simp
theorem sq {w0:World} {ow0:Nat→Prop} {σ:af} (hsat:Sat w0 ow0 μ σ w) {t e:TypeId} (ht:P.underlying t=some (.slice e)) (hk:bO P e=true)
 {x v:V} {X:Value} (hx:Rep μ ow w x X) {lo hi mx:Option V} {LO HI MX:Option Value} (h1:iz μ ow w lo LO) (h2:iz μ ow w hi HI) (h3:iz μ ow w mx MX)
 (hmh:mx≠none→hi≠none) (hv:cy σ (P.cellsOf e) x lo hi mx=some v) :
 ∃z,(Instr.sliceAt t X LO HI MX).run P w=.ok z w∧Rep μ ow w v z:=by
 have hgo:∀(a:Option Addr) (n c:Nat) (r:Nat×Nat×Nat),(Instr.sliceBounds true n c LO HI MX).run P w=.ok r w →
  (Instr.sliceAt t (.slice a n c) LO HI MX).run P w=.ok (.slice (if r.2.2=r.1 then a else a.map (·.add (r.1*P.cellsOf e))) (r.2.1 - r.1) (r.2.2 - r.1)) w:=by
  intro a n c r hr;simp [Instr.sliceAt,Instr.slice,run_underlying ht,hr,bW hk]
 cases x with
 | own id off len =>
   simp only [cy] at hv;split at hv
   ·rename_i l h m hl hh hm;split at hv
    ·rename_i hc;obtain ⟨c0,c1,c2,c3,c4⟩:=hc;simp only [Oi] at hv;subst hv;simp only [Rep] at hx;split at hx
     ·exact hx.elim
     ·rename_i hid;obtain ⟨rfl,rfl,rfl⟩:=hx;obtain ⟨m',hr,hm1,hm2⟩:=eJ (P:=P) (c:=0) h1 h2 h3 hl hh hm c0 c1 c2 c3 (Nat.le_refl _) hmh true;refine ⟨_,hgo none 0 0 _ hr,?_⟩;simp only [Rep,hid];have:h.toNat=0:=by omega
      have:l.toNat=0:=by omega
      simp_all;omega
     ·rename_i b sz cap hid;obtain ⟨o,c,rfl,hc1,hc2,hc3,hz⟩:=hx;obtain ⟨m',hr,hm1,hm2⟩:=eJ (P:=P) (c:=c) h1 h2 h3 hl hh hm c0 c1 c2 c3 hc1 hmh true;refine ⟨_,hgo _ len c _ hr,?_⟩;have hsz':sz=P.cellsOf e:=by
       cases hob:σ id with
       | none=>simp [ir,hob] at c4
       | some ob =>
         simp only [ir,hob,beq_iff_eq] at c4;have:=hsat.obj id ob hob;rw [hid] at this;exact (this.rows hz).1.symm.trans c4
      simp only [Rep,hid];by_cases e':m'=l.toNat
      ·rw [if_pos e'];refine ⟨o,m' - l.toNat,rfl,by omega,by omega,?_,hz⟩;by_cases h0:off+l.toNat=0
       ·left;have h1:off=0:=by omega
        rcases hc3 with hc3 | hc3
        ·rw [h0,hc3,h1]
        ·exact absurd h1 hc3.2
       ·exact .inr ⟨by omega,h0⟩
      ·rw [if_neg e'];simp only [Option.map_some,fC];refine ⟨o+l.toNat*P.cellsOf e,m' - l.toNat,rfl,by omega,by omega, .inl ?_,hz⟩;rcases hc3 with hc3 | hc3
       ·rw [hc3,hsz',Nat.add_mul]
       ·omega
    ·cases hv
   ·cases hv
 | sl sz rows =>
   simp only [cy] at hv;split at hv
   ·rename_i l h m hl hh hm;split at hv
    ·rename_i hc;obtain ⟨c0,c1,c2,c3,rfl⟩:=hc;simp only [Oi] at hv;subst hv;simp only [Rep] at hx;obtain ⟨a,cap,rfl,hcap,hrest⟩:=hx;obtain ⟨m',hr,hm1,hm2⟩:=eJ (P:=P) (c:=cap) h1 h2 h3 hl hh hm c0 c1 c2 c3 hcap hmh true;refine ⟨_,hgo _ _ cap _ hr,?_⟩;simp only [Rep];have hlen:((rows.drop l.toNat).take (h.toNat - l.toNat)).length=h.toNat - l.toNat:=by simp; omega
     refine ⟨_,_,by rw [hlen],by omega,?_⟩;by_cases e':m'=l.toNat
     ·left;have:h.toNat - l.toNat=0:=by omega
      rw [this]; simp
     ·rw [if_neg e'];rcases hrest with rfl | ⟨b,off,rfl,hb,hs,hrows⟩
      ·left; simp
      ·exact .inr ⟨b,off+l.toNat*P.cellsOf e,by simp [fC],hb,hs,(hrows.drop _).take _⟩
    ·cases hv
   ·cases hv
 | aD =>
   simp only [cy] at hv;split at hv
   ·rename_i l h m hl hh hm;split at hv
    ·rename_i hc;obtain ⟨rfl,rfl,rfl⟩:=hc;simp only [Oi] at hv;subst hv;simp only [Rep] at hx;subst hx;obtain ⟨m',hr,hm1,hm2⟩:=eJ (P:=P) (n:=0) (c:=0) h1 h2 h3 hl hh hm (by omega) (by omega) (by omega) (by simp) (Nat.le_refl _) hmh true;refine ⟨_,hgo none 0 0 _ hr,?_⟩;simp [Rep]; omega
    ·cases hv
   ·cases hv
 | _=>simp [cy] at hv
theorem tI {t:TypeId} (ht:P.underlying t=some .string) {x v:V} {X:Value} (hx:Rep μ ow w x X) {lo hi:Option V} {LO HI:Option Value} (h1:iz μ ow w lo LO) (h2:iz μ ow w hi HI)
 (hv:cK x lo hi=some v) :
 ∃z,(Instr.sliceAt t X LO HI none).run P w=.ok z w∧Rep μ ow w v z:=by
 unfold cK at hv;split at hv
 case h_2=>cases hv
 rename_i s;split at hv
 ·rename_i l h hl hh;split at hv
  ·rename_i hc;obtain ⟨c0,c1,c2⟩:=hc;simp only [Oi] at hv;subst hv;simp only [Rep] at hx;subst hx;have hsz:(⟨s.toArray⟩:ByteArray).size=s.length:=by simp [ByteArray.size]
   obtain ⟨m',hr,hm1,hm2⟩:=eJ (P:=P) (w:=w) (n:=s.length) (c:=s.length) (mx:=none) (MX:=none) h1 h2 (by simp [iz]) hl hh (m:=s.length) (by simp [bx]) c0 c1 c2 (Int.le_refl _) (Nat.le_refl _) (by simp) false;refine ⟨.string ((⟨s.toArray⟩:ByteArray).extract l.toNat h.toNat),?_,?_⟩
   ·simp [Instr.sliceAt,Instr.slice,run_underlying ht,hsz,hr]
   ·simp only [Rep];congr 1;apply ByteArray.ext;simp [ByteArray.data_extract]
  ·cases hv
 ·cases hv
theorem ck {F:Fr} {st:St} {a:Act} (hs:cN F μ st a w) (x:Operand):Rep μ (aC μ st.σ) w ((cx F.n x).ev st.s) (a.eval x):=by
 cases x with
 | tmp t =>
   by_cases ht:t < F.n
   ·simp only [cx,Act.eval,if_pos ht]; exact hs.slot t ht
   ·have hle:a.tmps.size≤t:=by rw [hs.size]; exact Nat.le_of_not_lt ht
    simp only [cx,Act.eval,if_neg ht,VX.ev,Rep];exact ⟨[],by rw [Array.getD_eq_getD_getElem?,Array.getElem?_eq_none hle]; rfl,by simp [au]⟩
 | const v=>exact qF v
 | global g=>simp [cx,VX.ev,Act.eval,Rep]
 | func f=>simp [cx,VX.ev,Act.eval,Rep,au]
theorem mj {F:Fr} {st:St} {a:Act} (hs:cN F μ st a w):∀(l:List Operand),au μ (aC μ st.σ) w ((l.map (cx F.n)).map (·.ev st.s)) (l.map a.eval)
 | []=>by simp [au]
 | x::l=>by simp only [List.map_cons,au]; exact ⟨_,_,rfl,ck hs x,mj hs l⟩
theorem rN {F:Fr} {st:St} {a:Act} (hs:cN F μ st a w) (o:Option Operand):iz μ (aC μ st.σ) w ((o.map (cx F.n)).map (·.ev st.s)) (o.map a.eval):=by
 cases o with
 | none=>simp [iz]
 | some x=>simpa [iz] using ck hs x
theorem au.append:∀ {vs us:List V} {l m:List Value},au μ ow w vs l→au μ ow w us m→au μ ow w (vs++us) (l++m)
 | [],us,l,m,h,h'=>by simp [au] at h; subst h; simpa using h'
 | v::vs,us,l,m,h,h'=>by
   simp only [au] at h;obtain ⟨x,xs,rfl,h1,h2⟩:=h;simp only [List.cons_append,au];exact ⟨x,xs++m,rfl,h1,h2.append h'⟩
theorem Rep.one {v:V} {x:Value} (h:Rep μ ow w v x) (hs:v.stays=true) (ha:∀vs,v≠.agg vs):x.oneCell'=true:=by
 cases v <;> simp only [Rep] at h <;> (try simp [V.stays] at hs)
 case agg vs=>exact absurd rfl (ha vs)
 case sl=>obtain ⟨a,c,rfl,_⟩:=h; rfl
 case own =>
  split at h
  ·exact h.elim
  ·rw [h.1]; rfl
  ·obtain ⟨o,c,rfl,_⟩:=h; rfl
 case ptr =>
  split at h
  ·rw [h.1]; rfl
  ·exact h.elim
 case gp =>
  split at h
  ·rw [h]; rfl
  ·exact h.elim
 case yl =>
  split at h
  ·rw [h]; rfl
  ·exact h.elim
 case mp =>
  split at h
  ·rw [h]; rfl
  ·exact h.elim
 case rp=>obtain ⟨b,o,rfl,_⟩:=h; rfl
 case fn=>obtain ⟨vals,rfl,_⟩:=h; rfl
 case bm=>obtain ⟨vals,rfl,_⟩:=h; rfl
 case iface=>obtain ⟨y,rfl,_⟩:=h; rfl
 all_goals first | (subst h; rfl) | (subst h; exact hs)
theorem Rep.cells {v:V} {x:Value} (h:Rep μ ow w v x) (hs:v.stays=true):au μ ow w v.cells x.cells.toList∧∀u∈x.cells.toList,u.oneCell'=true:=by
 by_cases ha:∃vs,v=.agg vs
 ·obtain ⟨vs,rfl⟩:=ha;simp only [Rep] at h;obtain ⟨vals,rfl,h1,h2⟩:=h;exact ⟨by simpa [V.cells,Value.cells] using h1,by simpa [Value.cells] using h2⟩
 ·have h1:=h.one hs (fun vs e=>ha ⟨vs,e⟩);have hc:x.cells=#[x]:=by cases x <;> simp_all [Value.cells,Value.oneCell']
  have hv:v.cells=[v]:=oW h h1;rw [hc,hv];simp only [au];exact ⟨⟨x,[],rfl,h,rfl⟩,by simpa using h1⟩
theorem Rep.iK {v:V} {x:Value} (h:Rep μ ow w v x) (hs:v.stays=true):x.cells.size=v.cells.length:=by
 have:=(h.cells hs).1.length;simpa using this
theorem yy (off:Nat):∀(vs:List Value) (k:Nat) (cs:Array Value),off+k+vs.length≤cs.size →
 ((vs.zipIdx k).foldl (fun cs (p:Value×Nat)=>cs.setIfInBounds (off+p.2) p.1) cs).toList=bS cs.toList (off+k) vs
 | [],k,cs,_=>by simp [bS]
 | v::vs,k,cs,h=>by
   simp only [List.length_cons] at h;simp only [List.zipIdx_cons,List.foldl_cons];rw [yy off vs (k+1) _ (by simp; omega)];have hk:off+k < cs.toList.length:=by simp; omega
   simp only [bS,Array.toList_setIfInBounds,List.length_cons];rw [List.set_eq_take_append_cons_drop,if_pos hk];have e1:(cs.toList.take (off+k)).length=off+k:=by simp; omega
   rw [show off+(k+1)=(cs.toList.take (off+k)).length+1 by omega,List.take_length_add_append,show (cs.toList.take (off+k)).length+1+vs.length=(cs.toList.take (off+k)).length+(1+vs.length) by omega,
    List.drop_length_add_append]
   simp [List.drop_drop,Nat.add_comm,Nat.add_left_comm,Nat.add_assoc]
theorem jV {α:Type} (l:List α) (off:Nat) (xs:List α) (h:off+xs.length≤l.length):(bS l off xs).length=l.length:=by
 simp [bS]; omega
theorem l8 (place:Nat→Option (Nat×Nat)):∀(parts:List (Nat×Value)) (cells:Array Value),
 (∀p∈parts,∃off sz,place p.1=some (off,sz)∧p.2.cells.size=sz∧off+sz≤cells.size) →
 ∃cs,Instr.fill place cells parts=some cs∧cs.size=cells.size∧cs.toList=parts.foldl (fun l p=>bS l (((place p.1).map (·.1)).getD 0) p.2.cells.toList) cells.toList
 | [],cells,_=>⟨cells,rfl,rfl,rfl⟩
 | (i,v)::rest,cells,h=>by
   obtain ⟨off,sz,h1,h2,h3⟩:=h (i,v) (by simp);simp only at h1 h2;have hs:(v.cells.zipIdx.foldl (fun cs (p:Value×Nat)=>cs.setIfInBounds (off+p.2) p.1) cells).toList=bS cells.toList off v.cells.toList:=by
    have:=yy off v.cells.toList 0 cells (by simp; omega);rw [←Array.foldl_toList,Array.toList_zipIdx];simpa using this
   have hsz:(v.cells.zipIdx.foldl (fun cs (p:Value×Nat)=>cs.setIfInBounds (off+p.2) p.1) cells).size=cells.size:=by
    have:=congrArg List.length hs;rw [jV _ _ _ (by simp; omega)] at this;simpa using this
   obtain ⟨cs,h4,h5,h6⟩:=l8 place rest _ (fun p hp=>by
    obtain ⟨off',sz',g1,g2,g3⟩:=h p (by simp [hp]);exact ⟨off',sz',g1,g2,by rw [hsz]; exact g3⟩)
   refine ⟨cs,?_,by rw [h5,hsz],?_⟩
   ·simp only [Instr.fill,h1];rw [if_neg (by simp; omega)];exact h4
   ·rw [h6,hs];simp [h1]
theorem xz {b:Bool} {x v:V} {X:Value} (hx:Rep μ ow w x X) (hv:dD b x=some v) {t:TypeId} (ty:TypeId)
 (ht:if b then P.underlying t=some .string else ∃e,P.underlying t=some (.slice e)) :
 ∃z,(Builtin.len_ #[t] ty #[X]).run P w=.ok z w∧Rep μ ow w v z:=by
 cases b
 ·simp only [Bool.false_eq_true,if_false] at ht;obtain ⟨e,ht⟩:=ht;have hgo:∀a n c,(Builtin.len_ #[t] ty #[.slice a n c]).run P w=.ok (.int .i64 n) w:=fun a n c=>by simp [Builtin.len_,run_underlying ht,goInt]
  cases x <;> simp only [dD,reduceCtorEq,Oi] at hv <;> subst hv <;> simp only [Rep] at hx
  ·subst hx; exact ⟨_,hgo _ _ _,by simp [Rep]⟩
  ·obtain ⟨a,cap,rfl,_⟩:=hx; exact ⟨_,hgo _ _ _,by simp [Rep]⟩
  ·split at hx
   ·exact hx.elim
   ·obtain ⟨rfl,_,rfl⟩:=hx; exact ⟨_,hgo _ _ _,by simp [Rep]⟩
   ·obtain ⟨o,c,rfl,_⟩:=hx; exact ⟨_,hgo _ _ _,by simp [Rep]⟩
 ·simp only [if_true] at ht;cases x <;> simp only [dD,reduceCtorEq,Oi] at hv;subst hv;simp only [Rep] at hx;subst hx;exact ⟨_,by simp [Builtin.len_,run_underlying ht,goInt]; rfl,by simp [Rep,ByteArray.size]⟩
theorem eg {t:TypeId} {i:TypeInfo} {z:Value} (h:zeroOf P t=some (i,z)):P.info? t=some i∧i.zero=some z∧bO P t=true∧z.cells.size=i.size ∧
 (∀u∈z.cells.toList,u.oneCell'=true)∧i.size=P.cellsOf t:=by
 unfold zeroOf at h;split at h
 ·rename_i i' hi;split at h
  ·rename_i z' hz;split at h
   ·rename_i hc;simp only [Oi,Prod.mk.injEq] at h;obtain ⟨rfl,rfl⟩:=h;simp only [Ba,beq_iff_eq,List.all_eq_true] at hc;exact ⟨hi,hz,hc.1.1,hc.1.2,hc.2,by simp [Program.cellsOf,hi]⟩
   ·cases h
  ·cases h
 ·cases h
theorem eh {t:TypeId} {i:TypeInfo} {z:Value} (h:zeroOf P t=some (i,z)):(zeroValue t).run P w=.ok z w:=by
 obtain ⟨h1,h2,_⟩:=eg h;simp [zeroValue,typeInfo,h1,h2]
theorem l7 {t:TypeId} (h:mK P t=true):∃i,P.underlying t=some (.struct #[])∧P.info? t=some i∧i.size=0∧i.zero=some (.agg #[]):=by
 unfold mK at h;split at h
 ·rename_i fs i h1 h2;simp only [Ba,beq_iff_eq] at h;obtain ⟨h3,h4,h5⟩:=h;split at h5
  ·rename_i z hz;have e1:fs=#[]:=Array.eq_empty_of_size_eq_zero h3;have e2:z=#[]:=Array.eq_empty_of_size_eq_zero (by simpa using h5);exact ⟨i,by rw [h1,e1],h2,h4,by rw [hz,e2]⟩
  ·cases h5
 ·cases h
theorem oP {t:TypeId} (h:mK P t=true):(zeroValue t).run P w=.ok (.agg #[]) w:=by
 obtain ⟨i,_,h1,_,h2⟩:=l7 h;simp [zeroValue,typeInfo,h1,h2]
theorem Ac {t:TypeId} (h:mK P t=true):(Instr.build t #[]).run P w=.ok (.agg #[]) w:=by
 obtain ⟨i,h0,h1,_,h2⟩:=l7 h;simp [Instr.build,oP h,run_underlying h0,Value.cells,Instr.fill]
theorem au.bS {vs us:List V} {l m:List Value} (off:Nat) (h:au μ ow w vs l) (h':au μ ow w us m):au μ ow w (bS vs off us) (Vc.bS l off m):=by
 unfold Vc.bS;rw [h'.length];exact ((h.take off).append h').append (h.drop _)
theorem ny {α:Type} (off sz:α→Nat) (v:α→V) (x:α→Value):∀ {l:List α} {zero cells:List V} {zs:List Value},
 da zero (l.map fun p=>(off p,sz p,v p))=some cells→au μ ow w zero zs→(∀p∈l,Rep μ ow w (v p) (x p)) →
 au μ ow w cells (l.foldl (fun acc p=>Vc.bS acc (off p) (x p).cells.toList) zs) ∧
 ((∀u∈zs,u.oneCell'=true)→∀u∈l.foldl (fun acc p=>Vc.bS acc (off p) (x p).cells.toList) zs,u.oneCell'=true) ∧
 ∀p∈l,(x p).cells.size=sz p∧off p+sz p≤zero.length
 | [],zero,cells,zs,h,hz,hp=>by
   simp only [List.map_nil,da,Oi] at h;subst h;simpa using hz
 | p::r,zero,cells,zs,h,hz,hp=>by
   simp only [List.map_cons,da] at h;split at h
   ·rename_i hc;have h1:=hp p (by simp);obtain ⟨g1,g2⟩:=h1.cells hc.2.1;have hl:=h1.iK hc.2.1;obtain ⟨ih1,ih2,ih3⟩:=ny off sz v x h (hz.bS (off p) g1) (fun q hq=>hp q (by simp [hq]));refine ⟨by simpa using ih1,fun h0=>?_,fun q hq=>?_⟩
    ·refine ih2 ?_;intro u hu;simp only [Vc.bS,List.mem_append] at hu;rcases hu with (hu | hu) | hu
     ·exact h0 u (List.mem_of_mem_take hu)
     ·exact g2 u hu
     ·exact h0 u (List.mem_of_mem_drop hu)
    ·rcases List.mem_cons.1 hq with rfl | hq
     ·exact ⟨by rw [hl,hc.1],hc.2.2⟩
     ·have:=ih3 q hq;rw [jV _ _ _ (by omega)] at this;exact this
   ·cases h
theorem run_places (fs:Array Field) (h:∀f∈fs.toList,bO P f.type=true) :
 (fs.mapM (fun f=>Functor.map (Prod.mk f.offset) (sizeOf f.type):Field→Sem (Nat×Nat))).run P w=.ok (fs.map fun f=>(f.offset,P.cellsOf f.type)) w:=by
 rw [Array.mapM_eq_mapM_toList];have:∀(l:List Field),(∀f∈l,bO P f.type=true) →
  (l.mapM (fun f=>Functor.map (Prod.mk f.offset) (sizeOf f.type):Field→Sem (Nat×Nat))).run P w=.ok (l.map fun f=>(f.offset,P.cellsOf f.type)) w:=by
  intro l
  induction l with
  | nil=>intro _; simp
  | cons f l ih =>
    intro hl;simp [bW (hl f (by simp)),ih (fun x hx=>hl x (by simp [hx]))]
 simp [this fs.toList (by simpa using h)];apply Array.ext';simp
theorem run_build {F:Fr} {st:St} {a:Act} (hs:cN F μ st a w) {t:TypeId} {i:TypeInfo} {z:Array Value} {fs:Array Field} (hz:zeroOf P t=some (i, .agg z))
 (hfs:P.underlying t=some (.struct fs)) {parts:Array (Nat×Operand)} (hk:(∀f∈fs.toList,bO P f.type=true)∧∀p∈parts.toList,p.1 < fs.size) {cells:List V}
 (hb:da (z.toList.map cellOf) ((parts.toList.map fun p=>(((fs[p.1]?).map (·.offset)).getD 0,((fs[p.1]?).map fun f=>P.cellsOf f.type).getD 0,cx F.n p.2)).map fun p=>(p.1,p.2.1,p.2.2.ev st.s))=some cells) :
 ∃y,(Instr.build t (parts.map fun (i,x)=>(i,a.eval x))).run P w=.ok y w∧Rep μ (aC μ st.σ) w (.agg cells) y:=by
 obtain ⟨_,_,_,_,hone,_⟩:=eg hz;rw [List.map_map] at hb;obtain ⟨g1,g2,g3⟩:=ny (μ:=μ) (ow:=aC μ st.σ) (w:=w) (fun p:Nat×Operand=>((fs[p.1]?).map (·.offset)).getD 0) (fun p=>((fs[p.1]?).map fun f=>P.cellsOf f.type).getD 0)
  (fun p=>(cx F.n p.2).ev st.s) (fun p=>a.eval p.2) hb (eC z.toList) (fun p _=>ck hs p.2)
 obtain ⟨cs,e1,e2,e3⟩:=l8 (fun k=>(fs.map fun f=>(f.offset,P.cellsOf f.type))[k]?) ((parts.map fun (i,x)=>(i,a.eval x)).toList) z (by
  intro p hp;simp only [Array.toList_map,List.mem_map] at hp;obtain ⟨q,hq,rfl⟩:=hp;have hlt:=hk.2 q hq;obtain ⟨q1,q2⟩:=g3 q hq;have hget:fs[q.1]?=some fs[q.1]:=by simp [hlt]
  simp only [hget,Option.map_some,Option.getD_some] at q1 q2;exact ⟨fs[q.1].offset,P.cellsOf fs[q.1].type,by simp [hget],q1,by simpa using q2⟩)
 refine ⟨.agg cs,?_,?_⟩
 ·simp only [Array.toList_map,Array.getElem?_map] at e1;simp [Instr.build,eh hz,run_underlying hfs,run_places fs (by simpa using hk.1),Value.cells];rw [e1];rfl
 ·have hlist:cs.toList=parts.toList.foldl (fun acc p=>Vc.bS acc (((fs[p.1]?).map (·.offset)).getD 0) (a.eval p.2).cells.toList) z.toList:=by
   rw [e3,Array.toList_map,List.foldl_map];congr 1;funext acc p;congr 1;cases hp:fs[p.1]? <;> simp [hp]
  simp only [Rep];refine ⟨cs.toList,rfl,?_,?_⟩
  ·rw [hlist]; exact g1
  ·rw [hlist]; exact g2 (by simpa [Value.cells] using hone)
theorem zY {F:Fr} {st:St} {a:Act} (hs:cN F μ st a w) {t e:TypeId} {k:Nat} {i:TypeInfo} {z:Array Value} (hz:zeroOf P t=some (i, .agg z))
 (hfs:P.underlying t=some (.array k e)) {parts:Array (Nat×Operand)} (hk:bO P e=true) {cells:List V}
 (hb:da (z.toList.map cellOf) ((parts.toList.map fun p=>(p.1*P.cellsOf e,P.cellsOf e,cx F.n p.2)).map fun p=>(p.1,p.2.1,p.2.2.ev st.s))=some cells) :
 ∃y,(Instr.build t (parts.map fun (i,x)=>(i,a.eval x))).run P w=.ok y w∧Rep μ (aC μ st.σ) w (.agg cells) y:=by
 obtain ⟨_,_,_,_,hone,_⟩:=eg hz;rw [List.map_map] at hb;obtain ⟨g1,g2,g3⟩:=ny (μ:=μ) (ow:=aC μ st.σ) (w:=w) (fun p:Nat×Operand=>p.1*P.cellsOf e) (fun _=>P.cellsOf e)
  (fun p=>(cx F.n p.2).ev st.s) (fun p=>a.eval p.2) hb (eC z.toList) (fun p _=>ck hs p.2)
 obtain ⟨cs,e1,e2,e3⟩:=l8 (fun i=>some (i*P.cellsOf e,P.cellsOf e)) ((parts.map fun (i,x)=>(i,a.eval x)).toList) z (by
  intro p hp;simp only [Array.toList_map,List.mem_map] at hp;obtain ⟨q,hq,rfl⟩:=hp;obtain ⟨q1,q2⟩:=g3 q hq;exact ⟨q.1*P.cellsOf e,P.cellsOf e,rfl,q1,by simpa using q2⟩)
 refine ⟨.agg cs,?_,?_⟩
 ·simp only [Array.toList_map] at e1;simp [Instr.build,eh hz,run_underlying hfs,bW hk,Value.cells];rw [e1];rfl
 ·have hlist:cs.toList=parts.toList.foldl (fun acc p=>Vc.bS acc (p.1*P.cellsOf e) (a.eval p.2).cells.toList) z.toList:=by
   rw [e3,Array.toList_map,List.foldl_map];rfl
  simp only [Rep];refine ⟨cs.toList,rfl,?_,?_⟩
  ·rw [hlist]; exact g1
  ·rw [hlist]; exact g2 (by simpa [Value.cells] using hone)
theorem zP (msg:String) (vs:List V) (bs:List UInt8) (l:List Value) (hb:bytesOf vs=some bs) (hr:au μ ow w vs l) (s0:ByteArray) :
 (forIn l s0 (fun c s=>match c with
   | .int .u8 n=>pure (ForInStep.yield (s.push (UInt8.ofNat n.toNat)))
   | _=>(do stuck msg; pure (ForInStep.yield s))):Sem ByteArray).run P w=.ok ⟨s0.data++bs.toArray⟩ w:=by
 induction vs generalizing bs l s0 with
 | nil =>
   simp only [bytesOf,Oi] at hb;simp only [au] at hr;subst hb hr;simp
 | cons v vs ih =>
   simp only [bytesOf] at hb;split at hb
   ·rename_i b l' h1 h2;simp only [Oi] at hb;subst hb;simp only [au] at hr;obtain ⟨x,xs,rfl,h3,h4⟩:=hr;unfold byteOf at h1;split at h1
    ·rename_i n;simp only [Oi] at h1;simp only [Rep] at h3;subst h3 h1;simp only [List.forIn_cons,Sem.run_bind,Sem.run_pure,Result.andThen_ok];rw [ih l' xs h2 h4];simp [ByteArray.push]
    ·cases h1
   ·cases hb
theorem qq:∀ {rows:List V} {bs:List UInt8} {b off:Nat},aX μ ow w rows b off 1→bytesOf rows=some bs →
 ∃xs,au μ ow w rows xs∧xs.length=rows.length∧∀(j:Nat) u,xs[j]?=some u→w.cell? ⟨b,off+j,none⟩=some u
 | [],_,_,_,_,_=>⟨[],by simp [au],rfl,by simp⟩
 | v::vs,bs,b,off,h,hb=>by
   simp only [bytesOf] at hb;split at hb
   ·rename_i c l h1 h2;simp only [aX] at h;obtain ⟨_,h3,h4⟩:=h;have h5:∃x,w.cell? ⟨b,off,none⟩=some x∧Rep μ ow w v x:=by
     unfold byteOf at h1;split at h1
     ·simp only [bt] at h3; obtain ⟨x,g1,g2,_⟩:=h3; exact ⟨x,g1,g2⟩
     ·cases h1
    obtain ⟨x,g1,g2⟩:=h5;obtain ⟨xs,i1,i2,i3⟩:=qq h4 h2;refine ⟨x::xs,by simp only [au]; exact ⟨x,xs,rfl,g2,i1⟩,by simp [i2],fun j u hu=>?_⟩;cases j with
    | zero=>simp at hu; subst hu; exact g1
    | succ j =>
      have:=i3 j u (by simpa using hu)
      rwa [show off+1+j=off+(j+1) by omega] at this
   ·cases hb
theorem An {w0:World} {ow0:Nat→Prop} {σ:af} (hsat:Sat w0 ow0 μ σ w) {x v:V} {X:Value} (hx:Rep μ (aC μ σ) w x X) (hv:dq σ x=some v) :
 ∃z,(Conv.bytesToString X).run P w=.ok z w∧Rep μ (aC μ σ) w v z:=by
 unfold dq at hv;split at hv
 ·simp only [Rep] at hx;simp only [Oi] at hv;subst hx hv;exact ⟨_,rfl,by simp only [Rep]; rfl⟩
 ·rename_i id off len;split at hv
  ·rename_i ob hob;split at hv
   ·rename_i hc;simp only [Option.map_eq_some_iff] at hv;obtain ⟨bs,hb,rfl⟩:=hv;have hobat:=hsat.obj id ob hob;simp only [Rep] at hx;split at hx
    ·exact hx.elim
    ·obtain ⟨rfl,_,rfl⟩:=hx;simp only [List.take_zero,bytesOf,Oi] at hb;subst hb;exact ⟨_,rfl,by simp only [Rep]; rfl⟩
    ·rename_i b szb cap hid;obtain ⟨o,c,rfl,hc1,hc2,hc3,hz⟩:=hx;rw [hid] at hobat;obtain ⟨g1,g2,g3,g4,g5⟩:=hobat.rows hz;by_cases h0:len=0
     ·subst h0;simp only [List.take_zero,bytesOf,Oi] at hb;subst hb;exact ⟨_,by simp [Conv.bytesToString,loadCells,loadCellsFrom]; rfl,by simp only [Rep]; rfl⟩
     ·have ho:o=off*szb:=by
       rcases hc3 with hc3 | hc3
       ·exact hc3
       ·omega
      have hs:szb=1:=by omega
      subst ho;subst hs;have hr:=(g5.drop off).take len;rw [Nat.zero_add,Nat.mul_one] at hr;obtain ⟨xs,i1,i2,i3⟩:=qq hr hb;have hl:xs.length=len:=by rw [i2]; simp; omega
      refine ⟨.string ⟨bs.toArray⟩,?_,by simp only [Rep]⟩;have hld:=run_loadCells_list (P:=P) w ⟨b,off,none⟩ xs (fun j u hu=>by rw [fC]; exact i3 j u hu);rw [hl] at hld;have hp:=fun msg=>zP (P:=P) msg _ bs xs hb i1 .empty;simp only [Conv.bytesToString,Nat.mul_one,Sem.run_bind,hld,Result.andThen_ok];rw [List.forIn_toArray];rw [show (.string ⟨bs.toArray⟩:Value)=.string ⟨ByteArray.empty.data++bs.toArray⟩ by rw [show ByteArray.empty.data=#[] from rfl,Array.empty_append]];have key:∀r:Result ByteArray,r=.ok ⟨ByteArray.empty.data++bs.toArray⟩ w→(r.andThen fun a w'=>Sem.run P (pure (Value.string a)) w')=.ok (.string ⟨ByteArray.empty.data++bs.toArray⟩) w:=by
       rintro r rfl; simp
      exact key _ (hp _)
   ·cases hv
  ·cases hv
 ·cases hv
theorem qc {m:Bool} {x y v:V} {X Y:Value} (ts:Array TypeId) (t:TypeId) (hx:Rep μ ow w x X) (hy:Rep μ ow w y Y) (hv:cU m x y=some v) :
 ∃z,(if m then (do pure (Next.value (←Builtin.max_ ts t #[X,Y])):Sem Next) else (do pure (Next.value (←Builtin.min_ ts t #[X,Y])))).run P w=.ok (.value z) w∧Rep μ ow w v z:=by
 unfold cU at hv;split at hv
 ·rename_i k a k' b;split at hv
  ·simp only [Rep] at hx hy;simp only [Oi] at hv;subst hv hx hy;cases m
   ·exact ⟨_,by simp [Builtin.min_,Builtin.min2]; rfl,by simp [Rep]⟩
   ·exact ⟨_,by simp [Builtin.max_,Builtin.max2]; rfl,by simp [Rep]⟩
  ·cases hv
 ·cases hv
theorem wh {x y:V} {X Y:Value} {b:Bool} (hx:Rep μ ow w x X) (hy:Rep μ ow w y Y) (hv:dO x y=some b) {t:TypeId} (ht:En P t=true) (d:Nat)
 (hty:(∃k,P.underlying t=some (.int k))→∃k n,x=.int k n) (htb:P.underlying t=some .bool→∃c,x=.bool c) (hts:P.underlying t=some .string→∃c,x=.str c) :
 (Op.equalIn (d+1) t X Y).run P w=.ok b w:=by
 unfold En at ht;split at ht
 ·rename_i k hk;obtain ⟨k1,n1,rfl⟩:=hty ⟨k,hk⟩;cases y <;> simp only [dO,reduceCtorEq] at hv;split at hv
  ·rename_i hkk;simp only [Oi] at hv;simp only [Rep] at hx hy;subst hx hy hv hkk;rw [run_equalIn_int w d t _ _ _ _ hk,nJ]
  ·cases hv
 ·rename_i hk;obtain ⟨c,rfl⟩:=htb hk;cases y <;> simp only [dO,reduceCtorEq,Oi] at hv;simp only [Rep] at hx hy;subst hx hy hv;exact run_equalIn_bool' w d t _ _ hk
 ·rename_i hk;obtain ⟨c,rfl⟩:=hts hk;cases y <;> simp only [dO,reduceCtorEq,Oi] at hv;simp only [Rep] at hx hy;subst hx hy hv;rw [run_equalIn_string w d t _ _ hk];simp [ByteArray.toList_eq,nJ]
 ·cases ht
def iT (P:Program) (t:TypeId) (x:V):Bool:=match P.underlying t,x with
 | some (.int _), .int _ _=>true
 | some .bool, .bool _=>true
 | some .string, .str _=>true
 | _,_=>false
theorem lu {xs ys:List Value} {vs us:List V} (hx:au μ ow w vs xs) (hy:au μ ow w us ys) (d:Nat):∀(fl:List Field) (k:Nat) (b:Bool),
 fl.map (·.offset)=List.range' k fl.length→(∀f∈fl,En P f.type=true∧f.name≠"_"∧bO P f.type=true)→(∀(j:Nat) f v,fl[j]?=some f→vs[k+j]?=some v→iT P f.type v=true) →
 vs.length=k+fl.length→us.length=k+fl.length →
 cj (vs.drop k) (us.drop k)=some b→(Op.eqFields (d+1) ⟨xs⟩ ⟨ys⟩ fl).run P w=.ok b w
 | [],k,b,_,_,_,h1,h2,h=>by
   simp only [List.length_nil,Nat.add_zero] at h1 h2;rw [List.drop_of_length_le (by omega),List.drop_of_length_le (by omega)] at h;simp only [cj,Oi] at h;subst h;simp [Op.eqFields]
 | f::fl,k,b,ho,hf,hc,h1,h2,h=>by
   simp only [List.length_cons] at h1 h2;simp only [List.map_cons,List.length_cons,List.range'_succ,List.cons.injEq] at ho;obtain ⟨e1,e2⟩:=ho;obtain ⟨f1,f2,f3⟩:=hf f (by simp);have hkv:k < vs.length:=by omega
   have hku:k < us.length:=by omega
   rw [List.drop_eq_getElem_cons hkv,List.drop_eq_getElem_cons hku] at h;simp only [cj] at h;split at h
   ·rename_i c b' hcell hrest;simp only [Oi] at h;obtain ⟨X,hX,hrX⟩:=hx.get (i:=k) (by rw [List.getElem?_eq_getElem hkv]);obtain ⟨Y,hY,hrY⟩:=hy.get (i:=k) (by rw [List.getElem?_eq_getElem hku]);have hagg:eN P f.type=false:=by
     unfold En at f1;unfold eN;split at f1 <;> simp_all
    have hp:∀(l:List Value) (Z:Value),l[k]?=some Z→(part f.type ⟨l⟩ f.offset).run P w=.ok Z w:=by
     intro l Z hZ;have:(⟨l⟩:Array Value)[k]?=some Z:=by simpa using hZ
     simp [part,pB (dp f3).1,hagg,e1,this]
    have hfit:=hc 0 f _ (by simp) (by rw [Nat.add_zero,List.getElem?_eq_getElem hkv]);have heq:=wh (P:=P) hrX hrY hcell f1 d
     (by rintro ⟨kk,hkk⟩; unfold iT at hfit; rw [hkk] at hfit; generalize vs[k]=z at *; cases z <;> simp at hfit; exact ⟨_,_,rfl⟩)
     (by intro hkk; unfold iT at hfit; rw [hkk] at hfit; generalize vs[k]=z at *; cases z <;> simp at hfit; exact ⟨_,rfl⟩)
     (by intro hkk; unfold iT at hfit; rw [hkk] at hfit; generalize vs[k]=z at *; cases z <;> simp at hfit; exact ⟨_,rfl⟩)
    simp only [Op.eqFields,f2,ne_eq,not_false_eq_true,if_true,Sem.run_bind,hp xs X hX,hp ys Y hY,Result.andThen_ok,heq];cases c
    ·simp at h; subst h; simp
    ·simp only [Bool.true_and] at h;subst h;simp only [Bool.not_true,Bool.false_eq_true,if_false];exact lu hx hy d fl (k+1) b' e2 (fun g hg=>hf g (by simp [hg])) (fun j g v hg hv=>hc (j+1) g v (by simpa using hg) (by rw [show k+(j+1)=k+1+j by omega]; exact hv)) (by omega) (by omega) hrest
   ·cases h
theorem qE:∀(fl:List Field) (vs:List V),dT (fl.map fun f=>nY P f.type) vs=true →
 vs.length=fl.length∧∀(j:Nat) f v,fl[j]?=some f→vs[j]?=some v→iT P f.type v=true
 | [],[],_=>by simp
 | [],_::_,h=>by simp [dT] at h
 | f::fl,[],h=>by
   simp only [List.map_cons] at h;generalize nY P f.type=q at h;revert h
   match q with
   | 0=>simp [dT]
   | 1=>simp [dT]
   | 2=>simp [dT]
   | n+3=>simp [dT]
 | f::fl,v::vs,h=>by
   have key:iT P f.type v=true∧dT (fl.map fun f=>nY P f.type) vs=true:=by
    simp only [List.map_cons] at h;generalize (fl.map fun f=>nY P f.type)=ks at h ⊢;unfold nY at h;unfold iT;cases hd:P.underlying f.type with
    | none=>rw [hd] at h; simp [dT] at h
    | some d =>
      rw [hd] at h;cases d <;> cases v <;> simp_all [dT]
   obtain ⟨k1,k2⟩:=key;obtain ⟨h1,h2⟩:=qE fl vs k2;refine ⟨by simp [h1],fun j g u hg hu=>?_⟩;cases j with
   | zero=>simp at hg hu; subst hg hu; exact k1
   | succ j=>exact h2 j g u (by simpa using hg) (by simpa using hu)
theorem Ho {t:TypeId} {fs:Array Field} (ht:P.underlying t=some (.struct fs)) (hf:Ek P t fs=true) {neg:Bool} {x y v:V} {X Y:Value} (hx:Rep μ ow w x X) (hy:Rep μ ow w y Y)
 (xo yo:Operand) {op:BinOp} (hop:op=if neg then .neq else .eql) (hv:jS neg (fs.toList.map fun f=>nY P f.type) x y=some v) :
 ∃z,(do eqGuard op t xo yo X Y; binOp op t X Y:Sem Value).run P w=.ok z w∧Rep μ ow w v z:=by
 unfold jS at hv;split at hv
 ·rename_i vs us;split at hv
  ·rename_i hfit;split at hv
   ·rename_i b hb;simp only [Oi] at hv;subst hv;simp only [Rep] at hx hy;obtain ⟨xs,rfl,hx1,_⟩:=hx;obtain ⟨ys,rfl,hy1,_⟩:=hy;simp only [Ek,Ba,beq_iff_eq,Bool.not_eq_true',List.all_eq_true,bne_iff_ne,ne_eq] at hf;obtain ⟨⟨⟨f1,f2⟩,f3⟩,f4⟩:=hf;obtain ⟨g3,g2⟩:=hfit;obtain ⟨g1,g4⟩:=qE (P:=P) fs.toList vs g3;have hfo:P.fieldsOf t=fs:=by simp [Program.fieldsOf,ht]
    have hE:=lu (P:=P) hx1 hy1 9998 fs.toList 0 b (by rw [f1]; simp [List.range_eq_range']) (fun f hf=>⟨(f2 f hf).1.1,(f2 f hf).1.2,(f2 f hf).2⟩)
     (fun j f v hj hv=>by
       rw [Nat.zero_add] at hv;exact g4 j f v hj hv) (by omega) (by omega) (by simpa using hb)
    have hrun:(Op.equalIn 10000 t (.agg ⟨xs⟩) (.agg ⟨ys⟩)).run P w=.ok b w:=by
     rw [run_equalIn_struct w 9999 t _ _ (by rw [hfo]; exact ht) f3,hfo]; exact hE
    have hgd:=run_eqGuard_agg (P:=P) w op t xo yo ⟨xs⟩ ⟨ys⟩ f4;refine ⟨.bool (if neg then !b else b),?_,by simp [Rep]⟩;simp only [Sem.run_bind,hgd,Result.andThen_ok];cases neg <;> simp only [Bool.false_eq_true,if_false,if_true] at hop ⊢ <;> subst hop
    ·rw [run_eql_struct,hrun]; rfl
    ·rw [run_neq_struct,hrun]; rfl
   ·cases hv
  ·cases hv
 ·cases hv
theorem wX {P:Program} (w:World) {t e:TypeId} (ht:P.underlying t=some (.pointer e)) (q:Option Addr) :
 (binOp .eql t (.pointer q) (.pointer none)).run P w=.ok (.bool q.isNone) w∧(binOp .neq t (.pointer q) (.pointer none)).run P w=.ok (.bool (!q.isNone)) w:=by
 have he:(Op.equal t (.pointer q) (.pointer none)).run P w=.ok q.isNone w:=by
  unfold Op.equal;rw [show Op.maxDepth=9999+1 from rfl];generalize 9999=d;cases q <;> simp [Op.equalIn,run_underlying ht]
 exact ⟨by simp [binOp,he],by simp [binOp,he]⟩
theorem p7 {F:Fr} {st:St} {a:Act} (hs:cN F μ st a w) (o:Oper) {v:V} (hp:eQ st.s (cop P F.n o.op)) (hv:aE st.σ st.s (cop P F.n o.op)=some v) :
 ∃z,(execOp a.eval o).run P w=.ok (.value z) w∧Rep μ (aC μ st.σ) w v z:=by
 have R:=ck hs;have VV:∀(x:Sem Value) (z:Value),x.run P w=.ok z w→(do pure (.value (←x)):Sem Next).run P w=.ok (.value z) w:=fun x z h=>by simp [h]
 unfold execOp;cases ho:o.op
 all_goals rw [ho] at hp hv; simp only [cop] at hp hv
 all_goals try (simp only [aE,reduceCtorEq] at hv; done)
 case move x=>simp only [aE,Oi] at hv; subst hv; exact ⟨_,rfl,R x⟩
 case assign x=>simp only [aE,Oi] at hv; subst hv; exact ⟨_,rfl,R x⟩
 case pick c x y =>
  simp only [aE] at hv;have hc:=R c;split at hv
  ·rename_i t ht;rw [ht] at hc;simp only [Rep] at hc;simp only [Oi] at hv;subst hv;cases t
   ·exact ⟨_,by simp [hc,asBool],R y⟩
   ·exact ⟨_,by simp [hc,asBool],R x⟩
  ·cases hv
 case alloc=>(repeat' split at hv) <;> simp [aE] at hv
 case range=>split at hv <;> simp [aE] at hv
 case makeMap=>split at hv <;> simp [aE] at hv
 case insert=>split at hv <;> simp [aE] at hv
 case mapUpdate=>split at hv <;> simp [aE] at hv
 case lookup=>split at hv <;> (try split at hv) <;> simp [aE] at hv
 case makeInterface t x =>
  split at hv
  ·rename_i hc;simp only [Ba,Bool.not_eq_true'] at hc;simp only [aE,Oi] at hv;subst hv;refine ⟨.iface t (a.eval x),?_,by simp only [Rep]; exact ⟨_,rfl,R x⟩⟩;refine VV _ _ ?_;cases hu:P.underlying t with
   | none=>rw [hu] at hc; simp at hc
   | some d =>
     cases d
     case interface ms=>simp [tz,hu] at hc
     all_goals simp [Instr.makeInterface,run_underlying hu]
  ·simp [aE] at hv
 case typeAssert x xt t ok =>
  split at hv
  ·simp [aE] at hv
  ·rename_i hi;obtain ⟨zv,z,hzv,hzr,hus,hv⟩:∃(zv:V) (z:Value),(zeroValue t).run P w=.ok z w∧Rep μ (aC μ st.σ) w zv z∧(P.underlying t).isSome=true∧aE st.σ st.s (.more (.tas t ok zv) [cx F.n x])=some v:=by
    split at hv
    ·rename_i i z hz;refine ⟨_,z,eh hz,qF z,?_,hv⟩;have hk:=(eg hz).2.2.1;simp only [bO,Ba] at hk;exact hk.1.2
    ·split at hv
     ·rename_i hn;obtain ⟨_,h0,_⟩:=l7 hn;exact ⟨.agg [], .agg #[],oP hn,by simp only [Rep]; exact ⟨[],rfl,by simp [au],by simp⟩,by rw [h0]; rfl,hv⟩
     ·simp [aE] at hv
   ·simp only [aE] at hv;have hx:=R x;obtain ⟨d,hu,hnd⟩:∃d,P.underlying t=some d∧∀ms,d≠.interface ms:=by
     cases hu:P.underlying t with
     | none=>simp [hu] at hus
     | some d=>exact ⟨d,rfl,fun ms e=>hi (by simp [tz,hu,e])⟩
    have hfail:ok=true→(∀xx:Value,(Instr.typeAssert xx xt t ok).run P w=(do pure (Value.tuple #[←zeroValue t, .bool false]):Sem Value).run P w→(Instr.typeAssert xx xt t ok).run P w=.ok (.tuple #[z, .bool false]) w):=fun _ xx h=>by
     rw [h]; simp [hzv]
    unfold FX at hv;split at hv
    ·rename_i t' v' hxv;rw [hxv] at hx;simp only [Rep] at hx;obtain ⟨y,hy,hry⟩:=hx;by_cases ht:t'=t
     ·subst ht;rw [if_pos rfl] at hv;simp only [Oi] at hv;subst hv;cases ok
      ·refine ⟨y,VV _ _ ?_,hry⟩;rw [hy];cases d
       case interface ms=>exact absurd rfl (hnd ms)
       all_goals simp [Instr.typeAssert,run_underlying hu]
      ·refine ⟨.tuple #[y, .bool true],VV _ _ ?_,by simp only [if_true,Rep]; exact ⟨_,rfl,by simp only [au,Rep]; exact ⟨_,_,rfl,hry,_,_,rfl,rfl,rfl⟩⟩⟩;rw [hy];cases d
       case interface ms=>exact absurd rfl (hnd ms)
       all_goals simp [Instr.typeAssert,run_underlying hu]
     ·rw [if_neg ht] at hv;cases ok
      ·simp at hv
      ·simp only [if_true,Oi] at hv;subst hv;refine ⟨.tuple #[z, .bool false],VV _ _ (hfail rfl _ ?_),by simp only [Rep]; exact ⟨_,rfl,by simp only [au,Rep]; exact ⟨_,_,rfl,hzr,_,_,rfl,rfl,rfl⟩⟩⟩;rw [hy];cases d
       case interface ms=>exact absurd rfl (hnd ms)
       all_goals simp [Instr.typeAssert,run_underlying hu,ht]
    ·rename_i hxv;rw [hxv] at hx;simp only [Rep] at hx;cases ok
     ·simp at hv
     ·simp only [if_true,Oi] at hv;subst hv;refine ⟨.tuple #[z, .bool false],VV _ _ (hfail rfl _ ?_),by simp only [Rep]; exact ⟨_,rfl,by simp only [au,Rep]; exact ⟨_,_,rfl,hzr,_,_,rfl,rfl,rfl⟩⟩⟩;rw [hx];cases d
      case interface ms=>exact absurd rfl (hnd ms)
      all_goals simp [Instr.typeAssert,run_underlying hu]
    ·cases hv
 case next it b=>cases b <;> simp [aE] at hv
 case buildSlice=>split at hv <;> (try split at hv) <;> (try split at hv) <;> simp [aE] at hv
 case makeSlice=>split at hv <;> (try split at hv) <;> (try split at hv) <;> simp [aE] at hv
 case build t parts =>
  split at hv
  ·rename_i hn;simp only [Ba,beq_iff_eq] at hn;have hp:parts=#[]:=Array.eq_empty_of_size_eq_zero hn.2;subst hp;simp only [aE,VX.ev,Oi] at hv;subst hv;exact ⟨.agg #[],VV _ _ (by rw [Array.map_empty]; exact Ac hn.1),by simp only [Rep]; exact ⟨[],rfl,by simp [au],by simp⟩⟩
  split at hv
  ·rename_i i z fs hz hfs;split at hv
   ·rename_i hk;simp only [aE,Option.map_eq_some_iff] at hv;obtain ⟨cells,hb,rfl⟩:=hv;obtain ⟨y,h1,h2⟩:=run_build hs hz hfs (by simpa only [Ba,List.all_eq_true,decide_eq_true_eq] using hk) hb;exact ⟨y,VV _ _ h1,h2⟩
   ·simp [aE] at hv
  ·rename_i i z k e hz hfs;split at hv
   ·rename_i hk;simp only [aE,Option.map_eq_some_iff] at hv;obtain ⟨cells,hb,rfl⟩:=hv;obtain ⟨y,h1,h2⟩:=zY hs hz hfs hk hb;exact ⟨y,VV _ _ h1,h2⟩
   ·simp [aE] at hv
  ·simp [aE] at hv
 case store=>(repeat' split at hv) <;> simp [aE] at hv
 case load t x =>
  split at hv
  ·rename_i hk;simp only [aE] at hv;obtain ⟨z,h1,h2⟩:=uK hs.sat hk (R x) hv;exact ⟨z,VV _ _ h1,h2⟩
  ·simp [aE] at hv
 case binOp op t x y yt =>
  have hplain:∀(hp:eQ st.s (.bin op (cx F.n x) (cx F.n y))) (hv:aE st.σ st.s (.bin op (cx F.n x) (cx F.n y))=some v),
   ∃z,(do pure (Next.value (←(do eqGuard op t x y (a.eval x) (a.eval y); binOp op t (a.eval x) (a.eval y):Sem Value))):Sem Next).run P w=.ok (.value z) w∧Rep μ (aC μ st.σ) w v z:=by
   intro hp hv;simp only [aE,eQ] at hv hp;obtain ⟨z,h1,h2⟩:=GK (P:=P) (t:=t) (xo:=x) (yo:=y) (R x) (R y) hp hv;exact ⟨z,VV _ _ h1,h2⟩
  split at hv
  ·rename_i ht;have key:∀neg,(op=if neg then .neq else .eql)→aE st.σ st.s (.binB neg (cx F.n x) (cx F.n y))=some v →
    ∃z,(do pure (Next.value (←(do eqGuard op t x y (a.eval x) (a.eval y); binOp op t (a.eval x) (a.eval y):Sem Value))):Sem Next).run P w=.ok (.value z) w∧Rep μ (aC μ st.σ) w v z:=by
    intro neg hop hv;simp only [aE] at hv;have hx:=R x;have hy:=R y;generalize (cx F.n x).ev st.s=xv at *;generalize (cx F.n y).ev st.s=yv at *;unfold binBV at hv;split at hv
    ·rename_i a' b';simp only [Rep] at hx hy;simp only [Oi] at hv;subst hv;rw [hx,hy];refine ⟨.bool (if neg then !(a' == b') else a' == b'),VV _ _ ?_,by simp only [Rep]⟩;cases neg <;> simp only [Bool.false_eq_true,if_false,if_true] at hop <;> subst hop
     ·simp [eqGuard,run_eql_bool w t a' b' ht]
     ·simp [eqGuard,run_neq_bool w t a' b' ht]
    ·cases hv
   cases op <;> simp only [aE,reduceCtorEq] at hv
   ·exact key false rfl (by simpa only [aE] using hv)
   ·exact key true rfl (by simpa only [aE] using hv)
  ·rename_i fs ht;split at hv
   ·rename_i hflat;have key:∀neg,(op=if neg then .neq else .eql)→aE st.σ st.s (.eqS neg (fs.toList.map fun f=>nY P f.type) (cx F.n x) (cx F.n y))=some v →
     ∃z,(do pure (Next.value (←(do eqGuard op t x y (a.eval x) (a.eval y); binOp op t (a.eval x) (a.eval y):Sem Value))):Sem Next).run P w=.ok (.value z) w∧Rep μ (aC μ st.σ) w v z:=by
     intro neg hop hv;simp only [aE] at hv;obtain ⟨z,h1,h2⟩:=Ho (P:=P) ht hflat (R x) (R y) x y hop hv;exact ⟨z,VV _ _ h1,h2⟩
    cases op <;> simp only [aE,reduceCtorEq] at hv
    ·exact key false rfl (by simpa only [aE] using hv)
    ·exact key true rfl (by simpa only [aE] using hv)
   ·simp [aE] at hv
  ·rename_i h1 h2;split at hv
   ·unfold ct at hv;split at hv
    ·simp only [aE,VX.ev] at hv;unfold binBV at hv;split at hv
     ·rename_i hx; cases hx
     ·cases hv
    ·simp [aE] at hv
   ·rename_i hns;split at hv
    ·split at hv
     ·simp only [aE,VX.ev] at hv;unfold binBV at hv;split at hv
      ·rename_i hx; cases hx
      ·cases hv
     ·simp [aE] at hv
    ·rename_i hni;split at hv
     ·split at hv
      ·simp only [aE,VX.ev] at hv;unfold binBV at hv;split at hv
       ·rename_i hx; cases hx
       ·cases hv
      ·simp [aE] at hv
     ·rename_i hnf;split at hv
      ·rename_i hnp;simp only [Ba] at hnp;obtain ⟨hpt,hpc⟩:=hnp;unfold ML at hpt;split at hpt
       ·rename_i e ht;unfold Is at hpc;split at hpc
        ·split at hv
         ·rename_i hop;simp only [aE] at hv;have hx:=R x;generalize (cx F.n x).ev st.s=xv at *;have hY:a.eval (.const (.pointer none))=.pointer none:=rfl;have key:∀q:Option Addr,a.eval x=.pointer q→∃z,(do pure (Next.value (←(do eqGuard op t x (.const (.pointer none)) (a.eval x) (a.eval (.const (.pointer none))); binOp op t (a.eval x) (a.eval (.const (.pointer none))):Sem Value))):Sem Next).run P w=.ok (.value z) w∧z=.bool (if op=.neq then !q.isNone else q.isNone):=by
           intro q hq;rw [hq,hY];obtain ⟨q1,q2⟩:=wX (P:=P) w ht q;have hg:∀op,(eqGuard op t x (.const (.pointer none)) (.pointer q) (.pointer none)).run P w=.ok () w:=by intro op; simp [eqGuard]
           rcases hop with rfl | rfl
           ·exact ⟨_,by simp only [Sem.run_bind,hg,Result.andThen_ok,q1]; rfl,by simp⟩
           ·exact ⟨_,by simp only [Sem.run_bind,hg,Result.andThen_ok,q2]; rfl,by simp⟩
          unfold Bz at hv;split at hv
          ·simp only [Rep] at hx;simp only [Oi] at hv; subst hv;obtain ⟨z,h3,rfl⟩:=key none hx;refine ⟨_,h3,?_⟩;rcases hop with rfl | rfl <;> simp [Rep]
          ·simp only [Rep] at hx;split at hx
           ·simp only [Oi] at hv; subst hv;obtain ⟨z,h3,rfl⟩:=key _ hx.1;refine ⟨_,h3,?_⟩;rcases hop with rfl | rfl <;> simp [Rep]
           ·exact hx.elim
          ·simp only [Rep] at hx;obtain ⟨b,off,hx,_⟩:=hx;simp only [Oi] at hv; subst hv;obtain ⟨z,h3,rfl⟩:=key _ hx;refine ⟨_,h3,?_⟩;rcases hop with rfl | rfl <;> simp [Rep]
          ·cases hv
         ·simp [aE] at hv
        ·cases hpc
       ·cases hpt
      ·rename_i hnp;refine hplain ?_ hv;revert hp;split
       ·rename_i h4; exact absurd h4 h1
       ·rename_i fs h4; exact absurd h4 (h2 fs)
       ·rw [if_neg hns,if_neg hni,if_neg hnf,if_neg hnp]; exact id
 case nilCheck x =>
  simp only [aE] at hv;have hx:=R x;generalize (cx F.n x).ev st.s=xv at *;unfold bT at hv;split at hv
  ·simp only [Oi] at hv; subst hv;have hx':=hx;simp only [Rep] at hx';split at hx'
   ·exact ⟨a.eval x,by simp [hx'],hx⟩
   ·exact hx'.elim
  ·simp only [Oi] at hv; subst hv;have hx':=hx;simp only [Rep] at hx';obtain ⟨b,off,e,_⟩:=hx';exact ⟨a.eval x,by simp [e],hx⟩
  ·simp only [Oi] at hv; subst hv;have hx':=hx;simp only [Rep] at hx';obtain ⟨vals,e,_⟩:=hx';exact ⟨a.eval x,by simp [e],hx⟩
  ·simp only [Oi] at hv; subst hv;have hx':=hx;simp only [Rep] at hx';obtain ⟨y,e,_⟩:=hx';exact ⟨a.eval x,by simp [e],hx⟩
  ·cases hv
 case box=>split at hv <;> simp [aE] at hv
 case unOp op t x =>
  have hx:=R x;cases op <;> simp only [aE,reduceCtorEq] at hv <;> simp only [eQ] at hp
  ·split at hv
   ·rename_i k n hn;simp only [hn] at hx hp;simp only [Rep] at hx;simp only [Oi] at hv;subst hv;simp only [inR] at hp;exact ⟨.int k (0 - n),VV _ _ (by simp only [hx,Op.unary,Op.intArith]; rw [hp]; rfl),by simp [Rep]⟩
   ·cases hv
  ·split at hv
   ·rename_i b hb;rw [hb] at hx;simp only [Rep] at hx;simp only [Oi] at hv;subst hv;exact ⟨.bool (!b),VV _ _ (by simp [hx,Op.unary]),by simp [Rep]⟩
   ·cases hv
 case convert src dst x =>
  split at hv
  ·rename_i k1 k2 h1 h2;simp only [h1,h2] at hp;have hx:=R x;simp only [aE,eQ] at hv hp;split at hv
   ·rename_i k n hn;rw [hn] at hx hp;simp only [Rep] at hx;simp only [Oi] at hv;subst hv;simp only [inR] at hp;refine ⟨.int k2 n,VV _ _ ?_,by simp [Rep]⟩;simp [Go.convert,run_underlying h1,run_underlying h2,hx,Conv.intToInt,hp]
   ·cases hv
  ·rename_i e h1 h2;split at hv
   ·rename_i h3;have h3:P.underlying e=some (.int .u8):=by
     unfold u8T at h3;split at h3
     ·assumption
     ·cases h3
    simp only [aE] at hv;obtain ⟨z,g1,g2⟩:=An (P:=P) hs.sat (R x) hv;refine ⟨z,VV _ _ ?_,g2⟩;obtain ⟨b,n,c,hX⟩:∃b n c,a.eval x=.slice b n c:=by
     have hx:=R x;unfold dq at hv;split at hv
     ·rename_i hx'; rw [hx'] at hx; simp only [Rep] at hx; exact ⟨_,_,_,hx⟩
     ·rename_i hx'; rw [hx'] at hx; simp only [Rep] at hx;split at hx
      ·exact hx.elim
      ·exact ⟨_,_,_,hx.1⟩
      ·obtain ⟨o,c,h,_⟩:=hx; exact ⟨_,_,_,h⟩
     ·cases hv
    rw [hX] at g1 ⊢;cases b <;> simp [Go.convert,run_underlying h1,run_underlying h2,run_underlying h3,g1]
   ·simp [aE] at hv
  ·split at hv <;> simp [aE] at hv
 case makeFunc fn first caps =>
  cases fn
  case func f =>
   by_cases h0:first.size=0
   ·simp only [if_pos h0,aE,Oi] at hv;subst hv;refine ⟨.func (.func f) #[] (caps.map a.eval),VV _ _ ?_,?_⟩
    ·have:first=#[]:=Array.eq_empty_of_size_eq_zero h0
     subst this;simp [Instr.makeFunc]
    ·simp only [Rep];exact ⟨caps.toList.map a.eval,by congr 1; apply Array.ext'; simp,mj hs _⟩
   ·have hv':aE st.σ st.s (if first.size=0 then VOp.mkfn f (caps.toList.map (cx F.n)) else if caps.size=0 then .more (.mkB f) (first.toList.map (cx F.n)) else .bad)=some v:=hv;rw [if_neg h0] at hv';by_cases h1:caps.size=0
    ·rw [if_pos h1] at hv';simp only [aE,Oi] at hv';subst hv';refine ⟨.func (.func f) (first.map a.eval) #[],VV _ _ ?_,?_⟩
     ·have:caps=#[]:=Array.eq_empty_of_size_eq_zero h1;subst this;simp [Instr.makeFunc]
     ·simp only [Rep];exact ⟨first.toList.map a.eval,by congr 1; apply Array.ext'; simp,mj hs _⟩
    ·rw [if_neg h1] at hv'; simp only [aE,reduceCtorEq] at hv'
  all_goals simp [aE] at hv
 case slice t x lo hi mx =>
  split at hv
  ·rename_i e ht;split at hv
   ·rename_i hk;simp only [Ba,Bool.or_eq_true] at hk;simp only [aE] at hv;obtain ⟨z,h1,h2⟩:=sq hs.sat ht hk.1 (R x) (rN hs lo) (rN hs hi) (rN hs mx)
     (by intro h; rcases hk.2 with h' | h' <;> cases mx <;> cases hi <;> simp_all) hv
    exact ⟨z,VV _ _ h1,h2⟩
   ·simp [aE] at hv
  ·rename_i ht;split at hv
   ·rename_i hm;simp only [aE] at hv;have hm':mx=none:=by simpa using hm
    subst hm';obtain ⟨z,h1,h2⟩:=tI (P:=P) ht (R x) (rN hs lo) (rN hs hi) hv;exact ⟨z,VV _ _ h1,h2⟩
   ·simp [aE] at hv
  ·simp [aE] at hv
 case fieldAddr s x f =>
  split at hv
  ·rename_i fs hfs;split at hv
   ·rename_i fd hfd;split at hv
    ·rename_i hk;simp only [aE] at hv;obtain ⟨z,h1,h2⟩:=Cw (P:=P) hfs hfd hk (R x) hv;exact ⟨z,VV _ _ h1,h2⟩
    ·simp [aE] at hv
   ·simp [aE] at hv
  ·simp [aE] at hv
 case field s x f =>
  split at hv
  ·rename_i fs hfs;split at hv
   ·rename_i fd hfd;split at hv
    ·rename_i hk;have hx:=R x;simp only [aE] at hv;unfold kv at hv;split at hv
     ·rename_i vs hvs;rw [hvs] at hx;simp only [Rep] at hx;obtain ⟨vals,hX,hr,h1⟩:=hx;obtain ⟨z,hz,hrz⟩:=xT (P:=P) (w:=w) hk hr h1 hv;exact ⟨z,VV _ _ (by simp [Instr.field,run_underlying hfs,hfd,hX,asAgg,hz]),hrz⟩
     ·cases hv
    ·simp [aE] at hv
   ·simp [aE] at hv
  ·simp [aE] at hv
 case indexAddr t x i =>
  split at hv
  ·rename_i e ht;split at hv
   ·rename_i hk;simp only [aE] at hv;obtain ⟨z,h1,h2⟩:=Dt hs.sat ht hk (R x) (R i) hv;exact ⟨z,VV _ _ h1,h2⟩
   ·simp [aE] at hv
  ·rename_i k e ht;split at hv
   ·rename_i hk;simp only [aE] at hv;obtain ⟨z,h1,h2⟩:=Ag (P:=P) ht hk (R x) (R i) hv;exact ⟨z,VV _ _ h1,h2⟩
   ·simp [aE] at hv
  ·simp [aE] at hv
 case index t x i =>
  split at hv
  ·rename_i k e ht;split at hv
   ·rename_i hk;simp only [aE] at hv;obtain ⟨z,h1,h2⟩:=CD (P:=P) ht hk (R x) (R i) hv;exact ⟨z,VV _ _ h1,h2⟩
   ·simp [aE] at hv
  ·rename_i ht;simp only [aE] at hv;obtain ⟨z,h1,h2⟩:=C4 (P:=P) ht (R x) (R i) hv;exact ⟨z,VV _ _ h1,h2⟩
  ·simp [aE] at hv
 case extract x i =>
  simp only [aE] at hv;have hx:=R x;unfold kc at hv;split at hv
  ·rename_i vs hvs;rw [hvs] at hx;simp only [Rep] at hx;obtain ⟨vals,hX,hr⟩:=hx;obtain ⟨z,hz,hrz⟩:=hr.get hv;exact ⟨z,VV _ _ (by simp [Instr.extract,hX,hz]),hrz⟩
  ·cases hv
 case call c =>
  obtain ⟨callee,args,argTypes⟩:=c;cases callee
  case value=>simp only [aE,reduceCtorEq] at hv
  case invoke=>simp only [aE,reduceCtorEq] at hv
  case builtin b =>
   cases b
   case delete=>simp only [] at hv; split at hv <;> (try split at hv) <;> simp [aE] at hv
   case copy=>simp only [] at hv; split at hv <;> (try split at hv) <;> (try split at hv) <;> simp [aE] at hv
   case len =>
    simp only [] at hv;split at hv
    ·rename_i x t hargs ht;have hx:=R x;have hargs':args=#[x]:=by apply Array.ext'; simpa using hargs
     have hlen:∀z,(Builtin.len_ argTypes o.type #[a.eval x]).run P w=.ok z w →
      (do let d ←resolve a.eval { callee:=.builtin .len,args:=args,argTypes:=argTypes } o.type; invoke d.target d.args:Sem Next).run P w=.ok (.value z) w:=by
      intro z hz;simp [resolve,invoke,Go.builtin,hargs',hz]
     have hty:Builtin.len_ argTypes o.type #[a.eval x]=Builtin.len_ #[t] o.type #[a.eval x]:=by
      simp [Builtin.len_,ht]
     split at hv
     ·rename_i e he;obtain ⟨z,h1,h2⟩:=xz (P:=P) hx (by simpa only [aE] using hv) o.type (t:=t) (by simp [he]);exact ⟨z,hlen z (hty ▸ h1),h2⟩
     ·rename_i he;obtain ⟨z,h1,h2⟩:=xz (P:=P) hx (by simpa only [aE] using hv) o.type (t:=t) (by simp [he]);exact ⟨z,hlen z (hty ▸ h1),h2⟩
     ·simp [aE] at hv
    ·simp [aE] at hv
   case cap =>
    simp only [] at hv;split at hv
    ·rename_i x t hargs ht;have hx:=R x;have hargs':args=#[x]:=by apply Array.ext'; simpa using hargs
     split at hv
     ·rename_i hsl;obtain ⟨e,he⟩:∃e,P.underlying t=some (.slice e):=by
       unfold vK at hsl;split at hsl
       ·rename_i e he; exact ⟨e,he⟩
       ·cases hsl
      simp only [aE,kP] at hv;split at hv
      ·rename_i hn;rw [hn] at hx;simp only [Rep] at hx;simp only [Oi] at hv;subst hv;refine ⟨.int .i64 0,?_,by simp [Rep]⟩;simp [resolve,invoke,Go.builtin,hargs',Builtin.cap_,ht,run_underlying he,hx,goInt]
      ·cases hv
     ·simp [aE] at hv
    ·simp [aE] at hv
   case min =>
    simp only [] at hv;split at hv
    ·rename_i x y hargs;have hargs':args=#[x,y]:=by apply Array.ext'; simpa using hargs
     obtain ⟨z,h1,h2⟩:=qc (P:=P) (w:=w) (m:=false) argTypes o.type (R x) (R y) (by simpa only [aE] using hv);exact ⟨z,by simpa [resolve,invoke,Go.builtin,hargs'] using h1,h2⟩
    ·simp [aE] at hv
   case max =>
    simp only [] at hv;split at hv
    ·rename_i x y hargs;have hargs':args=#[x,y]:=by apply Array.ext'; simpa using hargs
     obtain ⟨z,h1,h2⟩:=qc (P:=P) (w:=w) (m:=true) argTypes o.type (R x) (R y) (by simpa only [aE] using hv);exact ⟨z,by simpa [resolve,invoke,Go.builtin,hargs'] using h1,h2⟩
    ·simp [aE] at hv
   case clear =>
    simp only [] at hv;split at hv
    ·split at hv
     ·split at hv <;> simp [aE] at hv
     ·simp [aE] at hv
    ·simp [aE] at hv
   case append =>
    simp only [] at hv;split at hv
    ·split at hv
     ·split at hv
      ·split at hv <;> simp [aE] at hv
      ·simp [aE] at hv
     ·split at hv
      ·split at hv <;> simp [aE] at hv
      ·split at hv <;> simp [aE] at hv
      ·simp [aE] at hv
    ·simp [aE] at hv
   all_goals simp [aE] at hv
variable {P:Program} {μ:Mu} {ow:Nat→Prop} {w w':World}
def flat (rows:List V):List V:=rows.flatMap V.cells
theorem aP.append:∀ {vs us:List V} {b off:Nat},aP μ ow w (vs++us) b off↔aP μ ow w vs b off∧aP μ ow w us b (off+vs.length)
 | [],us,b,off=>by simp [aP]
 | v::vs,us,b,off=>by
   simp only [List.cons_append,aP,aP.append (vs:=vs),List.length_cons];rw [show off+(vs.length+1)=off+1+vs.length by omega,and_assoc]
theorem iq:∀ {rows:List V} {b off sz:Nat},aX μ ow w rows b off sz↔(∀r∈rows,r.cells.length=sz)∧aP μ ow w (flat rows) b off
 | [],b,off,sz=>by simp [aX,flat,aP]
 | r::rs,b,off,sz=>by
   have ih:=iq (rows:=rs) (b:=b) (off:=off+sz) (sz:=sz);simp only [aX,ih,dF];have e:flat (r::rs)=r.cells++flat rs:=by simp [flat]
   rw [e,aP.append];constructor
   ·rintro ⟨h1,h2,h3,h4⟩;exact ⟨fun x hx=>(List.mem_cons.1 hx).elim (fun e'=>e' ▸ h1) (h3 x),h2,by rw [h1]; exact h4⟩
   ·rintro ⟨h1,h2,h3⟩;have h0:=h1 r (by simp);exact ⟨h0,h2,fun x hx=>h1 x (by simp [hx]),by rw [h0] at h3; exact h3⟩
theorem pG {rows:List V} {sz:Nat} (h:∀r∈rows,r.cells.length=sz):(flat rows).length=rows.length*sz:=by
 induction rows with
 | nil=>simp [flat]
 | cons r rs ih =>
   have e:flat (r::rs)=r.cells++flat rs:=by simp [flat]
   rw [e,List.length_append,h r (by simp),ih (fun x hx=>h x (by simp [hx])),List.length_cons,Nat.add_mul];omega
theorem gi (a b:List V):flat (a++b)=flat a++flat b:=by simp [flat]
theorem jB:∀ {vs:List V} {xs:List Value} {b off:Nat},au μ ow w vs xs→(∀u∈xs,u.oneCell'=true) →
 (∀(j:Nat) u,xs[j]?=some u→w.cell? ⟨b,off+j,none⟩=some u)→aP μ ow w vs b off
 | [],_,_,_,_,_,_=>by simp [aP]
 | v::vs,l,b,off,h,h1,h2=>by
   simp only [au] at h;obtain ⟨x,xs,rfl,h3,h4⟩:=h;simp only [aP];refine ⟨⟨x,by simpa using h2 0 x (by simp),h3,h1 x (by simp)⟩,jB h4 (fun u hu=>h1 u (by simp [hu])) ?_⟩;intro j u hu;have:=h2 (j+1) u (by simpa using hu)
   rwa [show off+(j+1)=off+1+j by omega] at this
def bz (σ:af):Option Nat→af
 | none=>σ
 | some i=>del σ i
theorem uZ {σ:af} {o:Option Nat} {i:Nat} {x:Ob} (h:bz σ o i=some x):σ i=some x∧some i≠o:=by
 cases o with
 | none=>exact ⟨h,by simp⟩
 | some k =>
   simp only [bz,del] at h;split at h
   ·cases h
   ·rename_i hne; exact ⟨h,by simpa using hne⟩
theorem Sat.dj {w0:World} {ow0:Nat→Prop} {σ:af} (h:Sat w0 ow0 μ σ w):∃id,μ id=.dj∧σ id=none∧∀p,∃N,∀i,N≤i→(fun k=>if k=id then p else μ k:Mu) i=.dj:=by
 obtain ⟨N,hN⟩:=h.fin;refine ⟨N,hN N (Nat.le_refl _),?_,fun p=>⟨N+1,fun i hi=>?_⟩⟩
 ·cases ho:σ N with
  | none=>rfl
  | some o =>
    have:=h.obj N o ho;rw [hN N (Nat.le_refl _)] at this;exact this.elim
 ·simp [show i≠N by omega,hN i (by omega)]
theorem Sat.renew {w0:World} {ow0:Nat→Prop} {σ:af} (h:Sat w0 ow0 μ σ w) {row:Option Nat} (hg:w.grownBy w' row) (idA:Option Nat)
 (hA:row=none∨∃i oA sz cap b,idA=some i∧σ i=some oA∧μ i=.lies b sz cap∧row=some b)
 (b sz cap:Nat) (cur:Array Value) (e:TypeId) (rows:List V) (xs:List Value) (hb:some b=row∨w.heap.size≤b)
 (hheap:w'.heap[b]?=some (.cells cur e (0,0))) (hsz:0 < sz) (hcur:cur.size=cap*sz) (hrows:rows.length≤cap) (hcap:cap≤maxLen)
 (hlen:∀r∈rows,r.cells.length=sz) (hx:au μ (aC μ σ) w (flat rows) xs) (hone:∀u∈xs,u.oneCell'=true)
 (hpre:∀(j:Nat) u,xs[j]?=some u→cur[j]?=some u) :
 ∃id,σ id=none∧∃μ':Mu,μ' id=.lies b sz cap∧cH μ μ'∧Sat w0 ow0 μ' (upd (bz σ idA) id ⟨e,sz,rows⟩) w' ∧
  cE (aC μ σ) (aC μ' (upd (bz σ idA) id ⟨e,sz,rows⟩)) w w':=by
 obtain ⟨id,hid,hσ,hfin⟩:=h.dj;refine ⟨id,hσ,fun k=>if k=id then .lies b sz cap else μ k,by simp,fun k hk=>?_,?_⟩
 ·have:k≠id:=fun e'=>hk (e' ▸ hid);simp [this]
 ·have hle:cH μ (fun k=>if k=id then .lies b sz cap else μ k):=fun k hk=>by
   have:k≠id:=fun e'=>hk (e' ▸ hid);simp [this]
  have hrow:∀b',row=some b'→aC μ σ b':=fun b' hb'=>by
   rcases hA with h1 | ⟨i,oA,sz',cap',b'',h1,h2,h3,h4⟩
   ·rw [h1] at hb'; cases hb'
   ·rw [h4] at hb'; cases hb'; exact ⟨i,oA,sz',cap',h2,h3⟩
  refine h.put hg hrow hle (hfin _) id ⟨e,sz,rows⟩ (fun o ho=>?_) (fun i o hi ho=>?_) (fun b' sz' cap' hb'=>?_) (fun hk=>?_)
  ·simp [upd] at ho; exact ho.symm
  ·simp only [upd,if_neg hi] at ho;obtain ⟨h1,h2⟩:=uZ ho;refine ⟨h1,fun b' sz' cap' h3 h4=>?_⟩;rcases hA with h5 | ⟨iA,oA,szA,capA,bA,h5,h6,h7,h8⟩
   ·rw [h5] at h4; cases h4
   ·rw [h8] at h4; cases h4;have:=h.inj i iA o oA _ _ _ _ _ h1 h6 h3 h7;exact h2 (by rw [this,h5])
  ·simp only [if_true,Pl.lies.injEq] at hb';rw [←hb'.1]; exact hb
  ·simp only [if_true,oL];refine .inl ⟨cur,hheap,trivial,hsz,hcur,hrows,hcap,?_⟩;rw [iq];refine ⟨hlen,jB (au.mono hle hk hg.size _ _ hx) hone ?_⟩;intro j u hu;rw [cell_of_row w' b _ cur e (0,0) hheap];simpa using hpre j u hu
theorem Sat.E2 {w0:World} {ow0:Nat→Prop} {σ:af} (h:Sat w0 ow0 μ σ w) (idA:Option Nat) (e:TypeId) (sz:Nat) :
 ∃id,σ id=none∧∃μ':Mu,μ' id=.nil∧cH μ μ'∧Sat w0 ow0 μ' (upd (bz σ idA) id ⟨e,sz,[]⟩) w ∧
  cE (aC μ σ) (aC μ' (upd (bz σ idA) id ⟨e,sz,[]⟩)) w w:=by
 obtain ⟨id,hid,hσ,hfin⟩:=h.dj;have hle:cH μ (fun k=>if k=id then .nil else μ k):=fun k hk=>by
  have:k≠id:=fun e'=>hk (e' ▸ hid);simp [this]
 refine ⟨id,hσ,fun k=>if k=id then .nil else μ k,by simp,hle,?_⟩;refine h.put (row:=none) ⟨rfl,rfl,rfl,Nat.le_refl _,fun _ _ _=>rfl⟩ (by simp) hle (hfin _) id ⟨e,sz,[]⟩ (fun o ho=>?_) (fun i o hi ho=>?_) (fun b' sz' cap' hb'=>?_) (fun hk=>?_)
 ·simp [upd] at ho; exact ho.symm
 ·simp only [upd,if_neg hi] at ho;exact ⟨(uZ ho).1,by simp⟩
 ·simp at hb'
 ·simp [oL]
theorem Sat.change {w0:World} {ow0:Nat→Prop} {σ:af} (h:Sat w0 ow0 μ σ w) {id b sz cap:Nat} {o:Ob} (ho:σ id=some o) (hid:μ id=.lies b sz cap) (hz:0 < sz)
 (hg:w.grownBy w' (some b)) (cur:Array Value) (rows:List V) (xs:List Value)
 (hheap:w'.heap[b]?=some (.cells cur o.elem (0,0))) (hcur:cur.size=cap*sz) (hrows:rows.length≤cap)
 (hlen:∀r∈rows,r.cells.length=sz) (hx:au μ (aC μ σ) w (flat rows) xs) (hone:∀u∈xs,u.oneCell'=true)
 (hpre:∀(j:Nat) u,xs[j]?=some u→cur[j]?=some u) :
 Sat w0 ow0 μ (upd σ id { o with rows:=rows }) w'∧cE (aC μ σ) (aC μ (upd σ id { o with rows:=rows })) w w':=by
 have hobat:=h.obj id o ho;rw [hid] at hobat;obtain ⟨_,_,h2,h3,_,_,h6,_⟩:=hobat.plain hz;refine h.put hg (fun b' hb'=>by cases hb'; exact ⟨id,o,sz,cap,ho,hid⟩) (cH.refl _) h.fin id { o with rows:=rows } (fun x hx'=>by simp [upd] at hx'; exact hx'.symm)
  (fun i x hi hx'=>?_) (fun b' sz' cap' hb'=>?_) (fun hk=>?_)
 ·simp only [upd,if_neg hi] at hx';refine ⟨hx',fun b' sz' cap' h4 h5=>hi ?_⟩;cases h5;exact h.inj i id x o _ _ _ _ _ hx' ho h4 hid
 ·rw [hid] at hb'; cases hb'; exact .inl rfl
 ·rw [hid];refine .inl ⟨cur,hheap,h2,h3,hcur,hrows,h6,?_⟩;rw [iq];refine ⟨hlen,jB (au.mono (cH.refl _) hk hg.size _ _ hx) hone ?_⟩;intro j u hu;rw [cell_of_row w' b _ cur o.elem (0,0) hheap];simpa using hpre j u hu
def aV (s:Nat→V):Option Nat→V→Nat→V
 | none,_=>s
 | some d,v=>fun i=>if i=d then v else s i
theorem cN.step {F:Fr} {μ':Mu} {st:St} {a:Act} {σ':af} (hs:cN F μ st a w) (h1:Sat F.w0 F.ow0 μ' σ' w') (h2:cH μ μ')
 (h3:cE (aC μ st.σ) (aC μ' σ') w w') (h4:w.heap.size≤w'.heap.size) {d:Option Tmp} {v:V} {x:Value} (hv:Rep μ' (aC μ' σ') w' v x) :
 cN F μ' ⟨aV st.s (d.filter (· < F.n)) v,σ'⟩ (a.put d x) w' where
 sat:=h1
 le:=hs.le.trans h2
 size:=by cases d <;> simp [Act.put,hs.size]
 book:=by
  have:=hs.book.lS h3;cases d <;> simpa [Act.put] using this
 slot:=fun i hi=>by
  have hold:=Rep.mono h2 h3 h4 _ _ (hs.slot i hi);cases d with
  | none=>simpa [Act.put,aV] using hold
  | some d =>
    simp only [Act.put,Option.filter_some];by_cases hd:d < F.n
    ·simp only [hd,decide_true,if_true,aV];by_cases hid:i=d
     ·subst hid;simp only [if_true];rw [Array.getD_eq_getD_getElem?,Array.getElem?_setIfInBounds_self_of_lt (by rw [hs.size]; exact hi)];exact hv
     ·simp only [if_neg hid];rw [Array.getD_eq_getD_getElem?,Array.getElem?_setIfInBounds_ne (fun e=>hid e.symm),←Array.getD_eq_getD_getElem?];exact hold
    ·simp only [hd,decide_false,Bool.false_eq_true,if_false,aV];rw [Array.getD_eq_getD_getElem?,Array.getElem?_setIfInBounds_ne (fun (e:d=i)=>hd (e ▸ hi)),←Array.getD_eq_getD_getElem?];exact hold
theorem cN.pure {F:Fr} {st:St} {a:Act} (hs:cN F μ st a w) {d:Option Tmp} {v:V} {x:Value} (hv:Rep μ (aC μ st.σ) w v x) :
 cN F μ ⟨aV st.s (d.filter (· < F.n)) v,st.σ⟩ (a.put d x) w :=
 hs.step hs.sat (cH.refl _) (fun _ _ h=>⟨h,rfl⟩) (Nat.le_refl _) hv
variable {P:Program} {μ:Mu} {ow:Nat→Prop} {w w':World}
def cc (r:V) (k sz:Nat) (x:V):Option V :=
 if x.cells.length=sz∧x.stays=true then
  (if k=0∧r.cells.length=sz then some x
   else if k+sz≤r.cells.length then some (.agg (r.cells.take k++x.cells++r.cells.drop (k+sz))) else none)
 else none
theorem ug {r x r':V} {k sz:Nat} (h:cc r k sz x=some r'):x.cells.length=sz∧x.stays=true∧k+sz≤r.cells.length ∧
 r'.cells=r.cells.take k++x.cells++r.cells.drop (k+sz):=by
 unfold cc at h;split at h
 ·rename_i h1;split at h
  ·rename_i h2;obtain ⟨rfl,h3⟩:=h2;simp only [Oi] at h;subst h;refine ⟨h1.1,h1.2,by omega,?_⟩;simp [h3]
  ·split at h
   ·rename_i h3;simp only [Oi] at h;subst h;exact ⟨h1.1,h1.2,h3,by simp [V.cells]⟩
   ·cases h
 ·cases h
theorem E4 {rows:List V} {sz0:Nat} (hlen:∀r∈rows,r.cells.length=sz0) {i:Nat} {r r':V} (hr:rows[i]?=some r) {k sz:Nat} {xs:List V}
 (hk:k+sz≤sz0) (hc:r'.cells=r.cells.take k++xs++r.cells.drop (k+sz)) :
 flat (rows.set i r')=(flat rows).take (i*sz0+k)++xs++(flat rows).drop (i*sz0+k+sz):=by
 induction rows generalizing i with
 | nil=>simp at hr
 | cons q rows ih =>
   have hq:=hlen q (by simp);have e:∀l,flat (q::l)=q.cells++flat l:=fun l=>by simp [flat]
   cases i with
   | zero =>
     simp only [List.getElem?_cons_zero,Oi] at hr;subst hr;simp only [List.set_cons_zero,Nat.zero_mul,Nat.zero_add];rw [e,show flat (r'::rows)=r'.cells++flat rows by simp [flat],hc];rw [List.take_append_of_le_length (by omega),List.drop_append_of_le_length (by omega)];simp
   | succ i =>
     simp only [List.getElem?_cons_succ] at hr;simp only [List.set_cons_succ];rw [e,e,ih (fun x hx=>hlen x (by simp [hx])) hr];have e1:(i+1)*sz0+k=q.cells.length+(i*sz0+k):=by rw [hq,Nat.add_mul]; omega
     have e2:(i+1)*sz0+k+sz=q.cells.length+(i*sz0+k+sz):=by omega
     rw [e1,show q.cells.length+(i*sz0+k)+sz=q.cells.length+(i*sz0+k+sz) by omega,List.take_length_add_append,List.drop_length_add_append];simp
theorem jT {α:Type} (l xs vals:List α) (h:∀(j:Nat) u,xs[j]?=some u→l[j]?=some u) (o:Nat) (ho:o+vals.length≤xs.length) :
 ∀(j:Nat) u,(xs.take o++vals++xs.drop (o+vals.length))[j]?=some u→(l.take o++vals++l.drop (o+vals.length))[j]?=some u:=by
 have hl:xs.length≤l.length:=by
  rcases Nat.lt_or_ge l.length xs.length with h1 | h1
  ·have h2:=h l.length xs[l.length] (by simp [h1]);simp at h2
  ·exact h1
 intro j u hu;simp only [List.append_assoc] at hu ⊢;rw [List.getElem?_append] at hu ⊢;simp only [List.length_take,Nat.min_eq_left (show o≤xs.length by omega),Nat.min_eq_left (show o≤l.length by omega)] at hu ⊢;split at hu
 ·rename_i h1;rw [if_pos h1];rw [List.getElem?_take_of_lt h1] at hu ⊢;exact h j u hu
 ·rename_i h1;rw [if_neg h1];rw [List.getElem?_append] at hu ⊢;split at hu
  ·rename_i h2; rw [if_pos h2]; exact hu
  ·rename_i h2;rw [if_neg h2];rw [List.getElem?_drop] at hu ⊢;exact h _ u hu
theorem aX.cur {rows:List V} {b sz:Nat} {cur:Array Value} {e:TypeId} {fr:Nat×Nat} (h:aX μ ow w rows b 0 sz) (hc:w.heap[b]?=some (.cells cur e fr)) :
 (∀r∈rows,r.cells.length=sz)∧∃xs,au μ ow w (flat rows) xs∧(∀u∈xs,u.oneCell'=true)∧xs.length=rows.length*sz∧∀(j:Nat) u,xs[j]?=some u→cur.toList[j]?=some u:=by
 rw [iq] at h;obtain ⟨h1,h2⟩:=h;obtain ⟨xs,h3,h4,h5⟩:=h2.BX;refine ⟨h1,xs,h3,h4,by rw [h3.length,pG h1],fun j u hu=>?_⟩;have:=h5 j u hu;rw [cell_of_row w b _ cur e fr hc] at this;simpa using this
theorem pX {F:Fr} {st:St} {a:Act} (hs:cN F μ st a w) {o:Oper} {t:TypeId} {x y:Operand} (hoo:o.op=.store t x y) (hk:bO P t=true)
 {id i k:Nat} (h1:(cx F.n x).ev st.s=.ptr id i k) {ob:Ob} (h2:st.σ id=some ob) {r r':V} (h3:ob.rows[i]?=some r) (h4:cc r k (P.cellsOf t) ((cx F.n y).ev st.s)=some r') :
 ∃w',(execOp a.eval o).run P w=.ok .skip w'∧cN F μ ⟨aV st.s (o.dst.filter (· < F.n)) (.tup []),upd st.σ id { ob with rows:=ob.rows.set i r' }⟩ (a.put o.dst undef) w':=by
 have R:=ck hs;obtain ⟨c1,c2,c3,c4⟩:=ug h4;have hx:=R x;have hy:=R y;rw [h1] at hx;simp only [Rep] at hx;split at hx
 ·rename_i b szb cap hid;have hob:=hs.sat.obj id ob h2;rw [hid] at hob;obtain ⟨hx,hz⟩:=hx;obtain ⟨cur,e1,e2,e3,e4,e5,e6,e7⟩:=hob.plain hz;obtain ⟨g1,xs,g2,g3,g4,g5⟩:=e7.cur e1;obtain ⟨v1,v2⟩:=hy.cells c2;have vl:=hy.iK c2;have hr:r∈ob.rows:=List.mem_of_getElem? h3;have hrl:=g1 r hr;have hilt:i < ob.rows.length:=(List.getElem?_eq_some_iff.1 h3).1;have hbound:i*szb+k+P.cellsOf t≤ob.rows.length*szb:=by
   have:(i+1)*szb≤ob.rows.length*szb:=Nat.mul_le_mul_right _ hilt;rw [Nat.add_mul] at this;omega
  have hbound2:ob.rows.length*szb≤cap*szb:=Nat.mul_le_mul_right _ e5;have hvl:(a.eval y).cells.toList.length=P.cellsOf t:=by rw [Array.length_toList,vl,c1]
  have hst:=run_storeCells_at P b (i*szb+k) ob.elem (a.eval y).cells.toList 0 cur w e1 (by rw [hvl]; omega) v2;simp only [Nat.add_zero] at hst;refine ⟨w.setRow b (cur.toList.take (i*szb+k)++(a.eval y).cells.toList++cur.toList.drop (i*szb+k+(a.eval y).cells.toList.length)).toArray,?_,?_⟩
  ·unfold execOp;rw [hoo];simp only [Sem.run_bind,Instr.storeAt,hx,Instr.sureAddr,Sem.run_pure,Result.andThen_ok,storeVar,bW hk,Sem.run_ite,vl,c1,ne_eq,not_true_eq_false,if_false,hst]
  ·have hgrow:w.grownBy (w.setRow b (cur.toList.take (i*szb+k)++(a.eval y).cells.toList++cur.toList.drop (i*szb+k+(a.eval y).cells.toList.length)).toArray) (some b) :=
    ⟨rfl,rfl,rfl,by simp,fun kk _ hkk=>setRow_other w b kk _ (fun e=>hkk (by rw [e]))⟩
   have hrows':∀q∈ob.rows.set i r',q.cells.length=szb:=by
    intro q hq;rcases List.mem_or_eq_of_mem_set hq with hq | rfl
    ·exact g1 q hq
    ·rw [c4]; simp; omega
   have hflat:=E4 g1 h3 (k:=k) (sz:=P.cellsOf t) (xs:=V.cells ((cx F.n y).ev st.s)) (r':=r') (by omega) c4;have hch:=hs.sat.change h2 hid hz hgrow _ (ob.rows.set i r') (xs.take (i*szb+k)++(a.eval y).cells.toList++xs.drop (i*szb+k+(a.eval y).cells.toList.length))
    (setRow_heap w b cur _ ob.elem _ e1) (by simp only [List.size_toArray,List.length_append,List.length_take,List.length_drop,Array.length_toList]; rw [Array.length_toList] at hvl; omega) (by simpa using e5) hrows'
    (by rw [hflat,←c1,←v1.length]; rw [show (a.eval y).cells.toList.length=(a.eval y).cells.toList.length from rfl]; exact ((g2.take _).append v1).append (g2.drop _))
    (by intro u hu
        simp only [List.mem_append] at hu;rcases hu with (hu | hu) | hu
        ·exact g3 u (List.mem_of_mem_take hu)
        ·exact v2 u hu
        ·exact g3 u (List.mem_of_mem_drop hu))
    (by intro j u hu
        have:=jT cur.toList xs _ g5 (i*szb+k) (by rw [hvl,g4]; omega) j u hu;simpa using this)
   exact hs.step hch.1 (cH.refl _) hch.2 (by simp) (by simp only [Rep]; exact ⟨[],rfl,by simp [au]⟩)
 ·exact hx.elim
theorem fO {z:Value} (h:∀u∈z.cells.toList,u.oneCell'=true):(ofValue z).cells=z.cells.toList.map cellOf:=by
 unfold ofValue;split
 ·rename_i cs;rw [if_pos (by simpa only [List.all_eq_true,Value.cells] using h)];simp [V.cells,Value.cells]
 ·rename_i hz;have hc:z.cells=#[z]:=by cases z <;> simp_all [Value.cells]
  have h1:=h z (by simp [hc]);rw [hc];simpa using oW (μ:=fun _=>.dj) (ow:=fun _=>True) (w:=default) (mZ z) h1
theorem pN {F:Fr} {st:St} {a:Act} (hs:cN F μ st a w) {o:Oper} {t:TypeId} (hoo:o.op=.alloc t) {i:TypeInfo} {z:Value} (hz:zeroOf P t=some (i,z)) :
 ∃id,st.σ id=none∧∃x w' μ',(execOp a.eval o).run P w=.ok (.value x) w' ∧
  cN F μ' ⟨aV st.s (o.dst.filter (· < F.n)) (.ptr id 0 0),upd st.σ id ⟨t,i.size,[ofValue z]⟩⟩ (a.put o.dst x) w':=by
 obtain ⟨hi,hz0,hk,hzs,hone,hsz⟩:=eg hz;have hpos:=(dp hk).2.2;have hcl:=fO hone;obtain ⟨id,hid,μ',h1,h2,h3,h4⟩:=hs.sat.renew (row:=none) (World.grownBy_alloc w (.cells z.cells t) none) none (.inl rfl) w.heap.size i.size 1 z.cells t [ofValue z] z.cells.toList (.inr (Nat.le_refl _))
  (heap_alloc_new w _) (by omega) (by omega) (by simp) (by simp [maxLen]) (by intro r hr; simp at hr; subst hr; rw [hcl]; simp [hzs])
  (by simp only [flat,List.flatMap_cons,List.flatMap_nil,List.append_nil,hcl]; exact eC _) hone (by intro j u hu; simpa using hu)
 refine ⟨id,hid, .pointer (some ⟨w.heap.size,0,none⟩),w.alloc (.cells z.cells t),μ',?_,hs.step h3 h2 h4 (by simp) (by simp [Rep,h1]; omega)⟩;unfold execOp;rw [hoo];simp [Instr.alloc,eh hz,newVar,newRow]
theorem sT {β:Type} (X:Nat×β→List Value) (sz:Nat):∀(ps:List (Nat×β)) (k:Nat) (l:List Value),ps.map (·.1)=List.range' k ps.length →
 (∀p∈ps,(X p).length=sz)→l.length=(k+ps.length)*sz→ps.foldl (fun l p=>bS l (p.1*sz) (X p)) l=l.take (k*sz)++ps.flatMap X
 | [],k,l,_,_,hl=>by
   simp only [List.length_nil,Nat.add_zero] at hl;simp [←hl]
 | p::ps,k,l,h,hX,hl=>by
   simp only [List.map_cons,List.length_cons,List.range'_succ,List.cons.injEq] at h;obtain ⟨h1,h2⟩:=h;have hp:=hX p (by simp);simp only [List.length_cons] at hl;have hle:k*sz+sz≤l.length:=by
    rw [hl,←Nat.add_one_mul]; exact Nat.mul_le_mul_right _ (by omega)
   simp only [List.foldl_cons,List.flatMap_cons];rw [sT X sz ps (k+1) _ h2 (fun q hq=>hX q (by simp [hq])) (by
    rw [jV _ _ _ (by rw [h1,hp]; exact hle),hl]; congr 1; omega)]
   rw [h1,bS,hp,Nat.add_one_mul];have e1:(l.take (k*sz)).length=k*sz:=by simp; omega
   have e2:k*sz+sz=(l.take (k*sz)++X p).length:=by rw [List.length_append,e1,hp]
   rw [e2,List.take_left];simp
theorem oe {F:Fr} {st:St} {a:Act} (hs:cN F μ st a w) {o:Oper} {t e:TypeId} {len:Nat} {parts:Array (Nat×Operand)} (hoo:o.op=.buildSlice t len parts)
 (ht:P.underlying t=some (.slice e)) {i:TypeInfo} {z:Value} (hz:zeroOf P e=some (i,z)) (hparts:parts.toList.map (·.1)=List.range len) (hlen:len*i.size≤16777216)
 (hx:∀x∈parts.toList.map (fun p=>(cx F.n p.2).ev st.s),x.cells.length=i.size∧x.stays=true) :
 ∃id,st.σ id=none∧∃x w' μ',(execOp a.eval o).run P w=.ok (.value x) w' ∧
  cN F μ' ⟨aV st.s (o.dst.filter (· < F.n)) (.own id 0 len),upd st.σ id ⟨e,i.size,parts.toList.map fun p=>(cx F.n p.2).ev st.s⟩⟩ (a.put o.dst x) w':=by
 obtain ⟨hi,hz0,hk,hzs,hone,hsz⟩:=eg hz;have hpos:=(dp hk).2.2;have hl:parts.toList.length=len:=by
  have:=congrArg List.length hparts;simpa using this
 have hX:∀p∈parts.toList,((cx F.n p.2).ev st.s).cells.length=i.size∧((cx F.n p.2).ev st.s).stays=true:=fun p hp=>hx _ (by
  simp only [List.mem_map]; exact ⟨p,hp,rfl⟩)
 have hXl:∀p∈parts.toList,(a.eval p.2).cells.toList.length=i.size:=fun p hp=>by
  rw [Array.length_toList,(ck hs p.2).iK (hX p hp).2,(hX p hp).1]
 have hzero:∃Z:Array Value,(len*i.size=0→Z=#[])∧(len*i.size≠0→Z=z.cells):=by
  by_cases h0:len*i.size=0
  ·exact ⟨#[],fun _=>rfl,fun h=>absurd h0 h⟩
  ·exact ⟨z.cells,fun h=>absurd h h0,fun _=>rfl⟩
 obtain ⟨Z,hZ0,hZ1⟩:=hzero;obtain ⟨cs,e1,e2,e3⟩:=l8 (fun k=>some (k*i.size,i.size)) ((parts.map fun (j,x)=>(j,a.eval x)).toList) ((Array.range (len*i.size)).map (Z[· % Z.size]!)) (by
  intro p hp;simp only [Array.toList_map,List.mem_map] at hp;obtain ⟨q,hq,rfl⟩:=hp;refine ⟨q.1*i.size,i.size,rfl,by simpa using hXl q hq,?_⟩;have:q.1∈List.range len:=by rw [←hparts]; exact List.mem_map.2 ⟨q,hq,rfl⟩
  simp only [List.mem_range] at this;simp only [Array.size_map,Array.size_range];rw [←Nat.add_one_mul];exact Nat.mul_le_mul_right _ this)
 have hcs:cs.toList=parts.toList.flatMap fun p=>(a.eval p.2).cells.toList:=by
  have e3':=e3;simp only [Array.toList_map,List.foldl_map,Option.map_some,Option.getD_some] at e3';rw [e3'];have:=sT (fun p:Nat×Operand=>(a.eval p.2).cells.toList) i.size parts.toList 0 ((Array.range (len*i.size)).map (Z[· % Z.size]!)).toList
   (by rw [hparts,hl]; exact List.range_eq_range') hXl (by simp [hl])
  simpa using this
 have hsize:cs.size=len*i.size:=by simpa using e2
 have hrep:∀(l:List (Nat×Operand)),(∀p∈l,((cx F.n p.2).ev st.s).stays=true)→au μ (aC μ st.σ) w (flat (l.map fun p=>(cx F.n p.2).ev st.s)) (l.flatMap fun p=>(a.eval p.2).cells.toList) ∧
  ∀u∈l.flatMap fun p=>(a.eval p.2).cells.toList,u.oneCell'=true:=by
  intro l
  induction l with
  | nil=>intro _; simp [flat,au]
  | cons p l ih =>
    intro h;obtain ⟨g1,g2⟩:=(ck hs p.2).cells (h p (by simp));obtain ⟨g3,g4⟩:=ih (fun q hq=>h q (by simp [hq]));refine ⟨?_,?_⟩
    ·simp only [flat,List.map_cons,List.flatMap_cons] at g3 ⊢;exact g1.append g3
    ·intro u hu;simp only [List.flatMap_cons,List.mem_append] at hu;rcases hu with hu | hu
     ·exact g2 u hu
     ·exact g4 u hu
 obtain ⟨r1,r2⟩:=hrep parts.toList (fun p hp=>(hX p hp).2);have hmax:len≤maxLen:=by
  have:len*1≤len*i.size:=Nat.mul_le_mul_left _ (by omega);simp only [maxLen]; omega
 obtain ⟨id,hid,μ',h1,h2,h3,h4⟩:=hs.sat.renew (row:=none) (World.grownBy_alloc w (.cells cs e) none) none (.inl rfl) w.heap.size i.size len cs e
  (parts.toList.map fun p=>(cx F.n p.2).ev st.s) cs.toList (.inr (Nat.le_refl _))
  (heap_alloc_new w _) (by omega) hsize (by simp [hl]) hmax (by intro r hr; simp only [List.mem_map] at hr; obtain ⟨p,hp,rfl⟩:=hr; exact (hX p hp).1)
  (by rw [hcs]; exact r1) (by rw [hcs]; exact r2) (by intro j u hu; simpa using hu)
 refine ⟨id,hid, .slice (some ⟨w.heap.size,0,none⟩) len len,w.alloc (.cells cs e),μ',?_,hs.step h3 h2 h4 (by simp) ?_⟩
 ·have e1':=e1;simp only [Array.toList_map] at e1';unfold execOp;rw [hoo];simp only [Instr.buildSlice,Sem.run_bind,run_underlying ht,Result.andThen_ok,bW hk,←hsz,Sem.run_ite];rw [if_neg (by omega)];by_cases h0:len*i.size=0
  ·rw [hZ0 h0] at e1';rw [if_pos h0];simp only [Sem.run_pure,Result.andThen_ok,Array.toList_map];rw [e1'];simp [newRow]
  ·rw [hZ1 h0] at e1';rw [if_neg h0];simp only [Sem.run_pure,Result.andThen_ok,Array.toList_map,eh hz];rw [e1'];simp [newRow]
 ·simp only [Rep,h1];exact ⟨0,len,rfl,Nat.le_refl _,by omega, .inl (by omega),by omega⟩
theorem iY (z:Array Value) (n:Nat):(Builtin.zeroCells z n).toList=(List.replicate n z.toList).flatten:=by
 induction n with
 | zero=>simp [Builtin.zeroCells]
 | succ n ih =>
   rw [List.replicate_succ',List.flatten_append,←ih];simp only [Builtin.zeroCells,Array.toList_map,Array.toList_range];rw [Nat.add_mul,Nat.one_mul,List.range_add,List.map_append,List.map_map];congr 1;simp only [List.flatten_cons,List.flatten_nil,List.append_nil];apply List.ext_getElem
   ·simp
   ·intro i h1 h2;simp only [List.length_map,List.length_range] at h1;simp [Nat.add_mod,Nat.mul_mod_left,Nat.mod_eq_of_lt h1,getElem!_pos,h1]
theorem rT (z:V) (n:Nat):flat (List.replicate n z)=(List.replicate n z.cells).flatten:=by
 simp [flat,List.flatMap]
theorem zA {F:Fr} {st:St} {a:Act} (hs:cN F μ st a w) {o:Oper} {t e:TypeId} {l c:Operand} (hoo:o.op=.makeSlice t l c) (heq:rb l c=true)
 (ht:P.underlying t=some (.slice e)) {i:TypeInfo} {z:Value} (hz:zeroOf P e=some (i,z)) {m:Int} (hm:(cx F.n l).ev st.s=.int .i64 m) (h0:0≤m)
 (hb:m.toNat*(i.bytes+1)≤140737488355328) :
 ∃id,st.σ id=none∧∃x w' μ',(execOp a.eval o).run P w=.ok (.value x) w' ∧
  cN F μ' ⟨aV st.s (o.dst.filter (· < F.n)) (.own id 0 m.toNat),upd st.σ id ⟨e,i.size,List.replicate m.toNat (ofValue z)⟩⟩ (a.put o.dst x) w':=by
 obtain ⟨hi,hz0,hk,hzs,hone,hsz⟩:=eg hz;have hpos:=(dp hk).2.2;have hcl:=fO hone;obtain ⟨k,rfl⟩:∃k:Nat,m=k:=⟨m.toNat,by omega⟩
 simp only [Int.toNat_natCast] at hb ⊢;have hel:a.eval l=.int .i64 k:=by
  have:=ck hs l;rw [hm] at this;simpa [Rep] using this
 have hec:a.eval c=.int .i64 k:=by
  have:a.eval c=a.eval l:=by
   cases l <;> cases c <;> simp only [rb,Bool.false_eq_true] at heq
   case tmp.tmp x y =>
    have:x=y:=by simpa using heq
    rw [this]
   case const.const x y =>
    split at heq
    ·rename_i k1 a1 k2 b1 _ _;have:=of_decide_eq_true heq;rename_i e1 e2;simp_all
    ·simp_all
    ·cases heq
  rw [this,hel]
 have hkb:k*i.bytes≤140737488355328:=Nat.le_trans (Nat.mul_le_mul_left _ (by omega)) hb;have hk1:k≤140737488355328:=Nat.le_trans (Nat.le_mul_of_pos_right _ (by omega)) hb;have hrun:=run_make (P:=P) w t e i z ht hi hz0 .i64 .i64 k k (by omega) (by omega) (by
  have:((k*i.bytes:Nat):Int)≤140737488355328:=by omega
  rw [Int.natCast_mul] at this;rw [Int.mul_comm]; omega) (by omega)
 have hmade:madeCells z.cells (k*i.size)=Builtin.zeroCells z.cells k:=by rw [madeCells,Builtin.zeroCells,hzs]
 simp only [Int.toNat_natCast] at hrun;rw [hmade] at hrun;have hl:=iY z.cells k;have hrep:∀n,au μ (aC μ st.σ) w (flat (List.replicate n (ofValue z))) (List.replicate n z.cells.toList).flatten:=by
  intro n
  induction n with
  | zero=>simp [flat,au]
  | succ n ih =>
    simp only [List.replicate_succ,flat,List.flatMap_cons,List.flatten_cons] at ih ⊢;refine au.append ?_ ih;rw [hcl];exact eC _
 obtain ⟨id,hid,μ',h1,h2,h3,h4⟩:=hs.sat.renew (row:=none) (World.grownBy_alloc w (.cells (Builtin.zeroCells z.cells k) e) none) none (.inl rfl) w.heap.size i.size k (Builtin.zeroCells z.cells k) e
  (List.replicate k (ofValue z)) (Builtin.zeroCells z.cells k).toList (.inr (Nat.le_refl _))
  (heap_alloc_new w _) (by omega) (by rw [size_zeroCells,hzs]) (by simp) (by simp only [maxLen]; omega) (by
    intro r hr;rw [(List.mem_replicate.1 hr).2,hcl];simp [hzs])
  (by rw [hl]; exact hrep k) (by
    rw [hl];intro u hu;simp only [List.mem_flatten,List.mem_replicate] at hu;obtain ⟨l',⟨_,rfl⟩,hu⟩:=hu;exact hone u hu) (by intro j u hu; simpa using hu)
 refine ⟨id,hid, .slice (some ⟨w.heap.size,0,none⟩) k k,w.alloc (.cells (Builtin.zeroCells z.cells k) e),μ',?_,hs.step h3 h2 h4 (by simp) ?_⟩
 ·unfold execOp;rw [hoo];simp only [hel,hec];simp [hrun]
 ·simp only [Rep,h1];exact ⟨0,k,rfl,Nat.le_refl _,by omega, .inl (by omega),by omega⟩
variable {P:Program} {μ:Mu} {ow:Nat→Prop} {w w':World}
def bK (σ:af) (sz:Nat):V→Option (List V)
 | .own id off len=>match σ id with
    | some ob=>if ob.sz=sz∧off+len≤ob.rows.length then some ((ob.rows.drop off).take len) else none
    | none=>none
 | .sl sz' rows=>if sz'=sz then some rows else none
 | .aD=>some []
 | .str s=>if sz=1 then some (s.map fun b=>.int .u8 b.toNat) else none
 | _=>none
def bR (σ:af) (e:TypeId) (sz:Nat):V→Option (List V×Option Nat)
 | .own id off len=>match σ id with
    | some ob=>if ob.sz=sz∧ob.elem=e∧off=0∧len≤ob.rows.length then some (ob.rows.take len,some id) else none
    | none=>none
 | .aD=>some ([],none)
 | _=>none
theorem mW {w0:World} {ow0:Nat→Prop} {σ:af} (hsat:Sat w0 ow0 μ σ w) {sz:Nat} (hsz:0 < sz) {v:V} {x:Value} {rows:List V} (h:bK σ sz v=some rows)
 (hx:Rep μ (aC μ σ) w v x):∃news,(∀w':World,(Builtin.lenOf x).run P w'=.ok rows.length w')∧(∀r∈rows,r.cells.length=sz)∧au μ (aC μ σ) w (flat rows) news∧(∀u∈news,u.oneCell'=true) ∧
   news.length=rows.length*sz∧∀w',(∀b off u,w.cell? ⟨b,off,none⟩=some u→w'.cell? ⟨b,off,none⟩=some u)→(Builtin.firstCells sz rows.length x).run P w'=.ok news.toArray w':=by
 have hmk:∀(rs:List V) (b off:Nat) (c:Nat),aX μ (aC μ σ) w rs b off sz→x=.slice (some ⟨b,off,none⟩) rs.length c→rs=rows →
  ∃news,(∀w':World,(Builtin.lenOf x).run P w'=.ok rows.length w')∧(∀r∈rows,r.cells.length=sz)∧au μ (aC μ σ) w (flat rows) news∧(∀u∈news,u.oneCell'=true) ∧
  news.length=rows.length*sz∧∀w',(∀b off u,w.cell? ⟨b,off,none⟩=some u→w'.cell? ⟨b,off,none⟩=some u)→(Builtin.firstCells sz rows.length x).run P w'=.ok news.toArray w':=by
  rintro rs b off c hr rfl rfl;rw [iq] at hr;obtain ⟨h1,h2⟩:=hr;obtain ⟨news,h3,h4,h5⟩:=h2.BX;have hl:news.length=rs.length*sz:=by rw [h3.length,pG h1]
  refine ⟨news,fun _=>rfl,h1,h3,h4,hl,fun w' hw'=>?_⟩;exact run_firstCells_some (P:=P) w' sz rs.length ⟨b,off,none⟩ rs.length c news hl (fun j v hv=>by rw [fC]; exact hw' _ _ _ (h5 j v hv))
 have hnil:∀(a:Option Addr) (c:Nat),x=.slice a 0 c→rows=[] →
  ∃news,(∀w':World,(Builtin.lenOf x).run P w'=.ok rows.length w')∧(∀r∈rows,r.cells.length=sz)∧au μ (aC μ σ) w (flat rows) news∧(∀u∈news,u.oneCell'=true) ∧
  news.length=rows.length*sz∧∀w',(∀b off u,w.cell? ⟨b,off,none⟩=some u→w'.cell? ⟨b,off,none⟩=some u)→(Builtin.firstCells sz rows.length x).run P w'=.ok news.toArray w':=by
  rintro a c rfl rfl;refine ⟨[],fun _=>rfl,by simp,by simp [flat,au],by simp,by simp,fun w' _=>?_⟩;cases a <;> simp [Builtin.firstCells,loadCells,loadCellsFrom]
 unfold bK at h;split at h
 ·rename_i id off len;split at h
  ·rename_i ob hob;split at h
   ·rename_i hc;simp only [Oi] at h;simp only [Rep] at hx;have hobat:=hsat.obj id ob hob;have hlen:rows.length=len:=by rw [←h]; simp; omega
    split at hx
    ·exact hx.elim
    ·obtain ⟨rfl,rfl,rfl⟩:=hx;exact hnil none 0 rfl (by rw [←h]; simp)
    ·rename_i b szb cap hid;obtain ⟨o,c,rfl,hc1,hc2,hc3,hz⟩:=hx;by_cases h0:len=0
     ·subst h0;exact hnil _ c rfl (List.eq_nil_of_length_eq_zero hlen)
     ·rw [hid] at hobat;obtain ⟨g1,g2,g3,g4,g5⟩:=hobat.rows hz;have ho:o=off*szb:=by
       rcases hc3 with hc3 | hc3
       ·exact hc3
       ·omega
      subst ho;have hs:szb=sz:=by omega
      subst hs;have:=(g5.drop off).take len;rw [Nat.zero_add] at this;exact hmk _ b _ c this (by rw [h,hlen]) h
   ·cases h
  ·cases h
 ·rename_i sz' rows';split at h
  ·rename_i hsz';subst hsz';simp only [Oi] at h;subst h;simp only [Rep] at hx;obtain ⟨a,cap,rfl,hl,hr⟩:=hx;rcases hr with rfl | ⟨b,off,rfl,hb,hs,hr⟩
   ·exact hnil a cap rfl rfl
   ·exact hmk rows' b off cap hr rfl rfl
  ·cases h
 ·simp only [Oi] at h;subst h;simp only [Rep] at hx;exact hnil none 0 hx rfl
 ·rename_i s;split at h
  ·rename_i h1;simp only [Oi] at h;subst h h1;simp only [Rep] at hx;subst hx;have hmap:∀l:List UInt8,au μ (aC μ σ) w (flat (l.map fun b=>V.int .u8 b.toNat)) (l.map fun b=>Value.int .u8 b.toNat):=by
    intro l
    induction l with
    | nil=>simp [flat,au]
    | cons b l ih=>simp only [flat,List.map_cons,List.flatMap_cons,V.cells,List.singleton_append,au] at ih ⊢; exact ⟨_,_,rfl,by simp [Rep],ih⟩
   refine ⟨s.map fun b=>Value.int .u8 b.toNat,fun _=>by simp [Builtin.lenOf,ByteArray.size],by simp [V.cells],hmap s,by simp [Value.oneCell'],by simp,fun w' _=>?_⟩;have:=Lib.run_firstCells_string (P:=P) w' 1 ⟨s.toArray⟩;simpa [ByteArray.size,Lib.strCells] using this
  ·cases h
 ·cases h
theorem qL (t t' ty e:TypeId) (i:TypeInfo) (ht:P.underlying t=some (.slice e)) (ht':t'=t∨P.underlying t'=some .string) (hi:P.info? e=some i)
 (b sLen sCap:Nat) (cur:Array Value) (hg:w.heap[b]?=some (.cells cur e (0,0))) (Y:Value) (n:Nat) (news:List Value) (hl:(Builtin.lenOf Y).run P w=.ok n w)
 (hf:(Builtin.firstCells i.size n Y).run P w=.ok news.toArray w) (h1:∀u∈news,u.oneCell'=true)
 (hroom:sLen+n≤sCap) (hfit:sLen*i.size+news.length≤cur.size) :
 (Builtin.append_ #[t,t'] ty #[.slice (some ⟨b,0,none⟩) sLen sCap,Y]).run P w =
   .ok (.slice (some ⟨b,0,none⟩) (sLen+n) sCap) (w.setRow b (cur.toList.take (sLen*i.size)++news++cur.toList.drop (sLen*i.size+news.length)).toArray):=by
 have hst:=run_storeCells_at P b (sLen*i.size) e news 0 cur w hg (by simpa using hfit) h1;simp only [Nat.add_zero] at hst;rcases ht' with rfl | ht'
 ·simp [Builtin.append_,run_underlying ht,sizeOf,typeInfo,hi,hl,hroom,hf,Addr.add_lit,hst]
 ·simp [Builtin.append_,run_underlying ht,run_underlying ht',sizeOf,typeInfo,hi,hl,hroom,hf,Addr.add_lit,hst]
theorem tP (t t' ty e:TypeId) (i:TypeInfo) (z:Value) (ht:P.underlying t=some (.slice e)) (ht':t'=t∨P.underlying t'=some .string) (hi:P.info? e=some i) (hz:i.zero=some z)
 (ba:Option Addr) (sLen sCap:Nat) (olds:List Value) (hfo:(Builtin.firstCells i.size sLen (.slice ba sLen sCap)).run P w.drew=.ok olds.toArray w.drew)
 (Y:Value) (n:Nat) (news:List Value) (hl:(Builtin.lenOf Y).run P w=.ok n w) (hf:(Builtin.firstCells i.size n Y).run P w.drew=.ok news.toArray w.drew)
 (hg:sCap < sLen+n) (h63:((sLen+n:Nat):Int)≤9223372036854775807) (hfit:Builtin.nextslicecap (sLen+n) sCap*i.bytes≤281474976710656) :
 (Builtin.append_ #[t,t'] ty #[.slice ba sLen sCap,Y]).run P w =
   .ok (.slice (some ⟨w.heap.size,0,none⟩) (sLen+n) (grownCap w (sLen+n) sCap e))
    (w.drew.alloc (.cells (olds.toArray++news.toArray++Builtin.zeroCells z.cells (grownCap w (sLen+n) sCap e - (sLen+n))) e)):=by
 have hn:¬(sLen+n≤sCap):=by omega
 have h63':¬(9223372036854775807 < ((sLen:Int)+(n:Int))):=by omega
 have h48':¬(281474976710656 < Builtin.nextslicecap (sLen+n) sCap*i.bytes):=by omega
 rcases ht' with rfl | ht'
 ·simp [Builtin.append_,run_underlying ht,sizeOf,typeInfo,zeroValue,hi,hz,hl,hn,h63',h48',Question.forced,hf,hfo,newRow,grownCap];congr 2;apply Array.ext';simp [List.append_assoc]
 ·simp [Builtin.append_,run_underlying ht,run_underlying ht',sizeOf,typeInfo,zeroValue,hi,hz,hl,hn,h63',h48',Question.forced,hf,hfo,newRow,grownCap];congr 2;apply Array.ext';simp [List.append_assoc]
theorem o9 {rows:List V} {sz:Nat} (h:∀r∈rows,r.cells.length=sz) (k:Nat):flat (rows.take k)=(flat rows).take (k*sz):=by
 induction rows generalizing k with
 | nil=>simp [flat]
 | cons r rs ih =>
   have e:∀l,flat (r::l)=r.cells++flat l:=fun l=>by simp [flat]
   cases k with
   | zero=>simp [flat]
   | succ k =>
     rw [List.take_succ_cons,e,e,ih (fun x hx=>h x (by simp [hx])),Nat.add_mul,Nat.one_mul,Nat.add_comm,←h r (by simp),List.take_length_add_append]
theorem nP {F:Fr} {st:St} {a:Act} (hs:cN F μ st a w) {o:Oper} {t t' e:TypeId} {x y:Operand} {args:Array Operand} {argTypes:Array TypeId}
 (hoo:o.op=.call { callee:=.builtin .append,args:=args,argTypes:=argTypes }) (hargs:args=#[x,y]) (hty:argTypes=#[t,t']) (ht':t'=t∨P.underlying t'=some .string) (ht:P.underlying t=some (.slice e))
 {i:TypeInfo} {z:Value} (hz:zeroOf P e=some (i,z)) {base src:List V} {idA:Option Nat}
 (hd:bR st.σ e i.size ((cx F.n x).ev st.s)=some (base,idA)) (hsrc:bK st.σ i.size ((cx F.n y).ev st.s)=some src)
 (hbytes:(base.length+src.length)*(i.bytes+1)≤140737488355328) :
 ∃id,st.σ id=none∧∃r w' μ',(execOp a.eval o).run P w=.ok (.value r) w' ∧
  cN F μ' ⟨aV st.s (o.dst.filter (· < F.n)) (.own id 0 (base.length+src.length)),upd (bz st.σ idA) id ⟨e,i.size,base++src⟩⟩ (a.put o.dst r) w':=by
 obtain ⟨hi,hz0,hk,hzs,hone,hszc⟩:=eg hz;have hpos:0 < i.size:=by rw [hszc]; exact (dp hk).2.2
 have hbytes1:(base.length+src.length)*i.bytes≤140737488355328:=Nat.le_trans (Nat.mul_le_mul_left _ (by omega)) hbytes;have hbytes2:base.length+src.length≤140737488355328:=Nat.le_trans (Nat.le_mul_of_pos_right _ (by omega)) hbytes;obtain ⟨news,hY,n1,n2,n3,n4,n5⟩:=mW (P:=P) hs.sat hpos hsrc (ck hs y);have hexec:∀r w',(Builtin.append_ #[t,t'] o.type #[a.eval x,a.eval y]).run P w=.ok r w'→(execOp a.eval o).run P w=.ok (.value r) w':=by
  intro r w' h;unfold execOp;rw [hoo];subst hargs hty;simp [resolve,invoke,Go.builtin,h]
 have hdrew:∀b off u,w.cell? ⟨b,off,none⟩=some u→w.drew.cell? ⟨b,off,none⟩=some u:=fun _ _ _ h=>h;have h63:base.length+src.length≤maxLen:=by simp only [maxLen]; omega
 have h63':((base.length+src.length:Nat):Int)≤9223372036854775807:=by omega
 have hnew:∀(idA:Option Nat) (ba:Option Addr) (old:Nat) (olds:List Value),old < base.length+src.length→a.eval x=.slice ba base.length old →
  (Builtin.firstCells i.size base.length (.slice ba base.length old)).run P w.drew=.ok olds.toArray w.drew→olds.length=base.length*i.size →
  (∀r∈base,r.cells.length=i.size)→au μ (aC μ st.σ) w (flat base) olds→(∀u∈olds,u.oneCell'=true) →
  ∃id,st.σ id=none∧∃r w' μ',(execOp a.eval o).run P w=.ok (.value r) w' ∧
   cN F μ' ⟨aV st.s (o.dst.filter (· < F.n)) (.own id 0 (base.length+src.length)),upd (bz st.σ idA) id ⟨e,i.size,base++src⟩⟩ (a.put o.dst r) w':=by
  intro idA ba old olds hold hX hfo hol hb1 hb2 hb3;have hrun:=tP (P:=P) (w:=w) t t' o.type e i z ht ht' hi hz0 ba base.length old olds hfo (a.eval y) src.length news (hY w) (n5 w.drew hdrew) hold h63' (growslice_fits hold hbytes1);rw [←hX] at hrun;have hge:=grownCap_ge w (base.length+src.length) old e;have hle:=grownCap_le_maxLen w (base.length+src.length) old e h63;have hlen2:(olds.toArray++news.toArray++Builtin.zeroCells z.cells (grownCap w (base.length+src.length) old e - (base.length+src.length))).size=grownCap w (base.length+src.length) old e*i.size:=by
   simp only [Array.size_append,List.size_toArray,size_zeroCells,hzs,hol,n4,←Nat.add_mul];congr 1;omega
  obtain ⟨id,hid,μ',g1,g2,g3,g4⟩:=hs.sat.renew (row:=none)
   (w':=w.drew.alloc (.cells (olds.toArray++news.toArray++Builtin.zeroCells z.cells (grownCap w (base.length+src.length) old e - (base.length+src.length))) e))
   ⟨rfl,rfl,rfl,by simp,fun k hk _=>heap_alloc_old w.drew _ k hk⟩ idA (.inl rfl) w.heap.size i.size (grownCap w (base.length+src.length) old e) _ e (base++src) (olds++news)
   (.inr (Nat.le_refl _)) (heap_alloc_new w.drew _) hpos hlen2 (by simpa using hge) hle
   (by intro r hr; rcases List.mem_append.1 hr with hr | hr; exact hb1 r hr; exact n1 r hr) (by rw [gi]; exact hb2.append n2)
   (by intro u hu; rcases List.mem_append.1 hu with hu | hu; exact hb3 u hu; exact n3 u hu)
   (by intro j u hu
       have hj:=(List.getElem?_eq_some_iff.1 hu).1;rw [←Array.getElem?_toList];simp only [Array.toList_append];rw [List.getElem?_append_left (by simpa using hj)];exact hu)
  refine ⟨id,hid,_,_,μ',hexec _ _ hrun,hs.step g3 g2 g4 (by simp) ?_⟩;simp only [Rep,g1];exact ⟨0,_,rfl,hge,by omega, .inl (by omega),by omega⟩
 have hnil:a.eval x=.slice none 0 0→base=[]→∃id,st.σ id=none∧∃r w' μ',(execOp a.eval o).run P w=.ok (.value r) w' ∧
  cN F μ' ⟨aV st.s (o.dst.filter (· < F.n)) (.own id 0 (base.length+src.length)),upd (bz st.σ idA) id ⟨e,i.size,base++src⟩⟩ (a.put o.dst r) w':=by
  rintro hX rfl;by_cases h0:src.length=0
  ·have hsrc0:src=[]:=List.eq_nil_of_length_eq_zero h0;subst hsrc0;obtain ⟨id,hid,μ',g1,g2,g3,g4⟩:=hs.sat.E2 idA e i.size;have hf:=n5 w (fun _ _ _ h=>h);refine ⟨id,hid, .slice none 0 0,w,μ',hexec _ _ ?_,hs.step g3 g2 g4 (Nat.le_refl _) (by simp [Rep,g1])⟩;rw [hX];have hl:=hY w;simp only [List.length_nil] at hf hl ⊢;rcases ht' with rfl | ht'
   ·simp [Builtin.append_,run_underlying ht,sizeOf,typeInfo,hi,hl,hf]
   ·simp [Builtin.append_,run_underlying ht,run_underlying ht',sizeOf,typeInfo,hi,hl,hf]
  ·exact hnew idA none 0 [] (by simp; omega) hX (by simp [Builtin.firstCells]) (by simp) (by simp) (by simp [flat,au]) (by simp)
 have hx:=ck hs x;unfold bR at hd;split at hd
 ·rename_i id off len hxv;rw [hxv] at hx;split at hd
  ·rename_i ob hob;split at hd
   ·rename_i hc;obtain ⟨c1,c2,rfl,c4⟩:=hc;simp only [Oi,Prod.mk.injEq] at hd;obtain ⟨rfl,rfl⟩:=hd;have hobat:=hs.sat.obj id ob hob;simp only [Rep] at hx;split at hx
    ·exact hx.elim
    ·rename_i hid;obtain ⟨hX,_,rfl⟩:=hx;exact hnil hX (by simp)
    ·rename_i b szb cap hid;obtain ⟨off',c,hX,hc1,hc2,hc3,hz⟩:=hx;have ho:off'=0:=by
      rcases hc3 with hc3 | hc3
      ·simpa using hc3
      ·exact absurd rfl hc3.2
     subst ho;rw [hid] at hobat;obtain ⟨cur,e1,e2,e3,e4,e5,e6,e7⟩:=hobat.plain hz;obtain ⟨q1,xs,q2,q3,q4,q5⟩:=e7.cur e1;rw [c2] at e1;have hszb:szb=i.size:=by omega
     subst hszb;have hbl:(ob.rows.take len).length=len:=by simp; omega
     have holen:(xs.take (len*i.size)).length=len*i.size:=by
      rw [List.length_take,q4];exact Nat.min_eq_left (Nat.mul_le_mul_right _ c4)
     have hb1:∀r∈ob.rows.take len,r.cells.length=i.size:=fun r hr=>q1 r (List.mem_of_mem_take hr);have hb2:au μ (aC μ st.σ) w (flat (ob.rows.take len)) (xs.take (len*i.size)):=by rw [o9 q1]; exact q2.take _
     have hb3:∀u∈xs.take (len*i.size),u.oneCell'=true:=fun u hu=>q3 u (List.mem_of_mem_take hu);have hpre:∀(j:Nat) u,(xs.take (len*i.size))[j]?=some u→cur.toList[j]?=some u:=by
      intro j u hu;rw [List.getElem?_take] at hu;split at hu
      ·exact q5 j u hu
      ·cases hu
     by_cases hroom:len+src.length≤c
     ·have hcap:len+src.length≤cap:=by omega
      have hfit:len*i.size+news.length≤cur.size:=by rw [n4,e4,←Nat.add_mul]; exact Nat.mul_le_mul_right _ hcap
      have hf:=n5 w (fun _ _ _ h=>h);have hrun:=qL (P:=P) (w:=w) t t' o.type e i ht ht' hi b len c cur e1 (a.eval y) src.length news (hY w) hf n3 hroom hfit;rw [←hX] at hrun;obtain ⟨id',hid',μ',g1,g2,g3,g4⟩:=hs.sat.renew (row:=some b)
       (w':=w.setRow b (cur.toList.take (len*i.size)++news++cur.toList.drop (len*i.size+news.length)).toArray)
       ⟨rfl,rfl,rfl,by simp,fun k hk hkk=>setRow_other w b k _ (fun e=>hkk (by rw [e]))⟩ (some id) (.inr ⟨id,ob,i.size,cap,b,rfl,hob,hid,rfl⟩) b i.size cap _ e (ob.rows.take len++src)
       (xs.take (len*i.size)++news) (.inl rfl) (setRow_heap w b cur _ e _ e1) e3
       (by simp only [List.size_toArray,List.length_append,List.length_take,List.length_drop,Array.length_toList]; omega) (by rw [List.length_append,hbl]; exact hcap) e6
       (by intro r hr; rcases List.mem_append.1 hr with hr | hr; exact hb1 r hr; exact n1 r hr) (by rw [gi]; exact hb2.append n2)
       (by intro u hu; rcases List.mem_append.1 hu with hu | hu; exact hb3 u hu; exact n3 u hu)
       (by intro j u hu
           have hj:=(List.getElem?_eq_some_iff.1 hu).1;have htake:cur.toList.take (len*i.size)=xs.take (len*i.size):=by
            apply List.ext_getElem?;intro k;by_cases hk:k < len*i.size
            ·have hkx:k < (xs.take (len*i.size)).length:=by omega
             rw [List.getElem?_eq_getElem hkx,List.getElem?_take_of_lt hk];exact hpre k _ (List.getElem?_eq_getElem hkx)
            ·rw [List.getElem?_eq_none (by simp; omega),List.getElem?_eq_none (by omega)]
           rw [←Array.getElem?_toList];simp only [];rw [htake,List.getElem?_append_left (by simpa using hj)];exact hu)
      rw [hbl];refine ⟨id',hid',_,_,μ',hexec _ _ hrun,hs.step g3 g2 g4 (by simp) ?_⟩;simp only [Rep,g1];exact ⟨0,c,rfl,hroom,by omega, .inl (by omega),by omega⟩
     ·refine hnew (some id) (some ⟨b,0,none⟩) c (xs.take (len*i.size)) (by rw [hbl]; omega) (by rw [hbl]; exact hX) ?_ (by rw [hbl]; exact holen) hb1 hb2 hb3;rw [hbl];refine run_firstCells_some (P:=P) w.drew i.size len ⟨b,0,none⟩ len c _ holen (fun j u hu=>?_);rw [fC,Nat.zero_add,World.cell?_drew,cell_of_row w b j cur e (0,0) e1];simpa using hpre j u hu
   ·cases hd
  ·cases hd
 ·rename_i hxv;rw [hxv] at hx;simp only [Oi,Prod.mk.injEq] at hd;obtain ⟨rfl,rfl⟩:=hd;simp only [Rep] at hx;exact hnil hx rfl
 ·cases hd
theorem sI {F:Fr} {st:St} {a:Act} (hs:cN F μ st a w) {o:Oper} {t tn e:TypeId} {kn:IntKind} {x y:Operand} {args:Array Operand} {argTypes:Array TypeId}
 (hoo:o.op=.call { callee:=.builtin .append,args:=args,argTypes:=argTypes }) (hargs:args=#[x,y]) (hty:argTypes=#[t,tn]) (ht:P.underlying t=some (.slice e)) (htn:P.underlying tn=some (.int kn))
 {i:TypeInfo} {z:Value} (hz:zeroOf P e=some (i,z)) (hx:(cx F.n x).ev st.s=.aD) {kq:IntKind} {m:Int} (hm:(cx F.n y).ev st.s=.int kq m) (h0:0 < m)
 (hb:m.toNat*(i.bytes+1)≤140737488355328) :
 ∃id,st.σ id=none∧∃r w' μ',(execOp a.eval o).run P w=.ok (.value r) w' ∧
  cN F μ' ⟨aV st.s (o.dst.filter (· < F.n)) (.own id 0 m.toNat),upd st.σ id ⟨e,i.size,List.replicate m.toNat (ofValue z)⟩⟩ (a.put o.dst r) w':=by
 obtain ⟨hi,hz0,hk,hzs,hone,hszc⟩:=eg hz;have hpos:0 < i.size:=by rw [hszc]; exact (dp hk).2.2
 have hcl:=fO hone;obtain ⟨k,rfl⟩:∃k:Nat,m=k:=⟨m.toNat,by omega⟩
 simp only [Int.toNat_natCast] at hb ⊢;have hkb:k*i.bytes≤140737488355328:=Nat.le_trans (Nat.mul_le_mul_left _ (by omega)) hb;have hk1:k≤140737488355328:=Nat.le_trans (Nat.le_mul_of_pos_right _ (by omega)) hb;have hX:a.eval x=.slice none 0 0:=by
  have:=ck hs x;rw [hx] at this;simpa [Rep] using this
 have hY:a.eval y=.int kq k:=by
  have:=ck hs y;rw [hm] at this;simpa [Rep] using this
 have hrun:=Lib.run_append_grow_zeros (P:=P) w t tn o.type e i z kq kn ht htn hi hz0 none 0 0 [] (run_firstCells_none w.drew i.size 0 0 0) k (by omega) hpos (by omega) (by omega) (by omega)
  (growslice_fits (by omega) (by rw [Nat.zero_add]; exact hkb))
 rw [←hX,←hY,Nat.zero_add] at hrun;have hge:=grownCap_ge w k 0 e;have hle:=grownCap_le_maxLen w k 0 e (by simp only [maxLen]; omega);have hl:=iY z.cells k;have hrep:∀n,au μ (aC μ st.σ) w (flat (List.replicate n (ofValue z))) (List.replicate n z.cells.toList).flatten:=by
  intro n
  induction n with
  | zero=>simp [flat,au]
  | succ n ih =>
    simp only [List.replicate_succ,flat,List.flatMap_cons,List.flatten_cons] at ih ⊢;refine au.append ?_ ih;rw [hcl];exact eC _
 obtain ⟨id,hid,μ',g1,g2,g3,g4⟩:=hs.sat.renew (row:=none)
  (w':=w.drew.alloc (.cells (([]:List Value).toArray++Builtin.zeroCells z.cells k++Builtin.zeroCells z.cells (grownCap w k 0 e - k)) e))
  ⟨rfl,rfl,rfl,by simp,fun k hk _=>heap_alloc_old w.drew _ k hk⟩ none (.inl rfl) w.heap.size i.size (grownCap w k 0 e) _ e (List.replicate k (ofValue z)) (Builtin.zeroCells z.cells k).toList
  (.inr (Nat.le_refl _)) (heap_alloc_new w.drew _) hpos (by
    simp only [Array.size_append,List.size_toArray,size_zeroCells,hzs,List.length_nil,Nat.zero_add,←Nat.add_mul];congr 1;omega) (by simpa using hge) hle
  (by
    intro r hr;rw [(List.mem_replicate.1 hr).2,hcl];simp [hzs]) (by rw [hl]; exact hrep k)
  (by
    rw [hl];intro u hu;simp only [List.mem_flatten,List.mem_replicate] at hu;obtain ⟨l',⟨_,rfl⟩,hu⟩:=hu;exact hone u hu)
  (by
    intro j u hu;have hj:=(List.getElem?_eq_some_iff.1 hu).1;rw [←Array.getElem?_toList];simp only [Array.toList_append,List.nil_append];rw [List.getElem?_append_left hj];exact hu)
 refine ⟨id,hid, .slice (some ⟨w.heap.size,0,none⟩) k (grownCap w k 0 e),_,μ',?_,hs.step g3 g2 g4 (by simp) ?_⟩
 ·unfold execOp;rw [hoo];subst hargs hty;simp [resolve,invoke,Go.builtin,hrun]
 ·simp only [Rep,g1];exact ⟨0,_,rfl,hge,by omega, .inl (by omega),by omega⟩
end Go.Vc
