/- Part 1 of the library of this proof. -/
import Derived.Test.YtmkknagmafmcpaaGreatDoorRows
import Derived.Handed
import Derived.LaidLaws
import Derived.LaidHandle
import Derived.KernelRfl
import Derived.Test.YtmkknagmafmcpaaGreatDoorProg
import Derived.Lib.LaidTab
import Derived.Lib.ItoaNum
set_option linter.all false
set_option maxHeartbeats 8000000
open Go.Proofs.Tryz
namespace Go.Proofs.YtmkknagmafmcpaaGreatDoor
def own:ownKnob prog.godebug=none:=by kernel_rfl
noncomputable def low:Nat:=(World.holding prog default ⟨#[],#[],[]⟩).heap.size
def Mx:Array Value:=#[.int .u8 0,.int .u8 1,.int .u8 28,.int .u8 2,.int .u8 29,.int .u8 14,.int .u8 24,.int .u8 3,.int .u8 30,.int .u8 22,.int .u8 20,.int .u8 15,.int .u8 25,.int .u8 17,.int .u8 4,.int .u8 8,.int .u8 31,.int .u8 27,.int .u8 13,.int .u8 23,.int .u8 21,.int .u8 19,.int .u8 16,.int .u8 7,.int .u8 26,.int .u8 12,.int .u8 18,.int .u8 6,.int .u8 11,.int .u8 5,.int .u8 10,.int .u8 9]
def MD:Array Value:=#[.int .u8 0,.int .u8 1,.int .u8 56,.int .u8 2,.int .u8 57,.int .u8 49,.int .u8 28,.int .u8 3,.int .u8 61,.int .u8 58,.int .u8 42,.int .u8 50,.int .u8 38,.int .u8 29,.int .u8 17,.int .u8 4,.int .u8 62,.int .u8 47,.int .u8 59,.int .u8 36,.int .u8 45,.int .u8 43,.int .u8 51,.int .u8 22,.int .u8 53,.int .u8 39,.int .u8 33,.int .u8 30,.int .u8 24,.int .u8 18,.int .u8 12,.int .u8 5,.int .u8 63,.int .u8 55,.int .u8 48,.int .u8 27,.int .u8 60,.int .u8 41,.int .u8 37,.int .u8 16,.int .u8 46,.int .u8 35,.int .u8 44,.int .u8 21,.int .u8 52,.int .u8 32,.int .u8 23,.int .u8 11,.int .u8 54,.int .u8 26,.int .u8 40,.int .u8 15,.int .u8 34,.int .u8 20,.int .u8 31,.int .u8 10,.int .u8 25,.int .u8 14,.int .u8 19,.int .u8 9,.int .u8 13,.int .u8 8,.int .u8 7,.int .u8 6]
def Mf:Array Value:=#[.int .u64 1,.int .u64 10,.int .u64 100,.int .u64 1000,.int .u64 10000,.int .u64 100000,.int .u64 1000000,.int .u64 10000000,.int .u64 100000000,.int .u64 1000000000,.int .u64 10000000000,.int .u64 100000000000,.int .u64 1000000000000,.int .u64 10000000000000,.int .u64 100000000000000,.int .u64 1000000000000000,.int .u64 10000000000000000,.int .u64 100000000000000000,.int .u64 1000000000000000000,.int .u64 10000000000000000000]
def MF:Array Value:=#[.int .u8 128,.int .u8 191,.int .u8 160,.int .u8 191,.int .u8 128,.int .u8 159,.int .u8 144,.int .u8 191,.int .u8 128,.int .u8 143,.int .u8 0,.int .u8 0,.int .u8 0,.int .u8 0,.int .u8 0,.int .u8 0,.int .u8 0,.int .u8 0,.int .u8 0,.int .u8 0,.int .u8 0,.int .u8 0,.int .u8 0,.int .u8 0,.int .u8 0,.int .u8 0,.int .u8 0,.int .u8 0,.int .u8 0,.int .u8 0,.int .u8 0,.int .u8 0]
def MQ:Array Value:=#[.int .u8 240,.int .u8 240,.int .u8 240,.int .u8 240,.int .u8 240,.int .u8 240,.int .u8 240,.int .u8 240,.int .u8 240,.int .u8 240,.int .u8 240,.int .u8 240,.int .u8 240,.int .u8 240,.int .u8 240,.int .u8 240,.int .u8 240,.int .u8 240,.int .u8 240,.int .u8 240,.int .u8 240,.int .u8 240,.int .u8 240,.int .u8 240,.int .u8 240,.int .u8 240,.int .u8 240,.int .u8 240,.int .u8 240,.int .u8 240,.int .u8 240,.int .u8 240,.int .u8 240,.int .u8 240,.int .u8 240,.int .u8 240,.int .u8 240,.int .u8 240,.int .u8 240,.int .u8 240,.int .u8 240,.int .u8 240,.int .u8 240,.int .u8 240,.int .u8 240,.int .u8 240,.int .u8 240,.int .u8 240,.int .u8 240,.int .u8 240,.int .u8 240,.int .u8 240,.int .u8 240,.int .u8 240,.int .u8 240,.int .u8 240,.int .u8 240,.int .u8 240,.int .u8 240,.int .u8 240,.int .u8 240,.int .u8 240,.int .u8 240,.int .u8 240,.int .u8 240,.int .u8 240,.int .u8 240,.int .u8 240,.int .u8 240,.int .u8 240,.int .u8 240,.int .u8 240,.int .u8 240,.int .u8 240,.int .u8 240,.int .u8 240,.int .u8 240,.int .u8 240,.int .u8 240,.int .u8 240,.int .u8 240,.int .u8 240,.int .u8 240,.int .u8 240,.int .u8 240,.int .u8 240,.int .u8 240,.int .u8 240,.int .u8 240,.int .u8 240,.int .u8 240,.int .u8 240,.int .u8 240,.int .u8 240,.int .u8 240,.int .u8 240,.int .u8 240,.int .u8 240,.int .u8 240,.int .u8 240,.int .u8 240,.int .u8 240,.int .u8 240,.int .u8 240,.int .u8 240,.int .u8 240,.int .u8 240,.int .u8 240,.int .u8 240,.int .u8 240,.int .u8 240,.int .u8 240,.int .u8 240,.int .u8 240,.int .u8 240,.int .u8 240,.int .u8 240,.int .u8 240,.int .u8 240,.int .u8 240,.int .u8 240,.int .u8 240,.int .u8 240,.int .u8 240,.int .u8 240,.int .u8 240,.int .u8 240,.int .u8 240,.int .u8 241,.int .u8 241,.int .u8 241,.int .u8 241,.int .u8 241,.int .u8 241,.int .u8 241,.int .u8 241,.int .u8 241,.int .u8 241,.int .u8 241,.int .u8 241,.int .u8 241,.int .u8 241,.int .u8 241,.int .u8 241,.int .u8 241,.int .u8 241,.int .u8 241,.int .u8 241,.int .u8 241,.int .u8 241,.int .u8 241,.int .u8 241,.int .u8 241,.int .u8 241,.int .u8 241,.int .u8 241,.int .u8 241,.int .u8 241,.int .u8 241,.int .u8 241,.int .u8 241,.int .u8 241,.int .u8 241,.int .u8 241,.int .u8 241,.int .u8 241,.int .u8 241,.int .u8 241,.int .u8 241,.int .u8 241,.int .u8 241,.int .u8 241,.int .u8 241,.int .u8 241,.int .u8 241,.int .u8 241,.int .u8 241,.int .u8 241,.int .u8 241,.int .u8 241,.int .u8 241,.int .u8 241,.int .u8 241,.int .u8 241,.int .u8 241,.int .u8 241,.int .u8 241,.int .u8 241,.int .u8 241,.int .u8 241,.int .u8 241,.int .u8 241,.int .u8 241,.int .u8 241,.int .u8 2,.int .u8 2,.int .u8 2,.int .u8 2,.int .u8 2,.int .u8 2,.int .u8 2,.int .u8 2,.int .u8 2,.int .u8 2,.int .u8 2,.int .u8 2,.int .u8 2,.int .u8 2,.int .u8 2,.int .u8 2,.int .u8 2,.int .u8 2,.int .u8 2,.int .u8 2,.int .u8 2,.int .u8 2,.int .u8 2,.int .u8 2,.int .u8 2,.int .u8 2,.int .u8 2,.int .u8 2,.int .u8 2,.int .u8 2,.int .u8 19,.int .u8 3,.int .u8 3,.int .u8 3,.int .u8 3,.int .u8 3,.int .u8 3,.int .u8 3,.int .u8 3,.int .u8 3,.int .u8 3,.int .u8 3,.int .u8 3,.int .u8 35,.int .u8 3,.int .u8 3,.int .u8 52,.int .u8 4,.int .u8 4,.int .u8 4,.int .u8 68,.int .u8 241,.int .u8 241,.int .u8 241,.int .u8 241,.int .u8 241,.int .u8 241,.int .u8 241,.int .u8 241,.int .u8 241,.int .u8 241,.int .u8 241]
noncomputable def lay (o:Obj) (cs:Array Value):Obj:=match o with
 |.cells _ t frozen=>.cells cs t frozen
 |o=>o
noncomputable def vP (os:Os):World:=
 let w0:=World.holding prog os ⟨#[.cells #[.string ⟨#[118,97,108,117,101,32,111,117,116,32,111,102,32,114,97,110,103,101]⟩] 357,.cells #[.string ⟨#[105,110,118,97,108,105,100,32,115,121,110,116,97,120]⟩] 357],#[],[]⟩
 { w0 with heap:=(((((((w0.heap.modify 6 λo=>lay o Mx).modify 7 λo=>lay o MD).modify 3 λo=>lay o Mf).modify 5 λo=>lay o MF).modify 2 λo=>lay o #[.iface 355 (.pointer (some ⟨low,0,none⟩))]).modify 1 λo=>lay o #[.iface 355 (.pointer (some ⟨low+1,0,none⟩))]).modify 4 λo=>lay o MQ) }
def vp(os:Os)(args:Array Value):laidMet prog Rows.gaugeFitsRow.laid ((vP os).forCall (λ_ _=>0) ⟨#[],args,[]⟩).memory:=
 laidMet_of_run' 8 (by kernel_rfl) (by kernel_rfl)
end Go.Proofs.YtmkknagmafmcpaaGreatDoor
namespace Go.Vc
def Oi{α:Type _}(a b:α):(some a=some b)=(a=b):=Option.some.injEq a b
def Ba(a b:Bool):((a&&b)=true)=(a=true/\b=true):=Bool.and_eq_true a b
def SO:=@List.take_succ_eq_append_getElem
def QF:=@List.getElem_mem
def Qh:=@Nat.le_refl
def Sz:=@decide_eq_false
def SP:=@decide_eq_true
def Rc:=@List.length_cons
def SQ:=@List.getElem?_eq_getElem
def SW:=@Array.getD_eq_getD_getElem?
def Zq8:=@Option.map_eq_some_iff
def SX:=@decide_eq_true_eq
def gT:=@List.drop_eq_getElem_cons
def cL:=@List.length_map
def mL:=@List.getElem?_eq_some_iff
def gj:=@Bool.false_eq_true
def cD:=@List.mem_cons
def eL:=@Int.toNat_natCast
def dM:=@List.mem_append
def eQ:=@List.all_eq_true
def dO:=@List.map_cons
def kT:=@List.take_of_length_le
def fB:=@List.length_append
def qk:=@Array.getElem?_eq_some_iff
def hU:=@List.take_length
def jt:=@List.length_take
def eo:=@List.map_append
def tQ:=@List.getD_eq_getElem?_getD
def rO:=@List.eq_nil_of_length_eq_zero
def vr:=@List.all_cons
def gw:=@List.append_assoc
def iY:=@List.foldl_cons
def gY:=@Nat.zero_add
def jU:=@List.nil_append
def ki:=@Bool.or_eq_true
def BG:=@List.take_succ_cons
def nF:=@List.getElem?_eq_none
def kj:=@List.append_nil
def aE:=@if_pos
def aF:=@if_neg
def E7:=@List.getElem?_append_left
def Er:=@List.getElem?_append_right
def l3:=@List.getElem?_map
def vD:=@List.length_drop
def iM:=@List.mem_singleton
def nG:=@List.take_append_drop
def yQ:=@List.drop_length
def ov:=@List.foldl_append
def Ax:=@List.take_add_one
def qw:=@List.mem_of_mem_take
def Mb:=@List.getElem?_drop
def Aj:=@List.drop_zero
def eI:=@List.mem_map
def EE:=@List.getElem?_cons_zero
def Du:=@List.getElem?_cons_succ
def Dv:=@List.drop_eq_nil_of_le
def oe:=@List.mem_of_getElem?
def rK:=@List.length_pos_iff
def iq:=@Nat.le_trans
def Eu:=@Nat.add_comm
def Lm:=@List.any_eq_true
def KD:=@List.getElem?_append
def xA:=@List.flatMap_cons
def nI:=@List.mem_filter
def LD:=@List.take_append_of_le_length
def MT:=@List.length_eq_zero_iff
def Iq:=@List.drop_append_of_le_length
def MJ:=@List.drop_succ_cons
def IY:=@List.getElem?_of_mem
def bb:=@Oi
def PK{p:Prop}(h:p:=by omega):p=True:=eq_true h
def PG{p:Prop}(h:¬p:=by omega):p=False:=eq_false h
open Go.Proofs
def Ai(w:World):Prop:=Lib.TabIs prog w "internal/strconv.uint64pow10" .u64 Lib.pow10Tab/\(∃tp p,w.var? prog "strconv.ErrSyntax"=some #[.iface tp p])/\(∃tp p,w.var? prog "strconv.ErrRange"=some #[.iface tp p])
def uq{P:Program}{b w:World}{n:String}{cs:Array Value}(hk:∀i,i<b.heap.size->w.heap[i]?=b.heap[i]?)(h:b.var? P n=some cs):w.var? P n=some cs:=by
 unfold World.var? at h|-;cases hg:P.globalNamed n with
 |none=>rw[hg]at h;cases h
 |some g=>
  rw[hg]at h;simp only[Option.bind_some]at h|-;have C':g<b.heap.size:=by
   rcases Nat.lt_or_ge g b.heap.size with h1|h1
   .exact h1
   .rw[Array.getElem?_eq_none h1]at h;cases h
  rw[hk g C'];exact h
def Ai.pV{b w:World}(hk:∀i,i<b.heap.size->w.heap[i]?=b.heap[i]?)(h:Ai b):Ai w:=
 ⟨uq hk h.1,h.2.1.imp λ_ h=>h.imp λ_ h=>uq hk h,h.2.2.imp λ_ h=>h.imp λ_ h=>uq hk h⟩
end Go.Vc
