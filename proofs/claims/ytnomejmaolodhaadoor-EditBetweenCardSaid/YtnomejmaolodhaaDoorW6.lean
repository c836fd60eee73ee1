/- Part 6 of the library of this proof. -/
import Derived.Test.YtnomejmaolodhaaDoorW5
set_option linter.all false
namespace Go.Vc
variable {P : Program} {n : Nat} {st : St} {Q : St → Prop} {k : List It}
theorem T.pure {P : Program} {i : VIns} {x : St} {K : St → Prop} {v : V} (hw : wantV x.s i.g = some true) (hk : okind i.op = 0) (hp : vpre x.s i.op) (hv : vpure x.σ x.s i.op = some v) (h : K ⟨putO x.s i.dst v, x.σ⟩) : T P i x K := by
  unfold T
  simp only [hw]
  unfold TO
  simp only [hk]
  exact ⟨hp, v, hv, h⟩
theorem T.store {P : Program} {d : Option Nat} {sz : Nat} {xa xv : VX} {x : St} {K : St → Prop} {σ' : Store} (hv : storeS x.σ sz (xa.ev x.s) (xv.ev x.s) = some σ') (h : K ⟨putO x.s d (.tup []), σ'⟩) :
    T P ⟨d, .store sz xa xv, none⟩ x K := ⟨σ', hv, h⟩
end Go.Vc
