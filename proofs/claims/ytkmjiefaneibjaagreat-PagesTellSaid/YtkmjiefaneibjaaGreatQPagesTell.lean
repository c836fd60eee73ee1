/- PagesTell: whatever pages come, the law answers true, and they stay as they were. Conditions: none. -/
import Derived.Test.YtkmjiefaneibjaaGreatRows
import Derived.Test.YtkmjiefaneibjaaGreatW12
set_option linter.all false
namespace Go.Proofs.YtkmjiefaneibjaaGreat
open Go.ChangeShapes Go.WideShapes Go.ChangeAt Go.RowKit Go.Vc

theorem own : ownKnob Tryz.prog.godebug = none := by kernel_rfl
theorem laidOut : laidOutB Tryz.prog = true := by kernel_rfl

set_option maxRecDepth 100000 in
theorem pagesTell_lifted (os : Os) (started : os.Started) (H : Type) (enc : TypeId × Value → H) :
    ReturnsInHanded {} Tryz.checked os 4 .any (Rows.pagesTellSpec.pre6 enc Tryz.prog Tryz.f4 Rows.pagesTellRow.domain false) (Rows.pagesTellSpec.post enc Tryz.prog Tryz.f4 false true false false) := by
  refine returnsInHanded_of_change_sized (C := Tryz.checked) own started (by kernel_rfl) Tryz.func4
    (ChangeSpec.witness6 (enc := enc) (C := Tryz.checked) false ⟨#[], #[.slice none 0 0], []⟩ 8 (by kernel_rfl) (by kernel_rfl) (by kernel_rfl) (by kernel_rfl)) ?_
  intro W base args ds gs before hval hW _ hsz _
  refine law_post (N := 6) (tb := 4) Tryz.func4 laidOut (by kernel_rfl) rfl rfl Tryz.underlying4 ?_ ?_ hval hW rfl hsz trivial
  · intro ds hl
    match ds, hl with
    | [d1], _ => rfl
  · intro us hus
    rw [Tryz.params4] at hus
    obtain ⟨vs, us', rfl, h1, rfl⟩ := hus
    obtain ⟨l, hl, g1, g2⟩ := arg_pages h1
    rw [hl]
    exact pagesTell_c aw26_ex l g1 g2

theorem pagesTell_holds : Rows.PagesTellSaid :=
  OpenClaim.holds_of_wide 4 Tryz.f4 rfl rfl rfl rfl rfl rfl rfl ⟨rfl, rfl, rfl, rfl, rfl⟩ rfl rfl rfl rfl rfl (by kernel_rfl) Tryz.func4 (by kernel_rfl)
    (of_decide_eq_true (by kernel_rfl)) (by unfold Func.isWrapper; first | (rw [if_pos (by decide +kernel)]; kernel_rfl) | (rw [if_neg (by decide +kernel)]; exact ⟨rfl, rfl⟩))
    (fun os started H enc _ => pagesTell_lifted os started H enc)
#print axioms pagesTell_holds
end Go.Proofs.YtkmjiefaneibjaaGreat
