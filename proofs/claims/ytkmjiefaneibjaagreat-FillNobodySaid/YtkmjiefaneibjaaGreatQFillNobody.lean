/- FillNobody: whatever state comes, the law answers true, and it stays as it was. Conditions: none. -/
import Derived.Test.YtkmjiefaneibjaaGreatRows
import Derived.Test.YtkmjiefaneibjaaGreatW5
set_option linter.all false
namespace Go.Proofs.YtkmjiefaneibjaaGreat
open Go.ChangeShapes Go.WideShapes Go.ChangeAt Go.RowKit Go.Vc

theorem own : ownKnob Tryz.prog.godebug = none := by kernel_rfl
theorem laidOut : laidOutB Tryz.prog = true := by kernel_rfl

set_option maxRecDepth 100000 in
theorem fillNobody_lifted (os : Os) (started : os.Started) (H : Type) (enc : TypeId × Value → H) :
    ReturnsInHanded {} Tryz.checked os 3 .any (Rows.fillNobodySpec.pre6 enc Tryz.prog Tryz.f3 Rows.fillNobodyRow.domain false) (Rows.fillNobodySpec.post enc Tryz.prog Tryz.f3 false true false false) := by
  refine returnsInHanded_of_change_sized (C := Tryz.checked) own started (by kernel_rfl) Tryz.func3
    (ChangeSpec.witness6 (enc := enc) (C := Tryz.checked) false ⟨#[], #[.agg #[.int .i64 0, .int .i64 0, .bool false, .slice none 0 0]], []⟩ 8 (by kernel_rfl) (by kernel_rfl) (by kernel_rfl) (by kernel_rfl)) ?_
  intro W base args ds gs before hval hW _ hsz _
  refine law_post (N := 6) (tb := 4) Tryz.func3 laidOut (by kernel_rfl) rfl rfl Tryz.underlying4 ?_ ?_ hval hW rfl hsz trivial
  · intro ds hl
    match ds, hl with
    | [d1], _ => rfl
  · intro us hus
    rw [Tryz.params3] at hus
    obtain ⟨vs, us', rfl, h1, rfl⟩ := hus
    obtain ⟨a, d, fr, sz, rows, hl⟩ := arg_state h1
    rw [hl]
    exact fillNobody_c aw25_ex a d fr sz rows

theorem fillNobody_holds : Rows.FillNobodySaid :=
  OpenClaim.holds_of_wide 3 Tryz.f3 rfl rfl rfl rfl rfl rfl rfl ⟨rfl, rfl, rfl, rfl, rfl⟩ rfl rfl rfl rfl rfl (by kernel_rfl) Tryz.func3 (by kernel_rfl)
    (of_decide_eq_true (by kernel_rfl)) (by unfold Func.isWrapper; first | (rw [if_pos (by decide +kernel)]; kernel_rfl) | (rw [if_neg (by decide +kernel)]; exact ⟨rfl, rfl⟩))
    (fun os started H enc _ => fillNobody_lifted os started H enc)
#print axioms fillNobody_holds
end Go.Proofs.YtkmjiefaneibjaaGreat
