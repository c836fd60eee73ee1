/- FillMakes: whatever nodes, size and state come, the law answers true, and they stay as they were. Conditions: none. -/
import Derived.Test.YtompjkkmfibkiaaGreatRows
import Derived.Test.YtompjkkmfibkiaaGreatW13
set_option linter.all false
set_option maxHeartbeats 8000000
set_option maxRecDepth 100000
namespace Go.Proofs.YtompjkkmfibkiaaGreat
open Go.ChangeShapes Go.WideShapes Go.ChangeAt Go.RowKit Go.Vc
theorem own:ownKnob Tryz.prog.godebug=none:=by kernel_rfl
theorem laidOut:laidOutB Tryz.prog=true:=by kernel_rfl
theorem sq(os:Os)(started:os.Started)(H:Type)(enc:TypeId×Value->H):
 ReturnsInHanded {} Tryz.checked os 3 .any (Rows.fillMakesSpec.pre6 enc Tryz.prog Tryz.f3 Rows.fillMakesRow.domain false) (Rows.fillMakesSpec.post enc Tryz.prog Tryz.f3 false true false false):=by
 refine returnsInHanded_of_change_sized (C:=Tryz.checked) own started (by kernel_rfl) Tryz.func3
  (ChangeSpec.witness6 (enc:=enc) (C:=Tryz.checked) false ⟨#[],#[.slice none 0 0,.int .i64 0,.int .i64 0,.agg #[.int .i64 0,.int .i64 0,.bool false,.slice none 0 0]],[]⟩ 8 (by kernel_rfl) (by kernel_rfl) (by kernel_rfl) (by kernel_rfl)) ?_
 intro W base args ds gs before ZD hW _ Xr _;refine Gt (N:=6) (tb:=4) Tryz.func3 laidOut (by kernel_rfl) rfl rfl Tryz.underlying4 ?_ ?_ ZD hW rfl Xr trivial
 .intro ds hl
  match ds,hl with
  |[d1,d2,d3,d4],_=>rfl
 .intro us hus;rw[Tryz.params3]at hus;obtain⟨v1,u1,rfl,h1,v2,u2,rfl,h2,v3,u3,rfl,h3,v4,u4,rfl,h4,rfl⟩:=hus;obtain⟨l,hl,g1,g2⟩:=FU h1;obtain⟨w,hw⟩:=DS h2;obtain⟨h,hh⟩:=DS h3;obtain⟨s,hs⟩:=J5 h4;rw[hl,hw,hh,hs];exact AR F2 l (by omega) (λx hx=>by have:=(g2 x hx).2.1;omega) w h s
theorem fillMakes_holds:Rows.FillMakesSaid:=
 OpenClaim.holds_of_wide 3 Tryz.f3 rfl rfl rfl rfl rfl rfl rfl ⟨rfl,rfl,rfl,rfl,rfl⟩ rfl rfl rfl rfl rfl (by kernel_rfl) Tryz.func3 (by kernel_rfl)
  (of_decide_eq_true (by kernel_rfl)) (by unfold Func.isWrapper;first|(rw[if_pos (by decide+kernel)];kernel_rfl)|(rw[if_neg (by decide+kernel)];exact⟨rfl,rfl⟩))
  (λos started H enc _=>sq os started H enc)
#print axioms fillMakes_holds
end Go.Proofs.YtompjkkmfibkiaaGreat
