/- PlanCosts: whatever document, size, starts and costs come, the law answers true, and they stay. Conditions: none. -/
import Derived.Test.YtinojdikhfbfbaaGreatRows
import Derived.Test.YtinojdikhfbfbaaGreatW11
set_option linter.all false
set_option maxHeartbeats 8000000
set_option maxRecDepth 100000
namespace Go.Proofs.YtinojdikhfbfbaaGreat
open Go.ChangeShapes Go.WideShapes Go.ChangeAt Go.RowKit Go.Vc
theorem own:ownKnob Tryz.prog.godebug=none:=by kernel_rfl
theorem laidOut:laidOutB Tryz.prog=true:=by kernel_rfl
theorem qS(os:Os)(started:os.Started)(H:Type)(enc:TypeId×Value->H):
 ReturnsInHanded {} Tryz.checked os 4 .any (Rows.planCostsSpec.pre6 enc Tryz.prog Tryz.f4 Rows.planCostsRow.domain false) (Rows.planCostsSpec.post enc Tryz.prog Tryz.f4 false true false false):=by
 refine returnsInHanded_of_change_sized (C:=Tryz.checked) own started (by kernel_rfl) Tryz.func4
  (ChangeSpec.witness6 (enc:=enc) (C:=Tryz.checked) false ⟨#[],#[.slice none 0 0,.int .i64 0,.int .i64 0,.slice none 0 0,.agg #[.int .i64 0,.int .i64 0],.agg #[.int .i64 0,.int .i64 0]],[]⟩ 8 (by kernel_rfl) (by kernel_rfl) (by kernel_rfl) (by kernel_rfl)) ?_
 intro W base args ds gs before WK hW _ TU _;refine FU (N:=6) (tb:=4) Tryz.func4 laidOut (by kernel_rfl) rfl rfl Tryz.underlying4 ?_ ?_ WK hW rfl TU trivial
 .intro ds hl
  match ds,hl with
  |[d1,d2,d3,d4,d5,d6],_=>rfl
 .intro us hus;rw[Tryz.params4]at hus;obtain⟨v1,u1,rfl,h1,v2,u2,rfl,h2,v3,u3,rfl,h3,v4,u4,rfl,h4,v5,u5,rfl,h5,v6,u6,rfl,h6,rfl⟩:=hus;obtain⟨l,hl,g1,g2⟩:=Er h1;obtain⟨w,hw⟩:=CU h2;obtain⟨h,hh⟩:=CU h3;obtain⟨P,hP⟩:=By h4;obtain⟨x,hx⟩:=y9 h5;obtain⟨y,hy⟩:=y9 h6;rw[hl,hw,hh,hP,hx,hy];exact A3 Ka l (by omega) (λx hx=>by have:=(g2 x hx).2.1;omega) w h P x y
theorem y7:mapsRowed Tryz.prog=true:=by kernel_rfl
theorem L8:namedTie Tryz.prog Rows.planCostsRow.named Rows.planCostsSpec.vars=true:=by kernel_rfl
theorem Jg:(Rows.planCostsRow.inPlace==Tryz.prog.inPlace 4)=true:=by kernel_rfl
theorem IV:(Rows.planCostsRow.unfollowed==Tryz.prog.unfollowed 4)=true:=by kernel_rfl
theorem HN:(Rows.planCostsRow.recurses==Tryz.prog.recurses 4)=true:=by kernel_rfl
theorem LG:(Rows.planCostsRow.named==Tryz.prog.varsNamed 4)=true:=by kernel_rfl
theorem closed:joinedFacts Tryz.prog 4 Tryz.f4 Rows.planCostsSpec Rows.planCostsRow=true:=by
 unfold joinedFacts;simp only[Ba];refine⟨⟨⟨⟨⟨⟨⟨⟨⟨⟨⟨⟨⟨⟨⟨⟨⟨⟨⟨⟨⟨⟨⟨⟨⟨⟨⟨⟨⟨⟨⟨?_,laidOut⟩,y7⟩,?_⟩,L8⟩,?_⟩,?_⟩,?_⟩,?_⟩,Jg⟩,IV⟩,HN⟩,LG⟩,?_⟩,?_⟩,?_⟩,?_⟩,?_⟩,?_⟩,?_⟩,?_⟩,?_⟩,?_⟩,?_⟩,?_⟩,?_⟩,?_⟩,?_⟩,?_⟩,?_⟩,?_⟩,?_⟩<;>kernel_rfl
theorem planCosts_holds:Rows.PlanCostsSaid:=
 OpenClaim.holds_of_wide 4 Tryz.f4 rfl rfl rfl rfl rfl rfl rfl ⟨rfl,rfl,rfl,rfl,rfl⟩ rfl rfl rfl rfl rfl (by kernel_rfl) Tryz.func4 closed
  (of_decide_eq_true (by kernel_rfl)) (by unfold Func.isWrapper;first|(rw[if_pos (by decide+kernel)];kernel_rfl)|(rw[if_neg (by decide+kernel)];exact⟨rfl,rfl⟩))
  (λos started H enc _=>qS os started H enc)
#print axioms planCosts_holds
end Go.Proofs.YtinojdikhfbfbaaGreat
