/- PlanNext: whatever document, size and start come, the law answers true, and they stay. Conditions: none. -/
import Derived.Test.YtinojdikhfbfbaaGreatRows
import Derived.Test.YtinojdikhfbfbaaGreatW11
set_option linter.all false
set_option maxHeartbeats 8000000
set_option maxRecDepth 100000
namespace Go.Proofs.YtinojdikhfbfbaaGreat
open Go.ChangeShapes Go.WideShapes Go.ChangeAt Go.RowKit Go.Vc
theorem own:ownKnob Tryz.prog.godebug=none:=by kernel_rfl
theorem laidOut:laidOutB Tryz.prog=true:=by kernel_rfl
theorem sY(os:Os)(started:os.Started)(H:Type)(enc:TypeId×Value->H):
 ReturnsInHanded {} Tryz.checked os 3 .any (Rows.planNextSpec.pre6 enc Tryz.prog Tryz.f3 Rows.planNextRow.domain false) (Rows.planNextSpec.post enc Tryz.prog Tryz.f3 false true false false):=by
 refine returnsInHanded_of_change_sized (C:=Tryz.checked) own started (by kernel_rfl) Tryz.func3
  (ChangeSpec.witness6 (enc:=enc) (C:=Tryz.checked) false ⟨#[],#[.slice none 0 0,.int .i64 0,.int .i64 0,.agg #[.int .i64 0,.int .i64 0,.bool false]],[]⟩ 8 (by kernel_rfl) (by kernel_rfl) (by kernel_rfl) (by kernel_rfl)) ?_
 intro W base args ds gs before Wi hW _ Tt _;refine GF (N:=6) (tb:=4) Tryz.func3 laidOut (by kernel_rfl) rfl rfl Tryz.underlying4 ?_ ?_ Wi hW rfl Tt trivial
 .intro ds hl
  match ds,hl with
  |[d1,d2,d3,d4],_=>rfl
 .intro us hus;rw[Tryz.params3]at hus;obtain⟨v1,u1,rfl,h1,v2,u2,rfl,h2,v3,u3,rfl,h3,v4,u4,rfl,h4,rfl⟩:=hus;obtain⟨l,hl,g1,g2⟩:=Dv h1;obtain⟨w,hw⟩:=CE h2;obtain⟨h,hh⟩:=CE h3;obtain⟨s,hs⟩:=Ep h4;rw[hl,hw,hh,hs];exact Cd JR l (by omega) (λx hx=>by have:=(g2 x hx).2.1;omega) w h s
theorem AF:mapsRowed Tryz.prog=true:=by kernel_rfl
theorem Nc:namedTie Tryz.prog Rows.planNextRow.named Rows.planNextSpec.vars=true:=by kernel_rfl
theorem H9:(Rows.planNextRow.inPlace==Tryz.prog.inPlace 3)=true:=by kernel_rfl
theorem H8:(Rows.planNextRow.unfollowed==Tryz.prog.unfollowed 3)=true:=by kernel_rfl
theorem IE:(Rows.planNextRow.recurses==Tryz.prog.recurses 3)=true:=by kernel_rfl
theorem Kj:(Rows.planNextRow.named==Tryz.prog.varsNamed 3)=true:=by kernel_rfl
theorem closed:joinedFacts Tryz.prog 3 Tryz.f3 Rows.planNextSpec Rows.planNextRow=true:=by
 unfold joinedFacts;simp only[Ba];refine⟨⟨⟨⟨⟨⟨⟨⟨⟨⟨⟨⟨⟨⟨⟨⟨⟨⟨⟨⟨⟨⟨⟨⟨⟨⟨⟨⟨⟨⟨⟨?_,laidOut⟩,AF⟩,?_⟩,Nc⟩,?_⟩,?_⟩,?_⟩,?_⟩,H9⟩,H8⟩,IE⟩,Kj⟩,?_⟩,?_⟩,?_⟩,?_⟩,?_⟩,?_⟩,?_⟩,?_⟩,?_⟩,?_⟩,?_⟩,?_⟩,?_⟩,?_⟩,?_⟩,?_⟩,?_⟩,?_⟩,?_⟩<;>kernel_rfl
theorem planNext_holds:Rows.PlanNextSaid:=
 OpenClaim.holds_of_wide 3 Tryz.f3 rfl rfl rfl rfl rfl rfl rfl ⟨rfl,rfl,rfl,rfl,rfl⟩ rfl rfl rfl rfl rfl (by kernel_rfl) Tryz.func3 closed
  (of_decide_eq_true (by kernel_rfl)) (by unfold Func.isWrapper;first|(rw[if_pos (by decide+kernel)];kernel_rfl)|(rw[if_neg (by decide+kernel)];exact⟨rfl,rfl⟩))
  (λos started H enc _=>sY os started H enc)
#print axioms planNext_holds
end Go.Proofs.YtinojdikhfbfbaaGreat
