/- PlanEngine: whatever document and size come, the law answers true, and they stay. Conditions: none. -/
import Derived.Test.YtjladbkbleghlaaGreatRows
import Derived.Test.YtjladbkbleghlaaGreatW10
set_option linter.all false
set_option maxHeartbeats 8000000
set_option maxRecDepth 100000
namespace Go.Proofs.YtjladbkbleghlaaGreat
open Go.ChangeShapes Go.WideShapes Go.ChangeAt Go.RowKit Go.Vc
theorem own:ownKnob Tryz.prog.godebug=none:=by kernel_rfl
theorem laidOut:laidOutB Tryz.prog=true:=by kernel_rfl
theorem Cf{n:Nat}{vs:List V}(h:jo Tryz.prog (n+1) 3 vs):∃m,pZ Tryz.prog 3 vs=vI m:=by
 obtain⟨m,rfl,-⟩:=dJ h;exact⟨m,by unfold pZ;rw[I3];rfl⟩
theorem pR(os:Os)(started:os.Started)(H:Type)(enc:TypeId×Value->H):
 ReturnsInHanded {} Tryz.checked os 4 .any (Rows.planEngineSpec.pre6 enc Tryz.prog Tryz.f4 Rows.planEngineRow.domain false) (Rows.planEngineSpec.post enc Tryz.prog Tryz.f4 false true false false):=by
 refine returnsInHanded_of_change_sized (C:=Tryz.checked) own started (by kernel_rfl) Tryz.func4
  (ChangeSpec.witness6 (enc:=enc) (C:=Tryz.checked) false ⟨#[],#[.slice none 0 0,.int .i64 0,.int .i64 0],[]⟩ 8 (by kernel_rfl) (by kernel_rfl) (by kernel_rfl) (by kernel_rfl)) ?_
 intro W base args ds gs before Ud hW _ RS _;refine F0 (N:=6) (tb:=4) Tryz.func4 laidOut (by kernel_rfl) rfl rfl Tryz.underlying4 ?_ ?_ Ud hW rfl RS trivial
 .intro ds hl
  match ds,hl with
  |[d1,d2,d3],_=>rfl
 .intro us hus;rw[Tryz.params4]at hus;obtain⟨v1,u1,rfl,h1,v2,u2,rfl,h2,v3,u3,rfl,h3,rfl⟩:=hus;obtain⟨l,hl,g1,g2⟩:=DE h1;obtain⟨w,hw⟩:=Cf h2;obtain⟨h,hh⟩:=Cf h3;rw[hl,hw,hh];exact yA JC l ⟨by omega,λx hx=>by have:=(g2 x hx).2.1;omega⟩ w h
theorem A1:mapsRowed Tryz.prog=true:=by kernel_rfl
theorem MJ:namedTie Tryz.prog Rows.planEngineRow.named Rows.planEngineSpec.vars=true:=by kernel_rfl
theorem G6:(Rows.planEngineRow.inPlace==Tryz.prog.inPlace 4)=true:=by kernel_rfl
theorem Il:(Rows.planEngineRow.unfollowed==Tryz.prog.unfollowed 4)=true:=by kernel_rfl
theorem IG:(Rows.planEngineRow.recurses==Tryz.prog.recurses 4)=true:=by kernel_rfl
theorem J1:(Rows.planEngineRow.named==Tryz.prog.varsNamed 4)=true:=by kernel_rfl
theorem closed:joinedFacts Tryz.prog 4 Tryz.f4 Rows.planEngineSpec Rows.planEngineRow=true:=by
 unfold joinedFacts;simp only[Ba];refine⟨⟨⟨⟨⟨⟨⟨⟨⟨⟨⟨⟨⟨⟨⟨⟨⟨⟨⟨⟨⟨⟨⟨⟨⟨⟨⟨⟨⟨⟨⟨?_,laidOut⟩,A1⟩,?_⟩,MJ⟩,?_⟩,?_⟩,?_⟩,?_⟩,G6⟩,Il⟩,IG⟩,J1⟩,?_⟩,?_⟩,?_⟩,?_⟩,?_⟩,?_⟩,?_⟩,?_⟩,?_⟩,?_⟩,?_⟩,?_⟩,?_⟩,?_⟩,?_⟩,?_⟩,?_⟩,?_⟩,?_⟩<;>kernel_rfl
theorem planEngine_holds:Rows.PlanEngineSaid:=
 OpenClaim.holds_of_wide 4 Tryz.f4 rfl rfl rfl rfl rfl rfl rfl ⟨rfl,rfl,rfl,rfl,rfl⟩ rfl rfl rfl rfl rfl (by kernel_rfl) Tryz.func4 closed
  (of_decide_eq_true (by kernel_rfl)) (by unfold Func.isWrapper;first|(rw[if_pos (by decide+kernel)];kernel_rfl)|(rw[if_neg (by decide+kernel)];exact⟨rfl,rfl⟩))
  (λos started H enc _=>pR os started H enc)
#print axioms planEngine_holds
end Go.Proofs.YtjladbkbleghlaaGreat
