/- PagesOf: whatever nodes and size come, the law answers true, and they stay as they were. Conditions: none. -/
import Derived.Test.YtompjkkmfibkiaaGreatRows
import Derived.Test.YtompjkkmfibkiaaGreatW14
set_option linter.all false
set_option maxHeartbeats 8000000
set_option maxRecDepth 100000
namespace Go.Proofs.YtompjkkmfibkiaaGreat
open Go.ChangeShapes Go.WideShapes Go.ChangeAt Go.RowKit Go.Vc
theorem own:ownKnob Tryz.prog.godebug=none:=by kernel_rfl
theorem laidOut:laidOutB Tryz.prog=true:=by kernel_rfl
theorem E2{n:Nat}{vs:List V}(h:jC Tryz.prog (n+1) 3 vs):∃m,qt Tryz.prog 3 vs=vI m/\zg m:=by
 obtain⟨m,rfl,hm⟩:=dE h;exact⟨m,by unfold qt;rw[MJ];rfl,hm⟩
theorem vz(os:Os)(started:os.Started)(H:Type)(enc:TypeId×Value->H):
 ReturnsInHanded {} Tryz.checked os 4 .any (Rows.pagesOfSpec.pre6 enc Tryz.prog Tryz.f4 Rows.pagesOfRow.domain false) (Rows.pagesOfSpec.post enc Tryz.prog Tryz.f4 false true false false):=by
 refine returnsInHanded_of_change_sized (C:=Tryz.checked) own started (by kernel_rfl) Tryz.func4
  (ChangeSpec.witness6 (enc:=enc) (C:=Tryz.checked) false ⟨#[],#[.slice none 0 0,.int .i64 0,.int .i64 0],[]⟩ 8 (by kernel_rfl) (by kernel_rfl) (by kernel_rfl) (by kernel_rfl)) ?_
 intro W base args ds gs before hval hW _ Yh _;refine Jc (N:=6) (tb:=4) Tryz.func4 laidOut (by kernel_rfl) rfl rfl Tryz.underlying4 ?_ ?_ hval hW rfl Yh trivial
 .intro ds hl
  match ds,hl with
  |[d1,d2,d3],_=>rfl
 .intro us hus;rw[Tryz.params4]at hus;obtain⟨v1,u1,rfl,h1,v2,u2,rfl,h2,v3,u3,rfl,h3,rfl⟩:=hus;obtain⟨l,hl,g1,g2⟩:=GV h1;obtain⟨w,hw,-⟩:=E2 h2;obtain⟨h,hh,hi⟩:=E2 h3;rw[hl,hw,hh];exact CL DP l (by omega) (λx hx=>by have:=(g2 x hx).2.1;omega) w h hi
theorem pagesOf_holds:Rows.PagesOfSaid:=
 OpenClaim.holds_of_wide 4 Tryz.f4 rfl rfl rfl rfl rfl rfl rfl ⟨rfl,rfl,rfl,rfl,rfl⟩ rfl rfl rfl rfl rfl (by kernel_rfl) Tryz.func4 (by kernel_rfl)
  (of_decide_eq_true (by kernel_rfl)) (by unfold Func.isWrapper;first|(rw[if_pos (by decide+kernel)];kernel_rfl)|(rw[if_neg (by decide+kernel)];exact⟨rfl,rfl⟩))
  (λos started H enc _=>vz os started H enc)
#print axioms pagesOf_holds
end Go.Proofs.YtompjkkmfibkiaaGreat
