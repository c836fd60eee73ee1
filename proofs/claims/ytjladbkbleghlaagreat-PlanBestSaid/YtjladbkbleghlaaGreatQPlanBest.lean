/- PlanBest: whatever document, size and list come, the law answers true, and they stay. Conditions: none. -/
import Derived.Test.YtjladbkbleghlaaGreatRows
import Derived.Test.YtjladbkbleghlaaGreatW9
set_option linter.all false
set_option maxHeartbeats 8000000
set_option maxRecDepth 100000
namespace Go.Proofs.YtjladbkbleghlaaGreat
open Go.ChangeShapes Go.WideShapes Go.ChangeAt Go.RowKit Go.Vc
theorem own:ownKnob Tryz.prog.godebug=none:=by kernel_rfl
theorem laidOut:laidOutB Tryz.prog=true:=by kernel_rfl
theorem zN{n:Nat}{vs:List V}(h:gN Tryz.prog (n+1) 3 vs):∃m,lP Tryz.prog 3 vs=vI m:=by
 obtain⟨m,rfl,-⟩:=dB h;exact⟨m,by unfold lP;rw[FV];rfl⟩
theorem Dh{n:Nat}{vs:List V}(h:gN Tryz.prog (n+2) 23 vs):∃l,lP Tryz.prog 23 vs=bj l:=by
 obtain⟨l,rfl,-⟩:=xq h;exact⟨l,by unfold lP;rw[show fc Tryz.prog 23=false by kernel_rfl];rfl⟩
theorem qw(os:Os)(started:os.Started)(H:Type)(enc:TypeId×Value->H):
 ReturnsInHanded {} Tryz.checked os 3 .any (Rows.planBestSpec.pre6 enc Tryz.prog Tryz.f3 Rows.planBestRow.domain false) (Rows.planBestSpec.post enc Tryz.prog Tryz.f3 false true false false):=by
 refine returnsInHanded_of_change_sized (C:=Tryz.checked) own started (by kernel_rfl) Tryz.func3
  (ChangeSpec.witness6 (enc:=enc) (C:=Tryz.checked) false ⟨#[],#[.slice none 0 0,.int .i64 0,.int .i64 0,.slice none 0 0],[]⟩ 8 (by kernel_rfl) (by kernel_rfl) (by kernel_rfl) (by kernel_rfl)) ?_
 intro W base args ds gs before OX hW _ No _;refine B2 (N:=6) (tb:=4) Tryz.func3 laidOut (by kernel_rfl) rfl rfl Tryz.underlying4 ?_ ?_ OX hW rfl No trivial
 .intro ds hl
  match ds,hl with
  |[d1,d2,d3,d4],_=>rfl
 .intro us hus;rw[Tryz.params3]at hus;obtain⟨v1,u1,rfl,h1,v2,u2,rfl,h2,v3,u3,rfl,h3,v4,u4,rfl,h4,rfl⟩:=hus;obtain⟨l,hl,g1,g2⟩:=A8 h1;obtain⟨w,hw⟩:=zN h2;obtain⟨h,hh⟩:=zN h3;obtain⟨b,hb⟩:=Dh h4;rw[hl,hw,hh,hb];exact yO IB l ⟨by omega,λx hx=>by have:=(g2 x hx).2.1;omega⟩ w h b
theorem yf:mapsRowed Tryz.prog=true:=by kernel_rfl
theorem Jv:namedTie Tryz.prog Rows.planBestRow.named Rows.planBestSpec.vars=true:=by kernel_rfl
theorem EX:(Rows.planBestRow.inPlace==Tryz.prog.inPlace 3)=true:=by kernel_rfl
theorem E6:(Rows.planBestRow.unfollowed==Tryz.prog.unfollowed 3)=true:=by kernel_rfl
theorem EJ:(Rows.planBestRow.recurses==Tryz.prog.recurses 3)=true:=by kernel_rfl
theorem GQ:(Rows.planBestRow.named==Tryz.prog.varsNamed 3)=true:=by kernel_rfl
theorem closed:joinedFacts Tryz.prog 3 Tryz.f3 Rows.planBestSpec Rows.planBestRow=true:=by
 unfold joinedFacts;simp only[Ba];refine⟨⟨⟨⟨⟨⟨⟨⟨⟨⟨⟨⟨⟨⟨⟨⟨⟨⟨⟨⟨⟨⟨⟨⟨⟨⟨⟨⟨⟨⟨⟨?_,laidOut⟩,yf⟩,?_⟩,Jv⟩,?_⟩,?_⟩,?_⟩,?_⟩,EX⟩,E6⟩,EJ⟩,GQ⟩,?_⟩,?_⟩,?_⟩,?_⟩,?_⟩,?_⟩,?_⟩,?_⟩,?_⟩,?_⟩,?_⟩,?_⟩,?_⟩,?_⟩,?_⟩,?_⟩,?_⟩,?_⟩,?_⟩<;>kernel_rfl
theorem planBest_holds:Rows.PlanBestSaid:=
 OpenClaim.holds_of_wide 3 Tryz.f3 rfl rfl rfl rfl rfl rfl rfl ⟨rfl,rfl,rfl,rfl,rfl⟩ rfl rfl rfl rfl rfl (by kernel_rfl) Tryz.func3 closed
  (of_decide_eq_true (by kernel_rfl)) (by unfold Func.isWrapper;first|(rw[if_pos (by decide+kernel)];kernel_rfl)|(rw[if_neg (by decide+kernel)];exact⟨rfl,rfl⟩))
  (λos started H enc _=>qw os started H enc)
#print axioms planBest_holds
end Go.Proofs.YtjladbkbleghlaaGreat
