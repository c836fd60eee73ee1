/- AuditRight: whatever document, size and pages come, the law answers true, and they stay as they were. Conditions: none. -/
import Derived.Test.YtdaelobhgmdoeaaGreatRows
import Derived.Test.YtdaelobhgmdoeaaGreatW12
set_option linter.all false
set_option maxHeartbeats 8000000
set_option maxRecDepth 100000
namespace Go.Proofs.YtdaelobhgmdoeaaGreat
open Go.ChangeShapes Go.WideShapes Go.ChangeAt Go.RowKit Go.Vc
theorem own:ownKnob Tryz.prog.godebug=none:=by kernel_rfl
theorem laidOut:laidOutB Tryz.prog=true:=by kernel_rfl
theorem F8{n:Nat}{vs:List V}(h:gO Tryz.prog (n+1) 3 vs):∃m,nK Tryz.prog 3 vs=vI m/\A5 m:=by
 obtain⟨m,rfl,hm⟩:=bM h;exact⟨m,by unfold nK;rw[OQ];rfl,hm⟩
theorem rQ(os:Os)(started:os.Started)(H:Type)(enc:TypeId×Value->H):
 ReturnsInHanded {} Tryz.checked os 3 .any (Rows.auditRightSpec.pre6 enc Tryz.prog Tryz.f3 Rows.auditRightRow.domain false) (Rows.auditRightSpec.post enc Tryz.prog Tryz.f3 false true false false):=by
 refine returnsInHanded_of_change_sized (C:=Tryz.checked) own started (by kernel_rfl) Tryz.func3
  (ChangeSpec.witness6 (enc:=enc) (C:=Tryz.checked) false ⟨#[],#[.slice none 0 0,.int .i64 0,.int .i64 0,.slice none 0 0],[]⟩ 8 (by kernel_rfl) (by kernel_rfl) (by kernel_rfl) (by kernel_rfl)) ?_
 intro W base args ds gs before hval hW _ hsz _;refine Ku (N:=6) (tb:=4) Tryz.func3 laidOut (by kernel_rfl) rfl rfl Tryz.underlying4 ?_ ?_ hval hW rfl hsz trivial
 .intro ds hl
  match ds,hl with
  |[d1,d2,d3,d4],_=>rfl
 .intro us hus;rw[Tryz.params3]at hus;obtain⟨v1,u1,rfl,h1,v2,u2,rfl,h2,v3,u3,rfl,h3,v4,u4,rfl,h4,rfl⟩:=hus;obtain⟨l,hl,g1,g2⟩:=HV h1;obtain⟨w,hw,-⟩:=F8 h2;obtain⟨h,hh,hi⟩:=F8 h3;obtain⟨P,hP,k1,k2⟩:=HK h4;rw[hl,hw,hh,hP];exact Az Mr l ⟨by omega,λx hx=>by have:=(g2 x hx).2.1;omega⟩ w h hi P ⟨k1,k2⟩
theorem C5:mapsRowed Tryz.prog=true:=by kernel_rfl
theorem Uh:namedTie Tryz.prog Rows.auditRightRow.named Rows.auditRightSpec.vars=true:=by kernel_rfl
theorem NN:(Rows.auditRightRow.inPlace==Tryz.prog.inPlace 3)=true:=by kernel_rfl
theorem Na:(Rows.auditRightRow.unfollowed==Tryz.prog.unfollowed 3)=true:=by kernel_rfl
theorem ND:(Rows.auditRightRow.recurses==Tryz.prog.recurses 3)=true:=by kernel_rfl
theorem RH:(Rows.auditRightRow.named==Tryz.prog.varsNamed 3)=true:=by kernel_rfl
theorem closed:joinedFacts Tryz.prog 3 Tryz.f3 Rows.auditRightSpec Rows.auditRightRow=true:=by
 unfold joinedFacts;simp only[Ba];exact⟨⟨⟨⟨⟨⟨⟨⟨⟨⟨⟨⟨⟨⟨⟨⟨⟨⟨⟨⟨⟨⟨⟨⟨⟨⟨⟨⟨⟨⟨⟨(by kernel_rfl),laidOut⟩,C5⟩,(by kernel_rfl)⟩,Uh⟩,(by kernel_rfl)⟩,(by kernel_rfl)⟩,(by kernel_rfl)⟩,(by kernel_rfl)⟩,NN⟩,Na⟩,ND⟩,RH⟩,(by kernel_rfl)⟩,(by kernel_rfl)⟩,(by kernel_rfl)⟩,(by kernel_rfl)⟩,(by kernel_rfl)⟩,(by kernel_rfl)⟩,(by kernel_rfl)⟩,(by kernel_rfl)⟩,(by kernel_rfl)⟩,(by kernel_rfl)⟩,(by kernel_rfl)⟩,(by kernel_rfl)⟩,(by kernel_rfl)⟩,(by kernel_rfl)⟩,(by kernel_rfl)⟩,(by kernel_rfl)⟩,(by kernel_rfl)⟩,(by kernel_rfl)⟩,(by kernel_rfl)⟩
theorem auditRight_holds:Rows.AuditRightSaid:=
 OpenClaim.holds_of_wide 3 Tryz.f3 rfl rfl rfl rfl rfl rfl rfl ⟨rfl,rfl,rfl,rfl,rfl⟩ rfl rfl rfl rfl rfl (by kernel_rfl) Tryz.func3 closed
  (of_decide_eq_true (by kernel_rfl)) (by unfold Func.isWrapper;first|(rw[if_pos (by decide+kernel)];kernel_rfl)|(rw[if_neg (by decide+kernel)];exact⟨rfl,rfl⟩))
  (λos started H enc _=>rQ os started H enc)
#print axioms auditRight_holds
end Go.Proofs.YtdaelobhgmdoeaaGreat
