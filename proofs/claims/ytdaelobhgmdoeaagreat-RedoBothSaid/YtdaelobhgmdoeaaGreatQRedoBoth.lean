/- RedoBoth: whatever three documents and size come, the law answers true, and they stay as they were. Conditions: none. -/
import Derived.Test.YtdaelobhgmdoeaaGreatRows
import Derived.Test.YtdaelobhgmdoeaaGreatW10
set_option linter.all false
set_option maxHeartbeats 8000000
set_option maxRecDepth 100000
namespace Go.Proofs.YtdaelobhgmdoeaaGreat
open Go.ChangeShapes Go.WideShapes Go.ChangeAt Go.RowKit Go.Vc
theorem own:ownKnob Tryz.prog.godebug=none:=by kernel_rfl
theorem laidOut:laidOutB Tryz.prog=true:=by kernel_rfl
theorem B0{n:Nat}{vs:List V}(h:iy Tryz.prog (n+1) 3 vs):∃m,oF Tryz.prog 3 vs=vI m/\wG m:=by
 obtain⟨m,rfl,hm⟩:=dx h;exact⟨m,by unfold oF;rw[IQ];rfl,hm⟩
theorem ry(os:Os)(started:os.Started)(H:Type)(enc:TypeId×Value->H):
 ReturnsInHanded {} Tryz.checked os 5 .any (Rows.redoBothSpec.pre6 enc Tryz.prog Tryz.f5 Rows.redoBothRow.domain false) (Rows.redoBothSpec.post enc Tryz.prog Tryz.f5 false true false false):=by
 refine returnsInHanded_of_change_sized (C:=Tryz.checked) own started (by kernel_rfl) Tryz.func5
  (ChangeSpec.witness6 (enc:=enc) (C:=Tryz.checked) false ⟨#[],#[.slice none 0 0,.slice none 0 0,.slice none 0 0,.int .i64 0,.int .i64 0],[]⟩ 8 (by kernel_rfl) (by kernel_rfl) (by kernel_rfl) (by kernel_rfl)) ?_
 intro W base args ds gs before UN hW _ TF _;refine F3 (N:=6) (tb:=4) Tryz.func5 laidOut (by kernel_rfl) rfl rfl Tryz.underlying4 ?_ ?_ UN hW rfl TF trivial
 .intro ds hl
  match ds,hl with
  |[d1,d2,d3,d4,d5],_=>rfl
 .intro us hus;rw[Tryz.params5]at hus;obtain⟨v1,u1,rfl,h1,v2,u2,rfl,h2,v3,u3,rfl,h3,v4,u4,rfl,h4,v5,u5,rfl,h5,rfl⟩:=hus;obtain⟨l,hl,g1,g2⟩:=ph h1;obtain⟨m,hm,k1,k2⟩:=ph h2;obtain⟨n,hn,j1,j2⟩:=ph h3;obtain⟨w,hw,-⟩:=B0 h4;obtain⟨h,hh,hi⟩:=B0 h5;rw[hl,hm,hn,hw,hh];exact AX L7 l m n ⟨by omega,λx hx=>by have:=(g2 x hx).2.1;omega⟩ ⟨by omega,λx hx=>by have:=(k2 x hx).2.1;omega⟩ ⟨by omega,λx hx=>by have:=(j2 x hx).2.1;omega⟩ w h hi
theorem Aq:mapsRowed Tryz.prog=true:=by kernel_rfl
theorem N2:namedTie Tryz.prog Rows.redoBothRow.named Rows.redoBothSpec.vars=true:=by kernel_rfl
theorem Hc:(Rows.redoBothRow.inPlace==Tryz.prog.inPlace 5)=true:=by kernel_rfl
theorem Iz:(Rows.redoBothRow.unfollowed==Tryz.prog.unfollowed 5)=true:=by kernel_rfl
theorem Hz:(Rows.redoBothRow.recurses==Tryz.prog.recurses 5)=true:=by kernel_rfl
theorem LR:(Rows.redoBothRow.named==Tryz.prog.varsNamed 5)=true:=by kernel_rfl
theorem closed:joinedFacts Tryz.prog 5 Tryz.f5 Rows.redoBothSpec Rows.redoBothRow=true:=by
 unfold joinedFacts;simp only[Ba];exact⟨⟨⟨⟨⟨⟨⟨⟨⟨⟨⟨⟨⟨⟨⟨⟨⟨⟨⟨⟨⟨⟨⟨⟨⟨⟨⟨⟨⟨⟨⟨(by kernel_rfl),laidOut⟩,Aq⟩,(by kernel_rfl)⟩,N2⟩,(by kernel_rfl)⟩,(by kernel_rfl)⟩,(by kernel_rfl)⟩,(by kernel_rfl)⟩,Hc⟩,Iz⟩,Hz⟩,LR⟩,(by kernel_rfl)⟩,(by kernel_rfl)⟩,(by kernel_rfl)⟩,(by kernel_rfl)⟩,(by kernel_rfl)⟩,(by kernel_rfl)⟩,(by kernel_rfl)⟩,(by kernel_rfl)⟩,(by kernel_rfl)⟩,(by kernel_rfl)⟩,(by kernel_rfl)⟩,(by kernel_rfl)⟩,(by kernel_rfl)⟩,(by kernel_rfl)⟩,(by kernel_rfl)⟩,(by kernel_rfl)⟩,(by kernel_rfl)⟩,(by kernel_rfl)⟩,(by kernel_rfl)⟩
theorem redoBoth_holds:Rows.RedoBothSaid:=
 OpenClaim.holds_of_wide 5 Tryz.f5 rfl rfl rfl rfl rfl rfl rfl ⟨rfl,rfl,rfl,rfl,rfl⟩ rfl rfl rfl rfl rfl (by kernel_rfl) Tryz.func5 closed
  (of_decide_eq_true (by kernel_rfl)) (by unfold Func.isWrapper;first|(rw[if_pos (by decide+kernel)];kernel_rfl)|(rw[if_neg (by decide+kernel)];exact⟨rfl,rfl⟩))
  (λos started H enc _=>ry os started H enc)
#print axioms redoBoth_holds
end Go.Proofs.YtdaelobhgmdoeaaGreat
