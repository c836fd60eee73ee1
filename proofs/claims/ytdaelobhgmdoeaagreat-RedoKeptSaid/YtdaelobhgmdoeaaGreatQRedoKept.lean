/- RedoKept: whatever two documents and size come, the law answers true, and they stay as they were. Conditions: none. -/
import Derived.Test.YtdaelobhgmdoeaaGreatRows
import Derived.Test.YtdaelobhgmdoeaaGreatW11
set_option linter.all false
set_option maxHeartbeats 8000000
set_option maxRecDepth 100000
namespace Go.Proofs.YtdaelobhgmdoeaaGreat
open Go.ChangeShapes Go.WideShapes Go.ChangeAt Go.RowKit Go.Vc
theorem own:ownKnob Tryz.prog.godebug=none:=by kernel_rfl
theorem laidOut:laidOutB Tryz.prog=true:=by kernel_rfl
theorem Ff{n:Nat}{vs:List V}(h:jg Tryz.prog (n+1) 3 vs):∃m,ry Tryz.prog 3 vs=vI m/\Aa m:=by
 obtain⟨m,rfl,hm⟩:=dn h;exact⟨m,by unfold ry;rw[M8];rfl,hm⟩
theorem uJ(os:Os)(started:os.Started)(H:Type)(enc:TypeId×Value->H):
 ReturnsInHanded {} Tryz.checked os 6 .any (Rows.redoKeptSpec.pre6 enc Tryz.prog Tryz.f6 Rows.redoKeptRow.domain false) (Rows.redoKeptSpec.post enc Tryz.prog Tryz.f6 false true false false):=by
 refine returnsInHanded_of_change_sized (C:=Tryz.checked) own started (by kernel_rfl) Tryz.func6
  (ChangeSpec.witness6 (enc:=enc) (C:=Tryz.checked) false ⟨#[],#[.slice none 0 0,.slice none 0 0,.int .i64 0,.int .i64 0],[]⟩ 8 (by kernel_rfl) (by kernel_rfl) (by kernel_rfl) (by kernel_rfl)) ?_
 intro W base args ds gs before hval hW _ Zb _;refine IC (N:=6) (tb:=4) Tryz.func6 laidOut (by kernel_rfl) rfl rfl Tryz.underlying4 ?_ ?_ hval hW rfl Zb trivial
 .intro ds hl
  match ds,hl with
  |[d1,d2,d3,d4],_=>rfl
 .intro us hus;rw[Tryz.params6]at hus;obtain⟨v1,u1,rfl,h1,v2,u2,rfl,h2,v3,u3,rfl,h3,v4,u4,rfl,h4,rfl⟩:=hus;obtain⟨l,hl,g1,g2⟩:=zp h1;obtain⟨m,hm,k1,k2⟩:=zp h2;obtain⟨w,hw,-⟩:=Ff h3;obtain⟨h,hh,hi⟩:=Ff h4;rw[hl,hm,hw,hh];exact Ei Od l m ⟨by omega,λx hx=>by have:=(g2 x hx).2.1;omega⟩ ⟨by omega,λx hx=>by have:=(k2 x hx).2.1;omega⟩ w h hi
theorem CH:mapsRowed Tryz.prog=true:=by kernel_rfl
theorem SR:namedTie Tryz.prog Rows.redoKeptRow.named Rows.redoKeptSpec.vars=true:=by kernel_rfl
theorem MY:(Rows.redoKeptRow.inPlace==Tryz.prog.inPlace 6)=true:=by kernel_rfl
theorem MF:(Rows.redoKeptRow.unfollowed==Tryz.prog.unfollowed 6)=true:=by kernel_rfl
theorem MU:(Rows.redoKeptRow.recurses==Tryz.prog.recurses 6)=true:=by kernel_rfl
theorem P4:(Rows.redoKeptRow.named==Tryz.prog.varsNamed 6)=true:=by kernel_rfl
theorem closed:joinedFacts Tryz.prog 6 Tryz.f6 Rows.redoKeptSpec Rows.redoKeptRow=true:=by
 unfold joinedFacts;simp only[Ba];exact⟨⟨⟨⟨⟨⟨⟨⟨⟨⟨⟨⟨⟨⟨⟨⟨⟨⟨⟨⟨⟨⟨⟨⟨⟨⟨⟨⟨⟨⟨⟨(by kernel_rfl),laidOut⟩,CH⟩,(by kernel_rfl)⟩,SR⟩,(by kernel_rfl)⟩,(by kernel_rfl)⟩,(by kernel_rfl)⟩,(by kernel_rfl)⟩,MY⟩,MF⟩,MU⟩,P4⟩,(by kernel_rfl)⟩,(by kernel_rfl)⟩,(by kernel_rfl)⟩,(by kernel_rfl)⟩,(by kernel_rfl)⟩,(by kernel_rfl)⟩,(by kernel_rfl)⟩,(by kernel_rfl)⟩,(by kernel_rfl)⟩,(by kernel_rfl)⟩,(by kernel_rfl)⟩,(by kernel_rfl)⟩,(by kernel_rfl)⟩,(by kernel_rfl)⟩,(by kernel_rfl)⟩,(by kernel_rfl)⟩,(by kernel_rfl)⟩,(by kernel_rfl)⟩,(by kernel_rfl)⟩
theorem redoKept_holds:Rows.RedoKeptSaid:=
 OpenClaim.holds_of_wide 6 Tryz.f6 rfl rfl rfl rfl rfl rfl rfl ⟨rfl,rfl,rfl,rfl,rfl⟩ rfl rfl rfl rfl rfl (by kernel_rfl) Tryz.func6 closed
  (of_decide_eq_true (by kernel_rfl)) (by unfold Func.isWrapper;first|(rw[if_pos (by decide+kernel)];kernel_rfl)|(rw[if_neg (by decide+kernel)];exact⟨rfl,rfl⟩))
  (λos started H enc _=>uJ os started H enc)
#print axioms redoKept_holds
end Go.Proofs.YtdaelobhgmdoeaaGreat
