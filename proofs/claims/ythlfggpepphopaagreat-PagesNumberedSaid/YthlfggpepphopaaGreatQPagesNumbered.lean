/- PagesNumbered: whatever nodes and size come, the law answers true, and they stay as they were. Conditions: none. -/
import Derived.Test.YthlfggpepphopaaGreatRows
import Derived.Test.YthlfggpepphopaaGreatW11
set_option linter.all false
set_option maxRecDepth 100000
namespace Go.Proofs.YthlfggpepphopaaGreat
open Go.ChangeShapes Go.WideShapes Go.ChangeAt Go.RowKit Go.Vc
theorem own:ownKnob Tryz.prog.godebug=none:=by kernel_rfl
theorem laidOut:laidOutB Tryz.prog=true:=by kernel_rfl
theorem Br {n:Nat} {vs:List V} (h:gU Tryz.prog (n+1) 3 vs):∃m,oG Tryz.prog 3 vs=vI m∧wP m:=by
 obtain ⟨m,rfl,hm⟩:=cT h;exact ⟨m,by unfold oG; rw [Io]; rfl,hm⟩
theorem lG (os:Os) (started:os.Started) (H:Type) (enc:TypeId×Value→H) :
 ReturnsInHanded {} Tryz.checked os 5 .any (Rows.pagesNumberedSpec.pre6 enc Tryz.prog Tryz.f5 Rows.pagesNumberedRow.domain false) (Rows.pagesNumberedSpec.post enc Tryz.prog Tryz.f5 false true false false):=by
 refine returnsInHanded_of_change_sized (C:=Tryz.checked) own started (by kernel_rfl) Tryz.func5
  (ChangeSpec.witness6 (enc:=enc) (C:=Tryz.checked) false ⟨#[],#[.slice none 0 0, .int .i64 0, .int .i64 0],[]⟩ 8 (by kernel_rfl) (by kernel_rfl) (by kernel_rfl) (by kernel_rfl)) ?_
 intro W base args ds gs before hval hW _ hsz _;refine FU (N:=6) (tb:=4) Tryz.func5 laidOut (by kernel_rfl) rfl rfl Tryz.underlying4 ?_ ?_ hval hW rfl hsz trivial
 ·intro ds hl
  match ds,hl with
  | [d1,d2,d3],_=>rfl
 ·intro us hus;rw [Tryz.params5] at hus;obtain ⟨v1,u1,rfl,h1,v2,u2,rfl,h2,v3,u3,rfl,h3,rfl⟩:=hus;obtain ⟨l,hl,g1,g2⟩:=Dp h1;obtain ⟨w,hw, -⟩:=Br h2;obtain ⟨h,hh,hi⟩:=Br h3;rw [hl,hw,hh];exact qO AM l (by omega) (fun x hx=>by have:=(g2 x hx).2.1; omega) w h hi
theorem pagesNumbered_holds:Rows.PagesNumberedSaid :=
 OpenClaim.holds_of_wide 5 Tryz.f5 rfl rfl rfl rfl rfl rfl rfl ⟨rfl,rfl,rfl,rfl,rfl⟩ rfl rfl rfl rfl rfl (by kernel_rfl) Tryz.func5 (by kernel_rfl)
  (of_decide_eq_true (by kernel_rfl)) (by unfold Func.isWrapper; first | (rw [if_pos (by decide +kernel)]; kernel_rfl) | (rw [if_neg (by decide +kernel)]; exact ⟨rfl,rfl⟩))
  (fun os started H enc _=>lG os started H enc)
#print axioms pagesNumbered_holds
end Go.Proofs.YthlfggpepphopaaGreat
