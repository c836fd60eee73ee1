/- AuditOn: whatever document, size and number come, the law answers true, and they stay. Conditions: none. -/
import Derived.Test.YtdaelobhgmdoeaaGreatRows
import Derived.Test.YtdaelobhgmdoeaaGreatW12
set_option linter.all false
set_option maxHeartbeats 8000000
set_option maxRecDepth 100000
namespace Go.Proofs.YtdaelobhgmdoeaaGreat
open Go.ChangeShapes Go.WideShapes Go.ChangeAt Go.RowKit Go.Vc
theorem own:ownKnob Tryz.prog.godebug=none:=by kernel_rfl
theorem laidOut:laidOutB Tryz.prog=true:=by kernel_rfl
theorem zG{n:Nat}{vs:List V}(h:ji Tryz.prog (n+1) 3 vs):∃m,rA Tryz.prog 3 vs=vI m/\yk m:=by
 obtain⟨m,rfl,hm⟩:=dd h;exact⟨m,by unfold rA;rw[Oe];rfl,hm⟩
theorem vK(os:Os)(started:os.Started)(H:Type)(enc:TypeId×Value->H):
 ReturnsInHanded {} Tryz.checked os 4 .any (Rows.auditOnSpec.pre6 enc Tryz.prog Tryz.f4 Rows.auditOnRow.domain false) (Rows.auditOnSpec.post enc Tryz.prog Tryz.f4 false true false false):=by
 refine returnsInHanded_of_change_sized (C:=Tryz.checked) own started (by kernel_rfl) Tryz.func4
  (ChangeSpec.witness6 (enc:=enc) (C:=Tryz.checked) false ⟨#[],#[.slice none 0 0,.int .i64 0,.int .i64 0,.int .i64 0],[]⟩ 8 (by kernel_rfl) (by kernel_rfl) (by kernel_rfl) (by kernel_rfl)) ?_
 intro W base args ds gs before hval hW _ hsz _;refine Kt (N:=6) (tb:=4) Tryz.func4 laidOut (by kernel_rfl) rfl rfl Tryz.underlying4 ?_ ?_ hval hW rfl hsz trivial
 .intro ds hl
  match ds,hl with
  |[d1,d2,d3,d4],_=>rfl
 .intro us hus;rw[Tryz.params4]at hus;obtain⟨v1,u1,rfl,h1,v2,u2,rfl,h2,v3,u3,rfl,h3,v4,u4,rfl,h4,rfl⟩:=hus;obtain⟨l,hl,g1,g2⟩:=G6 h1;obtain⟨w,hw,-⟩:=zG h2;obtain⟨h,hh,hi⟩:=zG h3;obtain⟨k,hk,ki⟩:=zG h4;rw[hl,hw,hh,hk];exact G3 MQ l ⟨by omega,λx hx=>by have:=(g2 x hx).2.1;omega⟩ w h k hi ki
theorem Cz:mapsRowed Tryz.prog=true:=by kernel_rfl
theorem Tf:namedTie Tryz.prog Rows.auditOnRow.named Rows.auditOnSpec.vars=true:=by kernel_rfl
theorem L6:(Rows.auditOnRow.inPlace==Tryz.prog.inPlace 4)=true:=by kernel_rfl
theorem Ni:(Rows.auditOnRow.unfollowed==Tryz.prog.unfollowed 4)=true:=by kernel_rfl
theorem Me:(Rows.auditOnRow.recurses==Tryz.prog.recurses 4)=true:=by kernel_rfl
theorem Rg:(Rows.auditOnRow.named==Tryz.prog.varsNamed 4)=true:=by kernel_rfl
theorem closed:joinedFacts Tryz.prog 4 Tryz.f4 Rows.auditOnSpec Rows.auditOnRow=true:=by
 unfold joinedFacts;simp only[Ba];refine⟨⟨⟨⟨⟨⟨⟨⟨⟨⟨⟨⟨⟨⟨⟨⟨⟨⟨⟨⟨⟨⟨⟨⟨⟨⟨⟨⟨⟨⟨⟨?_,laidOut⟩,Cz⟩,?_⟩,Tf⟩,?_⟩,?_⟩,?_⟩,?_⟩,L6⟩,Ni⟩,Me⟩,Rg⟩,?_⟩,?_⟩,?_⟩,?_⟩,?_⟩,?_⟩,?_⟩,?_⟩,?_⟩,?_⟩,?_⟩,?_⟩,?_⟩,?_⟩,?_⟩,?_⟩,?_⟩,?_⟩,?_⟩<;>kernel_rfl
theorem auditOn_holds:Rows.AuditOnSaid:=
 OpenClaim.holds_of_wide 4 Tryz.f4 rfl rfl rfl rfl rfl rfl rfl ⟨rfl,rfl,rfl,rfl,rfl⟩ rfl rfl rfl rfl rfl (by kernel_rfl) Tryz.func4 closed
  (of_decide_eq_true (by kernel_rfl)) (by unfold Func.isWrapper;first|(rw[if_pos (by decide+kernel)];kernel_rfl)|(rw[if_neg (by decide+kernel)];exact⟨rfl,rfl⟩))
  (λos started H enc _=>vK os started H enc)
#print axioms auditOn_holds
end Go.Proofs.YtdaelobhgmdoeaaGreat
