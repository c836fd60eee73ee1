/- GaugeFits: whatever the arguments come, the law answers true, and they stay as they were. Conditions: none beyond the row's own (the listed variables of Go's library, tied by the card). -/
import Derived.Test.YtmkknagmafmcpaaGreatDoorRows
import Derived.Test.YtmkknagmafmcpaaGreatDoorCards
import Derived.Test.YtmkknagmafmcpaaGreatDoorTie
import Derived.JoinedOf
import Derived.SevenTiedAt
import Derived.Test.YtmkknagmafmcpaaGreatDoorW12
set_option linter.all false
set_option maxHeartbeats 8000000
set_option maxRecDepth 100000
namespace Go.Proofs.YtmkknagmafmcpaaGreatDoor
open Go.ChangeShapes Go.WideShapes Go.ChangeAt Go.RowKit Go.Vc
theorem laidOut:laidOutB Tryz.prog=true:=by kernel_rfl
theorem pM(os:Os)(started:os.Started)(H:Type)(enc:TypeId×Value->H):
 ReturnsInHanded {} Tryz.checked os 3 .any (λw args=>(Rows.gaugeFitsSpec.pre enc Tryz.prog Tryz.f3 Rows.gaugeFitsRow.domain false w args/\laidMet Tryz.prog Rows.gaugeFitsRow.laid w)/\sizedMet enc Tryz.prog Tryz.f3 (OpenSpec.ofChange Rows.gaugeFitsSpec) false w args)
  (Rows.gaugeFitsSpec.post enc Tryz.prog Tryz.f3 false true false false):=by
 refine returnsInHanded_of_change_and (C:=Tryz.checked) (X:=λw _=>laidMet Tryz.prog Rows.gaugeFitsRow.laid w) (λ_ _ _ hh h=>h.of_heap hh) own started (by kernel_rfl) Tryz.func3
  (ChangeSpec.witness_at (enc:=enc) (C:=Tryz.checked) (os:=os) (X:=λw _=>laidMet Tryz.prog Rows.gaugeFitsRow.laid w) false (vP os) #[.slice none 0 0,.int .i64 0,.int .i64 0] 8 rfl (by kernel_rfl) (by kernel_rfl) (by kernel_rfl) (by kernel_rfl) (by kernel_rfl) (vp os _)) ?_
 intro W base args ds gs before Ui hW q1 RM q2 q3;refine FT (N:=7) (tb:=4) Tryz.func3 laidOut (by kernel_rfl) rfl rfl Tryz.underlying4 ?_ ?_ Ui hW rfl RM (by first|exact lJ q1|exact lJ q2|exact lJ q3)
 .intro ds hl
  match ds,hl with
  |[d0,d1,d2],_=>rfl
 .intro us hus;rw[Tryz.params3]at hus;obtain⟨vs0,us0,rfl,h0,vs1,us1,rfl,h1,vs2,us2,rfl,h2,rfl⟩:=hus;obtain⟨a0,ha0,hb0⟩:=Dk h0;rw[ha0];obtain⟨a1,rfl,UI⟩:=dc h1;obtain⟨a2,rfl,Qp⟩:=dc h2;exact AB Gc a0 (by have:=hb0.1;omega) (λx hx=>by have:=(hb0.2 x hx).2.1;omega) a1 a2
theorem u6:Rows.GaugeFitsSaid:=
 OpenClaim.holds_of_wide 3 Tryz.f3 rfl rfl rfl rfl rfl rfl rfl ⟨rfl,rfl,rfl,rfl,rfl⟩ rfl rfl rfl rfl rfl (by kernel_rfl) Tryz.func3 (by kernel_rfl)
  (of_decide_eq_true (by kernel_rfl)) (by unfold Func.isWrapper;first|(rw[if_pos (by decide+kernel)];kernel_rfl)|(rw[if_neg (by decide+kernel)];exact⟨rfl,rfl⟩))
  (λos started H enc _=>pM os started H enc)
theorem gaugeFits_holds:Rows.GaugeFitsCardSaid:=
 Claim7.holds_tied_plain_at .later [] [.data,.data,.data,.data,.sentinel,.sentinel,.pinned] true Rows.gaugeFitsCard.stood.harness true
  u6 (λ_ h=>by cases h) (by kernel_rfl) (λ_ h=>by cases h) gaugeFits_row_tie rfl ⟨rfl,rfl⟩ (by kernel_rfl) rfl
  (λf fn hf ZV=>by
    obtain rfl:f=3:=Option.some.inj ((show Tryz.prog.funcNamed Rows.gaugeFitsRow.func=some 3 by kernel_rfl).symm.trans hf) |>.symm
    obtain rfl:fn=Tryz.f3:=(Option.some.inj (Tryz.func3.symm.trans ZV)).symm;exact⟨by kernel_rfl,λj t ht=>by
     rw[Tryz.params3]at ht;have h3:t=3\/t=22:=by
      rcases j with _|_|_|j
      .exact .inr (by simpa using ht.symm)
      .exact .inl (by simpa using ht.symm)
      .exact .inl (by simpa using ht.symm)
      .simp at ht
     rcases h3 with rfl|rfl
     .exact(show Tryz.prog.wantsStandIn 3=false by kernel_rfl)
     .exact(show Tryz.prog.wantsStandIn 22=false by kernel_rfl)⟩)
  (by kernel_rfl)
#print axioms gaugeFits_holds
end Go.Proofs.YtmkknagmafmcpaaGreatDoor
