/- Part 11 of the library of this proof. -/
import Derived.Test.YthlfggpepphopaaGreatW10
set_option linter.all false
namespace Go.Vc
open Go.Proofs Go.Proofs.Tryz
def No:Sty:=⟨0,0,0,0,0,0,0,0,0,0,0,0⟩
def lv (w h:Int):Nd:=⟨3,1,No,0,0,[],0,w,h⟩
def CR (b:Int):Nd:=⟨1,2,⟨0,0,0,0,0,2,2,0,b,0,0,0⟩,0,0,[],0,0,0⟩
set_option maxRecDepth 1000000
theorem Ia:aV prog 46 [.str [123,51,32,52,53,125]] (.tup [aJ [lv 3 45],vI 0,vI 0]):=aV.rO (fuel:=3000) nZ rfl (by kernel_rfl)
theorem Ll:aV prog 46 [.str [123,51,32,53,125,91,66,51,32,123,51,32,54,125,93]] (.tup [aJ [lv 3 5,CR 3,lv 3 6],vI 0,vI 0]):=aV.rO (fuel:=3000) nZ rfl (by kernel_rfl)
theorem LJ:aV prog 46 [.str [123,51,32,53,125,91,66,52,32,123,51,32,54,125,93]] (.tup [aJ [lv 3 5,CR 4,lv 3 6],vI 0,vI 0]):=aV.rO (fuel:=3000) nZ rfl (by kernel_rfl)
theorem Mp:aV prog 46 [.str [91,66,51,32,123,51,32,54,125,93]] (.tup [aJ [CR 3,lv 3 6],vI 0,vI 0]):=aV.rO (fuel:=3000) nZ rfl (by kernel_rfl)
theorem Lw:aV prog 46 [.str []] (.tup [aJ [],vI 0,vI 0]):=aV.rO (fuel:=3000) nZ rfl (by kernel_rfl)
open Go.Proofs Go.Proofs.Tryz
theorem AD (P:List Pag) (j:Nat):((P.take j).flatMap (·.fs)).length≤(P.flatMap (·.fs)).length:=by
 have h:=congrArg (fun l:List Pag=>(l.flatMap (·.fs)).length) (List.take_append_drop j P);simp only [List.flatMap_append,List.length_append] at h;omega
set_option maxRecDepth 1000000
theorem AN:aV prog 15 [] (.bool true):=by
 have ha:dJ [lv 3 45]:=⟨by decide,by decide⟩
 have hb:dJ [lv 3 5,CR 3,lv 3 6]:=⟨by decide,by decide⟩
 have hc:dJ [lv 3 5,CR 4,lv 3 6]:=⟨by decide,by decide⟩
 have hd:dJ [CR 3,lv 3 6]:=⟨by decide,by decide⟩
 have he:dJ []:=⟨by decide,by decide⟩
 have ea:gu [lv 3 45] 8 20=0:=by kernel_rfl
 have hP:(fo (cz [lv 3 45] 8 20)).length=3:=by kernel_rfl
 have hF:((fo (cz [lv 3 45] 8 20)).flatMap (·.fs)).length=3:=by kernel_rfl
 refine Ir [lv 3 45] ha [] [] [] [] _ _ Ia ea ⟨0,0,0,0,0,3,20⟩ ⟨0,0,20,0,0,3,20⟩ ⟨0,0,40,0,0,3,5⟩ (by kernel_rfl) (fun j hj=>?_) rfl rfl rfl
  (Ex _ _ _ _ ha _ _ Ia ea (by kernel_rfl)) (Ex _ _ _ _ hb _ _ Ll (by kernel_rfl) (by kernel_rfl)) (Ex _ _ _ _ hc _ _ LJ (by kernel_rfl) (by kernel_rfl)) (Ex _ _ _ _ hd _ _ Mp (by kernel_rfl) (by kernel_rfl)) (Ex _ _ _ _ he _ _ Lw (by kernel_rfl) (by kernel_rfl))
 have h1:=AD (fo (cz [lv 3 45] 8 20)) j;omega
end Go.Vc
