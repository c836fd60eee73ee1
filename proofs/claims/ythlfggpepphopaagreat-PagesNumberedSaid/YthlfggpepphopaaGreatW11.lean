/- Part 11 of the library of this proof. -/
import Derived.Test.YthlfggpepphopaaGreatW10
set_option linter.all false
namespace Go.Vc
open Go.Proofs Go.Proofs.Tryz
def OK:Sty:=⟨0,0,0,0,0,0,0,0,0,0,0,0⟩
def lB (w h:Int):Nd:=⟨3,1,OK,0,0,[],0,w,h⟩
def DG (b:Int):Nd:=⟨1,2,⟨0,0,0,0,0,2,2,0,b,0,0,0⟩,0,0,[],0,0,0⟩
set_option maxRecDepth 1000000
theorem Iv:aU prog 46 [.str [123,51,32,52,53,125]] (.tup [aI [lB 3 45],vI 0,vI 0]):=aU.tq (fuel:=3000) oz rfl (by kernel_rfl)
theorem Mr:aU prog 46 [.str [123,51,32,53,125,91,66,51,32,123,51,32,54,125,93]] (.tup [aI [lB 3 5,DG 3,lB 3 6],vI 0,vI 0]):=aU.tq (fuel:=3000) oz rfl (by kernel_rfl)
theorem Mv:aU prog 46 [.str [123,51,32,53,125,91,66,52,32,123,51,32,54,125,93]] (.tup [aI [lB 3 5,DG 4,lB 3 6],vI 0,vI 0]):=aU.tq (fuel:=3000) oz rfl (by kernel_rfl)
theorem LG:aU prog 46 [.str [91,66,51,32,123,51,32,54,125,93]] (.tup [aI [DG 3,lB 3 6],vI 0,vI 0]):=aU.tq (fuel:=3000) oz rfl (by kernel_rfl)
theorem Me:aU prog 46 [.str []] (.tup [aI [],vI 0,vI 0]):=aU.tq (fuel:=3000) oz rfl (by kernel_rfl)
open Go.Proofs Go.Proofs.Tryz
theorem Ar (P:List Pag) (j:Nat):((P.take j).flatMap (·.fs)).length≤(P.flatMap (·.fs)).length:=by
 have h:=congrArg (fun l:List Pag=>(l.flatMap (·.fs)).length) (List.take_append_drop j P);simp only [List.flatMap_append,List.length_append] at h;omega
set_option maxRecDepth 1000000
theorem AM:aU prog 15 [] (.bool true):=by
 have ha:dE [lB 3 45]:=⟨by decide,by decide⟩
 have hb:dE [lB 3 5,DG 3,lB 3 6]:=⟨by decide,by decide⟩
 have hc:dE [lB 3 5,DG 4,lB 3 6]:=⟨by decide,by decide⟩
 have hd:dE [DG 3,lB 3 6]:=⟨by decide,by decide⟩
 have he:dE []:=⟨by decide,by decide⟩
 have ea:gl [lB 3 45] 8 20=0:=by kernel_rfl
 have hP:(di (bQ [lB 3 45] 8 20)).length=3:=by kernel_rfl
 have hF:((di (bQ [lB 3 45] 8 20)).flatMap (·.fs)).length=3:=by kernel_rfl
 refine IL [lB 3 45] ha [] [] [] [] _ _ Iv ea ⟨0,0,0,0,0,3,20⟩ ⟨0,0,20,0,0,3,20⟩ ⟨0,0,40,0,0,3,5⟩ (by kernel_rfl) (fun j hj=>?_) rfl rfl rfl
  (Eg _ _ _ _ ha _ _ Iv ea (by kernel_rfl)) (Eg _ _ _ _ hb _ _ Mr (by kernel_rfl) (by kernel_rfl)) (Eg _ _ _ _ hc _ _ Mv (by kernel_rfl) (by kernel_rfl)) (Eg _ _ _ _ hd _ _ LG (by kernel_rfl) (by kernel_rfl)) (Eg _ _ _ _ he _ _ Me (by kernel_rfl) (by kernel_rfl))
 have h1:=Ar (di (bQ [lB 3 45] 8 20)) j;omega
end Go.Vc
