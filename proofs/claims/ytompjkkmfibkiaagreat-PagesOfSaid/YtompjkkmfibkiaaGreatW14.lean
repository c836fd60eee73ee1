import Derived.Test.YtompjkkmfibkiaaGreatW13
set_option linter.all false
set_option maxHeartbeats 8000000
open Go.Proofs.Tryz
namespace Go.Vc
open Go.Proofs
def Vh:Ye:=⟨0,0,0,0,0,0,0,0,0,0,0,0⟩
def oP(w h:Int):Nd:=⟨3,1,Vh,0,0,[],0,w,h⟩
def GL(b:Int):Nd:=⟨1,2,⟨0,0,0,0,0,2,2,0,b,0,0,0⟩,0,0,[],0,0,0⟩
set_option maxRecDepth 1000000
def MF:aE prog 73 [.str [123,51,32,52,53,125]] (.WC [ay [oP 3 45],vI 0,vI 0]):=aE.wA (fuel:=3000) qs rfl (by kernel_rfl)
def Px:aE prog 73 [.str [123,51,32,53,125,91,66,51,32,123,51,32,54,125,93]] (.WC [ay [oP 3 5,GL 3,oP 3 6],vI 0,vI 0]):=aE.wA (fuel:=3000) qs rfl (by kernel_rfl)
def OW:aE prog 73 [.str [123,51,32,53,125,91,66,52,32,123,51,32,54,125,93]] (.WC [ay [oP 3 5,GL 4,oP 3 6],vI 0,vI 0]):=aE.wA (fuel:=3000) qs rfl (by kernel_rfl)
def Pz:aE prog 73 [.str [91,66,51,32,123,51,32,54,125,93]] (.WC [ay [GL 3,oP 3 6],vI 0,vI 0]):=aE.wA (fuel:=3000) qs rfl (by kernel_rfl)
def Sh:aE prog 73 [.str []] (.WC [ay [],vI 0,vI 0]):=aE.wA (fuel:=3000) qs rfl (by kernel_rfl)
open Go.Proofs
def Dg(P:List YN)(j:Nat):((P.take j).flatMap (·.fs)).length<=(P.flatMap (·.fs)).length:=by
 have h:=congrArg (λl:List YN=>(l.flatMap (·.fs)).length) (rZ j P);simp only[List.flatMap_append,gn]at h;omega
set_option maxRecDepth 1000000
def DP:aE prog 23 [] (.bool true):=by
 have ha:dz [oP 3 45]:=⟨by decide,by decide⟩
 have hb:dz [oP 3 5,GL 3,oP 3 6]:=⟨by decide,by decide⟩
 have hc:dz [oP 3 5,GL 4,oP 3 6]:=⟨by decide,by decide⟩
 have hd:dz [GL 3,oP 3 6]:=⟨by decide,by decide⟩
 have he:dz []:=⟨by decide,by decide⟩
 have ea:fK [oP 3 45] 8 20=0:=by kernel_rfl
 have hF:((fv (dX [oP 3 45] 8 20)).flatMap (·.fs)).length=3:=by kernel_rfl
 refine N7 [oP 3 45] ha [] [] [] [] _ _ MF ea ⟨0,0,0,0,0,3,20⟩ ⟨0,0,20,0,0,3,20⟩ ⟨0,0,40,0,0,3,5⟩ (by kernel_rfl) (λj hj=>?_) rfl rfl rfl
  (wO _ _ _ _ ha _ _ MF ea (by kernel_rfl)) (wO _ _ _ _ hb _ _ Px (by kernel_rfl) (by kernel_rfl)) (wO _ _ _ _ hc _ _ OW (by kernel_rfl) (by kernel_rfl)) (wO _ _ _ _ hd _ _ Pz (by kernel_rfl) (by kernel_rfl)) (wO _ _ _ _ he _ _ Sh (by kernel_rfl) (by kernel_rfl))
 have h1:=Dg (fv (dX [oP 3 45] 8 20)) j;omega
end Go.Vc
