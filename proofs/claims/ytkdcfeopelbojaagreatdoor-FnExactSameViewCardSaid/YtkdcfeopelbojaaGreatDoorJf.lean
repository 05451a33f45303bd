/- What the row of FnExactSameView says of the program's functions, part by part; condition: none. -/
import Derived.Test.YtkdcfeopelbojaaGreatDoorProg
import Derived.Test.YtkdcfeopelbojaaGreatDoorRows
import Derived.WalkKit
import Derived.ProofKit
import Derived.OpenShut
import Derived.ShutString
import Derived.ChangeOld
import Derived.Below
import Derived.SizedLaws
set_option maxRecDepth 100000
namespace Go.Proofs.YtkdcfeopelbojaaGreatDoor
open Go.ChangeShapes Go.WideShapes Go.ChangeAt Go.RowKit
theorem Tr:(Rows.fnExactSameViewRow.inPlace==Tryz.prog.inPlace 4)=true:=by kernel_rfl
theorem Ts:(Rows.fnExactSameViewRow.unfollowed==Tryz.prog.unfollowed 4)=true:=by kernel_rfl
theorem Tv:(Rows.fnExactSameViewRow.recurses==Tryz.prog.recurses 4)=true:=by kernel_rfl
theorem Tu:(Rows.fnExactSameViewRow.named==Tryz.prog.varsNamed 4)=true:=by kernel_rfl
theorem jf:joinedFacts Tryz.prog 4 Tryz.f4 Rows.fnExactSameViewSpec Rows.fnExactSameViewRow=true:=by
 unfold joinedFacts
 rw[Tr,Ts,Tv,Tu]
 kernel_rfl
end Go.Proofs.YtkdcfeopelbojaaGreatDoor
