/- What the row of FnExactViewOf says of the program's functions, part by part; condition: none. -/
import Derived.Test.YtkdcfeopelbojaaGreatDoorProg
import Derived.Test.YtkdcfeopelbojaaGreatDoorRows
import Derived.WalkKit
import Derived.ProofKit
import Derived.OpenShut
import Derived.ShutString
import Derived.ChangeOld
import Derived.Below
import Derived.SizedLaws
set_option maxRecDepth 100000
namespace Go.Proofs.YtkdcfeopelbojaaGreatDoor
open Go.ChangeShapes Go.WideShapes Go.ChangeAt Go.RowKit
theorem Uk:(Rows.fnExactViewOfRow.inPlace==Tryz.prog.inPlace 3)=true:=by kernel_rfl
theorem Ui:(Rows.fnExactViewOfRow.unfollowed==Tryz.prog.unfollowed 3)=true:=by kernel_rfl
theorem Ul:(Rows.fnExactViewOfRow.recurses==Tryz.prog.recurses 3)=true:=by kernel_rfl
theorem Uj:(Rows.fnExactViewOfRow.named==Tryz.prog.varsNamed 3)=true:=by kernel_rfl
theorem jf:joinedFacts Tryz.prog 3 Tryz.f3 Rows.fnExactViewOfSpec Rows.fnExactViewOfRow=true:=by
 unfold joinedFacts
 rw[Uk,Ui,Ul,Uj]
 kernel_rfl
end Go.Proofs.YtkdcfeopelbojaaGreatDoor
