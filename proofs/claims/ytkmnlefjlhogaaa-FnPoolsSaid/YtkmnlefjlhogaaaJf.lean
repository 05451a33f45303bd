/- What the row of FnPools says of the program's functions, part by part; condition: none. -/
import Derived.Test.YtkmnlefjlhogaaaProg
import Derived.Test.YtkmnlefjlhogaaaRows
import Derived.WalkKit
import Derived.ProofKit
import Derived.OpenShut
import Derived.ShutString
import Derived.ChangeOld
import Derived.Below
import Derived.SizedLaws
set_option maxRecDepth 100000
namespace Go.Proofs.Ytkmnlefjlhogaaa
open Go.ChangeShapes Go.WideShapes Go.ChangeAt Go.RowKit
theorem jf1:(Rows.fnPoolsRow.inPlace==Try.prog.inPlace 3)=true:=by kernel_rfl
theorem jf2:(Rows.fnPoolsRow.unfollowed==Try.prog.unfollowed 3)=true:=by kernel_rfl
theorem jf3:(Rows.fnPoolsRow.recurses==Try.prog.recurses 3)=true:=by kernel_rfl
theorem jf4:(Rows.fnPoolsRow.named==Try.prog.varsNamed 3)=true:=by kernel_rfl
theorem jf:joinedFacts Try.prog 3 Try.f3 Rows.fnPoolsSpec Rows.fnPoolsRow=true:=by
 unfold joinedFacts
 rw[jf1,jf2,jf3,jf4]
 kernel_rfl
end Go.Proofs.Ytkmnlefjlhogaaa
