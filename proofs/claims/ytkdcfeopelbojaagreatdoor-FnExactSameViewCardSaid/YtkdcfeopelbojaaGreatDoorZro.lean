/- The tables, the residual functions and lemmas of this seat: parts of the proof of the law; conditions: those that each names. -/
import Derived.Test.YtkdcfeopelbojaaGreatDoorSml
set_option linter.unusedVariables false
set_option linter.unusedSimpArgs false
set_option maxRecDepth 100000
namespace Go.Proofs.YtkdcfeopelbojaaGreatDoor
open Go.Eng
def su:ByteArray:=ofBytes (List.replicate 32 (0:Int))
theorem vB:su.size=32:=by rw[su,cP];rfl
theorem O7:Ev (fun k=>rJ k (32:Int)) su:=by
 refine ax.run (fun k=>Fe k _) ?_
 simp only[ED]
 refine ax.pE (by omega) (ax.pE (by omega) (ax.pE (by unfold au;omega) ?_))
 exact ax.const _
theorem O8:Ev (fun k=>kO k ((⟨#[]⟩:ByteArray),(32:Int))) su:=xi ⟨#[]⟩ 32 (by omega) (by decide)
end Go.Proofs.YtkdcfeopelbojaaGreatDoor
