/- The tables, the residual functions and lemmas of this seat: parts of the proof of the law; conditions: those that each names. -/
import Derived.Test.YtkdcfeopelbojaaGreatDoorSml
set_option linter.unusedVariables false
set_option linter.unusedSimpArgs false
set_option maxRecDepth 100000
namespace Go.Proofs.YtkdcfeopelbojaaGreatDoor
open Go.Eng
def sr:ByteArray:=ofBytes (List.replicate 32 (0:Int))
theorem uH:sr.size=32:=by rw[sr,cR];rfl
theorem PA:Ev (fun k=>tg k (32:Int)) sr:=by
 refine aw.run (fun k=>Gw k _) ?_
 simp only[FM]
 refine aw.pK (by omega) (aw.pK (by omega) (aw.pK (by unfold au;omega) ?_))
 exact aw.const _
theorem Ps:Ev (fun k=>kO k ((⟨#[]⟩:ByteArray),(32:Int))) sr:=yd ⟨#[]⟩ 32 (by omega) (by decide)
end Go.Proofs.YtkdcfeopelbojaaGreatDoor
