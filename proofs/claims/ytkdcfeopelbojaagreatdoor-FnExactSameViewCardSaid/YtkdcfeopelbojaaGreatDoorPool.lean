/- The tables, the residual functions and lemmas of this seat: parts of the proof of the law; conditions: those that each names. -/
import Derived.Test.YtkdcfeopelbojaaGreatDoorSml
set_option linter.unusedVariables false
set_option linter.unusedSimpArgs false
set_option maxRecDepth 100000
namespace Go.Proofs.YtkdcfeopelbojaaGreatDoor
open Go.Eng
def Pu(f:dV)(u:Int):Nat→List Int
 |0=>[]
 |i+1=>match(fI f)[(u*5).toNat+i]? with
  |some n=>bif n.1 != 0 then Pu f u i++[u*5+i]else Pu f u i
  |none=>Pu f u i
section
variable {f:dV} {u:Int}
theorem Lj(i:Int)(h0:0≤i)(h1:i<20){n:az}(hn:(fI f)[i.toNat]? =some n):Ev (fun k=>ji k (some f,i)) (n.1 != 0):=by
 refine ax.run (fun k=>DQ k _ _) ?_
 simp only[C1,h0,h1,decide_true,cond_true,Option.bind_some,if_true,hn]
 exact ax.const _
end
end Go.Proofs.YtkdcfeopelbojaaGreatDoor
