/- The tables, the residual functions and lemmas of this seat: parts of the proof of the law; conditions: those that each names. -/
import Derived.Test.YtkdcfeopelbojaaGreatDoorVss
set_option linter.unusedVariables false
set_option linter.unusedSimpArgs false
set_option maxRecDepth 100000
namespace Go.Proofs.YtkdcfeopelbojaaGreatDoor
open Go.Eng
def jy(u:List Bool):Nat→List Int
 |0=>[]
 |i+1=>match u[i]? with
  |some true=>jy u i++[(i:Int)]
  |_=>jy u i
theorem zW(u:List Bool):∀i,(jy u i).length≤i
 |0=>Nat.le_refl _
 |i+1=>by
  have:=zW u i
  simp only[jy]
  split
  ·rw[List.length_append,List.length_singleton];omega
  ·omega
end Go.Proofs.YtkdcfeopelbojaaGreatDoor
