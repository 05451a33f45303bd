/- The tables, the residual functions and lemmas of this seat: parts of the proof of the law; conditions: those that each names. -/
import Derived.Test.YtkdcfeopelbojaaGreatDoorNod
set_option linter.unusedVariables false
set_option linter.unusedSimpArgs false
set_option maxRecDepth 100000
namespace Go.Proofs.YtkdcfeopelbojaaGreatDoor
open Go.Eng
theorem wS(i:Nat)(h:i<1000000000000:=by omega):aa .i64 ((i:Int)+1)=((i+1:Nat):Int):=by rw[aV (by omega) (by omega)];omega
section
variable {f:dV}
theorem Ly{i:Nat}{n:az}(h:(fI f)[i]? =some n):(fI f)[((i:Nat):Int).toNat]? =some n:=by rw[Int.toNat_natCast];exact h
end
end Go.Proofs.YtkdcfeopelbojaaGreatDoor
