/- The tables, the residual functions and lemmas of this seat: parts of the proof of the law; conditions: those that each names. -/
import Derived.Test.YtkdcfeopelbojaaGreatDoorSup
set_option linter.unusedVariables false
set_option linter.unusedSimpArgs false
set_option maxRecDepth 100000
namespace Go.Proofs.YtkdcfeopelbojaaGreatDoor
open Go.Eng
theorem LW{n:Nat}(h:n<4611686018427387904):aa .i64 (n:Int)=n:=aV (by omega) (by omega)
def bI(s:ByteArray)(i:Nat):Nat:=match s[i]? with|some c=>c.toNat|none=>0
theorem mH(s:ByteArray)(i:Nat):bI s i<256:=by
 unfold bI
 split
 ·exact UInt8.toNat_lt _
 ·omega
theorem byte_at{s:ByteArray}{i:Nat}(h:i<s.size):s[i]?.map (fun c=>(c.toNat:Int))=some (bI s i:Int):=by
 have hx:s[i]? =some s[i]:=getElem?_pos s i h
 simp only[bI,hx,Option.map_some]
end Go.Proofs.YtkdcfeopelbojaaGreatDoor
