/- The tables, the residual functions and lemmas of this seat: parts of the proof of the law; conditions: those that each names. -/
import Derived.Test.YtmmgfgfkkpeedaaGreatSup
set_option linter.unusedVariables false
set_option linter.unusedSimpArgs false
set_option maxRecDepth 100000
namespace Go.Proofs.YtmmgfgfkkpeedaaGreat
open Go.Eng
theorem wnat{n:Nat}(h:n<4611686018427387904):wrapK .i64 (n:Int)=n:=i64w (by omega) (by omega)
def byteN(s:ByteArray)(i:Nat):Nat:=match s[i]? with|some c=>c.toNat|none=>0
theorem byteN_lt(s:ByteArray)(i:Nat):byteN s i<256:=by
 unfold byteN
 split
 ·exact UInt8.toNat_lt _
 ·omega
theorem byte_at{s:ByteArray}{i:Nat}(h:i<s.size):s[i]?.map (fun c=>(c.toNat:Int))=some (byteN s i:Int):=by
 have hx:s[i]? =some s[i]:=getElem?_pos s i h
 simp only[byteN,hx,Option.map_some]
end Go.Proofs.YtmmgfgfkkpeedaaGreat
