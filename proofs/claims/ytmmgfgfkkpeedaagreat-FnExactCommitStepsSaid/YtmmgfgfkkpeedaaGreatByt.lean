/- The tables, the residual functions and lemmas of this seat: parts of the proof of the law; conditions: those that each names. -/
import Derived.Test.YtmmgfgfkkpeedaaGreatSup
set_option linter.unusedVariables false
set_option linter.unusedSimpArgs false
set_option maxRecDepth 100000
namespace Go.Proofs.YtmmgfgfkkpeedaaGreat
open Go.Eng
theorem CO{n:Nat}(h:n<4611686018427387904):aa .i64 (n:Int)=n:=aR (by omega) (by omega)
def bm(s:ByteArray)(i:Nat):Nat:=match s[i]? with|some c=>c.toNat|none=>0
theorem eO(s:ByteArray)(i:Nat):bm s i<256:=by
 unfold bm
 split
 ·exact UInt8.toNat_lt _
 ·omega
theorem gS{s:ByteArray}{i:Nat}(h:i<s.size):s[i]?.map (fun c=>(c.toNat:Int))=some (bm s i:Int):=by
 have hx:s[i]? =some s[i]:=getElem?_pos s i h
 simp only[bm,hx,Option.map_some]
end Go.Proofs.YtmmgfgfkkpeedaaGreat
