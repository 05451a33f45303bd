/- The tables, the residual functions and lemmas of this seat: parts of the proof of the law; conditions: those that each names. -/
import Derived.Test.YtmmgfgfkkpeedaaGreatSml
set_option linter.unusedVariables false
set_option linter.unusedSimpArgs false
set_option maxRecDepth 100000
namespace Go.Proofs.YtmmgfgfkkpeedaaGreat
open Go.Eng
def mK:ByteArray:=ofBytes (List.replicate 32 (0:Int))
theorem xX:mK.size=32:=by rw[mK,mN];rfl
theorem OY:Ev (fun k=>pL k (32:Int)) mK:=by
 refine au.run (fun k=>KN k _) ?_
 simp only[KK]
 refine au.nA (by omega) (au.nA (by omega) (au.nA (by unfold af;omega) ?_))
 exact au.const _
theorem Ot:Ev (fun k=>dE k ((⟨#[]⟩:ByteArray),(32:Int))) mK:=ir ⟨#[]⟩ 32 (by omega) (by decide)
end Go.Proofs.YtmmgfgfkkpeedaaGreat
