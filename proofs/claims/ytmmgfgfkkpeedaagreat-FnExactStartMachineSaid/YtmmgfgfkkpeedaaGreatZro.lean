/- The tables, the residual functions and lemmas of this seat: parts of the proof of the law; conditions: those that each names. -/
import Derived.Test.YtmmgfgfkkpeedaaGreatSml
set_option linter.unusedVariables false
set_option linter.unusedSimpArgs false
set_option maxRecDepth 100000
namespace Go.Proofs.YtmmgfgfkkpeedaaGreat
open Go.Eng
def zero32:ByteArray:=ofBytes (List.replicate 32 (0:Int))
theorem zero32_size:zero32.size=32:=by rw[zero32,ofBytes_size];rfl
theorem zeros_ev:Ev (fun k=>c_impl_zeros k (32:Int)) zero32:=by
 refine EvQ.run (fun k=>impl_zeros_run k _) ?_
 simp only[impl_zeros]
 refine EvQ.ifp (by omega) (EvQ.ifp (by omega) (EvQ.ifp (by unfold capBytes;omega) ?_))
 exact EvQ.const _
theorem pad32_ev:Ev (fun k=>c_spec_PadTo k ((⟨#[]⟩:ByteArray),(32:Int))) zero32:=spec_PadTo_ev ⟨#[]⟩ 32 (by omega) (by decide)
end Go.Proofs.YtmmgfgfkkpeedaaGreat
