/- The tables, the residual functions and lemmas of this seat: parts of the proof of the law; conditions: those that each names. -/
import Derived.Test.YtkmnlefjlhogaaaEnv
set_option maxRecDepth 100000
namespace Go.Proofs.Ytkmnlefjlhogaaa
open Go.Eng
theorem exts_ok:∀e∈exts,FnOK Try.prog tabs0 e.f e.s e.G:=by
 simp only[exts,List.forall_mem_cons,List.not_mem_nil,false_implies,implies_true,and_true]
theorem extOK:ExtOK Try.prog E1 tabs0:=fun f s _=>extOf_ok exts exts_ok f s
end Go.Proofs.Ytkmnlefjlhogaaa
