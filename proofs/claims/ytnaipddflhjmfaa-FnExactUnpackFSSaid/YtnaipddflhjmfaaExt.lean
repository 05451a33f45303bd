/- The tables, the residual functions and lemmas of this seat: parts of the proof of the law; conditions: those that each names. -/
import Derived.Test.YtnaipddflhjmfaaEnv
import Derived.Test.YtnaipddflhjmfaaShelf
import Derived.Test.YtnaipddflhjmfaaRep
set_option maxRecDepth 100000
namespace Go.Proofs.Ytnaipddflhjmfaa
open Go.Eng
theorem exts_ok:∀e∈exts,FnOK Try.prog tabs0 e.f e.s e.G:=by
 simp only[exts,List.forall_mem_cons,List.not_mem_nil,false_implies,implies_true,and_true]
 exact⟨fnOK_SlRepeat (te:=9) Try.func45 (by kernel_rfl) rfl (fun b off c n z w h1 h2 h3 h4=>rep_walk b off c n z w h1 h2 h3 h4),fnOK_Clone_string Try.func60 (by kernel_rfl) rfl Try.slices_Clone_string Try.slices_Clone_string_nil Try.slices_Clone_string_zero,fnOK_Join Try.func99 (by kernel_rfl) rfl Try.strings_Join Try.strings_Join_none,fnOK_Repeat Try.func124 (by kernel_rfl) rfl Try.strings_Repeat⟩
theorem extOK:ExtOK Try.prog E1 tabs0:=fun f s _=>extOf_ok exts exts_ok f s
end Go.Proofs.Ytnaipddflhjmfaa
