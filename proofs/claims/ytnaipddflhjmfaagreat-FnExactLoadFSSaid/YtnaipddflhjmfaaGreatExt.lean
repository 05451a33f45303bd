/- The tables, the residual functions and lemmas of this seat: parts of the proof of the law; conditions: those that each names. -/
import Derived.Test.YtnaipddflhjmfaaGreatEnv
import Derived.Test.YtnaipddflhjmfaaGreatShelf
import Derived.Test.YtnaipddflhjmfaaGreatRep
set_option maxRecDepth 100000
namespace Go.Proofs.YtnaipddflhjmfaaGreat
open Go.Eng
theorem exts_ok:∀e∈exts,FnOK Tryz.prog tabs0 e.f e.s e.G:=by
 simp only[exts,List.forall_mem_cons,List.not_mem_nil,false_implies,implies_true,and_true]
 exact⟨fnOK_SlRepeat (te:=9) Tryz.func90 (by kernel_rfl) rfl (fun b off c n z w h1 h2 h3 h4=>rep_walk b off c n z w h1 h2 h3 h4),fnOK_Clone_string Tryz.func115 (by kernel_rfl) rfl Tryz.slices_Clone_string Tryz.slices_Clone_string_nil Tryz.slices_Clone_string_zero,fnOK_Join Tryz.func174 (by kernel_rfl) rfl Tryz.strings_Join Tryz.strings_Join_none,fnOK_Repeat Tryz.func181 (by kernel_rfl) rfl Tryz.strings_Repeat⟩
theorem extOK:ExtOK Tryz.prog E1 tabs0:=fun f s _=>extOf_ok exts exts_ok f s
end Go.Proofs.YtnaipddflhjmfaaGreat
