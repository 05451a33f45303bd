/- The tables, the residual functions and lemmas of this seat: parts of the proof of the law; conditions: those that each names. -/
import Derived.Test.YtbpfenmkhapeiaaGreatEnv
import Derived.Test.YtbpfenmkhapeiaaGreatShelf
import Derived.Test.YtbpfenmkhapeiaaGreatEng6
set_option maxRecDepth 100000
namespace Go.Proofs.YtbpfenmkhapeiaaGreat
open Go.Eng
theorem exts_ok:∀e∈exts,FnOK Tryz.prog tabs0 e.f e.s e.G:=by
 simp only[exts,List.forall_mem_cons,List.not_mem_nil,false_implies,implies_true,and_true]
 exact⟨fnOK_ContainsAny Tryz.func159 (by kernel_rfl) rfl (fun s chars w a b c=>containsAny_any Tryz.lays150 (by kernel_rfl) s chars w a b c),fnOK_Repeat Tryz.func160 (by kernel_rfl) rfl Tryz.strings_Repeat,fnOK_Join Tryz.func164 (by kernel_rfl) rfl Tryz.strings_Join Tryz.strings_Join_none,fnOK_Sort Tryz.func165 (by kernel_rfl) rfl Tryz.slices_Sort_string Tryz.slices_Sort_string_none⟩
theorem extOK:ExtOK Tryz.prog E1 tabs0:=fun f s _=>extOf_ok exts exts_ok f s
end Go.Proofs.YtbpfenmkhapeiaaGreat
