/- The tables, the residual functions and lemmas of this seat: parts of the proof of the law; conditions: those that each names. -/
import Derived.Test.YthegbgdoobpkiaaEnv
import Derived.Test.YthegbgdoobpkiaaShelf
set_option maxRecDepth 100000
namespace Go.Proofs.Ythegbgdoobpkiaa
open Go.Eng
theorem exts_ok : ∀ e ∈ exts, FnOK Try.prog e.f e.s e.G := by
  simp only [exts, List.forall_mem_cons, List.not_mem_nil, false_implies, implies_true, and_true]
  exact ⟨fnOK_IndexByte Try.func44 (by kernel_rfl) rfl Try.strings_IndexByte, fnOK_Join Try.func54 (by kernel_rfl) rfl Try.strings_Join Try.strings_Join_none, fnOK_Repeat Try.func55 (by kernel_rfl) rfl Try.strings_Repeat⟩
theorem extOK : ExtOK Try.prog E1 := fun f s _ => extOf_ok exts exts_ok f s
end Go.Proofs.Ythegbgdoobpkiaa
