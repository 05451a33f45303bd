/- The tables, the residual functions and lemmas of this seat: parts of the proof of the law; conditions: those that each names. -/
import Derived.Test.YtnbipilpdhhhmaaDoorEnv
import Derived.Test.YtnbipilpdhhhmaaDoorShelf
set_option maxRecDepth 100000
namespace Go.Proofs.YtnbipilpdhhhmaaDoor
open Go.Eng
noncomputable def tabs1 : Tabs := tabsOf Tryd.prog "internal/strconv.uint64pow10" .u64 Lib.pow10Tab
theorem exts_ok : ∀ e ∈ exts, FnOK Tryd.prog tabs1 e.f e.s e.G := by
  simp only [exts, List.forall_mem_cons, List.not_mem_nil, false_implies, implies_true, and_true]
  exact fnOK_Itoa Tryd.func73 (by kernel_rfl) rfl Tryd.strconv_Itoa (fun _ h => h)
theorem extOK : ExtOK Tryd.prog E1 tabs1 := fun f s _ => extOf_ok exts exts_ok f s
end Go.Proofs.YtnbipilpdhhhmaaDoor
