/- The tables, the residual functions and lemmas of this seat: parts of the proof of the law; conditions: those that each names. -/
import Derived.Test.YthegbgdoobpkiaaTab
import Derived.Test.YthegbgdoobpkiaaEng4
import Derived.Test.YthegbgdoobpkiaaChecked
set_option maxRecDepth 100000
namespace Go.Proofs.Ythegbgdoobpkiaa
open Go.Eng
theorem tab_chk : tabChk Try.prog tab = true := by kernel_rfl
theorem follows : Try.prog.follows .mixedOrders = true := by kernel_rfl
theorem laid : laidOutB Try.prog = true := by kernel_rfl
theorem boolT : Try.prog.underlying 4 = some .bool := by kernel_rfl
theorem own : ownKnob Try.prog.godebug = none := by kernel_rfl
theorem bodies : ∀ x ∈ tab.body, Try.prog.funcs[x.1]? = some x.2 := by
  simp only [tab, List.forall_mem_cons, List.not_mem_nil, false_implies, implies_true, and_true]
  exact ⟨Try.func6, Try.func9, Try.func24, Try.func25, Try.func26, Try.func27, Try.func28, Try.func29, Try.func30, Try.func31, Try.func32, Try.func51, Try.func52, Try.func53, Try.func57, Try.func81, Try.func82⟩
theorem envOK : EnvOK Try.prog E1 := (tab_ok tab_chk follows bodies (extOf exts)).1
theorem fnsOK : FnsOK Try.prog E1 := (tab_ok tab_chk follows bodies (extOf exts)).2
end Go.Proofs.Ythegbgdoobpkiaa
