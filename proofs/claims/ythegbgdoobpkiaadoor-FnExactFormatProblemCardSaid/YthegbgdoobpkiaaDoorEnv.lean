/- The tables, the residual functions and lemmas of this seat: parts of the proof of the law; conditions: those that each names. -/
import Derived.Test.YthegbgdoobpkiaaDoorTab
import Derived.Test.YthegbgdoobpkiaaDoorEng4
import Derived.Test.YthegbgdoobpkiaaDoorChecked
set_option maxRecDepth 100000
namespace Go.Proofs.YthegbgdoobpkiaaDoor
open Go.Eng
theorem tab_chk : tabChk Tryd.prog tab = true := by kernel_rfl
theorem follows : Tryd.prog.follows .mixedOrders = true := by kernel_rfl
theorem laid : laidOutB Tryd.prog = true := by kernel_rfl
theorem boolT : Tryd.prog.underlying 4 = some .bool := by kernel_rfl
theorem own : ownKnob Tryd.prog.godebug = none := by kernel_rfl
theorem bodies : ∀ x ∈ tab.body, Tryd.prog.funcs[x.1]? = some x.2 := by
  simp only [tab, List.forall_mem_cons, List.not_mem_nil, false_implies, implies_true, and_true]
  exact ⟨Tryd.func3, Tryd.func4, Tryd.func5, Tryd.func6, Tryd.func7, Tryd.func8, Tryd.func9⟩
theorem envOK : EnvOK Tryd.prog E1 := (tab_ok tab_chk follows bodies (extOf exts)).1
theorem fnsOK : FnsOK Tryd.prog E1 := (tab_ok tab_chk follows bodies (extOf exts)).2
end Go.Proofs.YthegbgdoobpkiaaDoor
