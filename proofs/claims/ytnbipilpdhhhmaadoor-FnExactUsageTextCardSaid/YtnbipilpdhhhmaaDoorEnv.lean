/- The tables, the residual functions and lemmas of this seat: parts of the proof of the law; conditions: those that each names. -/
import Derived.Test.YtnbipilpdhhhmaaDoorTab
import Derived.Test.YtnbipilpdhhhmaaDoorEng4
import Derived.Test.YtnbipilpdhhhmaaDoorChecked
set_option maxRecDepth 100000
namespace Go.Proofs.YtnbipilpdhhhmaaDoor
open Go.Eng
theorem tab_chk : tabChk Tryd.prog tab = true := by kernel_rfl
theorem follows : Tryd.prog.follows .mixedOrders = true := by kernel_rfl
theorem laid : laidOutB Tryd.prog = true := by kernel_rfl
theorem boolT : Tryd.prog.underlying 4 = some .bool := by kernel_rfl
theorem own : ownKnob Tryd.prog.godebug = none := by kernel_rfl
theorem bodies : ∀ x ∈ tab.body, Tryd.prog.funcs[x.1]? = some x.2 := by
  simp only [tab, List.forall_mem_cons, List.not_mem_nil, false_implies, implies_true, and_true]
  exact ⟨Tryd.func4, Tryd.func10, Tryd.func11, Tryd.func12, Tryd.func13, Tryd.func14, Tryd.func15, Tryd.func17, Tryd.func18, Tryd.func23, Tryd.func28, Tryd.func29, Tryd.func30, Tryd.func31, Tryd.func32, Tryd.func33, Tryd.func34, Tryd.func35, Tryd.func36, Tryd.func37, Tryd.func38, Tryd.func39, Tryd.func40, Tryd.func41, Tryd.func42, Tryd.func43, Tryd.func44, Tryd.func45, Tryd.func46, Tryd.func47, Tryd.func50, Tryd.func51, Tryd.func54, Tryd.func58, Tryd.func59, Tryd.func62, Tryd.func63, Tryd.func64, Tryd.func65, Tryd.func66, Tryd.func67, Tryd.func68, Tryd.func69, Tryd.func70, Tryd.func71, Tryd.func72, Tryd.func74, Tryd.func75, Tryd.func76, Tryd.func80, Tryd.func81, Tryd.func83, Tryd.func84, Tryd.func85, Tryd.func86, Tryd.func87, Tryd.func88, Tryd.func89, Tryd.func90, Tryd.func92, Tryd.func93, Tryd.func96, Tryd.func100, Tryd.func101, Tryd.func102, Tryd.func103, Tryd.func104⟩
theorem envOK : EnvOK Tryd.prog E1 := (tab_ok tab_chk follows bodies (extOf exts)).1
theorem fnsOK : FnsOK Tryd.prog E1 := (tab_ok tab_chk follows bodies (extOf exts)).2
end Go.Proofs.YtnbipilpdhhhmaaDoor
