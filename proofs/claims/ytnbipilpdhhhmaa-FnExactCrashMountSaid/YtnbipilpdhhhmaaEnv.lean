/- The tables, the residual functions and lemmas of this seat: parts of the proof of the law; conditions: those that each names. -/
import Derived.Test.YtnbipilpdhhhmaaTab
import Derived.Test.YtnbipilpdhhhmaaEng5
import Derived.Test.YtnbipilpdhhhmaaChecked
set_option maxRecDepth 100000
namespace Go.Proofs.Ytnbipilpdhhhmaa
open Go.Eng
theorem tab_chk : tabChk Try.prog tab = true := by kernel_rfl
theorem follows : Try.prog.follows .mixedOrders = true := by kernel_rfl
theorem laid : laidOutB Try.prog = true := by kernel_rfl
theorem boolT : Try.prog.underlying 4 = some .bool := by kernel_rfl
theorem own : ownKnob Try.prog.godebug = none := by kernel_rfl
theorem bodies : ∀ x ∈ tab.body, Try.prog.funcs[x.1]? = some x.2 := by
  simp only [tab, List.forall_mem_cons, List.not_mem_nil, false_implies, implies_true, and_true]
  exact ⟨Try.func5, Try.func24, Try.func25, Try.func26, Try.func27, Try.func28, Try.func29, Try.func30, Try.func31, Try.func32, Try.func33, Try.func47, Try.func52, Try.func55, Try.func58, Try.func59, Try.func60, Try.func61, Try.func62, Try.func63, Try.func64, Try.func65, Try.func66, Try.func67, Try.func68, Try.func69, Try.func70, Try.func88, Try.func97, Try.func98, Try.func99, Try.func100, Try.func101, Try.func102, Try.func103, Try.func104, Try.func105, Try.func106, Try.func107, Try.func108, Try.func109, Try.func110, Try.func111, Try.func112, Try.func113, Try.func114, Try.func115, Try.func116, Try.func117, Try.func118, Try.func119, Try.func142, Try.func143, Try.func144, Try.func145, Try.func148, Try.func149, Try.func150, Try.func151, Try.func152, Try.func153, Try.func163, Try.func164, Try.func165, Try.func166⟩
theorem envOK : EnvOK Try.prog E1 := (tab_ok tab_chk follows bodies (extOf exts)).1
theorem fnsOK : FnsOK Try.prog E1 := (tab_ok tab_chk follows bodies (extOf exts)).2
end Go.Proofs.Ytnbipilpdhhhmaa
