/- The tables, the residual functions and lemmas of this seat: parts of the proof of the law; conditions: those that each names. -/
import Derived.Test.YtnbipilpdhhhmaaTab
import Derived.Test.YtnbipilpdhhhmaaEng4
import Derived.Test.YtnbipilpdhhhmaaChecked
set_option maxRecDepth 100000
namespace Go.Proofs.Ytnbipilpdhhhmaa
open Go.Eng
theorem tab_chk : tabChk Try.prog tab = true := by kernel_rfl
theorem follows : Try.prog.follows .mixedOrders = true := by kernel_rfl
theorem laid : laidOutB Try.prog = true := by kernel_rfl
theorem boolT : Try.prog.underlying 4 = some .bool := by kernel_rfl
theorem own : ownKnob Try.prog.godebug = none := by kernel_rfl
theorem bodies : ∀ x ∈ tab.body, Try.prog.funcs[x.1]? = some x.2 := by
  simp only [tab, List.forall_mem_cons, List.not_mem_nil, false_implies, implies_true, and_true]
  exact ⟨Try.func4, Try.func6, Try.func10, Try.func11, Try.func14, Try.func15, Try.func16, Try.func17, Try.func18, Try.func19, Try.func20, Try.func21, Try.func22, Try.func23, Try.func34, Try.func35, Try.func38, Try.func43, Try.func44, Try.func45, Try.func46, Try.func47, Try.func48, Try.func49, Try.func50, Try.func51, Try.func52, Try.func53, Try.func54, Try.func55, Try.func56, Try.func57, Try.func58, Try.func71, Try.func72, Try.func82, Try.func83, Try.func84, Try.func85, Try.func86, Try.func87, Try.func88, Try.func89, Try.func90, Try.func91, Try.func92, Try.func93, Try.func94, Try.func95, Try.func96, Try.func97, Try.func116, Try.func117, Try.func118, Try.func119, Try.func125, Try.func127, Try.func128, Try.func129, Try.func130, Try.func131, Try.func132, Try.func133, Try.func134, Try.func135, Try.func136, Try.func137, Try.func138, Try.func139, Try.func140, Try.func141, Try.func157, Try.func158, Try.func159, Try.func160, Try.func161, Try.func162⟩
theorem envOK : EnvOK Try.prog E1 := (tab_ok tab_chk follows bodies (extOf exts)).1
theorem fnsOK : FnsOK Try.prog E1 := (tab_ok tab_chk follows bodies (extOf exts)).2
end Go.Proofs.Ytnbipilpdhhhmaa
