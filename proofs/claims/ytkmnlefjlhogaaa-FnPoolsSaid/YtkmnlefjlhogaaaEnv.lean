/- The tables, the residual functions and lemmas of this seat: parts of the proof of the law; conditions: those that each names. -/
import Derived.Test.YtkmnlefjlhogaaaTab
import Derived.Test.YtkmnlefjlhogaaaEng5
import Derived.Test.YtkmnlefjlhogaaaChecked
set_option maxRecDepth 100000
namespace Go.Proofs.Ytkmnlefjlhogaaa
open Go.Eng
theorem tab_chk:tabChk Try.prog tab=true:=by kernel_rfl
theorem follows:Try.prog.follows .mixedOrders=true:=by kernel_rfl
theorem laid:laidOutB Try.prog=true:=by kernel_rfl
theorem boolT:Try.prog.underlying 4=some .bool:=by kernel_rfl
theorem own:ownKnob Try.prog.godebug=none:=by kernel_rfl
theorem bodies:∀x∈tab.body,Try.prog.funcs[x.1]? =some x.2:=by
 simp only[tab,List.forall_mem_cons,List.not_mem_nil,false_implies,implies_true,and_true]
 exact⟨Try.func3,Try.func4,Try.func5,Try.func6,Try.func7,Try.func8,Try.func9,Try.func10,Try.func11,Try.func12,Try.func13,Try.func14,Try.func15,Try.func16,Try.func17,Try.func18,Try.func19,Try.func20,Try.func21,Try.func22,Try.func23,Try.func24,Try.func25,Try.func26,Try.func27,Try.func28,Try.func29,Try.func30,Try.func31,Try.func32,Try.func33,Try.func34,Try.func35,Try.func36,Try.func37,Try.func38,Try.func39,Try.func40,Try.func41,Try.func42,Try.func43,Try.func44,Try.func45,Try.func46,Try.func47,Try.func48,Try.func49,Try.func50,Try.func51,Try.func52,Try.func53,Try.func54,Try.func55,Try.func56,Try.func57,Try.func58,Try.func59,Try.func60,Try.func61,Try.func62,Try.func63,Try.func64,Try.func65,Try.func66⟩
theorem envOK:EnvOK Try.prog E1:=(tab_ok tab_chk follows bodies (extOf exts)).1
theorem fnsOK:FnsOK Try.prog E1:=(tab_ok tab_chk follows bodies (extOf exts)).2
end Go.Proofs.Ytkmnlefjlhogaaa
