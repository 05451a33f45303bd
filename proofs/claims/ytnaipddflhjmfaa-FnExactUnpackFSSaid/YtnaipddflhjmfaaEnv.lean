/- The tables, the residual functions and lemmas of this seat: parts of the proof of the law; conditions: those that each names. -/
import Derived.Test.YtnaipddflhjmfaaTab
import Derived.Test.YtnaipddflhjmfaaEng5
import Derived.Test.YtnaipddflhjmfaaChecked
set_option maxRecDepth 100000
namespace Go.Proofs.Ytnaipddflhjmfaa
open Go.Eng
theorem tab_chk:tabChk Try.prog tab=true:=by kernel_rfl
theorem follows:Try.prog.follows .mixedOrders=true:=by kernel_rfl
theorem laid:laidOutB Try.prog=true:=by kernel_rfl
theorem boolT:Try.prog.underlying 4=some .bool:=by kernel_rfl
theorem own:ownKnob Try.prog.godebug=none:=by kernel_rfl
theorem bodies:∀x∈tab.body,Try.prog.funcs[x.1]? =some x.2:=by
 simp only[tab,List.forall_mem_cons,List.not_mem_nil,false_implies,implies_true,and_true]
 exact⟨Try.func5,Try.func9,Try.func10,Try.func14,Try.func18,Try.func19,Try.func20,Try.func21,Try.func22,Try.func23,Try.func24,Try.func25,Try.func26,Try.func27,Try.func28,Try.func31,Try.func37,Try.func40,Try.func41,Try.func44,Try.func46,Try.func47,Try.func48,Try.func49,Try.func50,Try.func51,Try.func52,Try.func53,Try.func54,Try.func55,Try.func56,Try.func57,Try.func58,Try.func59,Try.func61,Try.func62,Try.func72,Try.func73,Try.func74,Try.func75,Try.func76,Try.func78,Try.func79,Try.func80,Try.func81,Try.func82,Try.func83,Try.func84,Try.func87,Try.func88,Try.func90,Try.func91,Try.func92,Try.func93,Try.func94,Try.func95,Try.func96,Try.func97,Try.func98,Try.func100,Try.func101,Try.func106,Try.func108,Try.func109,Try.func110,Try.func111,Try.func112,Try.func115,Try.func116,Try.func117,Try.func118,Try.func119,Try.func120,Try.func121,Try.func127,Try.func128,Try.func134,Try.func135,Try.func136,Try.func137,Try.func141⟩
theorem envOK:EnvOK Try.prog E1:=(tab_ok tab_chk follows bodies (extOf exts)).1
theorem fnsOK:FnsOK Try.prog E1:=(tab_ok tab_chk follows bodies (extOf exts)).2
end Go.Proofs.Ytnaipddflhjmfaa
