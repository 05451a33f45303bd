/- The tables, the residual functions and lemmas of this seat: parts of the proof of the law; conditions: those that each names. -/
import Derived.Test.YtmmgfgfkkpeedaaDoorTab
import Derived.Test.YtmmgfgfkkpeedaaDoorEng6
import Derived.Test.YtmmgfgfkkpeedaaDoorChecked
set_option maxRecDepth 100000
namespace Go.Proofs.YtmmgfgfkkpeedaaDoor
open Go.Eng
theorem tab_chk:tabChk Tryd.prog tab=true:=by kernel_rfl
theorem follows:Tryd.prog.follows .mixedOrders=true:=by kernel_rfl
theorem laid:laidOutB Tryd.prog=true:=by kernel_rfl
theorem boolT:Tryd.prog.underlying 4=some .bool:=by kernel_rfl
theorem own:ownKnob Tryd.prog.godebug=none:=by kernel_rfl
theorem bodies:∀x∈tab.body,Tryd.prog.funcs[x.1]? =some x.2:=by
 simp only[tab,List.forall_mem_cons,List.not_mem_nil,false_implies,implies_true,and_true]
 exact⟨Tryd.func3,Tryd.func4,Tryd.func5,Tryd.func6,Tryd.func7,Tryd.func8,Tryd.func9,Tryd.func10,Tryd.func11,Tryd.func12,Tryd.func13,Tryd.func14,Tryd.func15,Tryd.func16,Tryd.func17,Tryd.func18,Tryd.func20,Tryd.func21,Tryd.func22,Tryd.func23,Tryd.func24,Tryd.func25,Tryd.func26,Tryd.func27,Tryd.func28,Tryd.func29,Tryd.func30,Tryd.func31,Tryd.func32,Tryd.func33,Tryd.func34,Tryd.func35,Tryd.func36,Tryd.func37,Tryd.func38,Tryd.func39,Tryd.func40,Tryd.func43,Tryd.func44,Tryd.func45,Tryd.func50⟩
theorem envOK:EnvOK Tryd.prog E1:=(tab_ok tab_chk follows bodies (extOf exts)).1
theorem fnsOK:FnsOK Tryd.prog E1:=(tab_ok tab_chk follows bodies (extOf exts)).2
end Go.Proofs.YtmmgfgfkkpeedaaDoor
