/- The tables, the residual functions and lemmas of this seat: parts of the proof of the law; conditions: those that each names. -/
import Derived.Test.YtnaipddflhjmfaaGreatTab
import Derived.Test.YtnaipddflhjmfaaGreatEng5
import Derived.Test.YtnaipddflhjmfaaGreatChecked
set_option maxRecDepth 100000
namespace Go.Proofs.YtnaipddflhjmfaaGreat
open Go.Eng
theorem tab_chk:tabChk Tryz.prog tab=true:=by kernel_rfl
theorem follows:Tryz.prog.follows .mixedOrders=true:=by kernel_rfl
theorem laid:laidOutB Tryz.prog=true:=by kernel_rfl
theorem boolT:Tryz.prog.underlying 4=some .bool:=by kernel_rfl
theorem own:ownKnob Tryz.prog.godebug=none:=by kernel_rfl
theorem bodies:∀x∈tab.body,Tryz.prog.funcs[x.1]? =some x.2:=by
 simp only[tab,List.forall_mem_cons,List.not_mem_nil,false_implies,implies_true,and_true]
 exact⟨Tryz.func5,Tryz.func10,Tryz.func11,Tryz.func12,Tryz.func13,Tryz.func22,Tryz.func23,Tryz.func24,Tryz.func25,Tryz.func26,Tryz.func29,Tryz.func30,Tryz.func31,Tryz.func34,Tryz.func35,Tryz.func36,Tryz.func37,Tryz.func38,Tryz.func39,Tryz.func40,Tryz.func41,Tryz.func42,Tryz.func43,Tryz.func44,Tryz.func58,Tryz.func62,Tryz.func66,Tryz.func68,Tryz.func69,Tryz.func70,Tryz.func71,Tryz.func72,Tryz.func73,Tryz.func74,Tryz.func75,Tryz.func76,Tryz.func78,Tryz.func79,Tryz.func80,Tryz.func81,Tryz.func82,Tryz.func83,Tryz.func84,Tryz.func85,Tryz.func88,Tryz.func89,Tryz.func91,Tryz.func92,Tryz.func93,Tryz.func94,Tryz.func95,Tryz.func96,Tryz.func97,Tryz.func98,Tryz.func99,Tryz.func127,Tryz.func129,Tryz.func130,Tryz.func131,Tryz.func132,Tryz.func133,Tryz.func134,Tryz.func135,Tryz.func136,Tryz.func137,Tryz.func140,Tryz.func141,Tryz.func142,Tryz.func143,Tryz.func144,Tryz.func145,Tryz.func146,Tryz.func147,Tryz.func148,Tryz.func151,Tryz.func152,Tryz.func153,Tryz.func154,Tryz.func155,Tryz.func157,Tryz.func158,Tryz.func159,Tryz.func164,Tryz.func165,Tryz.func170,Tryz.func171,Tryz.func172,Tryz.func173,Tryz.func175,Tryz.func176,Tryz.func177,Tryz.func179,Tryz.func180,Tryz.func184,Tryz.func187,Tryz.func191,Tryz.func192,Tryz.func197⟩
theorem envOK:EnvOK Tryz.prog E1:=(tab_ok tab_chk follows bodies (extOf exts)).1
theorem fnsOK:FnsOK Tryz.prog E1:=(tab_ok tab_chk follows bodies (extOf exts)).2
end Go.Proofs.YtnaipddflhjmfaaGreat
