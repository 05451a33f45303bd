/- The tables, the residual functions and lemmas of this seat: parts of the proof of the law; conditions: those that each names. -/
import Derived.Test.YtbpfenmkhapeiaaGreatTab
import Derived.Test.YtbpfenmkhapeiaaGreatEng6
import Derived.Test.YtbpfenmkhapeiaaGreatChecked
set_option maxRecDepth 100000
namespace Go.Proofs.YtbpfenmkhapeiaaGreat
open Go.Eng
theorem tab_chk:tabChk Tryz.prog tab=true:=by kernel_rfl
theorem follows:Tryz.prog.follows .mixedOrders=true:=by kernel_rfl
theorem laid:laidOutB Tryz.prog=true:=by kernel_rfl
theorem boolT:Tryz.prog.underlying 4=some .bool:=by kernel_rfl
theorem own:ownKnob Tryz.prog.godebug=none:=by kernel_rfl
theorem bodies:∀x∈tab.body,Tryz.prog.funcs[x.1]? =some x.2:=by
 simp only[tab,List.forall_mem_cons,List.not_mem_nil,false_implies,implies_true,and_true]
 exact⟨Tryz.func8,Tryz.func9,Tryz.func11,Tryz.func13,Tryz.func14,Tryz.func20,Tryz.func23,Tryz.func34,Tryz.func35,Tryz.func36,Tryz.func37,Tryz.func38,Tryz.func39,Tryz.func40,Tryz.func41,Tryz.func43,Tryz.func46,Tryz.func47,Tryz.func48,Tryz.func50,Tryz.func51,Tryz.func53,Tryz.func54,Tryz.func55,Tryz.func56,Tryz.func59,Tryz.func62,Tryz.func66,Tryz.func70,Tryz.func71,Tryz.func74,Tryz.func81,Tryz.func82,Tryz.func83,Tryz.func84,Tryz.func85,Tryz.func86,Tryz.func87,Tryz.func88,Tryz.func89,Tryz.func91,Tryz.func92,Tryz.func93,Tryz.func94,Tryz.func95,Tryz.func96,Tryz.func100,Tryz.func101,Tryz.func102,Tryz.func103,Tryz.func104,Tryz.func105,Tryz.func107,Tryz.func108,Tryz.func111,Tryz.func112,Tryz.func113,Tryz.func115,Tryz.func118,Tryz.func119,Tryz.func120,Tryz.func121,Tryz.func122,Tryz.func123,Tryz.func124,Tryz.func125,Tryz.func126,Tryz.func135,Tryz.func136,Tryz.func137,Tryz.func138,Tryz.func139,Tryz.func140,Tryz.func141,Tryz.func142,Tryz.func144,Tryz.func145,Tryz.func146,Tryz.func147,Tryz.func148,Tryz.func149,Tryz.func152,Tryz.func153,Tryz.func154,Tryz.func155,Tryz.func156,Tryz.func158,Tryz.func163,Tryz.func166,Tryz.func167,Tryz.func168,Tryz.func169,Tryz.func170,Tryz.func171,Tryz.func172,Tryz.func173,Tryz.func174,Tryz.func175,Tryz.func197⟩
theorem envOK:EnvOK Tryz.prog E1:=(tab_ok tab_chk follows bodies (extOf exts)).1
theorem fnsOK:FnsOK Tryz.prog E1:=(tab_ok tab_chk follows bodies (extOf exts)).2
end Go.Proofs.YtbpfenmkhapeiaaGreat
