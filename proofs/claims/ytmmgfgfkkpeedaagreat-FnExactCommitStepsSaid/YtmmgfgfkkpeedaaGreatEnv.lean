/- The tables, the residual functions and lemmas of this seat: parts of the proof of the law; conditions: those that each names. -/
import Derived.Test.YtmmgfgfkkpeedaaGreatTab
import Derived.Test.YtmmgfgfkkpeedaaGreatEng5
import Derived.Test.YtmmgfgfkkpeedaaGreatChecked
set_option maxRecDepth 100000
namespace Go.Proofs.YtmmgfgfkkpeedaaGreat
open Go.Eng
theorem RL:QM Tryz.prog Wh=true:=by kernel_rfl
theorem follows:Tryz.prog.follows .mixedOrders=true:=by kernel_rfl
theorem laid:laidOutB Tryz.prog=true:=by kernel_rfl
theorem RZ:Tryz.prog.underlying 4=some .bool:=by kernel_rfl
theorem own:ownKnob Tryz.prog.godebug=none:=by kernel_rfl
theorem TJ:∀x∈Wh.body,Tryz.prog.funcs[x.1]? =some x.2:=by
 simp only[Wh,List.forall_mem_cons,List.not_mem_nil,false_implies,implies_true,and_true]
 exact⟨Tryz.func6,Tryz.func12,Tryz.func15,Tryz.func18,Tryz.func19,Tryz.func21,Tryz.func23,Tryz.func25,Tryz.func26,Tryz.func27,Tryz.func28,Tryz.func29,Tryz.func30,Tryz.func31,Tryz.func32,Tryz.func33,Tryz.func36,Tryz.func37,Tryz.func38,Tryz.func39,Tryz.func42,Tryz.func43,Tryz.func44,Tryz.func45,Tryz.func47,Tryz.func49,Tryz.func50,Tryz.func51,Tryz.func52,Tryz.func53,Tryz.func54,Tryz.func55,Tryz.func56,Tryz.func57,Tryz.func58,Tryz.func59,Tryz.func60,Tryz.func63,Tryz.func64,Tryz.func65,Tryz.func66,Tryz.func67,Tryz.func68,Tryz.func69,Tryz.func70,Tryz.func71,Tryz.func72,Tryz.func73,Tryz.func74,Tryz.func75,Tryz.func76,Tryz.func77,Tryz.func78,Tryz.func79,Tryz.func80,Tryz.func81,Tryz.func82,Tryz.func83,Tryz.func86,Tryz.func87,Tryz.func88,Tryz.func91,Tryz.func92,Tryz.func93,Tryz.func94,Tryz.func97,Tryz.func98,Tryz.func99,Tryz.func100,Tryz.func101,Tryz.func102,Tryz.func103,Tryz.func104,Tryz.func105,Tryz.func106,Tryz.func107,Tryz.func108,Tryz.func109,Tryz.func114,Tryz.func115,Tryz.func116,Tryz.func117,Tryz.func118,Tryz.func119,Tryz.func120,Tryz.func121,Tryz.func122,Tryz.func123,Tryz.func124,Tryz.func125,Tryz.func126,Tryz.func127,Tryz.func128,Tryz.func129,Tryz.func130,Tryz.func131,Tryz.func132,Tryz.func133,Tryz.func134,Tryz.func135,Tryz.func136,Tryz.func137,Tryz.func138,Tryz.func139,Tryz.func140,Tryz.func141,Tryz.func142,Tryz.func143,Tryz.func144,Tryz.func145,Tryz.func146,Tryz.func147,Tryz.func148,Tryz.func149,Tryz.func151,Tryz.func155,Tryz.func156,Tryz.func157,Tryz.func158,Tryz.func161,Tryz.func164,Tryz.func165,Tryz.func166,Tryz.func167,Tryz.func168,Tryz.func169,Tryz.func170,Tryz.func175,Tryz.func176,Tryz.func177,Tryz.func178,Tryz.func179,Tryz.func180,Tryz.func181,Tryz.func182,Tryz.func183,Tryz.func184,Tryz.func185,Tryz.func186,Tryz.func187,Tryz.func188,Tryz.func189,Tryz.func190,Tryz.func191,Tryz.func193,Tryz.func194,Tryz.func195,Tryz.func196,Tryz.func197,Tryz.func198,Tryz.func199,Tryz.func200,Tryz.func201,Tryz.func202,Tryz.func203,Tryz.func204,Tryz.func205,Tryz.func206,Tryz.func211,Tryz.func212,Tryz.func214,Tryz.func216,Tryz.func217,Tryz.func218,Tryz.func220,Tryz.func221,Tryz.func222,Tryz.func224,Tryz.func225,Tryz.func227,Tryz.func228,Tryz.func229,Tryz.func232,Tryz.func233,Tryz.func239⟩
theorem W9:cv Tryz.prog E1:=(T9 RL follows TJ (Ec exts)).1
theorem WZ:GK Tryz.prog E1:=(T9 RL follows TJ (Ec exts)).2
end Go.Proofs.YtmmgfgfkkpeedaaGreat
