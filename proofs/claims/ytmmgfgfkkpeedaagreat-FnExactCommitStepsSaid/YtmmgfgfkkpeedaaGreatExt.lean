/- The tables, the residual functions and lemmas of this seat: parts of the proof of the law; conditions: those that each names. -/
import Derived.Test.YtmmgfgfkkpeedaaGreatEnv
import Derived.Test.YtmmgfgfkkpeedaaGreatShelf
import Derived.Test.YtmmgfgfkkpeedaaGreatRep
set_option maxRecDepth 100000
namespace Go.Proofs.YtmmgfgfkkpeedaaGreat
open Go.Eng
theorem VG:∀e∈exts,pR Tryz.prog Wa e.f e.s e.G:=by
 simp only[exts,List.forall_mem_cons,List.not_mem_nil,false_implies,implies_true,and_true]
 exact⟨KW (te:=9) Tryz.func85 (by kernel_rfl) rfl (fun b off c n z w h1 h2 h3 h4=>UU b off c n z w h1 h2 h3 h4),E8 Tryz.func192 (by kernel_rfl) rfl Tryz.slices_Clone_string Tryz.slices_Clone_string_nil Tryz.slices_Clone_string_zero,Pe Tryz.func223 (by kernel_rfl) rfl Tryz.strings_Repeat,Sn Tryz.func226 (by kernel_rfl) rfl Tryz.strings_Join Tryz.strings_Join_none⟩
theorem Xa:T6 Tryz.prog E1 Wa:=fun f s _=>OH exts VG f s
end Go.Proofs.YtmmgfgfkkpeedaaGreat
