/- The tables, the residual functions and lemmas of this seat: parts of the proof of the law; conditions: those that each names. -/
import Derived.Test.YtmmgfgfkkpeedaaGreatEvl
set_option maxRecDepth 1000000
namespace Go.Proofs.YtmmgfgfkkpeedaaGreat
open Go.Eng
theorem newConsole_true:e_laws_FnExactNewConsole 400 ()=some true:=by kernel_rfl
theorem laws_FnExactNewConsole_ev(x:Unit):∃N:Nat,∀k:Nat,N≤k→c_laws_FnExactNewConsole N x=some true:=⟨400,fun _ _=>by
 rw[e_laws_FnExactNewConsole_ok]
 exact newConsole_true⟩
end Go.Proofs.YtmmgfgfkkpeedaaGreat
