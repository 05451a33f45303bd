/- The tables, the residual functions and lemmas of this seat: parts of the proof of the law; conditions: those that each names. -/
import Derived.Test.YtmmgfgfkkpeedaaDoorEnv
import Derived.Test.YtmmgfgfkkpeedaaDoorShelf
import Derived.Test.YtmmgfgfkkpeedaaDoorEng6
import Derived.Test.YtmmgfgfkkpeedaaDoorFmw
set_option maxRecDepth 100000
namespace Go.Proofs.YtmmgfgfkkpeedaaDoor
open Go.Eng
noncomputable def tabs1:Tabs:=tabsOf Tryd.prog "internal/strconv.uint64pow10" .u64 Lib.pow10Tab
theorem exts_ok:∀e∈exts,FnOK Tryd.prog tabs1 e.f e.s e.G:=by
 simp only[exts,List.forall_mem_cons,List.not_mem_nil,false_implies,implies_true,and_true]
 exact⟨fnOK_FormatMode Tryd.func19 (by kernel_rfl) rfl (fun n a b w=>fm_walk n a b w),fnOK_IndexByte Tryd.func41 (by kernel_rfl) rfl Tryd.strings_IndexByte,fnOK_ContainsAny Tryd.func42 (by kernel_rfl) rfl (fun s chars w a b c=>containsAny_any Tryd.lays150 (by kernel_rfl) s chars w a b c),fnOK_Itoa Tryd.func46 (by kernel_rfl) rfl Tryd.strconv_Itoa (fun _ h=>h),fnOK_Join Tryd.func47 (by kernel_rfl) rfl Tryd.strings_Join Tryd.strings_Join_none⟩
theorem extOK:ExtOK Tryd.prog E1 tabs1:=fun f s _=>extOf_ok exts exts_ok f s
end Go.Proofs.YtmmgfgfkkpeedaaDoor
