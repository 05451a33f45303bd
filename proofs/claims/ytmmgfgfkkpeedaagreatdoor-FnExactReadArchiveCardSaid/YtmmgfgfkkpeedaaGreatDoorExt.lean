/- The tables, the residual functions and lemmas of this seat: parts of the proof of the law; conditions: those that each names. -/
import Derived.Test.YtmmgfgfkkpeedaaGreatDoorEnv
import Derived.Test.YtmmgfgfkkpeedaaGreatDoorShelf
import Derived.Test.YtmmgfgfkkpeedaaGreatDoorEng7
import Derived.Test.YtmmgfgfkkpeedaaGreatDoorFmw
set_option maxRecDepth 100000
namespace Go.Proofs.YtmmgfgfkkpeedaaGreatDoor
open Go.Eng
noncomputable def tabs1:Tabs:=tabsOf Tryz.prog "internal/strconv.uint64pow10" .u64 Lib.pow10Tab
theorem exts_ok:∀e∈exts,FnOK Tryz.prog tabs1 e.f e.s e.G:=by
 simp only[exts,List.forall_mem_cons,List.not_mem_nil,false_implies,implies_true,and_true]
 exact⟨fnOK_HasSuffix Tryz.func16 (by kernel_rfl) rfl Tryz.strings_HasSuffix,fnOK_Split (te:=Tryz.lays146_ren.t 9) Tryz.func32 (by kernel_rfl) rfl (fun s c w h=>splitOne_any Tryz.lays146 (by kernel_rfl) s c w h),fnOK_IndexByte Tryz.func47 (by kernel_rfl) rfl Tryz.strings_IndexByte,fnOK_FormatMode Tryz.func50 (by kernel_rfl) rfl (fun n a b w=>fm_walk n a b w),fnOK_Itoa Tryz.func73 (by kernel_rfl) rfl Tryz.strconv_Itoa (fun _ h=>h),fnOK_Join Tryz.func74 (by kernel_rfl) rfl Tryz.strings_Join Tryz.strings_Join_none,fnOK_ContainsAny Tryz.func75 (by kernel_rfl) rfl (fun s chars w a b c=>containsAny_any Tryz.lays150 (by kernel_rfl) s chars w a b c)⟩
theorem extOK:ExtOK Tryz.prog E1 tabs1:=fun f s _=>extOf_ok exts exts_ok f s
end Go.Proofs.YtmmgfgfkkpeedaaGreatDoor
