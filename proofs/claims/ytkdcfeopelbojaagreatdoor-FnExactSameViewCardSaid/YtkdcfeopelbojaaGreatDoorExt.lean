/- The tables, the residual functions and lemmas of this seat: parts of the proof of the law; conditions: those that each names. -/
import Derived.Test.YtkdcfeopelbojaaGreatDoorEnv
import Derived.Test.YtkdcfeopelbojaaGreatDoorShelf
import Derived.Test.YtkdcfeopelbojaaGreatDoorEng6
import Derived.Test.YtkdcfeopelbojaaGreatDoorFmw
set_option maxRecDepth 100000
namespace Go.Proofs.YtkdcfeopelbojaaGreatDoor
open Go.Eng
noncomputable def OV:dM:=OF Tryz.prog "internal/strconv.uint64pow10" .u64 Lib.pow10Tab
theorem QK:∀e∈exts,ln Tryz.prog OV e.f e.s e.G:=by
 simp only[exts,List.forall_mem_cons,List.not_mem_nil,false_implies,implies_true,and_true]
 exact⟨NF Tryz.func106 (by kernel_rfl) rfl Tryz.strconv_Itoa (fun _ h=>h),DA Tryz.func107 (by kernel_rfl) rfl (fun n a b w=>Qp n a b w),N0 Tryz.func128 (by kernel_rfl) rfl Tryz.strings_Join Tryz.strings_Join_none,Nj Tryz.func178 (by kernel_rfl) rfl Tryz.slices_Sort_string Tryz.slices_Sort_string_none,Co Tryz.func183 (by kernel_rfl) rfl (fun s chars w a b c=>DH Tryz.QA (by kernel_rfl) s chars w a b c),J6 Tryz.func277 (by kernel_rfl) rfl Tryz.strings_Repeat⟩
theorem SB:PD Tryz.prog E1 OV:=fun f s _=>JP exts QK f s
end Go.Proofs.YtkdcfeopelbojaaGreatDoor
