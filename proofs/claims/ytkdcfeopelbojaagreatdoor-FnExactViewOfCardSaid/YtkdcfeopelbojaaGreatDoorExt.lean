/- The tables, the residual functions and lemmas of this seat: parts of the proof of the law; conditions: those that each names. -/
import Derived.Test.YtkdcfeopelbojaaGreatDoorEnv
import Derived.Test.YtkdcfeopelbojaaGreatDoorShelf
import Derived.Test.YtkdcfeopelbojaaGreatDoorEng6
import Derived.Test.YtkdcfeopelbojaaGreatDoorFmw
set_option maxRecDepth 100000
namespace Go.Proofs.YtkdcfeopelbojaaGreatDoor
open Go.Eng
noncomputable def QD:dM:=PU Tryz.prog "internal/strconv.uint64pow10" .u64 Lib.pow10Tab
theorem RR:∀e∈exts,lz Tryz.prog QD e.f e.s e.G:=by
 simp only[exts,List.forall_mem_cons,List.not_mem_nil,false_implies,implies_true,and_true]
 exact⟨Oh Tryz.func106 (by kernel_rfl) rfl Tryz.strconv_Itoa (fun _ h=>h),Ea Tryz.func107 (by kernel_rfl) rfl (fun n a b w=>RJ n a b w),Od Tryz.func128 (by kernel_rfl) rfl Tryz.strings_Join Tryz.strings_Join_none,OV Tryz.func178 (by kernel_rfl) rfl Tryz.slices_Sort_string Tryz.slices_Sort_string_none,Cn Tryz.func183 (by kernel_rfl) rfl (fun s chars w a b c=>D2 Tryz.RG (by kernel_rfl) s chars w a b c),Lt Tryz.func277 (by kernel_rfl) rfl Tryz.strings_Repeat⟩
theorem Tj:PI Tryz.prog E1 QD:=fun f s _=>Ku exts RR f s
end Go.Proofs.YtkdcfeopelbojaaGreatDoor
