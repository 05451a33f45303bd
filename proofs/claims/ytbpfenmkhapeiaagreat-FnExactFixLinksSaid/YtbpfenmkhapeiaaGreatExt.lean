/- The tables, the residual functions and lemmas of this seat: parts of the proof of the law; conditions: those that each names. -/
import Derived.Test.YtbpfenmkhapeiaaGreatEnv
import Derived.Test.YtbpfenmkhapeiaaGreatShelf
import Derived.Test.YtbpfenmkhapeiaaGreatEng6
set_option maxRecDepth 100000
namespace Go.Proofs.YtbpfenmkhapeiaaGreat
open Go.Eng
def clone97_ren:Go.Shelf.Ren:=⟨fun|41=>97|n=>n,fun|22=>28|23=>112|4=>4|n=>n,fun|n=>n⟩
theorem clone97_lays:Go.Proofs.SlLaysE0.n41 Tryz.prog clone97_ren:={
 mixed:=by kernel_rfl
 f41:=⟨Tryz.f97.name,by decide,Tryz.func97.trans (congrArg some (by kernel_rfl))⟩
 t4:=Tryz.underlying4
 a4:=Tryz.isAgg4
 z4:=Tryz.sizeOf4
 v4:=Tryz.zeroValue4
 t22:=Tryz.underlying28
 a22:=Tryz.isAgg28
 z22:=Tryz.sizeOf28
 v22:=Tryz.zeroValue28}
theorem clone97_some:(Tryz.prog.info? 112).isSome=true:=by kernel_rfl
noncomputable def clone97_i0:TypeInfo:=(Tryz.prog.info? 112).get clone97_some
theorem clone97_ok:FnOK Tryz.prog tabs0 97 s_slices_Clone_impl_Quota_impl_Quota ext_slices_Clone_impl_Quota_impl_Quota:=
 fnOK_CloneE (ρ:=clone97_ren) clone97_lays (te:=(.pair (.int .i64) (.int .i64))) (bytes:=16) rfl Tryz.func97 (by kernel_rfl) rfl clone97_i0 (.agg #[.int .i64 0,.int .i64 0])
  (Option.some_get clone97_some).symm (by kernel_rfl) (by kernel_rfl) (by kernel_rfl) rfl (by decide) Tryz.sizeOf112
def clone151_ren:Go.Shelf.Ren:=⟨fun|41=>151|n=>n,fun|22=>59|23=>154|4=>4|n=>n,fun|n=>n⟩
theorem clone151_lays:Go.Proofs.SlLaysE0.n41 Tryz.prog clone151_ren:={
 mixed:=by kernel_rfl
 f41:=⟨Tryz.f151.name,by decide,Tryz.func151.trans (congrArg some (by kernel_rfl))⟩
 t4:=Tryz.underlying4
 a4:=Tryz.isAgg4
 z4:=Tryz.sizeOf4
 v4:=Tryz.zeroValue4
 t22:=Tryz.underlying59
 a22:=Tryz.isAgg59
 z22:=Tryz.sizeOf59
 v22:=Tryz.zeroValue59}
theorem clone151_some:(Tryz.prog.info? 154).isSome=true:=by kernel_rfl
noncomputable def clone151_i0:TypeInfo:=(Tryz.prog.info? 154).get clone151_some
theorem clone151_ok:FnOK Tryz.prog tabs0 151 s_slices_Clone_impl_AclEntry_impl_AclEntry ext_slices_Clone_impl_AclEntry_impl_AclEntry:=
 fnOK_CloneE (ρ:=clone151_ren) clone151_lays (te:=(.pair (.int .i64) (.pair (.int .i64) (.int .i64)))) (bytes:=24) rfl Tryz.func151 (by kernel_rfl) rfl clone151_i0 (.agg #[.int .i64 0,.int .i64 0,.int .i64 0])
  (Option.some_get clone151_some).symm (by kernel_rfl) (by kernel_rfl) (by kernel_rfl) rfl (by decide) Tryz.sizeOf154
theorem exts_ok:∀e∈exts,FnOK Tryz.prog tabs0 e.f e.s e.G:=by
 simp only[exts,List.forall_mem_cons,List.not_mem_nil,false_implies,implies_true,and_true]
 exact⟨clone97_ok,fnOK_Clone_string Tryz.func98 (by kernel_rfl) rfl Tryz.slices_Clone_string Tryz.slices_Clone_string_nil Tryz.slices_Clone_string_zero,fnOK_Clone_int Tryz.func150 (by kernel_rfl) rfl Tryz.slices_Clone_int Tryz.slices_Clone_int_nil Tryz.slices_Clone_int_zero,clone151_ok,fnOK_ContainsAny Tryz.func159 (by kernel_rfl) rfl (fun s chars w a b c=>containsAny_any Tryz.lays150 (by kernel_rfl) s chars w a b c),fnOK_Repeat Tryz.func160 (by kernel_rfl) rfl Tryz.strings_Repeat⟩
theorem extOK:ExtOK Tryz.prog E1 tabs0:=fun f s _=>extOf_ok exts exts_ok f s
end Go.Proofs.YtbpfenmkhapeiaaGreat
