/- The tables, the residual functions and lemmas of this seat: parts of the proof of the law; conditions: those that each names. -/
import Derived.Test.YtmmgfgfkkpeedaaGreatEnv
import Derived.Test.YtmmgfgfkkpeedaaGreatShelf
import Derived.Test.YtmmgfgfkkpeedaaGreatRep
set_option maxRecDepth 100000
namespace Go.Proofs.YtmmgfgfkkpeedaaGreat
open Go.Eng
def clone84_ren:Go.Shelf.Ren:=⟨fun|41=>84|n=>n,fun|22=>26|23=>78|4=>4|n=>n,fun|n=>n⟩
theorem clone84_lays:Go.Proofs.SlLaysE0.n41 Tryz.prog clone84_ren:={
 mixed:=by kernel_rfl
 f41:=⟨Tryz.f84.name,by decide,Tryz.func84.trans (congrArg some (by kernel_rfl))⟩
 t4:=Tryz.underlying4
 a4:=Tryz.isAgg4
 z4:=Tryz.sizeOf4
 v4:=Tryz.zeroValue4
 t22:=Tryz.underlying26
 a22:=Tryz.isAgg26
 z22:=Tryz.sizeOf26
 v22:=Tryz.zeroValue26}
theorem clone84_some:(Tryz.prog.info? 78).isSome=true:=by kernel_rfl
noncomputable def clone84_i0:TypeInfo:=(Tryz.prog.info? 78).get clone84_some
theorem clone84_ok:FnOK Tryz.prog tabs0 84 s_slices_Clone_impl_Quota_impl_Quota ext_slices_Clone_impl_Quota_impl_Quota:=
 fnOK_CloneE (ρ:=clone84_ren) clone84_lays (te:=(.pair (.int .i64) (.int .i64))) (bytes:=16) rfl Tryz.func84 (by kernel_rfl) rfl clone84_i0 (.agg #[.int .i64 0,.int .i64 0])
  (Option.some_get clone84_some).symm (by kernel_rfl) (by kernel_rfl) (by kernel_rfl) rfl (by decide) Tryz.sizeOf78
def clone231_ren:Go.Shelf.Ren:=⟨fun|41=>231|n=>n,fun|22=>125|23=>201|4=>4|n=>n,fun|n=>n⟩
theorem clone231_lays:Go.Proofs.SlLaysE0.n41 Tryz.prog clone231_ren:={
 mixed:=by kernel_rfl
 f41:=⟨Tryz.f231.name,by decide,Tryz.func231.trans (congrArg some (by kernel_rfl))⟩
 t4:=Tryz.underlying4
 a4:=Tryz.isAgg4
 z4:=Tryz.sizeOf4
 v4:=Tryz.zeroValue4
 t22:=Tryz.underlying125
 a22:=Tryz.isAgg125
 z22:=Tryz.sizeOf125
 v22:=Tryz.zeroValue125}
theorem clone231_some:(Tryz.prog.info? 201).isSome=true:=by kernel_rfl
noncomputable def clone231_i0:TypeInfo:=(Tryz.prog.info? 201).get clone231_some
theorem clone231_ok:FnOK Tryz.prog tabs0 231 s_slices_Clone_impl_AclEntry_impl_AclEntry ext_slices_Clone_impl_AclEntry_impl_AclEntry:=
 fnOK_CloneE (ρ:=clone231_ren) clone231_lays (te:=(.pair (.int .i64) (.pair (.int .i64) (.int .i64)))) (bytes:=24) rfl Tryz.func231 (by kernel_rfl) rfl clone231_i0 (.agg #[.int .i64 0,.int .i64 0,.int .i64 0])
  (Option.some_get clone231_some).symm (by kernel_rfl) (by kernel_rfl) (by kernel_rfl) rfl (by decide) Tryz.sizeOf201
theorem exts_ok:∀e∈exts,FnOK Tryz.prog tabs0 e.f e.s e.G:=by
 simp only[exts,List.forall_mem_cons,List.not_mem_nil,false_implies,implies_true,and_true]
 exact⟨clone84_ok,fnOK_SlRepeat (te:=9) Tryz.func85 (by kernel_rfl) rfl (fun b off c n z w h1 h2 h3 h4=>rep_walk b off c n z w h1 h2 h3 h4),fnOK_Clone_int Tryz.func163 (by kernel_rfl) rfl Tryz.slices_Clone_int Tryz.slices_Clone_int_nil Tryz.slices_Clone_int_zero,fnOK_Clone_string Tryz.func192 (by kernel_rfl) rfl Tryz.slices_Clone_string Tryz.slices_Clone_string_nil Tryz.slices_Clone_string_zero,fnOK_Repeat Tryz.func223 (by kernel_rfl) rfl Tryz.strings_Repeat,clone231_ok⟩
theorem extOK:ExtOK Tryz.prog E1 tabs0:=fun f s _=>extOf_ok exts exts_ok f s
end Go.Proofs.YtmmgfgfkkpeedaaGreat
