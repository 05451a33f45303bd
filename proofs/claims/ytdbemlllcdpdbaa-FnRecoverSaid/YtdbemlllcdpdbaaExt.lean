/- The tables, the residual functions and lemmas of this seat: parts of the proof of the law; conditions: those that each names. -/
import Derived.Test.YtdbemlllcdpdbaaEnv
import Derived.Test.YtdbemlllcdpdbaaShelf
set_option maxRecDepth 100000
namespace Go.Proofs.Ytdbemlllcdpdbaa
open Go.Eng
def cloneW_ren : Go.Shelf.Ren := ⟨fun | 41 => 85 | n => n, fun | 22 => 24 | 23 => 71 | 4 => 4 | n => n, fun | n => n⟩
theorem cloneW_lays : Go.Proofs.SlLaysE0.n41 Try.prog cloneW_ren := {
  mixed := by kernel_rfl
  f41 := ⟨Try.f85.name, by decide, Try.func85.trans (congrArg some (by kernel_rfl))⟩
  t4 := Try.underlying4
  a4 := Try.isAgg4
  z4 := Try.sizeOf4
  v4 := Try.zeroValue4
  t22 := Try.underlying24
  a22 := Try.isAgg24
  z22 := Try.sizeOf24
  v22 := Try.zeroValue24 }
theorem cloneW_some : (Try.prog.info? 71).isSome = true := by kernel_rfl
noncomputable def cloneW_i0 : TypeInfo := (Try.prog.info? 71).get cloneW_some
theorem cloneW_ok : FnOK Try.prog tabs0 85 s_slices_Clone_impl_Write_impl_Write ext_slices_Clone_impl_Write_impl_Write :=
  fnOK_CloneE (ρ := cloneW_ren) cloneW_lays (te := .pair (.int .i64) .str) (bytes := 24) rfl Try.func85 (by kernel_rfl) rfl cloneW_i0 (.agg #[.int .i64 0, .string ByteArray.empty])
    (Option.some_get cloneW_some).symm (by kernel_rfl) (by kernel_rfl) (by kernel_rfl) rfl (by decide) Try.sizeOf71
theorem exts_ok : ∀ e ∈ exts, FnOK Try.prog tabs0 e.f e.s e.G := by
  simp only [exts, List.forall_mem_cons, List.not_mem_nil, false_implies, implies_true, and_true]
  exact ⟨fnOK_Clone_string Try.func75 (by kernel_rfl) rfl Try.slices_Clone_string Try.slices_Clone_string_nil Try.slices_Clone_string_zero, cloneW_ok, fnOK_Repeat Try.func116 (by kernel_rfl) rfl Try.strings_Repeat⟩
theorem extOK : ExtOK Try.prog E1 tabs0 := fun f s _ => extOf_ok exts exts_ok f s
end Go.Proofs.Ytdbemlllcdpdbaa
