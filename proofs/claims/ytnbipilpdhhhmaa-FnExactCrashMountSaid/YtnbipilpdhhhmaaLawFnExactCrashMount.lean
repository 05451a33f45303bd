/- The law FnExactCrashMount, whatever it is called with, answers true and leaves its arguments as they were; condition: none beyond the row's own. -/
import Derived.Test.YtnbipilpdhhhmaaEnv
import Derived.Test.YtnbipilpdhhhmaaExt
import Derived.Test.YtnbipilpdhhhmaaCM
import Derived.Test.YtnbipilpdhhhmaaRows
import Derived.WalkKit
import Derived.ProofKit
import Derived.OpenShut
import Derived.ShutString
import Derived.ChangeOld
import Derived.Below
import Derived.SizedLaws
set_option linter.unusedVariables false
set_option maxRecDepth 100000
namespace Go.Proofs.Ytnbipilpdhhhmaa
open Go.ChangeShapes Go.WideShapes Go.ChangeAt Go.RowKit Go.Eng
theorem fnExactCrashMount_lifted (os : Os) (started : os.Started) (H : Type) (enc : TypeId × Value → H) :
    ReturnsInHanded {} Try.checked os 5 .any (Rows.fnExactCrashMountSpec.pre6 enc Try.prog Try.f5 Rows.fnExactCrashMountRow.domain false) (Rows.fnExactCrashMountSpec.post enc Try.prog Try.f5 false true false false) := by
  refine returnsInHanded_of_change_sized (C := Try.checked) own started (by kernel_rfl) Try.func5
    (ChangeSpec.witness6 (enc := enc) (C := Try.checked) false ⟨#[], #[.agg #[.slice none 0 0, .slice none 0 0], .int .i64 0, .slice none 0 0], []⟩ 8 (by kernel_rfl) (by kernel_rfl) (by kernel_rfl) (by kernel_rfl)) ?_
  intro W base args ds gs before hval0 hW hcnd hsz0 _
  have hW' := hW
  obtain ⟨p, q, hA, hV, rfl, hfz, hnd⟩ := hW
  obtain ⟨rfl, rfl⟩ := trodVars_none hV
  have hlen := trod_len hA
  obtain ⟨d0, d1, d2, rfl⟩ : ∃ d0 d1 d2, ds = [d0, d1, d2] := by
    match ds, hlen with
    | [d0, d1, d2], _ => exact ⟨d0, d1, d2, rfl⟩
  refine Calls.mono (law_calls envOK fnsOK extOK H1 (f := 5) (s := s_laws_FnExactCrashMount) rfl rfl (fn := Try.f5) rfl rfl laid (tysR_of (by kernel_rfl)) (fun x hx => ?_) trivial (fun _ h => h.elim) (fun j t v h1 h2 => ⟨_, _, hval0 j t v (by rw [← Array.getElem?_toList]; exact h1) (by rw [← Array.getElem?_toList]; exact h2)⟩) hA) ?_
  · obtain ⟨N, hN⟩ := laws_FnExactCrashMount_ev x.1 x.2.1 x.2.2 (hx ⟨_, x.1⟩ (List.Mem.head _)) (hx ⟨_, x.2.1⟩ (List.Mem.tail _ (List.Mem.head _))) (hx ⟨_, x.2.2⟩ (List.Mem.tail _ (List.Mem.tail _ (List.Mem.head _))))
    exact ⟨N, true, hN N (Nat.le_refl N), rfl⟩
  · rintro e W' ⟨rfl, h1, h2⟩
    exact ⟨_, rfl, _, _, _, [], _, [], hW', trodAll_mk1 (shut_bool boolT _), h1, rfl, h2 _, fun h => by cases h⟩
theorem fnExactCrashMount_over : Rows.fnExactCrashMountRow.holds Try.pinned (OpenSpec.ofChange Rows.fnExactCrashMountSpec) :=
  OpenClaim.holds_of_wide 5 Try.f5 rfl rfl rfl rfl rfl rfl rfl ⟨rfl, rfl, rfl, rfl, rfl⟩ rfl rfl rfl rfl rfl (by kernel_rfl) Try.func5 (by kernel_rfl)
    (of_decide_eq_true (by kernel_rfl)) (by unfold Func.isWrapper; first | (rw [if_pos (by decide +kernel)]; kernel_rfl) | (rw [if_neg (by decide +kernel)]; exact ⟨rfl, rfl⟩))
    (fun os started H enc _ => fnExactCrashMount_lifted os started H enc)
theorem fnExactCrashMount_holds : Rows.FnExactCrashMountSaid := fnExactCrashMount_over
#print axioms fnExactCrashMount_holds
end Go.Proofs.Ytnbipilpdhhhmaa
