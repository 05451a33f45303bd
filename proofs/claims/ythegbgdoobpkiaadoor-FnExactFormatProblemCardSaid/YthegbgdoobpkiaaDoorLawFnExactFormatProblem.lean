/- The law FnExactFormatProblem, whatever it is called with, answers true and leaves its arguments as they were, and its card; condition: none beyond the card's own. -/
import Derived.Test.YthegbgdoobpkiaaDoorEnv
import Derived.Test.YthegbgdoobpkiaaDoorExt
import Derived.Test.YthegbgdoobpkiaaDoorFormat
import Derived.Test.YthegbgdoobpkiaaDoorRows
import Derived.Test.YthegbgdoobpkiaaDoorTie
import Derived.Test.YthegbgdoobpkiaaDoorCards
import Derived.WalkKit
import Derived.ProofKit
import Derived.OpenShut
import Derived.ShutString
import Derived.ChangeOld
import Derived.Below
import Derived.SizedLaws
import Derived.LaidLaws
import Derived.Handed
import Derived.Lay
import Derived.LaidOnce
import Derived.SevenTiedAt
set_option linter.unusedVariables false
set_option maxRecDepth 100000
namespace Go.Proofs.YthegbgdoobpkiaaDoor
open Go.ChangeShapes Go.WideShapes Go.ChangeAt Go.RowKit Go.Eng
theorem fnExactFormatProblem_met (os : Os) (args : Array Value) : laidMet Tryd.prog Rows.fnExactFormatProblemRow.laid ((World.laidAll Tryd.prog os Rows.fnExactFormatProblemRow.laid).forCall (fun _ _ => 0) ⟨#[], args, []⟩).memory :=
  laidMet_laidAll args (by kernel_rfl) (by kernel_rfl)
theorem fnExactFormatProblem_tab {W : World} (h : laidMet Tryd.prog Rows.fnExactFormatProblemRow.laid W) : tabs1.T W :=
  laidMet_tab (g := 0) (t := 41) (e := 34) (n := 20) (by kernel_rfl) (by kernel_rfl) (by kernel_rfl) (by kernel_rfl) (by kernel_rfl) (by kernel_rfl) h (List.Mem.tail _ (List.Mem.tail _ (List.Mem.head _)))
theorem fnExactFormatProblem_lifted (os : Os) (started : os.Started) (H : Type) (enc : TypeId × Value → H) :
    ReturnsInHanded {} Tryd.checked os 3 .any (fun w args => (Rows.fnExactFormatProblemSpec.pre enc Tryd.prog Tryd.f3 Rows.fnExactFormatProblemRow.domain false w args ∧ laidMet Tryd.prog Rows.fnExactFormatProblemRow.laid w) ∧ sizedMet enc Tryd.prog Tryd.f3 (OpenSpec.ofChange Rows.fnExactFormatProblemSpec) false w args)
      (Rows.fnExactFormatProblemSpec.post enc Tryd.prog Tryd.f3 false true false false) := by
  refine returnsInHanded_of_change_and (C := Tryd.checked) (X := fun w _ => laidMet Tryd.prog Rows.fnExactFormatProblemRow.laid w) (fun _ _ _ hh h => h.of_heap hh) own started (by kernel_rfl) Tryd.func3
    (ChangeSpec.witness_at (enc := enc) (C := Tryd.checked) (os := os) (X := fun w _ => laidMet Tryd.prog Rows.fnExactFormatProblemRow.laid w) false (World.laidAll Tryd.prog os Rows.fnExactFormatProblemRow.laid) #[.agg #[.int .i64 0, .int .i64 0, .int .i64 0]] 8 (World.laidAll_os _ _ _) (by kernel_rfl) (by kernel_rfl) (by kernel_rfl) (by kernel_rfl) (by kernel_rfl) (fnExactFormatProblem_met os _)) ?_
  intro W base args ds gs before hval0 hW hcnd hsz0 hL _
  have hW' := hW
  obtain ⟨p, q, hA, hV, rfl, hfz, hnd⟩ := hW
  obtain ⟨rfl, rfl⟩ := trodVars_none hV
  have hlen := trod_len hA
  obtain ⟨d0, rfl⟩ : ∃ d0, ds = [d0] := by
    match ds, hlen with
    | [d0], _ => exact ⟨d0, rfl⟩
  refine Calls.mono (law_calls envOK fnsOK extOK H1 (f := 3) (s := s_laws_FnExactFormatProblem) rfl rfl (fn := Tryd.f3) rfl rfl laid (tysR_of (by kernel_rfl)) (fun x hx => ?_) (fnExactFormatProblem_tab hL) (tabIs_lt (fnExactFormatProblem_tab hL)) (fun j t v h1 h2 => ⟨_, _, hval0 j t v (by rw [← Array.getElem?_toList]; exact h1) (by rw [← Array.getElem?_toList]; exact h2)⟩) hA) ?_
  · obtain ⟨N, hN⟩ := laws_FnExactFormatProblem_ev x (hx ⟨_, x⟩ (List.Mem.head _))
    exact ⟨N, true, hN N (Nat.le_refl N), rfl⟩
  · rintro e W' ⟨rfl, h1, h2⟩
    exact ⟨_, rfl, _, _, _, [], _, [], hW', trodAll_mk1 (shut_bool boolT _), h1, rfl, h2 _, fun h => by cases h⟩
theorem fnExactFormatProblem_holds : Rows.FnExactFormatProblemSaid :=
  OpenClaim.holds_of_wide 3 Tryd.f3 rfl rfl rfl rfl rfl rfl rfl ⟨rfl, rfl, rfl, rfl, rfl⟩ rfl rfl rfl rfl rfl (by kernel_rfl) Tryd.func3 (by kernel_rfl)
    (of_decide_eq_true (by kernel_rfl)) (by unfold Func.isWrapper; first | (rw [if_pos (by decide +kernel)]; kernel_rfl) | (rw [if_neg (by decide +kernel)]; exact ⟨rfl, rfl⟩))
    (fun os started H enc _ => fnExactFormatProblem_lifted os started H enc)
theorem fnExactFormatProblem_card_holds : Rows.FnExactFormatProblemCardSaid :=
  Claim7.holds_tied_plain_at .later [] [.data, .data, .data] true (true, "1e2f926349c0953d1b115ec0000e7ea30ca8acef8fd558f3715aaa5e06e88eb1") false
    fnExactFormatProblem_holds (fun _ h => by cases h) (by kernel_rfl) (fun _ h => by cases h) fnExactFormatProblem_row_tie rfl ⟨rfl, rfl⟩ (by kernel_rfl) rfl
    (fun f fn hf hfn => by
      have hf0 : Tryd.prog.funcNamed Rows.fnExactFormatProblemRow.func = some 3 := by kernel_rfl
      obtain rfl : f = 3 := (Option.some.inj (hf0.symm.trans hf)).symm
      obtain rfl : fn = Tryd.f3 := (Option.some.inj (Tryd.func3.symm.trans hfn)).symm
      exact ⟨by kernel_rfl, fun j t ht => by
        rw [Tryd.params3] at ht
        have hm : t ∈ [23] := by simpa using Array.mem_of_getElem? ht
        have hall : ([23].all fun u => !Tryd.prog.wantsStandIn u) = true := by kernel_rfl
        exact (show Tryd.prog.wantsStandIn t = false by simpa using List.all_eq_true.1 hall t hm)⟩)
    (by kernel_rfl)
#print axioms fnExactFormatProblem_card_holds
end Go.Proofs.YthegbgdoobpkiaaDoor
