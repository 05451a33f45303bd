/- The law FnExactUsageText, whatever it is called with, answers true and leaves its arguments as they were, and its card; condition: none beyond the card's own. -/
import Derived.Test.YtnbipilpdhhhmaaDoorEnv
import Derived.Test.YtnbipilpdhhhmaaDoorExt
import Derived.Test.YtnbipilpdhhhmaaDoorUse
import Derived.Test.YtnbipilpdhhhmaaDoorRows
import Derived.Test.YtnbipilpdhhhmaaDoorTie
import Derived.Test.YtnbipilpdhhhmaaDoorCards
import Derived.WalkKit
import Derived.ProofKit
import Derived.OpenShut
import Derived.ShutString
import Derived.ChangeOld
import Derived.Below
import Derived.SizedLaws
import Derived.LaidLaws
import Derived.Handed
import Derived.Lay
import Derived.LaidOnce
import Derived.SevenTiedAt
set_option linter.unusedVariables false
set_option maxRecDepth 100000
namespace Go.Proofs.YtnbipilpdhhhmaaDoor
open Go.ChangeShapes Go.WideShapes Go.ChangeAt Go.RowKit Go.Eng
theorem fnExactUsageText_met (os : Os) (args : Array Value) : laidMet Tryd.prog Rows.fnExactUsageTextRow.laid ((World.laidAll Tryd.prog os Rows.fnExactUsageTextRow.laid).forCall (fun _ _ => 0) ⟨#[], args, []⟩).memory :=
  laidMet_laidAll args (by kernel_rfl) (by kernel_rfl)
theorem fnExactUsageText_tab {W : World} (h : laidMet Tryd.prog Rows.fnExactUsageTextRow.laid W) : tabs1.T W :=
  laidMet_tab (g := 1) (t := 140) (e := 129) (n := 20) (by kernel_rfl) (by kernel_rfl) (by kernel_rfl) (by kernel_rfl) (by kernel_rfl) (by kernel_rfl) h (List.Mem.tail _ (List.Mem.tail _ (List.Mem.head _)))
theorem fnExactUsageText_lifted (os : Os) (started : os.Started) (H : Type) (enc : TypeId × Value → H) :
    ReturnsInHanded {} Tryd.checked os 4 .any (fun w args => (Rows.fnExactUsageTextSpec.pre enc Tryd.prog Tryd.f4 Rows.fnExactUsageTextRow.domain false w args ∧ laidMet Tryd.prog Rows.fnExactUsageTextRow.laid w) ∧ sizedMet enc Tryd.prog Tryd.f4 (OpenSpec.ofChange Rows.fnExactUsageTextSpec) false w args)
      (Rows.fnExactUsageTextSpec.post enc Tryd.prog Tryd.f4 false true false false) := by
  refine returnsInHanded_of_change_and (C := Tryd.checked) (X := fun w _ => laidMet Tryd.prog Rows.fnExactUsageTextRow.laid w) (fun _ _ _ hh h => h.of_heap hh) own started (by kernel_rfl) Tryd.func4
    (ChangeSpec.witness_at (enc := enc) (C := Tryd.checked) (os := os) (X := fun w _ => laidMet Tryd.prog Rows.fnExactUsageTextRow.laid w) false (World.laidAll Tryd.prog os Rows.fnExactUsageTextRow.laid) #[.agg #[.int .i64 0, .slice none 0 0, .slice none 0 0, .slice none 0 0], .int .i64 0] 8 (World.laidAll_os _ _ _) (by kernel_rfl) (by kernel_rfl) (by kernel_rfl) (by kernel_rfl) (by kernel_rfl) (fnExactUsageText_met os _)) ?_
  intro W base args ds gs before hval0 hW hcnd hsz0 hL _
  have hW' := hW
  obtain ⟨p, q, hA, hV, rfl, hfz, hnd⟩ := hW
  obtain ⟨rfl, rfl⟩ := trodVars_none hV
  have hlen := trod_len hA
  obtain ⟨d0, d1, rfl⟩ : ∃ d0 d1, ds = [d0, d1] := by
    match ds, hlen with
    | [d0, d1], _ => exact ⟨d0, d1, rfl⟩
  refine Calls.mono (law_calls envOK fnsOK extOK H1 (f := 4) (s := s_laws_FnExactUsageText) rfl rfl (fn := Tryd.f4) rfl rfl laid (tysR_of (by kernel_rfl)) (fun x hx => ?_) (fnExactUsageText_tab hL) (tabIs_lt (fnExactUsageText_tab hL)) (fun j t v h1 h2 => ⟨_, _, hval0 j t v (by rw [← Array.getElem?_toList]; exact h1) (by rw [← Array.getElem?_toList]; exact h2)⟩) hA) ?_
  · obtain ⟨N, hN⟩ := laws_FnExactUsageText_ev x.1 x.2 (hx ⟨_, x.1⟩ (List.Mem.head _)) (hx ⟨_, x.2⟩ (List.Mem.tail _ (List.Mem.head _)))
    exact ⟨N, true, hN N (Nat.le_refl N), rfl⟩
  · rintro e W' ⟨rfl, h1, h2⟩
    exact ⟨_, rfl, _, _, _, [], _, [], hW', trodAll_mk1 (shut_bool boolT _), h1, rfl, h2 _, fun h => by cases h⟩
theorem fnExactUsageText_holds : Rows.FnExactUsageTextSaid :=
  OpenClaim.holds_of_wide 4 Tryd.f4 rfl rfl rfl rfl rfl rfl rfl ⟨rfl, rfl, rfl, rfl, rfl⟩ rfl rfl rfl rfl rfl (by kernel_rfl) Tryd.func4 (by kernel_rfl)
    (of_decide_eq_true (by kernel_rfl)) (by unfold Func.isWrapper; first | (rw [if_pos (by decide +kernel)]; kernel_rfl) | (rw [if_neg (by decide +kernel)]; exact ⟨rfl, rfl⟩))
    (fun os started H enc _ => fnExactUsageText_lifted os started H enc)
theorem fnExactUsageText_card_holds : Rows.FnExactUsageTextCardSaid :=
  Claim7.holds_tied_plain_at .later [] [.data, .data, .data] true (true, "b9e008817a7d31192ca18ad58604f2a9c9e409dc8d4d99bbc81429e7df06ce2d") false
    fnExactUsageText_holds (fun _ h => by cases h) (by kernel_rfl) (fun _ h => by cases h) fnExactUsageText_row_tie rfl ⟨rfl, rfl⟩ (by kernel_rfl) rfl
    (fun f fn hf hfn => by
      have hf0 : Tryd.prog.funcNamed Rows.fnExactUsageTextRow.func = some 4 := by kernel_rfl
      obtain rfl : f = 4 := (Option.some.inj (hf0.symm.trans hf)).symm
      obtain rfl : fn = Tryd.f4 := (Option.some.inj (Tryd.func4.symm.trans hfn)).symm
      exact ⟨by kernel_rfl, fun j t ht => by
        rw [Tryd.params4] at ht
        have hm : t ∈ [37, 3] := by simpa using Array.mem_of_getElem? ht
        have hall : ([37, 3].all fun u => !Tryd.prog.wantsStandIn u) = true := by kernel_rfl
        exact (show Tryd.prog.wantsStandIn t = false by simpa using List.all_eq_true.1 hall t hm)⟩)
    (by kernel_rfl)
#print axioms fnExactUsageText_card_holds
end Go.Proofs.YtnbipilpdhhhmaaDoor
