/- The tables, the residual functions and lemmas of this seat: parts of the proof of the law; conditions: those that each names. -/
import Derived.Test.YthegbgdoobpkiaaStd
set_option linter.unusedVariables false
set_option maxRecDepth 100000
namespace Go.Proofs.Ythegbgdoobpkiaa
open Go.Eng
def cntC (x : List DEvent) : Int := foldE (R := Int) (fun s _ (e : DEvent) => Sum.inl (if e.1 == 2 then s + 1 else s)) id (0 : Int) 0 x
theorem spec_CountCrashes_ev (x : List DEvent) (hx : x.length < 4611686018427387904) : Ev (fun k => c_spec_CountCrashes k x) (cntC x) := by
  refine EvQ.run (fun k => spec_CountCrashes_run k x) ?_
  simp only [spec_CountCrashes]
  refine EvL.ev ?_
  refine EvL.fold (L := spec_CountCrashes_l1) x (fun s i => (s, x, (x.length : Int), (i : Int))) _ _ (fun s i => 0 ≤ s ∧ s ≤ (i : Int)) ?_ ?_ 0 (by simp)
  · intro s i e he ⟨h0, h1⟩
    have hi : i < x.length := (List.getElem?_eq_some_iff.1 he).1
    refine ⟨?_, ?_⟩
    · simp only [EvS, spec_CountCrashes_l1, Int.toNat_natCast, he, Option.bind_some, Int.natCast_nonneg, if_true, Int.ofNat_lt, hi, decide_true, cond_true, wrap_succ hi hx]
      have hw : wrapK .i64 (s + 1) = s + 1 := wrap_i64 (by omega) (by omega)
      cases hc : (e.1 == (2 : Int)) with
      | true => simp only [cond_true, hw, if_true]; exact EvQ.const _
      | false => simp only [cond_false]; exact EvQ.const _
    · split <;> omega
  · intro s _
    refine EvL.stop ?_
    simp only [spec_CountCrashes_l1, Int.ofNat_lt, Nat.lt_irrefl, decide_false, cond_false, id]
    exact EvQ.const _
theorem impl_CountCrashes_ev (x : List DEvent) (hx : x.length < 4611686018427387904) : Ev (fun k => c_impl_CountCrashes k x) (cntC x) := by
  refine EvQ.run (fun k => impl_CountCrashes_run k x) ?_
  exact EvQ.back (c := fun k => c_spec_CountCrashes k x) (fun k => spec_CountCrashes_run k x) (spec_CountCrashes_ev x hx)
theorem laws_FnExactCountCrashes_ev (x : List DEvent) (hx : okD (.list false TEventk) x) : Ev (fun k => c_laws_FnExactCountCrashes k x) true := by
  refine EvQ.run (fun k => laws_FnExactCountCrashes_run k x) ?_
  simp only [laws_FnExactCountCrashes]
  refine EvQ.bind (szEventS_ev x hx (left := 1048576) (by omega) (by omega)) ?_
  by_cases c : szR (szM_EventS x) 1048576 < 0
  · simp only [c, decide_true, cond_true]; exact EvQ.const _
  obtain ⟨d, e⟩ := szR_nonneg c
  have hm : szM_EventS x ≤ 1048576 := by omega
  have hlen : x.length < 4611686018427387904 := by have := hm; simp only [szM_EventS] at this; omega
  simp only [c, decide_false, cond_false]
  refine EvQ.bind (toEventS_ev x hm) ?_
  refine EvQ.bind (spec_CountCrashes_ev x hlen) ?_
  refine EvQ.bind (toEventS_ev x hm) ?_
  refine EvQ.bind (impl_CountCrashes_ev x hlen) ?_
  simp only [bne_self_eq_false, cond_false]
  refine EvQ.bind (toEventS_ev x hm) ?_
  refine EvQ.bind (eqEventS_ev x hm) ?_
  simp only [Bool.not_true, cond_false]
  exact EvQ.const _
end Go.Proofs.Ythegbgdoobpkiaa
