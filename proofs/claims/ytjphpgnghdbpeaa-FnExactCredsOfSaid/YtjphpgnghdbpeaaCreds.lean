/- The tables, the residual functions and lemmas of this seat: parts of the proof of the law; conditions: those that each names. -/
import Derived.Test.YtjphpgnghdbpeaaStd
import Derived.Test.YtjphpgnghdbpeaaEng4
set_option linter.unusedVariables false
set_option linter.unusedSimpArgs false
set_option maxRecDepth 100000
namespace Go.Proofs.Ytjphpgnghdbpeaa
open Go.Eng
theorem spec_copy_ev (c : DCred) (h : c.2.2.length ≤ 1048576) : Ev (fun k => c_spec_l06Copy k c) c := by
  refine EvQ.run (fun k => spec_l06Copy_run k _) ?_
  have hc : (([] : List Int).length + c.2.2.length) * 8 ≤ capBytes := by simp only [List.length_nil, capBytes]; omega
  simp only [spec_l06Copy, if_pos hc, List.nil_append]
  exact EvQ.const _
theorem impl_copy_ev (c : DCred) (h : c.2.2.length ≤ 1048576) : Ev (fun k => c_impl_copyCred k c) c := by
  refine EvQ.run (fun k => impl_copyCred_run k _) ?_
  simp only [impl_copyCred]
  refine EvQ.bind (EvQ.run (fun k => c_slices_Clone_int_int_run k _) ?_) (EvQ.const _)
  have hm : c.2.2.length ≤ maxLen := by unfold maxLen; omega
  simp only [ext_slices_Clone_int_int, ext_Clone, if_pos (And.intro hm (show c.2.2.length * 8 ≤ 140737488355328 by omega))]
  exact EvQ.const _
def credsF (x : DSystem) : List DCred := x.2.map (·.1)
theorem creds_loop {C : Nat → DCred → Option DCred} (hC : ∀ c : DCred, c.2.2.length ≤ 1048576 → Ev (fun k => C k c) c) {L : Nat → (((List DCred) × ((List DProc) × DQuota)) → Option (List DCred)) → ((List DCred) × ((List DProc) × DQuota)) → Option (List DCred)}
    (hL : ∀ k self d, L k self d = (bif (decide (d.2.2.2 < d.2.2.1)) then (if 0 ≤ d.2.2.2 then (d.2.1[d.2.2.2.toNat]?).bind fun v0 =>
      (C k v0.1).bind fun v1 =>
      (if (d.1.length + ([v1] : List DCred).length) * 40 ≤ capBytes then self ((d.1 ++ ([v1] : List DCred)), d.2.1, d.2.2.1, (wrapK .i64 (d.2.2.2 + (1 : Int)))) else none) else none) else some d.1))
    (l : List DProc) (hl : l.length ≤ 1048576) (h : ∀ p ∈ l, p.1.2.2.length ≤ 1048576) : Ev (fun k => iter k (L k) (([] : List DCred), l, (l.length : Int), (0 : Int))) (l.map (·.1)) := by
  refine EvL.ev ?_
  have := EvL.count (L := L) (r := l.map (·.1)) (fun i => ((l.take i).map (·.1), l, (l.length : Int), (i : Int))) l.length (fun i hi => ?_) (EvL.stop ?_)
  · simpa using this
  · have hx : l[i]? = some l[i] := List.getElem?_eq_getElem hi
    have e1 := hC l[i].1 (h _ (List.getElem_mem hi))
    have hcap : (((l.take i).map (·.1)).length + ([l[i].1] : List DCred).length) * 40 ≤ capBytes := by simp only [List.length_map, List.length_take, List.length_singleton, capBytes]; omega
    have hnext : (l.take (i + 1)).map (·.1) = (l.take i).map (·.1) ++ [l[i].1] := by rw [List.take_add_one, hx, Option.toList_some, List.map_append]; rfl
    refine EvQ.congr (fun k => funext fun self => hL k self _) ?_
    simp only [Int.ofNat_lt, hi, decide_true, cond_true, Int.natCast_nonneg, if_true, Int.toNat_natCast, hx, Option.bind_some]
    refine EvQ.bindS e1 ?_
    simp only [if_pos hcap, wrap_succ hi (show l.length < 4611686018427387904 by omega), hnext]
    exact EvQ.const _
  · refine EvQ.congr (fun k => funext fun self => hL k self _) ?_
    simp only [Int.lt_irrefl, decide_false, cond_false, List.take_length]
    exact EvQ.const _
theorem spec_CredsOf_ev (x : DSystem) (hl : x.2.length ≤ 1048576) (h : ∀ p ∈ x.2, p.1.2.2.length ≤ 1048576) : Ev (fun k => c_spec_CredsOf k x) (credsF x) := by
  refine EvQ.run (fun k => spec_CredsOf_run k _) ?_
  simp only [spec_CredsOf]
  exact creds_loop spec_copy_ev (L := spec_CredsOf_l1) (fun _ _ _ => rfl) x.2 hl h
theorem impl_CredsOf_ev (x : DSystem) (hl : x.2.length ≤ 1048576) (h : ∀ p ∈ x.2, p.1.2.2.length ≤ 1048576) : Ev (fun k => c_impl_CredsOf k x) (credsF x) := by
  refine EvQ.run (fun k => impl_CredsOf_run k _) ?_
  simp only [impl_CredsOf]
  exact creds_loop impl_copy_ev (L := impl_CredsOf_l1) (fun _ _ _ => rfl) x.2 hl h
end Go.Proofs.Ytjphpgnghdbpeaa
