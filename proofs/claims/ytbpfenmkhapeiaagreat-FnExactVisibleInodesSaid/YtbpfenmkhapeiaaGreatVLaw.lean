/- The tables, the residual functions and lemmas of this seat: parts of the proof of the law; conditions: those that each names. -/
import Derived.Test.YtbpfenmkhapeiaaGreatVss
set_option linter.unusedVariables false
set_option linter.unusedSimpArgs false
set_option maxRecDepth 100000
namespace Go.Proofs.YtbpfenmkhapeiaaGreat
open Go.Eng
def visL (u : List Bool) : Nat → List Int
  | 0 => []
  | i + 1 => match u[i]? with
    | some true => visL u i ++ [(i : Int)]
    | _ => visL u i
theorem visL_len (u : List Bool) : ∀ i, (visL u i).length ≤ i
  | 0 => Nat.le_refl _
  | i + 1 => by
    have := visL_len u i
    simp only [visL]
    split
    · rw [List.length_append, List.length_singleton]; omega
    · omega
theorem vis_same (x : DFS) (c : DCred) (h : szM_FS x ≤ 1048576) (hc : c.2.2.length < big) : ∃ r, Ev (fun k => c_spec_VisibleInodes k (x, c)) r ∧ Ev (fun k => c_impl_VisibleInodes k (x, c)) r ∧ r.length ≤ 20 := by
  obtain ⟨h1, h2, h3⟩ := fs_small h
  obtain ⟨b, e1, e2, e3⟩ := (impl_IsFS_say x h1).same (spec_IsFS_say x h1 h2)
  obtain ⟨b', f1, f2, _⟩ := (impl_IsCred_say c hc).same (spec_IsCred_say c hc)
  by_cases hb : b = true ∧ b' = true
  · obtain ⟨rfl, rfl⟩ := hb
    obtain ⟨u, g1, g2, g3⟩ := reach_same (c := c) (e3.1 rfl) h1 hc
    have hlen := visL_len u 20
    refine ⟨visL u 20, EvQ.run (fun k => spec_VisibleInodes_run k _ _) ?_, EvQ.run (fun k => impl_VisibleInodes_run k _ _) ?_, hlen⟩
    · simp only [spec_VisibleInodes]
      refine EvQ.bind e2 (EvQ.bind f2 (EvQ.bind (EvQ.run (fun k => spec_l21Visible_run k _ _) (r := some (visL u 20)) ?_) (EvQ.const _)))
      simp only [spec_l21Visible]
      refine EvQ.bind g2 (EvL.ev ?_)
      have := EvL.count (L := spec_l21Visible_l1) (r := visL u 20) (fun i => (visL u i, u, (u.length : Int), (i : Int))) 20 (fun i hi => ?_) (EvL.stop ?_)
      · simpa [visL] using this
      · have hx : u[i]? = some u[i] := List.getElem?_eq_getElem (by omega)
        have hw : wrapK .i64 ((i : Int) + 1) = ((i + 1 : Nat) : Int) := by rw [i64w (by omega) (by omega)]; omega
        have hv := visL_len u i
        have hcap : ((visL u i).length + ([(i : Int)] : List Int).length) * 8 ≤ capBytes := by simp only [List.length_singleton, capBytes]; omega
        have e : visL u (i + 1) = bif u[i] then visL u i ++ [(i : Int)] else visL u i := by
          simp only [visL, hx]; cases u[i] <;> rfl
        simp only [EvS, spec_l21Visible_l1, show (i : Int) < (u.length : Int) by omega, decide_true, cond_true, Int.natCast_nonneg, if_true, Int.toNat_natCast, hx, Option.bind_some, hw, hcap, e]
        cases u[i] <;> simp only [cond_true, cond_false] <;> exact EvQ.const _
      · simp only [spec_l21Visible_l1, show ¬ ((20 : Nat) : Int) < (u.length : Int) by omega, decide_false, cond_false]
        exact EvQ.const _
    · simp only [impl_VisibleInodes]
      refine EvQ.bind e1 (EvQ.bind f1 (EvQ.bind g1 (EvL.ev ?_)))
      have := EvL.count (L := impl_VisibleInodes_l1) (r := visL u 20) (fun i => (visL u i, u, (i : Int))) 20 (fun i hi => ?_) (EvL.stop ?_)
      · simpa [visL] using this
      · have hx : u[i]? = some u[i] := List.getElem?_eq_getElem (by omega)
        have hw : wrapK .i64 ((i : Int) + 1) = ((i + 1 : Nat) : Int) := by rw [i64w (by omega) (by omega)]; omega
        have hv := visL_len u i
        have hcap : ((visL u i).length + ([(i : Int)] : List Int).length) * 8 ≤ capBytes := by simp only [List.length_singleton, capBytes]; omega
        have e : visL u (i + 1) = bif u[i] then visL u i ++ [(i : Int)] else visL u i := by
          simp only [visL, hx]; cases u[i] <;> rfl
        simp only [EvS, impl_VisibleInodes_l1, show (i : Int) < 20 by omega, decide_true, cond_true, Int.natCast_nonneg, if_true, Int.toNat_natCast, hx, Option.bind_some, hw, hcap, e]
        cases u[i] <;> simp only [cond_true, cond_false] <;> exact EvQ.const _
      · simp only [impl_VisibleInodes_l1, show ¬ ((20 : Nat) : Int) < 20 by omega, decide_false, cond_false]
        exact EvQ.const _
  · refine ⟨[], EvQ.run (fun k => spec_VisibleInodes_run k _ _) ?_, EvQ.run (fun k => impl_VisibleInodes_run k _ _) ?_, Nat.zero_le _⟩
    · simp only [spec_VisibleInodes]
      refine EvQ.bind e2 ?_
      cases b with
      | false => exact EvQ.const _
      | true =>
      refine EvQ.bind f2 ?_
      cases b' with
      | false => exact EvQ.const _
      | true => exact absurd ⟨rfl, rfl⟩ hb
    · simp only [impl_VisibleInodes]
      refine EvQ.bind e1 ?_
      cases b with
      | false => exact EvQ.const _
      | true =>
      refine EvQ.bind f1 ?_
      cases b' with
      | false => exact EvQ.const _
      | true => exact absurd ⟨rfl, rfl⟩ hb
theorem laws_FnExactVisibleInodes_ev (x0 : DFS) (x1 : DCred) (hx0 : okD (TFSk) x0) (hx1 : okD (TCredk) x1) : Ev (fun k => c_laws_FnExactVisibleInodes k (x0, x1)) true := by
  refine EvQ.run (fun k => laws_FnExactVisibleInodes_run k x0 x1) ?_
  simp only [laws_FnExactVisibleInodes]
  refine EvQ.bind (szFS_ev x0 hx0 (left := 1048576) (by omega) (by omega)) ?_
  by_cases c0 : szR (szM_FS x0) 1048576 < 0
  · simp only [c0, decide_true, cond_true]; exact EvQ.const _
  obtain ⟨d0, e0⟩ := szR_nonneg c0
  simp only [c0, decide_false, cond_false]
  rw [e0]
  refine EvQ.bind (szCred_ev x1 hx1 (left := 1048576 - (szM_FS x0 : Int)) (by omega) (by omega)) ?_
  by_cases c1 : szR (szM_Cred x1) (1048576 - (szM_FS x0 : Int)) < 0
  · simp only [c1, decide_true, cond_true]; exact EvQ.const _
  obtain ⟨d1, e1⟩ := szR_nonneg c1
  simp only [c1, decide_false, cond_false]
  have hS : szM_FS x0 ≤ 1048576 := by omega
  have hC : szM_Cred x1 = x1.2.2.length := rfl
  have tF := toFS_ev x0 (by omega)
  have tC := toCred_ev x1 (by omega)
  obtain ⟨r, s1, s2, s3⟩ := vis_same x0 x1 hS (by unfold big; omega)
  have eqR := eqIntS_ev r (by omega)
  obtain ⟨q, mF, hq, hq2⟩ := markFS_ev x0 hS
  have mC : Ev (fun k => c_laws_markCred k (x1, q)) (q + 1 * x1.2.2.length) := by
    refine EvQ.run (fun k => laws_markCred_run k _ _) ?_
    simp only [laws_markCred]
    exact EvQ.bind (markIntS_ev x1.2.2 q hq (by omega)) (EvQ.const _)
  have nq : decide (q + 1 * (x1.2.2.length : Int) < 0) = false := decide_eq_false (by omega)
  have mR := markIntS_ev r 1 (by omega) (by omega)
  have hR := heldIntS_ev r 1 (by omega) (by omega)
  have nk : decide ((1 : Int) + 1 * r.length < 0) = false := decide_eq_false (by omega)
  refine EvQ.bind tF (EvQ.bind tC (EvQ.bind s1 (EvQ.bind tF (EvQ.bind tC (EvQ.bind s2 (EvQ.bind eqR ?_))))))
  simp only [Bool.not_true, cond_false]
  refine EvQ.bind tF (EvQ.bind (eqFS_ev x0 (by omega)) ?_)
  simp only [Bool.not_true, cond_false]
  refine EvQ.bind tC (EvQ.bind (eqCred_ev x1 (by omega)) ?_)
  simp only [Bool.not_true, cond_false]
  refine EvQ.bind mF (EvQ.bind mC ?_)
  simp only [nq, cond_false]
  refine EvQ.bind eqR ?_
  simp only [Bool.not_true, cond_false]
  refine EvQ.bind mR (EvQ.bind hR ?_)
  simp only [nk, cond_false, bne_self_eq_false]
  refine EvQ.bind tF (EvQ.bind tC (EvQ.bind s2 (EvQ.bind eqR ?_)))
  simp only [Bool.not_true, cond_false]
  refine EvQ.bind hR ?_
  simp only [nk, cond_false, bne_self_eq_false]
  exact EvQ.const _
end Go.Proofs.YtbpfenmkhapeiaaGreat
