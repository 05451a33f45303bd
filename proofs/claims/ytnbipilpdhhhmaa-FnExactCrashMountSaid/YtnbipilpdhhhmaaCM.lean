/- The tables, the residual functions and lemmas of this seat: parts of the proof of the law; conditions: those that each names. -/
import Derived.Test.YtnbipilpdhhhmaaJrn
set_option linter.unusedVariables false
set_option linter.unusedSimpArgs false
set_option maxRecDepth 100000
namespace Go.Proofs.Ytnbipilpdhhhmaa
open Go.Eng
noncomputable def cmR (d : PDisk) (n : Int) (l : List Bool) : PDisk := crashR (runR d (recS d) n) l
theorem runR_small {d : PDisk} (hs : dskS d) (l : List PStep) (n : Int) : dskS (runR d l n) := by
  unfold runR
  split
  · rename_i h; exact disk_small (runT_P h l _)
  · exact hs
theorem spec_CM_ev (d : PDisk) (hs : dskS d) (n : Int) (l : List Bool) : Ev (fun k => c_spec_CrashMount k (d, n, l)) (cmR d n l) := by
  refine EvQ.run (fun k => spec_CrashMount_run k _ _ _) ?_
  have hl := recS_len d
  simp only [spec_CrashMount]
  exact EvQ.bind (spec_RS_ev d hs) (EvQ.bind (spec_Run_ev d hs _ (by omega) n) (EvQ.bind (spec_Crash_ev _ (runR_small hs _ _) l) (EvQ.const _)))
theorem impl_CM_ev (d : PDisk) (hs : dskS d) (n : Int) (l : List Bool) : Ev (fun k => c_impl_CrashMount k (d, n, l)) (cmR d n l) := by
  refine EvQ.run (fun k => impl_CrashMount_run k _ _ _) ?_
  have hl := recS_len d
  simp only [impl_CrashMount]
  exact EvQ.bind (impl_RS_ev d hs) (EvQ.bind (impl_Run_ev d hs _ (by omega) n) (EvQ.bind (impl_Crash_ev _ (runR_small hs _ _) l) (EvQ.const _)))
theorem sum32 : ∀ (l : List ByteArray), (∀ s ∈ l, s.size = 32) → (l.map fun y => y.size).sum = 32 * l.length
  | [], _ => rfl
  | x :: l, h => by
    have := sum32 l fun s hs => h s (by simp [hs])
    have h1 := h x (by simp)
    simp only [List.map_cons, List.sum_cons, List.length_cons, this, h1]; omega
theorem disk_sz {d : PDisk} (h : diskP d) (h2 : d.2 = []) : szM_Disk d ≤ 1073741824 := by
  have e : szM_Disk d = (d.1.length + (d.1.map fun y => y.size).sum) + (d.2.length + (d.2.map szM_Write).sum) := rfl
  have n1 := h.n1
  rw [e, h2, sum32 d.1 fun s hs => by obtain ⟨i, hi⟩ := List.getElem?_of_mem hs; exact h.sz i s hi]
  simp; omega
theorem cm_sz {d : PDisk} (hd : szM_Disk d ≤ 1048576) (n : Int) (l : List Bool) : szM_Disk (cmR d n l) ≤ 1073741824 := by
  unfold cmR crashR
  split
  · rename_i h; exact disk_sz (storD_P h) rfl
  · rename_i h
    have : ¬ diskP d := fun hP => by
      refine h ?_
      unfold runR
      rw [if_pos hP]
      exact runT_P hP _ _
    unfold runR
    rw [if_neg this]
    omega
theorem heldDisk_ev (a : List ByteArray) (b : List PWrite) (ha : a.length ≤ 1073741824) (hb : b.length ≤ 1073741824) :
    Ev (fun k => c_laws_heldDisk k ((markF mkStringS 1 a 1, markF mkWriteS 2 b (1 + 1 * a.length)), (1 : Int))) (1 + 1 * a.length + 2 * b.length) := by
  refine EvQ.run (fun k => laws_heldDisk_run k _ _) ?_
  simp only [laws_heldDisk]
  refine EvQ.bind (heldStringS_ev a 1 (by omega) (by omega)) ?_
  have n1 : decide ((1 : Int) + 1 * a.length < 0) = false := decide_eq_false (by omega)
  simp only [n1, cond_false]
  refine EvQ.bind (heldWriteS_ev b (1 + 1 * a.length) (by omega) (by omega)) ?_
  have n2 : decide ((1 : Int) + 1 * a.length + 2 * b.length < 0) = false := decide_eq_false (by omega)
  simp only [n2, cond_false]
  exact EvQ.const _
theorem laws_FnExactCrashMount_ev (x0 : DDisk) (x1 : Int) (x2 : List Bool) (hx0 : okD (TDiskk) x0) (hx1 : okD (.int .i64) x1) (hx2 : okD (.list false .bool) x2) : Ev (fun k => c_laws_FnExactCrashMount k (x0, x1, x2)) true := by
  refine EvQ.run (fun k => laws_FnExactCrashMount_run k x0 x1 x2) ?_
  simp only [laws_FnExactCrashMount]
  by_cases c1 : (1048576 : Int) < (x2.length : Int)
  · simp only [c1, decide_true, cond_true]; exact EvQ.const _
  simp only [c1, decide_false, cond_false]
  refine EvQ.bind (szDisk_ev x0 hx0 (left := 1048576) (by omega) (by omega)) ?_
  by_cases c0 : szR (szM_Disk x0) 1048576 < 0
  · simp only [c0, decide_true, cond_true]; exact EvQ.const _
  obtain ⟨d0, e0⟩ := szR_nonneg c0
  simp only [c0, decide_false, cond_false]
  have hS : szM_Disk x0 ≤ 1048576 := by omega
  have e : szM_Disk x0 = (x0.1.length + (x0.1.map fun y => y.size).sum) + (x0.2.length + (x0.2.map szM_Write).sum) := rfl
  have hs : dskS x0 := ⟨by omega, by omega⟩
  have tD := toDisk_ev x0 (by omega)
  have tB := toBoolS_ev x2 (by omega)
  have s1 := spec_CM_ev x0 hs x1 x2
  have s2 := impl_CM_ev x0 hs x1 x2
  have hr := cm_sz hS x1 x2
  generalize cmR x0 x1 x2 = r at s1 s2 hr
  have er : szM_Disk r = (r.1.length + (r.1.map fun y => y.size).sum) + (r.2.length + (r.2.map szM_Write).sum) := rfl
  have eqR := eqDisk_ev r hr
  have eqX := eqDisk_ev x0 (by omega)
  have eqB := eqBoolS_ev x2 (by omega)
  have m1 := markStringS_ev x0.1 1 (by omega) (by omega)
  have m2 := markWriteS_ev x0.2 (1 + 1 * x0.1.length) (by omega) (by omega)
  have m3 := markBoolS_ev x2 (1 + 1 * x0.1.length + 2 * x0.2.length) (by omega) (by omega)
  have k1 := markStringS_ev r.1 1 (by omega) (by omega)
  have k2 := markWriteS_ev r.2 (1 + 1 * r.1.length) (by omega) (by omega)
  have hH := heldDisk_ev r.1 r.2 (by omega) (by omega)
  have n1 : decide ((1 : Int) + 1 * x0.1.length + 2 * x0.2.length + 1 * x2.length < 0) = false := decide_eq_false (by omega)
  have n2 : decide ((1 : Int) + 1 * r.1.length + 2 * r.2.length < 0) = false := decide_eq_false (by omega)
  refine EvQ.bind tD (EvQ.bind tB (EvQ.bind s1 (EvQ.bind tD (EvQ.bind tB (EvQ.bind s2 (EvQ.bind eqR ?_))))))
  simp only [Bool.not_true, cond_false]
  refine EvQ.bind tD (EvQ.bind eqX ?_)
  simp only [Bool.not_true, cond_false]
  refine EvQ.bind tB (EvQ.bind eqB ?_)
  simp only [Bool.not_true, cond_false]
  refine EvQ.bind m1 (EvQ.bind m2 (EvQ.bind m3 ?_))
  simp only [n1, cond_false]
  refine EvQ.bind eqR ?_
  simp only [Bool.not_true, cond_false]
  refine EvQ.bind k1 (EvQ.bind k2 (EvQ.bind hH ?_))
  simp only [n2, cond_false, bne_self_eq_false]
  refine EvQ.bind tD (EvQ.bind tB (EvQ.bind s2 (EvQ.bind eqR ?_)))
  simp only [Bool.not_true, cond_false]
  refine EvQ.bind hH ?_
  simp only [n2, cond_false, bne_self_eq_false]
  exact EvQ.const _
end Go.Proofs.Ytnbipilpdhhhmaa
