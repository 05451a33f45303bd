/- The tables, the residual functions and lemmas of this seat: parts of the proof of the law; conditions: those that each names. -/
import Derived.Test.YtjphpgnghdbpeaaSys
set_option linter.unusedVariables false
set_option linter.unusedSimpArgs false
set_option maxRecDepth 100000
namespace Go.Proofs.Ytjphpgnghdbpeaa
open Go.Eng
theorem sum_inodes : ∀ l : List DInode, (l.map fun x => 7 + (inB x).length + 3 * (inA x).length + 3 * (inD x).length).sum ≤ 7 * l.length + 3 * (l.map szM_Inode).sum
  | [] => by simp
  | x :: l => by
    have := sum_inodes l
    have h : szM_Inode x = (inB x).length + (inA x).length + (inD x).length := rfl
    simp only [List.map_cons, List.sum_cons, List.length_cons, h]
    omega
theorem sum_procs : ∀ l : List DProc, (l.map fun x => 2 + x.1.2.2.length + 3 * x.2.length).sum ≤ 2 * l.length + 3 * (l.map szM_Proc).sum
  | [] => by simp
  | x :: l => by
    have := sum_procs l
    have h : szM_Proc x = x.1.2.2.length + x.2.length := rfl
    simp only [List.map_cons, List.sum_cons, List.length_cons, h]
    omega
theorem sum_creds : ∀ l : List DProc, ((l.map (·.1)).map szM_Cred).sum ≤ (l.map szM_Proc).sum ∧ ((l.map (·.1)).map fun x : DCred => 2 + x.2.2.length).sum ≤ 2 * l.length + (l.map szM_Proc).sum
  | [] => by simp
  | x :: l => by
    obtain ⟨h1, h2⟩ := sum_creds l
    have h : szM_Proc x = x.1.2.2.length + x.2.length := rfl
    have h' : szM_Cred x.1 = x.1.2.2.length := rfl
    simp only [List.map_cons, List.sum_cons, List.length_cons, h, h']
    omega
theorem markSystem_ev (x : DSystem) (hs : szM_System x ≤ 1048576) : ∃ q, Ev (fun k => c_laws_markSystem k (x, (1 : Int))) q ∧ 0 ≤ q := by
  have e1 : szM_System x = szM_FS x.1 + szM_ProcS x.2 := rfl
  have e2 : szM_FS x.1 = x.1.2.1.length + szM_InodeS x.1.2.2.1 + szM_StringS x.1.2.2.2 := rfl
  have e3 : szM_InodeS x.1.2.2.1 = x.1.2.2.1.length + (x.1.2.2.1.map szM_Inode).sum := rfl
  have e4 : szM_StringS x.1.2.2.2 = x.1.2.2.2.length + (x.1.2.2.2.map fun y => y.size).sum := rfl
  have e5 : szM_ProcS x.2 = x.2.length + (x.2.map szM_Proc).sum := rfl
  have s1 := sum_inodes x.1.2.2.1
  have s2 := sum_procs x.2
  have hQ := markQuotaS_ev x.1.2.1 1 (by omega) (by omega)
  have hI := markInodeS_ev x.1.2.2.1 (1 + 2 * x.1.2.1.length) (by omega) (by omega) (by omega)
  have bI := markG_bound (e := mkInodeG) (c := fun x => 7 + (inB x).length + 3 * (inA x).length + 3 * (inD x).length) (B := 4611686018427387800) (l := x.1.2.2.1) (m := 1 + 2 * x.1.2.1.length) (by omega) (by omega) (fun x _ m _ _ => mkInodeG_le x m)
  have hT := markStringS_ev x.1.2.2.2 (markG mkInodeG x.1.2.2.1 (1 + 2 * x.1.2.1.length)).2 (by omega) (by omega)
  have hP := markProcS_ev x.2 ((markG mkInodeG x.1.2.2.1 (1 + 2 * x.1.2.1.length)).2 + 1 * x.1.2.2.2.length) (by omega) (by omega) (by omega)
  have bP := markG_bound (e := mkProcG) (c := fun x => 2 + x.1.2.2.length + 3 * x.2.length) (B := 4611686018427387800) (l := x.2) (m := (markG mkInodeG x.1.2.2.1 (1 + 2 * x.1.2.1.length)).2 + 1 * x.1.2.2.2.length) (by omega) (by omega) (fun x _ m _ _ => mkProcG_le x m)
  refine ⟨(markG mkProcG x.2 ((markG mkInodeG x.1.2.2.1 (1 + 2 * x.1.2.1.length)).2 + 1 * x.1.2.2.2.length)).2, EvQ.run (fun k => laws_markSystem_run k _ _) ?_, by omega⟩
  simp only [laws_markSystem]
  refine EvQ.bind (EvQ.run (fun k => laws_markFS_run k _ _) ?_) (EvQ.bind hP (EvQ.const _))
  simp only [laws_markFS]
  exact EvQ.bind hQ (EvQ.bind hI (EvQ.bind hT (EvQ.const _)))
theorem laws_FnExactCredsOf_ev (x0 : DSystem) (hx0 : okD (TSystemk) x0) : Ev (fun k => c_laws_FnExactCredsOf k x0) true := by
  refine EvQ.run (fun k => laws_FnExactCredsOf_run k x0) ?_
  simp only [laws_FnExactCredsOf]
  refine EvQ.bind (szSystem_ev x0 hx0 (left := 1048576) (by omega) (by omega)) ?_
  by_cases c0 : szR (szM_System x0) 1048576 < 0
  · simp only [c0, decide_true, cond_true]; exact EvQ.const _
  obtain ⟨d0, e0⟩ := szR_nonneg c0
  simp only [c0, decide_false, cond_false]
  have hS : szM_System x0 ≤ 1048576 := by omega
  have e1 : szM_System x0 = szM_FS x0.1 + szM_ProcS x0.2 := rfl
  have e5 : szM_ProcS x0.2 = x0.2.length + (x0.2.map szM_Proc).sum := rfl
  have hg : ∀ p ∈ x0.2, p.1.2.2.length ≤ 1048576 := fun p hp => by
    have h1 := le_sum_map szM_Proc hp
    have h : szM_Proc p = p.1.2.2.length + p.2.length := rfl
    omega
  obtain ⟨k1, k2⟩ := sum_creds x0.2
  have hc : szM_CredS (credsF x0) ≤ 1073741824 := by
    have : szM_CredS (credsF x0) = (credsF x0).length + ((credsF x0).map szM_Cred).sum := rfl
    have hl : (credsF x0).length = x0.2.length := by simp [credsF]
    rw [this, hl]
    show x0.2.length + ((x0.2.map (·.1)).map szM_Cred).sum ≤ _
    omega
  have hl : (credsF x0).length = x0.2.length := by simp [credsF]
  have hsum : (1 : Int) + (((credsF x0).map fun x => 2 + x.2.2.length).sum : Nat) < 4611686018427387800 := by
    show (1 : Int) + ((((x0.2.map (·.1)).map fun x : DCred => 2 + x.2.2.length).sum : Nat) : Int) < _
    omega
  have tS := toSystem_ev x0 (by omega)
  have sp := spec_CredsOf_ev x0 (by omega) hg
  have im := impl_CredsOf_ev x0 (by omega) hg
  have eqC := eqCredS_ev (credsF x0) hc
  have eqS := eqSystem_ev x0 (by omega)
  obtain ⟨q, mS, hq⟩ := markSystem_ev x0 hS
  have mC := markCredS_ev (credsF x0) 1 (by omega) hsum (by omega)
  have hC := heldCredS_ev (credsF x0) 1 (by omega) hsum (by omega)
  have bC := markG_bound (e := mkCredG) (c := fun x => 2 + x.2.2.length) (B := 4611686018427387800) (l := credsF x0) (m := 1) (by omega) hsum (fun x _ m _ _ => mkCredG_le x m)
  have nq : decide (q < 0) = false := decide_eq_false (by omega)
  have nk : decide ((markG mkCredG (credsF x0) 1).2 < 0) = false := decide_eq_false (by omega)
  refine EvQ.bind tS (EvQ.bind sp (EvQ.bind tS (EvQ.bind im (EvQ.bind eqC ?_))))
  simp only [Bool.not_true, cond_false]
  refine EvQ.bind tS (EvQ.bind eqS ?_)
  simp only [Bool.not_true, cond_false]
  refine EvQ.bind mS ?_
  simp only [nq, cond_false]
  refine EvQ.bind eqC ?_
  simp only [Bool.not_true, cond_false]
  refine EvQ.bind mC (EvQ.bind hC ?_)
  simp only [nk, cond_false, bne_self_eq_false]
  refine EvQ.bind tS (EvQ.bind im (EvQ.bind eqC ?_))
  simp only [Bool.not_true, cond_false]
  refine EvQ.bind hC ?_
  simp only [nk, cond_false, bne_self_eq_false]
  exact EvQ.const _
end Go.Proofs.Ytjphpgnghdbpeaa
