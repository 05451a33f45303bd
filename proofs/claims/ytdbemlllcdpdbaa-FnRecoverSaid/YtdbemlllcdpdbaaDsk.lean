/- The tables, the residual functions and lemmas of this seat: parts of the proof of the law; conditions: those that each names. -/
import Derived.Test.YtdbemlllcdpdbaaStd
import Derived.Test.YtdbemlllcdpdbaaEng5
set_option linter.unusedVariables false
set_option linter.unusedSimpArgs false
set_option maxRecDepth 100000
namespace Go.Proofs.Ytdbemlllcdpdbaa
open Go.Eng
/-! Disks -/
abbrev PWrite := Int × ByteArray
abbrev PDisk := List ByteArray × List PWrite
abbrev PStep := Bool × PWrite
theorem i64w {n : Int} (h1 : -9223372036854775808 ≤ n) (h2 : n < 9223372036854775808) : wrapK .i64 n = n := wrap_i64 h1 h2
theorem wsucc {i : Nat} (h : i < 4611686018427387904) : wrapK .i64 ((i : Int) + 1) = ((i + 1 : Nat) : Int) := by rw [i64w (by omega) (by omega)]; omega
theorem EvQ.ifp {α : Type} {p : Prop} [Decidable p] {F : Nat → Option α} {r : Option α} (hp : p) (h : EvQ F r) : EvQ (fun k => if p then F k else none) r := by
  simp only [if_pos hp]; exact h
structure diskP (d : PDisk) : Prop where
  sz : ∀ (i : Nat) s, d.1[i]? = some s → s.size = 32
  pd : ∀ (i : Nat) w, d.2[i]? = some w → 0 ≤ w.1 ∧ w.1 < (d.1.length : Int) ∧ w.2.size = 32
  n1 : d.1.length ≤ 400
  n2 : d.2.length ≤ 400
def dskS (d : PDisk) : Prop := d.1.length ≤ 2000000 ∧ d.2.length ≤ 2000000
theorem l01In_ev (a b c : Int) : Ev (fun k => c_spec_l01In k (a, b, c)) (decide (b ≤ a ∧ a ≤ c)) := by
  refine EvQ.run (fun k => spec_l01In_run k _ _ _) ?_
  simp only [spec_l01In]
  by_cases h : b ≤ a <;> simp [h] <;> exact EvQ.const _
theorem impl_IsDisk_say (d : PDisk) (hs : dskS d) : Say (fun k => c_impl_IsDisk k d) (diskP d) := by
  obtain ⟨s1, s2⟩ := hs
  refine Say.run (fun k => impl_IsDisk_run k d) (Say.of ?_)
  simp only [impl_IsDisk]
  refine EvX.bif (fun h => EvX.const _ (GP.no fun hP => by have := hP.n1; simp at h; omega)) (fun h1 => ?_)
  refine EvX.bif (fun h => EvX.const _ (GP.no fun hP => by have := hP.n2; simp at h; omega)) (fun h2 => ?_)
  have h1 : d.1.length ≤ 400 := by simp at h1; omega
  have h2 : d.2.length ≤ 400 := by simp at h2; omega
  refine EvX.list (L := fun k _ => impl_IsDisk_l2 k) d.1 (fun (_ : Unit) i => ((), d.1, (d.1.length : Int), (i : Int), d)) (fun _ i => ∀ (j : Nat) s, j < i → d.1[j]? = some s → s.size = 32) (fun _ i s hx hi inv => ?_) (fun _ inv => ?_) () (by simp)
  · simp only [impl_IsDisk_l2, Int.ofNat_lt, hi, decide_true, cond_true, Int.natCast_nonneg, if_true, Int.toNat_natCast, hx, Option.bind_some, wsucc (show i < _ by omega)]
    refine EvX.bif (fun h => EvX.const _ (GL.ret (GP.no fun hP => by have := hP.sz i s hx; simp at h; omega))) (fun h => ?_)
    have h : s.size = 32 := by simp at h; omega
    refine EvX.const _ (GL.self () rfl fun j s' hj hs' => ?_)
    by_cases e : j = i
    · subst e; rw [hx] at hs'; cases hs'; exact h
    · exact inv j s' (by omega) hs'
  · simp only [impl_IsDisk_l2, Int.lt_irrefl, decide_false, cond_false]
    refine EvX.out (F := fun k _ => iter k (impl_IsDisk_l1 k) ((), d.2, (d.2.length : Int), (0 : Int), d)) ?_
    refine EvX.list (L := fun k _ => impl_IsDisk_l1 k) d.2 (fun (_ : Unit) i => ((), d.2, (d.2.length : Int), (i : Int), d)) (fun _ i => ∀ (j : Nat) w, j < i → d.2[j]? = some w → 0 ≤ w.1 ∧ w.1 < (d.1.length : Int) ∧ w.2.size = 32) (fun _ i w hx hi inv2 => ?_) (fun _ inv2 => ?_) () (by simp)
    · simp only [impl_IsDisk_l1, Int.ofNat_lt, hi, decide_true, cond_true, Int.natCast_nonneg, if_true, Int.toNat_natCast, hx, Option.bind_some, wsucc (show i < _ by omega)]
      refine EvX.bif (fun h => EvX.const _ (GL.ret (GP.no fun hP => by have := hP.pd i w hx; simp at h; omega))) (fun h1 => ?_)
      refine EvX.bif (fun h => EvX.const _ (GL.ret (GP.no fun hP => by have := hP.pd i w hx; simp at h; omega))) (fun h2 => ?_)
      refine EvX.bif (fun h => EvX.const _ (GL.ret (GP.no fun hP => by have := hP.pd i w hx; simp at h; omega))) (fun h3 => ?_)
      simp at h1 h2 h3
      refine EvX.const _ (GL.self () rfl fun j s' hj hs' => ?_)
      by_cases e : j = i
      · subst e; rw [hx] at hs'; cases hs'; exact ⟨h1, by omega, by omega⟩
      · exact inv2 j s' (by omega) hs'
    · simp only [impl_IsDisk_l1, Int.lt_irrefl, decide_false, cond_false]
      exact EvX.const _ (GE.ret (GP.yes ⟨fun i s h => inv i s (List.getElem?_eq_some_iff.1 h).1 h, fun i w h => inv2 i w (List.getElem?_eq_some_iff.1 h).1 h, h1, h2⟩))
theorem impl_Copy_ev (d : PDisk) (hs : dskS d) : Ev (fun k => c_impl_copyDisk k d) d := by
  obtain ⟨s1, s2⟩ := hs
  refine EvQ.run (fun k => impl_copyDisk_run k d) ?_
  simp only [impl_copyDisk]
  refine EvQ.bind (EvQ.run (fun k => c_slices_Clone_string_string_run k _) (r := some d.1) ?_) (EvQ.bind (EvQ.run (fun k => c_slices_Clone_impl_Write_impl_Write_run k _) (r := some d.2) ?_) (EvQ.const _))
  · simp only [ext_slices_Clone_string_string, ext_Clone, if_pos (show d.1.length ≤ maxLen ∧ d.1.length * 16 ≤ 140737488355328 by unfold maxLen; omega)]
    exact EvQ.const _
  · simp only [ext_slices_Clone_impl_Write_impl_Write, ext_Clone, if_pos (show d.2.length ≤ maxLen ∧ d.2.length * 24 ≤ 140737488355328 by unfold maxLen; omega)]
    exact EvQ.const _
/-- The sectors behind the first writes that are kept. -/
def storT (f : Nat → Bool) (d : PDisk) : Nat → List ByteArray
  | 0 => d.1
  | i + 1 => match d.2[i]? with
    | some w => bif f i then (storT f d i).set w.1.toNat w.2 else storT f d i
    | none => storT f d i
theorem storT_len (f : Nat → Bool) (d : PDisk) : ∀ i, (storT f d i).length = d.1.length
  | 0 => rfl
  | i + 1 => by
    have h := storT_len f d i
    simp only [storT]
    cases d.2[i]? with
    | none => exact h
    | some w => cases f i <;> simp [h]
theorem storT_sz {f : Nat → Bool} {d : PDisk} (h : diskP d) : ∀ i (j : Nat) s, (storT f d i)[j]? = some s → s.size = 32
  | 0, j, s, hs => h.sz j s hs
  | i + 1, j, s, hs => by
    simp only [storT] at hs
    cases hw : d.2[i]? with
    | none => rw [hw] at hs; exact storT_sz h i j s hs
    | some w =>
      rw [hw] at hs
      simp only at hs
      cases hf : f i with
      | false => rw [hf] at hs; exact storT_sz h i j s hs
      | true =>
        rw [hf] at hs
        simp only [cond_true, List.getElem?_set] at hs
        split at hs
        · split at hs
          · cases hs; exact (h.pd i w hw).2.2
          · cases hs
        · exact storT_sz h i j s hs
def storD (f : Nat → Bool) (d : PDisk) : PDisk := (storT f d d.2.length, [])
theorem storD_P {f : Nat → Bool} {d : PDisk} (h : diskP d) : diskP (storD f d) :=
  ⟨fun i s hs => storT_sz h _ i s hs, fun i w hw => by simp [storD] at hw, by show (storT f d _).length ≤ _; rw [storT_len]; exact h.n1, Nat.zero_le _⟩
def keepF (l : List Bool) (k : Nat) : Bool := l.getD k false
def crashD (d : PDisk) (l : List Bool) : PDisk := storD (keepF l) d
def flushD (d : PDisk) : PDisk := storD (fun _ => true) d
theorem set_ok {f : Nat → Bool} {d : PDisk} (h : diskP d) {i : Nat} {w : PWrite} (hw : d.2[i]? = some w) : 0 ≤ w.1 ∧ w.1 < ((storT f d i).length : Int) ∧ ∃ s, (storT f d i)[w.1.toNat]? = some s := by
  obtain ⟨p1, p2, _⟩ := h.pd i w hw
  have hl := storT_len f d i
  exact ⟨p1, by rw [hl]; exact p2, _, List.getElem?_eq_getElem (by omega)⟩
theorem impl_Crash_loop (d : PDisk) (h : diskP d) (l : List Bool) (d0 : PDisk) :
    Ev (fun k => iter k (impl_CrashDisk_l1 k) ((), (), (), (d.2.length : Int), (0 : Int), d, (([] : List ByteArray), ([] : List PWrite)), l, d0)) (crashD d l) := by
  have n1 := h.n1
  have n2 := h.n2
  refine Ev.eq ?_
  refine EvX.list (L := fun k _ => impl_CrashDisk_l1 k) d.2 (fun (st : List ByteArray) i => ((), (), (), (d.2.length : Int), (i : Int), (st, d.2), (([] : List ByteArray), ([] : List PWrite)), l, d0)) (fun st i => st = storT (keepF l) d i) (fun st i w hw hi inv => ?_) (fun st inv => ?_) _ rfl
  · subst inv
    obtain ⟨q1, q2, s, q3⟩ := set_ok (f := keepF l) h hw
    simp only [impl_CrashDisk_l1, Int.ofNat_lt, hi, decide_true, cond_true, Int.natCast_nonneg, if_true, Int.toNat_natCast, hw, Option.bind_some, wsucc (show i < _ by omega), q1, q2, q3]
    refine EvX.bif (fun h1 => ?_) (fun h1 => ?_)
    · replace h1 := of_decide_eq_true h1
      have hv : l[i]? = some l[i] := List.getElem?_eq_getElem h1
      have hk : keepF l i = l[i] := by simp [keepF, List.getD, hv]
      simp only [hv, Option.bind_some]
      refine EvX.bif (fun h2 => ?_) (fun h2 => ?_)
      · refine EvX.const _ (GL.self _ rfl ?_)
        simp only [storT, hw, hk, h2, cond_true]
      · refine EvX.const _ (GL.self _ rfl ?_)
        simp only [storT, hw, hk, h2, cond_false]
    · replace h1 := of_decide_eq_false h1
      have hv : l[i]? = none := List.getElem?_eq_none (by omega)
      have hk : keepF l i = false := by simp [keepF, List.getD, hv]
      refine EvX.const _ (GL.self _ rfl ?_)
      simp only [storT, hw, hk, cond_false]
  · subst inv
    simp only [impl_CrashDisk_l1, Int.lt_irrefl, decide_false, cond_false]
    exact EvX.const _ (GE.ret (GR.ret rfl))
open Classical in
noncomputable def crashR (d : PDisk) (l : List Bool) : PDisk := if diskP d then crashD d l else d
open Classical in
noncomputable def flushR (d : PDisk) : PDisk := if diskP d then flushD d else d
theorem impl_Crash_ev (d : PDisk) (hs : dskS d) (l : List Bool) : Ev (fun k => c_impl_CrashDisk k (d, l)) (crashR d l) := by
  refine EvQ.run (fun k => impl_CrashDisk_run k _ _) ?_
  obtain ⟨b, h1, h2⟩ := impl_IsDisk_say d hs
  simp only [impl_CrashDisk]
  refine EvQ.bind (impl_Copy_ev d hs) (EvQ.bind h1 ?_)
  cases b with
  | false =>
    have hn : ¬ diskP d := fun h => by have := h2.2 h; cases this
    simp only [cond_false, crashR, if_neg hn]
    exact EvQ.const _
  | true =>
    have hP := h2.1 rfl
    simp only [cond_true, crashR, if_pos hP]
    exact impl_Crash_loop d hP l d
/-! writes -/
def wrOK (d : PDisk) (i : Int) (s : ByteArray) : Prop := 0 ≤ i ∧ i < (d.1.length : Int) ∧ s.size = 32 ∧ d.2.length < 400
instance (d : PDisk) (i : Int) (s : ByteArray) : Decidable (wrOK d i s) := by unfold wrOK; infer_instance
def writeD (d : PDisk) (i : Int) (s : ByteArray) : PDisk := if wrOK d i s then (d.1, d.2 ++ [(i, s)]) else d
theorem writeD_P {d : PDisk} (h : diskP d) (i : Int) (s : ByteArray) : diskP (writeD d i s) := by
  unfold writeD
  split
  · rename_i hw
    refine ⟨h.sz, fun j w hj => ?_, h.n1, by simp only [List.length_append, List.length_singleton]; have := hw.2.2.2; omega⟩
    rw [List.getElem?_append] at hj
    split at hj
    · exact h.pd j w hj
    · have hj2 := (List.getElem?_eq_some_iff.1 hj).1
      simp at hj2
      rw [hj2] at hj
      simp at hj
      subst hj
      exact ⟨hw.1, hw.2.1, hw.2.2.1⟩
  · exact h
theorem impl_Write_ev (d : PDisk) (h : diskP d) (i : Int) (s : ByteArray) : ∃ b, Ev (fun k => c_impl_Disk_write k (d, i, s)) (b, writeD d i s) := by
  have n1 := h.n1
  have n2 := h.n2
  refine ⟨decide (wrOK d i s), EvQ.run (fun k => impl_Disk_write_run k _ _ _) ?_⟩
  simp only [impl_Disk_write]
  by_cases hw : wrOK d i s
  · obtain ⟨a1, a2, a3, a4⟩ := id hw
    have c1 : decide (i < (0 : Int)) = false := decide_eq_false (by omega)
    have c1' : decide ((d.1.length : Int) ≤ i) = false := decide_eq_false (by omega)
    have c2 : ((s.size : Int) != (32 : Int)) = false := by simp [a3]
    have c3 : decide ((400 : Int) ≤ (d.2.length : Int)) = false := decide_eq_false (by omega)
    simp only [c1, c1', c2, c3, cond_false, writeD, if_pos hw, decide_eq_true hw]
    exact EvQ.ifp (by simp only [List.length_singleton, capBytes]; omega) (EvQ.const _)
  · simp only [writeD, if_neg hw, decide_eq_false hw]
    by_cases a1 : i < 0
    · simp only [a1, decide_true, cond_true]; exact EvQ.const _
    by_cases a1' : (d.1.length : Int) ≤ i
    · simp only [a1, a1', decide_true, decide_false, cond_true, cond_false]; exact EvQ.const _
    by_cases a2 : s.size = 32
    · have c2 : ((s.size : Int) != (32 : Int)) = false := by simp [a2]
      have c3 : (400 : Int) ≤ (d.2.length : Int) := by
        by_cases h4 : d.2.length < 400
        · exact absurd ⟨by omega, by omega, a2, h4⟩ hw
        · omega
      simp only [a1, a1', c2, c3, decide_true, decide_false, cond_false, cond_true]; exact EvQ.const _
    · have c2 : ((s.size : Int) != (32 : Int)) = true := by simp; omega
      simp only [a1, a1', c2, decide_false, cond_false, cond_true]; exact EvQ.const _
/-! steps -/
def stepD (d : PDisk) (s : PStep) : PDisk := bif s.1 then flushD d else writeD d s.2.1 s.2.2
theorem stepD_P {d : PDisk} (h : diskP d) (s : PStep) : diskP (stepD d s) := by
  unfold stepD
  cases s.1
  · exact writeD_P h _ _
  · exact storD_P h
def runT (d : PDisk) (l : List PStep) : Nat → PDisk
  | 0 => d
  | i + 1 => match l[i]? with
    | some s => stepD (runT d l i) s
    | none => runT d l i
theorem runT_P {d : PDisk} (h : diskP d) (l : List PStep) : ∀ i, diskP (runT d l i)
  | 0 => h
  | i + 1 => by
    simp only [runT]
    cases l[i]? with
    | none => exact runT_P h l i
    | some s => exact stepD_P (runT_P h l i) s
open Classical in
noncomputable def runR (d : PDisk) (l : List PStep) (n : Int) : PDisk := if diskP d then runT d l (max 0 (min n l.length)).toNat else d
theorem disk_small {d : PDisk} (h : diskP d) : dskS d := by
  have n1 := h.n1
  have n2 := h.n2
  exact ⟨by omega, by omega⟩
theorem impl_Flush_loop {S : Type} {G : (S → Option PDisk) → Prop} (d : PDisk) (h : diskP d) (z : PDisk) (s : PStep) (a1 : Unit × Unit × List PStep × Int × Int × PDisk × PDisk)
    {mk : PDisk → Nat → (Unit × Unit × List PStep × Int × Int × PDisk × PDisk)} {inv : PDisk → Nat → Prop} {i : Nat}
    (hG : ((), (), a1.2.2.1, a1.2.2.2.1, (wrapK .i64 (a1.2.2.2.2.1 + (1 : Int))), flushD d, z) = mk (flushD d) (i + 1)) (hi : inv (flushD d) (i + 1)) :
    EvX (fun k (p : S × ((Unit × Unit × List PStep × Int × Int × PDisk × PDisk) → Option PDisk)) => iter k (impl_RunSteps_l1 k p.2 a1) ((), (), (), (d.2.length : Int), (0 : Int), s, d, z)) (GL mk inv i G) := by
  have n2 := h.n2
  refine EvX.list (L := fun k (p : S × ((Unit × Unit × List PStep × Int × Int × PDisk × PDisk) → Option PDisk)) => impl_RunSteps_l1 k p.2 a1) d.2 (fun (st : List ByteArray) j => ((), (), (), (d.2.length : Int), (j : Int), s, (st, d.2), z)) (fun st j => st = storT (fun _ => true) d j) (fun st j w hw hj inv' => ?_) (fun st inv' => ?_) _ rfl
  · subst inv'
    obtain ⟨q1, q2, s', q3⟩ := set_ok (f := fun _ => true) h hw
    simp only [impl_RunSteps_l1, Int.ofNat_lt, hj, decide_true, cond_true, Int.natCast_nonneg, if_true, Int.toNat_natCast, hw, Option.bind_some, wsucc (show j < _ by omega), q1, q2, q3]
    have ha : Ev (fun k => c_impl_all k (j : Int)) true := EvQ.run (fun k => impl_all_run k _) (EvQ.const _)
    refine EvX.bind ha ?_
    simp only [cond_true]
    refine EvX.const _ (GL.self _ rfl ?_)
    simp only [storT, hw, cond_true]
  · subst inv'
    simp only [impl_RunSteps_l1, Int.lt_irrefl, decide_false, cond_false]
    refine EvX.const _ (GE.up (S := S × ((Unit × Unit × List PStep × Int × Int × PDisk × PDisk) → Option PDisk)) (fun p => p.2 ((), (), a1.2.2.1, a1.2.2.2.1, (wrapK .i64 (a1.2.2.2.2.1 + (1 : Int))), (storT (fun _ => true) d d.2.length, ([] : List PWrite)), z)) ?_)
    exact GL.self (flushD d) hG hi
theorem impl_Run_ev (d : PDisk) (hs : dskS d) (l : List PStep) (hl : l.length ≤ 2000000) (n : Int) : Ev (fun k => c_impl_RunSteps k (d, l, n)) (runR d l n) := by
  refine EvQ.run (fun k => impl_RunSteps_run k _ _ _) ?_
  obtain ⟨b, h1, h2⟩ := impl_IsDisk_say d hs
  simp only [impl_RunSteps]
  refine EvQ.bind (impl_Copy_ev d hs) (EvQ.bind h1 ?_)
  cases b with
  | false =>
    have hn : ¬ diskP d := fun h => by have := h2.2 h; cases this
    simp only [Bool.not_false, cond_true, runR, if_neg hn]
    exact EvQ.const _
  | true =>
    have hP := h2.1 rfl
    simp only [Bool.not_true, cond_false, runR, if_pos hP]
    refine EvQ.ifp (by omega) (EvQ.ifp (by omega) (Ev.eq ?_))
    generalize hm : (max (0 : Int) (min n (l.length : Int))).toNat = m
    rw [List.drop_zero]
    have hlt : (l.take m).length = m := by rw [List.length_take]; omega
    refine EvX.list (L := fun k _ => impl_RunSteps_l2 k) (l.take m) (fun (st : PDisk) i => ((), (), l.take m, (((l.take m).length : Nat) : Int), (i : Int), st, (([] : List ByteArray), ([] : List PWrite)))) (fun st i => st = runT d l i) (fun st i s hx hi inv => ?_) (fun st inv => ?_) _ rfl
    · subst inv
      have hPi := runT_P hP l i
      have hx' : l[i]? = some s := by rw [List.getElem?_take] at hx; split at hx; exact hx; cases hx
      simp only [impl_RunSteps_l2, Int.ofNat_lt, hi, decide_true, cond_true, Int.natCast_nonneg, if_true, Int.toNat_natCast, hx, Option.bind_some]
      refine EvX.bif (fun h3 => ?_) (fun h3 => ?_)
      · have e : flushD (runT d l i) = runT d l (i + 1) := by simp only [runT, hx', stepD, h3, cond_true]
        exact impl_Flush_loop (S := Unit) (runT d l i) hPi _ s _ (by rw [wsucc (show i < _ by omega)]) e
      · obtain ⟨b, hb⟩ := impl_Write_ev _ hPi s.2.1 s.2.2
        refine EvX.bind hb ?_
        simp only [wsucc (show i < _ by omega)]
        refine EvX.const _ (GL.self _ rfl ?_)
        simp only [runT, hx', stepD, h3, cond_false]
    · subst inv
      simp only [impl_RunSteps_l2, Int.lt_irrefl, decide_false, cond_false]
      exact EvX.const _ (GE.ret (GR.ret (by rw [hlt])))
end Go.Proofs.Ytdbemlllcdpdbaa
