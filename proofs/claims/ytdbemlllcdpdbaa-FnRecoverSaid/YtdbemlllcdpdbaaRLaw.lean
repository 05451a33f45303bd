/- The tables, the residual functions and lemmas of this seat: parts of the proof of the law; conditions: those that each names. -/
import Derived.Test.YtdbemlllcdpdbaaGen
set_option linter.unusedVariables false
set_option linter.unusedSimpArgs false
set_option maxRecDepth 100000
namespace Go.Proofs.Ytdbemlllcdpdbaa
open Go.Eng
/-! ### What is drawn -/
theorem padB_size (s : ByteArray) (n : Nat) : (padB s n).size = s.size + (n - s.size) := by
  rw [padB, ofBytes_size, List.length_append, bytesOf_len, List.length_replicate]
theorem sector_ev (c : Dl01Cur) (h : curOK c) : ∃ s c', Ev (fun k => c_spec_l03Sector k c) (s, c') ∧ curOK c' ∧ s.size = 32 := by
  obtain ⟨s, c', e1, e2, e3⟩ := bytes_ev c h 3 (by omega)
  refine ⟨padB s 32, c', EvQ.run (fun k => spec_l03Sector_run k _) ?_, e2, by rw [padB_size]; omega⟩
  simp only [spec_l03Sector]
  exact EvQ.bind e1 (EvQ.bind (spec_PadTo_ev s 32 (by omega) (by omega)) (EvQ.const _))
theorem once_ev (c : Dl01Cur) (h : curOK c) (n : Int) : ∃ b c', Ev (fun k => c_spec_l01Once k (c, n)) (b, c') ∧ curOK c' := by
  obtain ⟨v, c', e1, e2, _⟩ := below_ev c h n
  refine ⟨v == 0, c', EvQ.run (fun k => spec_l01Once_run k _ _) ?_, e2⟩
  simp only [spec_l01Once]
  exact EvQ.bind e1 (EvQ.const _)
theorem newDisk_ev : Ev (fun k => c_spec_NewDisk k (73 : Int)) (List.replicate 73 zero32, ([] : List PWrite)) := by
  refine EvQ.run (fun k => spec_NewDisk_run k _) ?_
  have a1 : decide ((0 : Int) ≤ 73 ∧ (73 : Int) ≤ 400) = true := by decide
  simp only [spec_NewDisk]
  refine EvQ.bind (l01In_ev _ _ _) ?_
  simp only [a1, Bool.not_true, cond_false]
  refine EvL.ev ?_
  have := EvL.count (L := spec_NewDisk_l1) (r := (List.replicate 73 zero32, ([] : List PWrite))) (fun i => ((73 : Int), (), (), (List.replicate i zero32, ([] : List PWrite)), (([] : List ByteArray), ([] : List PWrite)))) 73 (fun i hi => ?_) (EvL.stop ?_)
  · exact this
  · have c1 : ((List.replicate i zero32).length : Int) < 73 := by rw [List.length_replicate]; omega
    have c2 : ((List.replicate i zero32).length + ([padB ⟨#[]⟩ 32] : List ByteArray).length) * 16 ≤ capBytes := by rw [List.length_replicate]; simp only [List.length_singleton, capBytes]; omega
    simp only [EvS, spec_NewDisk_l1, c1, decide_true, cond_true]
    refine EvQ.bindS (spec_PadTo_ev ⟨#[]⟩ 32 (by omega) (Nat.zero_le _)) ?_
    simp only [if_pos c2]
    have : List.replicate i zero32 ++ [padB ⟨#[]⟩ 32] = List.replicate (i + 1) zero32 := by rw [List.replicate_succ']; rfl
    rw [this]
    exact EvQ.const _
  · have c1 : ¬ ((List.replicate 73 zero32).length : Int) < 73 := by rw [List.length_replicate]; omega
    simp only [spec_NewDisk_l1, c1, decide_false, cond_false]
    exact EvQ.const _
def freshP (S : List ByteArray) : Prop := S.length = 73 ∧ ∀ (i : Nat) s, S[i]? = some s → s.size = 32
theorem fresh_disk {S : List ByteArray} (h : freshP S) : diskP (S, []) := ⟨h.2, fun i w hw => by simp at hw, by show S.length ≤ 400; rw [h.1]; omega, Nat.zero_le _⟩
theorem l04Disk_ev (c : Dl01Cur) (h : curOK c) : ∃ r : PDisk × Dl01Cur, Ev (fun k => c_spec_l04Disk k c) r ∧ ∃ S, r.1 = (S, []) ∧ freshP S := by
  refine Ev.of (Q := fun r : PDisk × Dl01Cur => ∃ S, r.1 = (S, []) ∧ freshP S) ?_ |>.imp fun n h => ⟨EvQ.run (fun k => spec_l04Disk_run k _) h.1, h.2⟩
  simp only [spec_l04Disk]
  refine EvX.bind newDisk_ev ?_
  refine EvX.upto (L := fun k _ => spec_l04Disk_l1 k) 3 (fun (st : List ByteArray × Dl01Cur) i => ((), (), (), (i : Int), (st.1, ([] : List PWrite)), (([] : List ByteArray), ([] : List PWrite)), st.2)) (fun st i => freshP st.1 ∧ curOK st.2) (fun st i hi inv => ?_) (fun st inv => ?_) (List.replicate 73 zero32, c) 0 (Nat.zero_le _) ⟨⟨List.length_replicate, fun i s hs => ?_⟩, h⟩
  · obtain ⟨⟨f1, f2⟩, hc⟩ := inv
    obtain ⟨s, c', e1, e2, e3⟩ := sector_ev st.2 hc
    have c1 : (i : Int) < 3 := by omega
    have w1 : wrapK .i64 ((70 : Int) + (i : Int)) = ((70 + i : Nat) : Int) := by rw [i64w (by omega) (by omega)]; omega
    have c2 : ((70 + i : Nat) : Int) < (st.1.length : Int) := by rw [f1]; omega
    obtain ⟨v, hv⟩ : ∃ v, st.1[70 + i]? = some v := ⟨_, List.getElem?_eq_getElem (show 70 + i < st.1.length by omega)⟩
    simp only [spec_l04Disk_l1, c1, decide_true, cond_true]
    refine EvX.bind e1 ?_
    simp only [w1, Int.natCast_nonneg, c2, if_true, Int.toNat_natCast, hv, Option.bind_some, wsucc (show i < _ by omega)]
    refine EvX.const _ (GL.self (st.1.set (70 + i) s, c') rfl ⟨⟨by rw [List.length_set]; exact f1, fun j t hj => ?_⟩, e2⟩)
    rw [List.getElem?_set] at hj
    split at hj
    · split at hj
      · cases hj; exact e3
      · cases hj
    · exact f2 j t hj
  · simp only [spec_l04Disk_l1, show ¬ ((3 : Nat) : Int) < 3 by omega, decide_false, cond_false]
    exact EvX.const _ (GE.ret (GR.ret ⟨st.1, rfl, inv.1⟩))
  · rw [List.getElem?_replicate] at hs
    split at hs
    · cases hs; exact zero32_size
    · cases hs
theorem makeDisk_ev (x : List Int) (hx : x.length ≤ 1048576) : ∃ S, Ev (fun k => c_spec_MakeJournalDisk k x) (S, ([] : List PWrite)) ∧ freshP S := by
  obtain ⟨r, h1, S, h2, h3⟩ : ∃ r : PDisk, Ev (fun k => c_spec_MakeJournalDisk k x) r ∧ ∃ S, r = (S, []) ∧ freshP S := by
    refine Ev.of (Q := fun r : PDisk => ∃ S, r = (S, []) ∧ freshP S) ?_ |>.imp fun n h => ⟨EvQ.run (fun k => spec_MakeJournalDisk_run k _) h.1, h.2⟩
    simp only [spec_MakeJournalDisk]
    refine EvX.upto (L := fun k _ => spec_MakeJournalDisk_l1 k) (min x.length 4000) (fun (h : Int) i => (x, h, (i : Int), (([] : List ByteArray), ([] : List PWrite)))) (fun _ _ => True) (fun h i hi inv => ?_) (fun h inv => ?_) _ 0 (Nat.zero_le _) trivial
    · have c1 : (i : Int) < (x.length : Int) := by omega
      have c2 : (i : Int) < 4000 := by omega
      obtain ⟨v, hv⟩ : ∃ v, x[i]? = some v := ⟨_, List.getElem?_eq_getElem (show i < x.length by omega)⟩
      simp only [spec_MakeJournalDisk_l1, c1, c2, decide_true, cond_true, Int.natCast_nonneg, if_true, Int.toNat_natCast, hv, Option.bind_some, wsucc (show i < _ by omega)]
      exact EvX.const _ (GL.self _ rfl trivial)
    · obtain ⟨r, e1, S, e2, e3⟩ := l04Disk_ev (x, (0 : Int), h) ⟨hx, by simp⟩
      by_cases c1 : ((min x.length 4000 : Nat) : Int) < (x.length : Int)
      · have c2 : ¬ ((min x.length 4000 : Nat) : Int) < 4000 := by omega
        simp only [spec_MakeJournalDisk_l1, c1, c2, decide_true, decide_false, cond_true, cond_false]
        exact EvX.bind e1 (EvX.const _ (GE.ret (GR.ret ⟨S, e2, e3⟩)))
      · simp only [spec_MakeJournalDisk_l1, c1, decide_false, cond_false]
        exact EvX.bind e1 (EvX.const _ (GE.ret (GR.ret ⟨S, e2, e3⟩)))
  exact ⟨S, by rw [h2] at h1; exact h1, h3⟩
def listed (l : List PWrite) : Prop := listP l ∧ (∀ (i : Nat) w, l[i]? = some w → w.2.size = 32)
theorem l04Txn_ev (c : Dl01Cur) (h : curOK c) : ∃ r : List PWrite × Dl01Cur, Ev (fun k => c_spec_l04Txn k c) r ∧ listed r.1 := by
  refine Ev.of (Q := fun r : List PWrite × Dl01Cur => listed r.1) ?_ |>.imp fun n h => ⟨EvQ.run (fun k => spec_l04Txn_run k _) h.1, h.2⟩
  simp only [spec_l04Txn]
  refine EvX.list (L := fun k _ => spec_l04Txn_l1 k) [(0 : Int), 70, 71, 72] (fun (st : List PWrite × Dl01Cur) i => ((), st.1, [(0 : Int), 70, 71, 72], ((([(0 : Int), 70, 71, 72] : List Int).length : Nat) : Int), (i : Int), st.2))
    (fun st i => curOK st.2 ∧ st.1.length ≤ i ∧ (2 ≤ i → 1 ≤ st.1.length) ∧ ∀ (j : Nat) w, st.1[j]? = some w → 0 ≤ w.1 ∧ w.1 ≤ 399 ∧ w.2.size = 32) (fun st i v hx hi inv => ?_) (fun st inv => ?_) ([], c) ⟨h, Nat.zero_le _, by omega, by simp⟩
  · obtain ⟨hc, i1, i2, i3⟩ := inv
    have hi4 : i < 4 := hi
    have hv : 0 ≤ v ∧ v ≤ 399 ∧ (i = 1 → v = 70) := by
      have : i = 0 ∨ i = 1 ∨ i = 2 ∨ i = 3 := by omega
      rcases this with rfl | rfl | rfl | rfl <;> (simp at hx; subst hx; omega)
    obtain ⟨b, c1, a1, a2⟩ := once_ev st.2 hc 2
    obtain ⟨s, c2, b1, b2, b3⟩ := sector_ev c1 a2
    have hcap : (st.1.length + ([(v, s)] : List PWrite).length) * 24 ≤ capBytes := by simp only [List.length_singleton, capBytes]; omega
    have app : ∀ (j : Nat) w, (st.1 ++ [(v, s)])[j]? = some w → 0 ≤ w.1 ∧ w.1 ≤ 399 ∧ w.2.size = 32 := fun j w hw => by
      rw [List.getElem?_append] at hw
      split at hw
      · exact i3 j w hw
      · have hj2 := (List.getElem?_eq_some_iff.1 hw).1
        simp at hj2
        rw [hj2] at hw
        simp at hw
        subst hw
        exact ⟨hv.1, hv.2.1, b3⟩
    simp only [spec_l04Txn_l1, Int.ofNat_lt, hi, decide_true, cond_true, Int.natCast_nonneg, if_true, Int.toNat_natCast, hx, Option.bind_some, wsucc (show i < _ by omega)]
    refine EvX.bind a1 (EvX.bif (fun h1 => ?_) (fun h1 => ?_))
    · refine EvX.bind b1 (EvX.ifp hcap ?_)
      exact EvX.const _ (GL.self (st.1 ++ [(v, s)], c2) rfl ⟨b2, by simp only [List.length_append, List.length_singleton]; omega, fun _ => by simp only [List.length_append, List.length_singleton]; omega, app⟩)
    · refine EvX.bif (fun h2 => ?_) (fun h2 => ?_)
      · refine EvX.bind b1 (EvX.ifp hcap ?_)
        exact EvX.const _ (GL.self (st.1 ++ [(v, s)], c2) rfl ⟨b2, by simp only [List.length_append, List.length_singleton]; omega, fun _ => by simp only [List.length_append, List.length_singleton]; omega, app⟩)
      · have h2 : v ≠ 70 := by simpa using h2
        refine EvX.const _ (GL.self (st.1, c1) rfl ⟨a2, by simp only; omega, fun h3 => ?_, i3⟩)
        have : i ≠ 1 := fun e => h2 (hv.2.2 e)
        exact i2 (by omega)
  · obtain ⟨hc, i1, i2, i3⟩ := inv
    have e4 : ([(0 : Int), 70, 71, 72] : List Int).length = 4 := rfl
    rw [e4] at i1 i2
    simp only [spec_l04Txn_l1, Int.lt_irrefl, decide_false, cond_false]
    exact EvX.const _ (GE.ret (GR.ret ⟨⟨fun j w hw => ⟨(i3 j w hw).1, (i3 j w hw).2.1⟩, i2 (by omega), by simp only; omega⟩, fun j w hw => (i3 j w hw).2.2⟩))
theorem makeTxn_ev (x : List Int) (hx : x.length ≤ 1048576) : ∃ l, Ev (fun k => c_spec_MakeTxn k x) l ∧ listed l := by
  obtain ⟨r, h1, h2⟩ : ∃ r : List PWrite, EvL spec_MakeTxn_l2 (x, (wrapK .i64 ((1263 : Int) + (x.length : Int))), (0 : Int)) r ∧ listed r := by
    refine hash_ev (L := spec_MakeTxn_l2) (Q := listed) hx (fun k self d => by
        simp only [spec_MakeTxn_l2, Int.lt_irrefl, decide_false, cond_false]) (fun h => ?_) (wrapK .i64 ((1263 : Int) + (x.length : Int)))
    obtain ⟨r, h1, h2⟩ := skip_ev (L := spec_MakeTxn_l1) (Q := listed) 9 (by omega) (fun k self d => by
      cases hd : decide (d.2.2.1 < d.1) <;> simp only [spec_MakeTxn_l1, hd, cond_true, cond_false]) (fun i c hi hc => by
      obtain ⟨r, a1, a2⟩ := l04Txn_ev c hc
      refine ⟨r.1, ?_, a2⟩
      have hi' : ¬ i < ((9 : Nat) : Int) := by omega
      simp only [spec_MakeTxn_l1, hi', decide_false, cond_false]
      exact EvQ.bind a1 (EvQ.const _)) (x, 0, h) ⟨hx, by simp⟩
    refine ⟨r, ?_, h2⟩
    simp only [spec_MakeTxn_l2, Int.lt_irrefl, decide_false, cond_false]
    exact h1.ev
  exact ⟨r, EvQ.run (fun k => spec_MakeTxn_run k _) h1.ev, h2⟩
theorem makeNum_ev (x : List Int) (hx : x.length ≤ 1048576) (m : Nat) (hm : m < 1000) : ∃ n, Ev (fun k => c_spec_MakeNum k (x, (m : Int))) n ∧ 0 ≤ n ∧ n ≤ 65535 := by
  obtain ⟨r, h1, h2⟩ : ∃ r : Int, EvL (fun k => spec_MakeNum_l2 k m) (x, (wrapK .i64 ((1263 : Int) + (x.length : Int))), (0 : Int)) r ∧ (0 ≤ r ∧ r ≤ 65535) := by
    refine hash_ev (L := fun k => spec_MakeNum_l2 k m) (Q := (fun n : Int => 0 ≤ n ∧ n ≤ 65535)) hx (fun k self d => by
        simp only [spec_MakeNum_l2, Int.lt_irrefl, decide_false, cond_false]) (fun h => ?_) (wrapK .i64 ((1263 : Int) + (x.length : Int)))
    obtain ⟨r, h1, h2⟩ := skip_ev (L := spec_MakeNum_l1) (Q := fun n => 0 ≤ n ∧ n ≤ 65535) m hm (fun k self d => by
      cases hd : decide (d.2.2.1 < d.1) <;> simp only [spec_MakeNum_l1, hd, cond_true, cond_false]) (fun i c hi hc => by
      obtain ⟨v1, c1, a1, a2, a3, a4⟩ := byte_ev c hc
      obtain ⟨v2, c2, b1, b2, b3, b4⟩ := byte_ev c1 a2
      have w1 : wrapK .i64 (v1 * 256) = v1 * 256 := by rw [wrapK, wrap_i64 (by omega) (by omega)]
      have w2 : wrapK .i64 (v1 * 256 + v2) = v1 * 256 + v2 := by rw [wrapK, wrap_i64 (by omega) (by omega)]
      refine ⟨v1 * 256 + v2, ?_, by omega, by omega⟩
      have hi' : ¬ i < (m : Int) := by omega
      simp only [spec_MakeNum_l1, hi', decide_false, cond_false]
      refine EvQ.bind a1 (EvQ.bind b1 ?_)
      simp only [w1, w2]
      exact EvQ.const _) (x, 0, h) ⟨hx, by simp⟩
    refine ⟨r, ?_, h2⟩
    simp only [spec_MakeNum_l2, Int.lt_irrefl, decide_false, cond_false]
    exact h1.ev
  exact ⟨r, EvQ.run (fun k => spec_MakeNum_run k _ _) h1.ev, h2⟩
theorem keep_ev (c : Dl01Cur) (h : curOK c) : ∃ r, Ev (fun k => c_spec_l03Keep k c) r := by
  obtain ⟨m, c1, e1, e2, e3, _⟩ := below_ev c h 5
  obtain ⟨f1, f2⟩ := e3 (by omega) (by omega)
  obtain ⟨r, g1, _⟩ : ∃ r : List Bool × Dl01Cur, EvL spec_l03Keep_l1 ((), ([] : List Bool), m, c1) r ∧ True := by
    refine EvL.ex (L := spec_l03Keep_l1) (fun d => curOK d.2.2.2 ∧ 0 ≤ d.2.2.1 ∧ (d.2.1.length : Int) + d.2.2.1 ≤ 5) _ (fun d => d.2.2.1.toNat) ?_ ⟨e2, f1, by simp only [List.length_nil]; omega⟩
    rintro ⟨u, acc, i, c⟩ ⟨h1, h2, h3⟩
    simp only at h1 h2 h3
    by_cases hi : 0 < i
    · obtain ⟨b, c1, a1, a2⟩ := once_ev c h1 2
      have hw : wrapK .i64 (i - 1) = i - 1 := by rw [wrapK, wrap_i64 (by omega) (by omega)]
      refine .inr ⟨((), acc ++ [b], i - 1, c1), ⟨a2, by simp only; omega, by simp only [List.length_append, List.length_singleton]; omega⟩, by simp only; omega, ?_⟩
      have hcap : (acc.length + ([b] : List Bool).length) * 1 ≤ capBytes := by simp only [List.length_singleton, capBytes]; omega
      simp only [EvS, spec_l03Keep_l1, hi, decide_true, cond_true]
      refine EvQ.bindS a1 ?_
      simp only [if_pos hcap, hw]
      exact EvQ.const _
    · refine .inl ⟨(acc, c), ?_, trivial⟩
      simp only [spec_l03Keep_l1, hi, decide_false, cond_false]
      exact EvQ.const _
  refine ⟨r, EvQ.run (fun k => spec_l03Keep_run k _) ?_⟩
  simp only [spec_l03Keep]
  exact EvQ.bind e1 g1.ev
theorem makeKeep_ev (x : List Int) (hx : x.length ≤ 1048576) (m : Nat) (hm : m < 1000) : ∃ l, Ev (fun k => c_spec_MakeKeep k (x, (m : Int))) l := by
  obtain ⟨r, h1, h2⟩ : ∃ r : List Bool, EvL (fun k => spec_MakeKeep_l2 k m) (x, (wrapK .i64 ((1263 : Int) + (x.length : Int))), (0 : Int)) r ∧ True := by
    refine hash_ev (L := fun k => spec_MakeKeep_l2 k m) (Q := fun _ => True) hx (fun k self d => by
        simp only [spec_MakeKeep_l2, Int.lt_irrefl, decide_false, cond_false]) (fun h => ?_) (wrapK .i64 ((1263 : Int) + (x.length : Int)))
    obtain ⟨r, h1, h2⟩ := skip_ev (L := spec_MakeKeep_l1) (Q := fun _ => True) m hm (fun k self d => by
      cases hd : decide (d.2.2.1 < d.1) <;> simp only [spec_MakeKeep_l1, hd, cond_true, cond_false]) (fun i c hi hc => by
      obtain ⟨r, a1⟩ := keep_ev c hc
      refine ⟨r.1, ?_, trivial⟩
      have hi' : ¬ i < (m : Int) := by omega
      simp only [spec_MakeKeep_l1, hi', decide_false, cond_false]
      exact EvQ.bind a1 (EvQ.const _)) (x, 0, h) ⟨hx, by simp⟩
    refine ⟨r, ?_, trivial⟩
    simp only [spec_MakeKeep_l2, Int.lt_irrefl, decide_false, cond_false]
    exact h1.ev
  exact ⟨r, EvQ.run (fun k => spec_MakeKeep_run k _ _) h1.ev⟩
/-! ### The steps of a transaction -/
theorem cutAll_ev (s : ByteArray) (hs : s.size ≤ 1000000) : ∃ r : List ByteArray, Ev (fun k => c_impl_CutAll k (s, (32 : Int))) r ∧ r.length ≤ 1000000 ∧ ∀ t ∈ r, t.size ≤ 1000000 := by
  obtain ⟨r, g1, g2⟩ : ∃ r : List ByteArray, EvL impl_CutAll_l1 (s, (32 : Int), ([] : List ByteArray)) r ∧ (r.length ≤ 1000000 ∧ ∀ t ∈ r, t.size ≤ 1000000) := by
    refine EvL.ex (L := impl_CutAll_l1) (fun d => d.2.1 = 32 ∧ d.2.2.length + d.1.size ≤ 1000000 ∧ ∀ t ∈ d.2.2, t.size ≤ 1000000) _ (fun d => d.1.size) ?_ ⟨rfl, by simpa using hs, by simp⟩
    rintro ⟨t, n, acc⟩ ⟨h1, h2, h3⟩
    simp only at h1 h2 h3
    subst h1
    by_cases hi : (0 : Int) < (t.size : Int)
    · have hm : 0 ≤ min (32 : Int) (t.size : Int) := by omega
      have hm2 : min (32 : Int) (t.size : Int) ≤ (t.size : Int) := by omega
      have hcap : (acc.length + ([t.extract 0 (min (32 : Int) (t.size : Int)).toNat] : List ByteArray).length) * 16 ≤ capBytes := by simp only [List.length_singleton, capBytes]; omega
      refine .inr ⟨(t.extract (min (32 : Int) (t.size : Int)).toNat t.size, 32, acc ++ [t.extract 0 (min (32 : Int) (t.size : Int)).toNat]), ⟨rfl, by simp only [List.length_append, List.length_singleton, ByteArray.size_extract]; omega, fun u hu => ?_⟩, by simp only [ByteArray.size_extract]; omega, ?_⟩
      · rcases List.mem_append.1 hu with hu | hu
        · exact h3 u hu
        · simp at hu; subst hu; rw [ByteArray.size_extract]; omega
      · simp only [EvS, impl_CutAll_l1, hi, decide_true, cond_true, hm, hm2, hcap, if_true]
        exact EvQ.const _
    · refine .inl ⟨acc, ?_, by omega, h3⟩
      simp only [impl_CutAll_l1, hi, decide_false, cond_false]
      exact EvQ.const _
  refine ⟨r, EvQ.run (fun k => impl_CutAll_run k _ _) ?_, g2⟩
  simp only [impl_CutAll, show ¬ (32 : Int) < 1 by omega, show ¬ (1000 : Int) < 32 by omega, decide_false, cond_false]
  exact g1.ev
theorem journal_ev (l : List PWrite) (h : listed l) : ∃ r : List PWrite, Ev (fun k => c_impl_JournalWrites k l) r ∧ 1 ≤ r.length ∧ r.length ≤ 1100000 := by
  have h1 := h.1.2.1
  have h2 := h.1.2.2
  obtain ⟨b, e1, e2⟩ := impl_Ok_say l (by omega)
  have hb : b = true := e2.2 h.1
  subst hb
  refine Ev.of (Q := fun r : List PWrite => 1 ≤ r.length ∧ r.length ≤ 1100000) ?_ |>.imp fun n h => ⟨EvQ.run (fun k => impl_JournalWrites_run k _) h.1, h.2⟩
  simp only [impl_JournalWrites]
  refine EvX.bind e1 ?_
  simp only [Bool.not_true, cond_false]
  refine EvX.list (L := fun k _ => impl_JournalWrites_l2 k) l (fun (st : ByteArray × List PWrite) i => (st.1, st.2, l, (l.length : Int), (i : Int))) (fun st i => st.1.size ≤ 2 * i ∧ st.2.length = i) (fun st i w hx hi inv => ?_) (fun st inv => ?_) (⟨#[]⟩, []) ⟨Nat.zero_le _, rfl⟩
  · obtain ⟨i1, i2⟩ := inv
    have hw := h.2 i w hx
    have hp := Go.Proofs.Ytdbemlllcdpdbaa.putB_size w.1 2
    have c1 : ((w.2.size : Int) != (32 : Int)) = false := by simp [hw]
    have w1 : wrapK .i64 ((6 : Int) + (i : Int)) = 6 + i := i64w (by omega) (by omega)
    simp only [impl_JournalWrites_l2, Int.ofNat_lt, hi, decide_true, cond_true, Int.natCast_nonneg, if_true, Int.toNat_natCast, hx, Option.bind_some, wsucc (show i < _ by omega), c1, cond_false]
    refine EvX.bind (impl_PutNumber_ev w.1 2 (by omega) (by omega)) (EvX.ifp (by omega) (EvX.ifp (by simp only [List.length_singleton, capBytes]; omega) ?_))
    exact EvX.const _ (GL.self (st.1 ++ putB w.1 2, st.2 ++ [(wrapK .i64 ((6 : Int) + (i : Int)), w.2)]) rfl ⟨by rw [app_size]; omega, by simp [i2]⟩)
  · obtain ⟨i1, i2⟩ := inv
    obtain ⟨cs, q1, q2, q3⟩ := cutAll_ev st.1 (by omega)
    simp only [impl_JournalWrites_l2, Int.lt_irrefl, decide_false, cond_false]
    refine EvX.bind q1 ?_
    refine EvX.out (F := fun k _ => iter k (impl_JournalWrites_l1 k) (st.2, ([] : List PWrite), cs, (cs.length : Int), (0 : Int))) ?_
    refine EvX.list (L := fun k _ => impl_JournalWrites_l1 k) cs (fun (acc : List PWrite) i => (st.2, acc, cs, (cs.length : Int), (i : Int))) (fun acc i => acc.length = i) (fun acc i t hx hi inv => ?_) (fun acc inv => ?_) [] rfl
    · have ht := q3 t (List.mem_of_getElem? hx)
      simp only [impl_JournalWrites_l1, Int.ofNat_lt, hi, decide_true, cond_true, Int.natCast_nonneg, if_true, Int.toNat_natCast, hx, Option.bind_some, wsucc (show i < _ by omega)]
      refine EvX.bind (impl_PadTo_ev t 32 (by omega) (by omega)) (EvX.ifp (by simp only [List.length_singleton, capBytes]; omega) ?_)
      exact EvX.const _ (GL.self _ rfl (by simp [inv]))
    · simp only [impl_JournalWrites_l1, Int.lt_irrefl, decide_false, cond_false]
      refine EvX.ifp (by simp only [capBytes]; omega) (EvX.const _ (GE.ret (GR.ret ?_)))
      simp only [List.length_append]; omega
theorem writeSteps_ev (l : List PWrite) (hl : l.length ≤ 2000000) : Ev (fun k => c_impl_writeSteps k l) (wrS l) := by
  refine EvQ.run (fun k => impl_writeSteps_run k _) ?_
  simp only [impl_writeSteps]
  refine Ev.eq ?_
  refine EvX.list (L := fun k _ => impl_writeSteps_l1 k) l (fun (st : List PStep) i => (st, l, (l.length : Int), ((i : Nat) : Int))) (fun st i => st = wrS (l.take i)) (fun st i w hx hi inv => ?_) (fun st inv => ?_) _ rfl
  · subst inv
    have hw : (wrS (l.take i)).length = i := by simp [wrS]; omega
    simp only [impl_writeSteps_l1, Int.ofNat_lt, hi, decide_true, cond_true, Int.natCast_nonneg, if_true, Int.toNat_natCast, hx, Option.bind_some, wsucc (show i < _ by omega)]
    refine EvX.ifp (by rw [hw]; simp only [List.length_singleton, capBytes]; omega) (EvX.const _ (GL.self _ rfl ?_))
    rw [List.take_add_one, hx]; simp [wrS]
  · subst inv
    simp only [impl_writeSteps_l1, Int.lt_irrefl, decide_false, cond_false, List.take_length]
    exact EvX.const _ (GE.ret (GR.ret rfl))
theorem installSteps_ev (l : List PWrite) (hl : l.length ≤ 2000000) : Ev (fun k => c_impl_installSteps k l) (wrS l ++ clearS) := by
  refine EvQ.run (fun k => impl_installSteps_run k _) ?_
  simp only [impl_installSteps]
  refine EvQ.bind (writeSteps_ev l hl) (EvQ.bind impl_zeros_ev (EvQ.ifp ?_ (EvQ.const _)))
  simp only [wrS, List.length_map, List.length_cons, List.length_nil, capBytes]; omega
theorem txnSteps_ev (l : List PWrite) (h : listed l) : ∃ r : List PStep, Ev (fun k => c_impl_TxnSteps k ((7 : Int), l)) r ∧ 0 < r.length ∧ r.length ≤ 2000000 := by
  have h1 := h.1.2.1
  have h2 := h.1.2.2
  obtain ⟨j, e1, e2, e3⟩ := journal_ev l h
  have hc := impl_Commit_ev 7 l (by omega) h.2
  have hcv : commitB 7 l = commitV 7 l := if_pos ⟨by omega, h.1⟩
  rw [hcv] at hc
  have hsz : 32 ≤ (commitV 7 l).size := by rw [commitV, padB_size]; omega
  have hne : eqS (commitV 7 l) (⟨#[]⟩ : ByteArray) = false := by
    cases he : eqS (commitV 7 l) (⟨#[]⟩ : ByteArray) with
    | false => rfl
    | true =>
      rw [(eqS_iff _ _).1 he] at hsz
      exact absurd hsz (by decide)
  have hje : j.isEmpty = false := by cases j <;> simp_all
  refine ⟨(wrS j ++ ([(true, (0 : Int), ByteArray.empty), (false, (1 : Int), commitV 7 l), (true, (0 : Int), ByteArray.empty)] : List PStep)) ++ (wrS l ++ clearS), EvQ.run (fun k => impl_TxnSteps_run k _ _) ?_, by simp [wrS, clearS]; omega, by simp [wrS, clearS]; omega⟩
  simp only [impl_TxnSteps]
  refine EvQ.bind e1 (EvQ.bind hc (EvQ.ifp hje ?_))
  simp only [hne, cond_false]
  refine EvQ.bind (writeSteps_ev j (by omega)) (EvQ.ifp (by simp only [wrS, List.length_map, List.length_cons, List.length_nil, capBytes]; omega) (EvQ.bind (installSteps_ev l (by omega)) (EvQ.ifp (by simp only [wrS, clearS, List.length_append, List.length_map, List.length_cons, List.length_nil, capBytes]; omega) ?_)))
  exact EvQ.const _
/-! ### Recovery -/
theorem runR_small {d : PDisk} (hs : dskS d) (l : List PStep) (n : Int) : dskS (runR d l n) := by
  unfold runR
  split
  · rename_i h; exact disk_small (runT_P h l _)
  · exact hs
theorem recover_ev (d : PDisk) (hs : dskS d) : Ev (fun k => c_impl_RecoverDisk k d) (recD d) := by
  refine EvQ.run (fun k => impl_RecoverDisk_run k _) ?_
  have hl := recS_len d
  simp only [impl_RecoverDisk]
  exact EvQ.bind (impl_RS_ev d hs) (EvQ.bind (impl_Run_ev d hs _ (by omega) _) (EvQ.const _))
theorem crashMount_ev (d : PDisk) (hs : dskS d) (n : Int) (l : List Bool) : Ev (fun k => c_impl_CrashMount k (d, n, l)) (crashR (runR d (recS d) n) l) := by
  refine EvQ.run (fun k => impl_CrashMount_run k _ _ _) ?_
  have hl := recS_len d
  simp only [impl_CrashMount]
  exact EvQ.bind (impl_RS_ev d hs) (EvQ.bind (impl_Run_ev d hs _ (by omega) n) (EvQ.bind (impl_Crash_ev _ (runR_small hs _ _) l) (EvQ.const _)))
theorem readSector_ev (d : PDisk) (h : diskP d) (i : Nat) (hi : i < d.1.length) : Ev (fun k => c_impl_ReadSector k (d, (i : Int))) (readD d i) := by
  obtain ⟨b, e1, e2⟩ := impl_IsDisk_say d (disk_small h)
  have hb : b = true := e2.2 h
  subst hb
  refine EvQ.run (fun k => impl_ReadSector_run k _ _) ?_
  simp only [impl_ReadSector]
  refine EvQ.bind e1 ?_
  have c1 : ¬ (i : Int) < 0 := by omega
  have c2 : ¬ (d.1.length : Int) ≤ (i : Int) := by omega
  simp only [Bool.not_true, c1, c2, decide_false, cond_false]
  exact EvQ.bind (impl_Read_ev d h i hi) (EvQ.const _)
theorem eqStr_ev (a : List ByteArray) (hl : a.length ≤ 1000000) : Ev (fun k => c_slices_Equal_string_string k (a, a)) true := by
  refine EvQ.run (fun k => slices_Equal_string_string_run k _ _) ?_
  simp only [slices_Equal_string_string, bne_self_eq_false, cond_false]
  refine EvL.ev ?_
  have := EvL.count (L := slices_Equal_string_string_l1) (r := true) (fun i => (a, a, (a.length : Int), (i : Int))) a.length (fun i hi => ?_) (EvL.stop ?_)
  · simpa using this
  · obtain ⟨v, hv⟩ : ∃ v, a[i]? = some v := ⟨_, List.getElem?_eq_getElem hi⟩
    simp only [EvS, slices_Equal_string_string_l1, Int.ofNat_lt, hi, decide_true, cond_true, Int.natCast_nonneg, if_true, Int.toNat_natCast, hv, Option.bind_some, eqS_refl, Bool.not_true, cond_false, wsucc (show i < _ by omega)]
    exact EvQ.const _
  · simp only [slices_Equal_string_string_l1, Int.lt_irrefl, decide_false, cond_false]
    exact EvQ.const _
theorem eqWr_ev : Ev (fun k => c_slices_Equal_impl_Write_impl_Write k (([] : List PWrite), ([] : List PWrite))) true := by
  refine EvQ.run (fun k => slices_Equal_impl_Write_impl_Write_run k _ _) ?_
  simp only [slices_Equal_impl_Write_impl_Write, bne_self_eq_false, cond_false]
  refine EvL.ev (EvL.stop ?_)
  simp only [slices_Equal_impl_Write_impl_Write_l1, List.length_nil, Int.lt_irrefl, decide_false, cond_false]
  exact EvQ.const _
theorem laws_FnRecover_ev (x0 : List Int) (hx0 : okD (.list false (.int .u8)) x0) : Ev (fun k => c_laws_FnRecover k x0) true := by
  refine EvQ.run (fun k => laws_FnRecover_run k x0) ?_
  simp only [laws_FnRecover]
  by_cases c0 : (1048576 : Int) < (x0.length : Int)
  · simp only [c0, decide_true, cond_true]; exact EvQ.const _
  simp only [c0, decide_false, cond_false]
  have hx : x0.length ≤ 1048576 := by omega
  obtain ⟨S0, d1, d2⟩ := makeDisk_ev x0 hx
  obtain ⟨l, t1, t2⟩ := makeTxn_ev x0 hx
  obtain ⟨st, s1, s2, s3⟩ := txnSteps_ev l t2
  obtain ⟨n, n1, n2, n3⟩ := makeNum_ev x0 hx 3 (by omega)
  obtain ⟨kp, k1⟩ := makeKeep_ev x0 hx 30 (by omega)
  obtain ⟨m, m1, m2, m3⟩ := makeNum_ev x0 hx 5 (by omega)
  obtain ⟨kq, k2⟩ := makeKeep_ev x0 hx 40 (by omega)
  have hD := fresh_disk d2
  have w1 : wrapK .i64 ((st.length : Int) + 1) = (st.length : Int) + 1 := i64w (by omega) (by omega)
  refine EvQ.bind d1 (EvQ.bind t1 (EvQ.bind s1 (EvQ.bind n1 ?_)))
  rw [w1]
  refine EvQ.ifp (by omega) ?_
  generalize n.tmod ((st.length : Int) + 1) = n'
  have hR := impl_Run_ev (S0, []) (disk_small hD) st s3 n'
  have eR : runR (S0, []) st n' = runT (S0, []) st (max 0 (min n' st.length)).toNat := if_pos hD
  have hPR : diskP (runR (S0, []) st n') := by rw [eR]; exact runT_P hD _ _
  refine EvQ.bind hR (EvQ.bind k1 ?_)
  have hC := impl_Crash_ev (runR (S0, []) st n') (disk_small hPR) kp
  have eC : crashR (runR (S0, []) st n') kp = (storT (keepF kp) (runR (S0, []) st n') (runR (S0, []) st n').2.length, []) := if_pos hPR
  have hPC : diskP (storT (keepF kp) (runR (S0, []) st n') (runR (S0, []) st n').2.length, []) := storD_P hPR
  have hlenR : (runR (S0, []) st n').1.length = S0.length := by
    have key : ∀ i, (runT (S0, ([] : List PWrite)) st i).1.length = S0.length := by
      intro i
      induction i with
      | zero => rfl
      | succ i ih =>
        simp only [runT]
        cases st[i]? with
        | none => exact ih
        | some s =>
          simp only [stepD]
          cases s.1 with
          | true => simp only [cond_true, flushD, storD, storT_len]; exact ih
          | false =>
            simp only [cond_false, writeD]
            split <;> exact ih
    rw [eR]; exact key _
  have hlenC := storT_len (keepF kp) (runR (S0, []) st n') (runR (S0, []) st n').2.length
  rw [eC] at hC
  generalize storT (keepF kp) (runR (S0, []) st n') (runR (S0, []) st n').2.length = S at hC hPC hlenC
  have hS : S.length = 73 := by rw [hlenC, hlenR]; exact d2.1
  refine EvQ.bind hC (EvQ.bind m1 (EvQ.bind (impl_RS_ev _ (disk_small hPC)) ?_))
  have hrl := recS_len (S, [])
  have w2 : wrapK .i64 (((recS (S, [])).length : Int) + 1) = ((recS (S, [])).length : Int) + 1 := i64w (by omega) (by omega)
  rw [w2]
  refine EvQ.ifp (by omega) (EvQ.bind k2 (EvQ.bind (crashMount_ev _ (disk_small hPC) _ kq) (EvQ.bind (recover_ev _ (disk_small hPC)) ?_)))
  generalize m.tmod (((recS (S, [])).length : Int) + 1) = m'
  have hb : dskS (crashR (runR (S, []) (recS (S, [])) m') kq) := by
    have e1 : runR (S, []) (recS (S, [])) m' = runT (S, []) (recS (S, [])) (max 0 (min m' (recS (S, [])).length)).toNat := if_pos hPC
    have p1 : diskP (runR (S, []) (recS (S, [])) m') := by rw [e1]; exact runT_P hPC _ _
    have e2 : crashR (runR (S, []) (recS (S, [])) m') kq = crashD (runR (S, []) (recS (S, [])) m') kq := if_pos p1
    rw [e2]; exact disk_small (storD_P p1)
  refine EvQ.bind (recover_ev _ hb) ?_
  rw [rec_crash hPC m' kq]
  have rr := rec_rec hPC
  obtain ⟨rl, rp⟩ := rec_len hPC
  have rv := rec_valid hPC
  generalize recD (S, []) = X at rr rl rp rv ⊢
  have hS0 : S0.length = 73 := d2.1
  refine EvL.ev ?_
  have := EvL.count (L := laws_FnRecover_l1) (r := true) (fun i => ((), st, (), (), (S0.length : Int), (i : Int), X, X, (S0, ([] : List PWrite)))) S0.length (fun i hi => ?_) (EvL.stop ?_)
  · simpa using this
  · have hr := readSector_ev X rv i (by omega)
    simp only [EvS, laws_FnRecover_l1, Int.ofNat_lt, hi, decide_true, cond_true, wsucc (show i < _ by omega)]
    by_cases c1 : (i : Int) < 1
    · simp only [c1, decide_true, cond_true]
      refine EvQ.bindS hr (EvQ.bindS hr ?_)
      simp only [eqS_refl, Bool.not_true, cond_false]
      exact EvQ.const _
    · by_cases c2 : (70 : Int) ≤ (i : Int)
      · simp only [c1, c2, decide_true, decide_false, cond_true, cond_false]
        refine EvQ.bindS hr (EvQ.bindS hr ?_)
        simp only [eqS_refl, Bool.not_true, cond_false]
        exact EvQ.const _
      · simp only [c1, c2, decide_false, cond_false]
        exact EvQ.const _
  · have c1 : (0 : Int) < (st.length : Int) := by omega
    have hX : X = (X.1, []) := by rw [← rp]
    have hsame : Ev (fun k => c_impl_SameDisk k (X, X)) true := by
      refine EvQ.run (fun k => impl_SameDisk_run k _ _) ?_
      simp only [impl_SameDisk]
      refine EvQ.bind (eqStr_ev X.1 (by omega)) ?_
      simp only [cond_true]
      rw [rp]
      exact EvQ.bind eqWr_ev (EvQ.const _)
    have hrec := recover_ev X (disk_small rv)
    rw [rr] at hrec
    have c2 : ((X.1.length : Int) == (S0.length : Int)) = true := by rw [beq_iff_eq]; omega
    simp only [laws_FnRecover_l1, Int.lt_irrefl, decide_false, cond_false, c1, decide_true, cond_true]
    refine EvQ.bindS hrec (EvQ.bindS hsame ?_)
    simp only [cond_true, c2]
    exact EvQ.const _
end Go.Proofs.Ytdbemlllcdpdbaa
