/- The tables, the residual functions and lemmas of this seat: parts of the proof of the law; conditions: those that each names. -/
import Derived.Test.YtdbemlllcdpdbaaJrn
set_option linter.unusedVariables false
set_option linter.unusedSimpArgs false
set_option maxRecDepth 100000
namespace Go.Proofs.Ytdbemlllcdpdbaa
open Go.Eng
/-! Recovery, and recovery behind a crash of a recovery -/
noncomputable def recD (d : PDisk) : PDisk := runR d (recS d) (recS d).length
theorem recD_no {c : PDisk} (h : ¬ jOK c) : recD c = c := by
  unfold recD runR
  split
  · simp [recS, if_neg h, runT]
  · rfl
/-- The sectors with a list's writes made. -/
def insT (S : List ByteArray) (l : List PWrite) : List ByteArray := storT (fun _ => true) (S, l) l.length
theorem storT_take (f : Nat → Bool) (S : List ByteArray) (l : List PWrite) (m : Nat) : ∀ i, i ≤ m → storT f (S, l.take m) i = storT f (S, l) i
  | 0, _ => rfl
  | i + 1, h => by
    have ih := storT_take f S l m i (by omega)
    have : (l.take m)[i]? = l[i]? := by rw [List.getElem?_take, if_pos (by omega)]
    simp only [storT, this, ih]
theorem storT_off (f : Nat → Bool) (S : List ByteArray) (l : List PWrite) (j : Nat) (hj : ∀ (m : Nat) w, l[m]? = some w → w.1.toNat ≠ j) : ∀ i, (storT f (S, l) i)[j]? = S[j]?
  | 0 => rfl
  | i + 1 => by
    have ih := storT_off f S l j hj i
    simp only [storT]
    cases hw : l[i]? with
    | none => exact ih
    | some w =>
      cases f i with
      | false => exact ih
      | true =>
        simp only [cond_true, List.getElem?_set]
        rw [if_neg (hj i w hw)]
        exact ih
theorem storT_over (S1 S2 : List ByteArray) (l : List PWrite) (hl : S1.length = S2.length) (j : Nat) : ∀ i, ((∃ (m : Nat) (w : PWrite), m < i ∧ l[m]? = some w ∧ w.1.toNat = j) ∨ S1[j]? = S2[j]?) → (storT (fun _ => true) (S1, l) i)[j]? = (storT (fun _ => true) (S2, l) i)[j]?
  | 0, h => by
    rcases h with ⟨m, w, h, _⟩ | h
    · omega
    · exact h
  | i + 1, h => by
    simp only [storT]
    cases hw : l[i]? with
    | none =>
      refine storT_over S1 S2 l hl j i ?_
      rcases h with ⟨m, w, h1, h2, h3⟩ | h
      · by_cases e : m = i
        · subst e; rw [hw] at h2; cases h2
        · exact .inl ⟨m, w, by omega, h2, h3⟩
      · exact .inr h
    | some w =>
      simp only [cond_true, List.getElem?_set]
      have e1 := storT_len (fun _ => true) (S1, l) i
      have e2 := storT_len (fun _ => true) (S2, l) i
      by_cases e : w.1.toNat = j
      · rw [if_pos e, if_pos e, e1, e2]
        simp only [hl]
      · rw [if_neg e, if_neg e]
        refine storT_over S1 S2 l hl j i ?_
        rcases h with ⟨m, w', h1, h2, h3⟩ | h
        · by_cases e' : m = i
          · subst e'; rw [hw] at h2; cases h2; exact absurd h3 e
          · exact .inl ⟨m, w', by omega, h2, h3⟩
        · exact .inr h
/-- Sectors that differ at the list's places at most. -/
def nearS (S1 S2 : List ByteArray) (l : List PWrite) : Prop := S1.length = S2.length ∧ ∀ j, (∀ (m : Nat) w, l[m]? = some w → w.1.toNat ≠ j) → S1[j]? = S2[j]?
theorem ins_near {S1 S2 : List ByteArray} {l : List PWrite} (h : nearS S1 S2 l) : insT S1 l = insT S2 l := by
  refine List.ext_getElem? fun j => storT_over S1 S2 l h.1 j _ ?_
  by_cases hj : ∃ (m : Nat) (w : PWrite), l[m]? = some w ∧ w.1.toNat = j
  · obtain ⟨m, w, h1, h2⟩ := hj
    exact .inl ⟨m, w, (List.getElem?_eq_some_iff.1 h1).1, h1, h2⟩
  · exact .inr (h.2 j fun m w h1 h2 => hj ⟨m, w, h1, h2⟩)
/-! What a disk without pending writes reads as -/
theorem readD_nil {S : List ByteArray} (i : Nat) : readD (S, []) i = S.getD i ⟨#[]⟩ := rfl
theorem jT_congr {S1 S2 : List ByteArray} (h : ∀ i, 1 ≤ i → i < 70 → S1[i]? = S2[i]?) : ∀ i, i ≤ 64 → jT (S1, []) i = jT (S2, []) i
  | 0, _ => rfl
  | i + 1, hi => by
    have h1 := h (2 + i / 16) (by omega) (by omega)
    have h2 := h (6 + i) (by omega) (by omega)
    simp only [jT, jT_congr h i (by omega), readD_nil, List.getD, h1, h2]
theorem head_congr {S1 S2 : List ByteArray} (h : ∀ i, 1 ≤ i → i < 70 → S1[i]? = S2[i]?) : jHead (S1, []) = jHead (S2, []) := by
  simp only [jHead, readD_nil, List.getD, h 1 (by omega) (by omega)]
theorem zero_head : getN zero32 8 2 = 0 := by decide
/-- Behind a recovery there is nothing to recover. -/
theorem not_ok_zero {S : List ByteArray} (h : S[1]? = some zero32) : ¬ jOK (S, []) := fun hP => by
  have h1 := hP.2.2.1
  have : jHead (S, []) = zero32 := by simp only [jHead, readD_nil, List.getD, h, Option.getD_some]
  simp only [jN, this, zero_head] at h1
  omega
section
variable {S : List ByteArray}
theorem runT_writes (S : List ByteArray) (l : List PWrite) (rest : List PStep) (hw : ∀ (i : Nat) w, l[i]? = some w → 0 ≤ w.1 ∧ w.1 < (S.length : Int) ∧ w.2.size = 32) (hl : l.length ≤ 64) : ∀ k, k ≤ l.length → runT (S, []) (wrS l ++ rest) k = (S, l.take k)
  | 0, _ => rfl
  | k + 1, hk => by
    have ih := runT_writes S l rest hw hl k (by omega)
    obtain ⟨w, hx⟩ : ∃ w, l[k]? = some w := ⟨_, List.getElem?_eq_getElem (show k < l.length by omega)⟩
    have hs : (wrS l ++ rest)[k]? = some (false, w) := by
      rw [List.getElem?_append_left (by simp [wrS]; omega)]
      simp [wrS, hx]
    obtain ⟨a1, a2, a3⟩ := hw k w hx
    have hok : wrOK (S, l.take k) w.1 w.2 := ⟨a1, a2, a3, by rw [List.length_take]; omega⟩
    simp only [runT, hs, ih, stepD, cond_false, writeD, if_pos hok]
    rw [List.take_add_one, hx]; rfl
theorem zero32_size : zero32.size = 32 := by decide
theorem recS_yes {c : PDisk} (h : jOK c) : recS c = wrS (jT c (jN c)) ++ clearS := if_pos h
/-- The states of a recovery. -/
theorem run_states (h : jOK (S, [])) (l : List PWrite) (hl : jT (S, []) (jN (S, [])) = l) (k : Nat) (hk : k ≤ l.length + 3) :
    (k ≤ l.length ∧ runT (S, []) (wrS l ++ clearS) k = (S, l.take k)) ∨ (k = l.length + 1 ∧ runT (S, []) (wrS l ++ clearS) k = (insT S l, [])) ∨
    (k = l.length + 2 ∧ runT (S, []) (wrS l ++ clearS) k = (insT S l, [((1 : Int), zero32)])) ∨ (k = l.length + 3 ∧ runT (S, []) (wrS l ++ clearS) k = ((insT S l).set 1 zero32, [])) := by
  have hT := h.2.2.2.2.1
  rw [hl] at hT
  have hw : ∀ (i : Nat) w, l[i]? = some w → 0 ≤ w.1 ∧ w.1 < (S.length : Int) ∧ w.2.size = 32 := fun i w hi => ⟨(hT.tw i w hi).1.1, (hT.tw i w hi).1.2, (hT.tw i w hi).2.2.1⟩
  have h70 := h.2.1
  have n2 := hT.n2
  have r0 := runT_writes S l clearS hw n2
  have wl : (wrS l).length = l.length := by simp [wrS]
  have s1 : (wrS l ++ clearS)[l.length]? = some (true, ((0 : Int), ByteArray.empty)) := by rw [List.getElem?_append_right (by omega), wl, Nat.sub_self]; rfl
  have s2 : (wrS l ++ clearS)[l.length + 1]? = some (false, ((1 : Int), zero32)) := by rw [List.getElem?_append_right (by omega), wl, Nat.add_sub_cancel_left]; rfl
  have s3 : (wrS l ++ clearS)[l.length + 2]? = some (true, ((0 : Int), ByteArray.empty)) := by rw [List.getElem?_append_right (by omega), wl, Nat.add_sub_cancel_left]; rfl
  have r1 : runT (S, []) (wrS l ++ clearS) (l.length + 1) = (insT S l, []) := by
    simp only [runT, s1, r0 _ (Nat.le_refl _), stepD, cond_true, flushD, storD, List.take_length]; rfl
  have hlen : (insT S l).length = S.length := storT_len _ _ _
  have r2 : runT (S, []) (wrS l ++ clearS) (l.length + 2) = (insT S l, [((1 : Int), zero32)]) := by
    have : runT (S, []) (wrS l ++ clearS) (l.length + 2) = stepD (runT (S, []) (wrS l ++ clearS) (l.length + 1)) (false, ((1 : Int), zero32)) := by
      simp only [runT, s2]
    rw [this, r1]
    have hok : wrOK (insT S l, []) 1 zero32 := ⟨by omega, by show (1 : Int) < ((insT S l).length : Int); rw [hlen]; have : 70 ≤ S.length := h70; omega, zero32_size, by show 0 < 400; omega⟩
    simp only [stepD, cond_false, writeD, if_pos hok]; rfl
  have r3 : runT (S, []) (wrS l ++ clearS) (l.length + 3) = ((insT S l).set 1 zero32, []) := by
    have : runT (S, []) (wrS l ++ clearS) (l.length + 3) = stepD (runT (S, []) (wrS l ++ clearS) (l.length + 2)) (true, ((0 : Int), ByteArray.empty)) := by
      simp only [runT, s3]
    rw [this, r2]
    rfl
  rcases Nat.lt_or_ge l.length k with hlt | hge
  · have : k = l.length + 1 ∨ k = l.length + 2 ∨ k = l.length + 3 := by omega
    rcases this with rfl | rfl | rfl
    · exact .inr (.inl ⟨rfl, r1⟩)
    · exact .inr (.inr (.inl ⟨rfl, r2⟩))
    · exact .inr (.inr (.inr ⟨rfl, r3⟩))
  · exact .inl ⟨hge, r0 k hge⟩
theorem recD_yes (h : jOK (S, [])) {l : List PWrite} (hl : jT (S, []) (jN (S, [])) = l) : recD (S, []) = ((insT S l).set 1 zero32, []) := by
  unfold recD runR
  rw [if_pos h.1, recS_yes h, hl]
  have hlen : (wrS l ++ clearS).length = l.length + 3 := by simp [wrS, clearS]
  have hm : (max (0 : Int) (min ((wrS l ++ clearS).length : Int) ((wrS l ++ clearS).length : Int))).toNat = l.length + 3 := by omega
  rw [hm]
  rcases run_states h l hl (l.length + 3) (Nat.le_refl _) with ⟨h1, _⟩ | ⟨h1, _⟩ | ⟨h1, _⟩ | ⟨_, h2⟩
  · omega
  · omega
  · omega
  · exact h2
theorem off_list {d : PDisk} {l : List PWrite} (hT : txnP d l) : ∀ (m : Nat) w, l[m]? = some w → ∀ j, 1 ≤ j → j < 70 → w.1.toNat ≠ j := fun m w hw j h1 h2 e => by
  obtain ⟨⟨a1, _⟩, a2, _, _⟩ := hT.tw m w hw
  omega
/-- A disk near one that is to be recovered recovers alike. -/
theorem near_rec (h : jOK (S, [])) {l : List PWrite} (hl : jT (S, []) (jN (S, [])) = l) {S' : List ByteArray} (hD : diskP (S', [])) (hn : nearS S' S l) : recD (S', []) = recD (S, []) := by
  have hT := h.2.2.2.2.1
  rw [hl] at hT
  have hj : ∀ i, 1 ≤ i → i < 70 → S'[i]? = S[i]? := fun i h1 h2 => hn.2 i fun m w hw => off_list hT m w hw i h1 h2
  have e1 := head_congr hj
  have e2 : jN (S', []) = jN (S, []) := by simp only [jN, e1]
  have e3 : jSeq (S', []) = jSeq (S, []) := by simp only [jSeq, e1]
  have e4 : jT (S', []) (jN (S', [])) = l := by rw [e2, jT_congr hj _ h.2.2.2.1, hl]
  have h' : jOK (S', []) := by
    refine ⟨hD, by show 70 ≤ S'.length; rw [hn.1]; exact h.2.1, by rw [e2]; exact h.2.2.1, by rw [e2]; exact h.2.2.2.1, ?_, ?_⟩
    · rw [e4]
      exact ⟨hD, by show 70 ≤ S'.length; rw [hn.1]; exact h.2.1, hT.n1, hT.n2, fun i w hw => by
        have := hT.tw i w hw
        exact ⟨⟨this.1.1, by show w.1 < (S'.length : Int); rw [hn.1]; exact this.1.2⟩, this.2⟩⟩
    · rw [e4, e1, e3, ← hl]; exact h.2.2.2.2.2
  rw [recD_yes h' e4, recD_yes h hl, ins_near hn]
theorem rec_valid {c : PDisk} (h : diskP c) : diskP (recD c) := by
  unfold recD runR
  rw [if_pos h]
  exact runT_P h _ _
theorem rec_rec (h : diskP (S, [])) : recD (recD (S, [])) = recD (S, []) := by
  by_cases hj : jOK (S, [])
  · rw [recD_yes hj rfl]
    refine recD_no (not_ok_zero ?_)
    have hlen : (insT S (jT (S, []) (jN (S, [])))).length = S.length := storT_len _ _ _
    have : 70 ≤ S.length := hj.2.1
    rw [List.getElem?_set, if_pos rfl, if_pos (by omega)]
  · rw [recD_no hj, recD_no hj]
theorem rec_len (h : diskP (S, [])) : (recD (S, [])).1.length = S.length ∧ (recD (S, [])).2 = [] := by
  by_cases hj : jOK (S, [])
  · rw [recD_yes hj rfl]
    refine ⟨?_, rfl⟩
    show ((insT S _).set 1 zero32).length = _
    rw [List.length_set]; exact storT_len _ _ _
  · rw [recD_no hj]; exact ⟨rfl, rfl⟩
/-- **A crash of a recovery does not change what recovery yields.** -/
theorem rec_crash (h : diskP (S, [])) (n : Int) (keep : List Bool) : recD (crashR (runR (S, []) (recS (S, [])) n) keep) = recD (S, []) := by
  by_cases hj : jOK (S, [])
  · generalize hl : jT (S, []) (jN (S, [])) = l
    have hT := hj.2.2.2.2.1
    rw [hl] at hT
    have hR : runR (S, []) (recS (S, [])) n = runT (S, []) (wrS l ++ clearS) (max 0 (min n ((wrS l ++ clearS).length : Int))).toNat := by
      unfold runR
      rw [if_pos h, recS_yes hj, hl]
    have hlen : (wrS l ++ clearS).length = l.length + 3 := by simp [wrS, clearS]
    rw [hR]
    generalize hk : (max 0 (min n ((wrS l ++ clearS).length : Int))).toNat = k
    have hk3 : k ≤ l.length + 3 := by omega
    have hP := runT_P h (wrS l ++ clearS) k
    have hC : crashR (runT (S, []) (wrS l ++ clearS) k) keep = crashD (runT (S, []) (wrS l ++ clearS) k) keep := if_pos hP
    rw [hC]
    have hPC := storD_P (f := keepF keep) hP
    have x1 : recD (S, []) = ((insT S l).set 1 zero32, []) := recD_yes hj hl
    have hlenI : (insT S l).length = S.length := storT_len _ _ _
    have fin : recD ((insT S l).set 1 zero32, []) = recD (S, []) := by rw [← x1]; exact rec_rec h
    have near : ∀ (f : Nat → Bool) (i : Nat), nearS (storT f (S, l) i) S l := fun f i => ⟨storT_len f (S, l) i, fun j hj => storT_off f S l j hj i⟩
    rcases run_states hj l hl k hk3 with ⟨h1, h2⟩ | ⟨h1, h2⟩ | ⟨h1, h2⟩ | ⟨h1, h2⟩
    · rw [h2] at hPC ⊢
      have e : crashD (S, l.take k) keep = (storT (keepF keep) (S, l) k, []) := by
        have : (l.take k).length = k := by rw [List.length_take]; omega
        simp only [crashD, storD, this, storT_take _ _ _ _ k (Nat.le_refl _)]
      rw [e]
      have hPC : diskP (crashD (S, l.take k) keep) := hPC
      rw [e] at hPC
      exact near_rec hj hl hPC (near _ _)
    · rw [h2] at hPC ⊢
      have e : crashD (insT S l, []) keep = (insT S l, []) := rfl
      rw [e]
      have hPC : diskP (crashD (insT S l, []) keep) := hPC
      rw [e] at hPC
      exact near_rec hj hl hPC (near _ _)
    · rw [h2] at hPC ⊢
      have hPC : diskP (crashD (insT S l, [((1 : Int), zero32)]) keep) := hPC
      have e : crashD (insT S l, [((1 : Int), zero32)]) keep = ((bif keepF keep 0 then (insT S l).set 1 zero32 else insT S l), []) := rfl
      rw [e] at hPC ⊢
      cases hb : keepF keep 0 with
      | false =>
        rw [hb] at hPC
        simp only [cond_false] at hPC ⊢
        exact near_rec hj hl hPC (near _ _)
      | true => simp only [cond_true]; exact fin
    · rw [h2]
      exact fin
  · have hR : runR (S, []) (recS (S, [])) n = (S, []) := by
      unfold runR
      rw [if_pos h]
      have : recS (S, []) = [] := if_neg hj
      rw [this]
      have : (max (0 : Int) (min n (([] : List PStep).length : Int))).toNat = 0 := by
        have : (([] : List PStep).length : Int) = 0 := rfl
        omega
      rw [this]; rfl
    have hC : crashR (S, []) keep = (S, []) := if_pos h
    rw [hR, hC]
end
end Go.Proofs.Ytdbemlllcdpdbaa
