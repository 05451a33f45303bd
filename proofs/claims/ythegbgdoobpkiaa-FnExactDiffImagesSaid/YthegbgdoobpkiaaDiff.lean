/- The tables, the residual functions and lemmas of this seat: parts of the proof of the law; conditions: those that each names. -/
import Derived.Test.YthegbgdoobpkiaaStd
set_option linter.unusedVariables false
set_option linter.unusedSimpArgs false
set_option maxRecDepth 100000
namespace Go.Proofs.Ythegbgdoobpkiaa
open Go.Eng
theorem spec_l01In_ev (n lo hi : Int) : Ev (fun k => c_spec_l01In k (n, lo, hi)) (decide (lo ≤ n) && decide (n ≤ hi)) := by
  refine EvQ.run (fun k => spec_l01In_run k n lo hi) ?_
  simp only [spec_l01In]
  cases h : decide (lo ≤ n) with
  | true => simp only [cond_true, Bool.true_and]; exact EvQ.const _
  | false => simp only [cond_false, Bool.false_and]; exact EvQ.const _
def diffF (a : List ByteArray) (s : List DWrite) (i : Nat) (x : ByteArray) : List DWrite :=
  if ((i : Int) < 1 ∨ 70 ≤ (i : Int)) ∧ eqS x (a[i]?.getD ByteArray.empty) = false then s ++ [((i : Int), x)] else s
def diffI (a b : List ByteArray) : List DWrite :=
  if a.length = 186 ∧ b.length = 186 then foldE (R := List DWrite) (fun s i x => Sum.inl (diffF a s i x)) id [] 0 b else []
theorem diffF_len (a s i x) : (diffF a s i x).length ≤ s.length + 1 := by
  unfold diffF; split <;> simp
theorem spec_DiffImages_ev (a b : List ByteArray) : Ev (fun k => c_spec_DiffImages k (a, b)) (diffI a b) := by
  refine EvQ.run (fun k => spec_DiffImages_run k a b) ?_
  simp only [spec_DiffImages, diffI]
  by_cases ha : a.length = 186
  · by_cases hb : b.length = 186
    · rw [if_pos ⟨ha, hb⟩]
      have e1 : ((a.length : Int) != 186) = false := by rw [ha]; rfl
      have e2 : ((b.length : Int) != 186) = false := by rw [hb]; rfl
      simp only [e1, e2, cond_false]
      refine EvL.ev ?_
      refine EvL.fold (L := spec_DiffImages_l1) b (fun s i => (a, s, b, (b.length : Int), (i : Int))) _ _ (fun s i => s.length ≤ i) ?_ ?_ [] (by simp)
      · intro s i x hx hs
        have hi : i < b.length := (List.getElem?_eq_some_iff.1 hx).1
        have hai : a[i]? = some a[i] := List.getElem?_eq_getElem (by omega)
        have hcap : (s.length + ([((i : Int), x)] : List DWrite).length) * 24 ≤ capBytes := by simp only [List.length_singleton, capBytes]; omega
        refine ⟨?_, by have := diffF_len a s i x; omega⟩
        simp only [EvS, spec_DiffImages_l1, Int.toNat_natCast, hx, Option.bind_some, Int.natCast_nonneg, if_true, Int.ofNat_lt, hi, decide_true, cond_true, wrap_succ hi (by omega), hai, if_pos hcap, diffF, Option.getD_some]
        refine EvQ.bindS (spec_l01In_ev _ _ _) ?_
        by_cases hr : (i : Int) < 1 ∨ 70 ≤ (i : Int)
        · have h2 : (decide ((1 : Int) ≤ (i : Int)) && decide ((i : Int) ≤ 69)) = false := by
            rcases hr with h | h
            · have : ¬ (1 : Int) ≤ i := by omega
              simp [this]
            · have : ¬ (i : Int) ≤ 69 := by omega
              simp [this]
          simp only [h2, Bool.not_false, cond_true, hr, true_and]
          cases he : eqS x a[i] with
          | true => simp only [Bool.not_true, cond_false, Bool.true_eq_false, if_false]; exact EvQ.const _
          | false => simp only [Bool.not_false, cond_true, if_true]; exact EvQ.const _
        · have h2 : (decide ((1 : Int) ≤ (i : Int)) && decide ((i : Int) ≤ 69)) = true := by
            simp only [not_or, Int.not_lt, Int.not_le] at hr
            simp only [Bool.and_eq_true, decide_eq_true_eq]; omega
          simp only [h2, Bool.not_true, cond_false, hr, false_and, if_false]; exact EvQ.const _
      · intro s hs
        refine EvL.stop ?_
        simp only [spec_DiffImages_l1, Int.lt_irrefl, decide_false, cond_false, id]
        exact EvQ.const _
    · rw [if_neg (fun h => hb h.2)]
      have e1 : ((a.length : Int) != 186) = false := by rw [ha]; rfl
      have e2 : ((b.length : Int) != 186) = true := by rw [bne_iff_ne]; omega
      simp only [e1, e2, cond_false, cond_true]; exact EvQ.const _
  · rw [if_neg (fun h => ha h.1)]
    have e1 : ((a.length : Int) != 186) = true := by rw [bne_iff_ne]; omega
    simp only [e1, cond_true]; exact EvQ.const _
theorem impl_DiffImages_ev (a b : List ByteArray) : Ev (fun k => c_impl_DiffImages k (a, b)) (diffI a b) := by
  refine EvQ.run (fun k => impl_DiffImages_run k a b) ?_
  simp only [impl_DiffImages, diffI]
  by_cases ha : a.length = 186
  · by_cases hb : b.length = 186
    · rw [if_pos ⟨ha, hb⟩]
      have e1 : ((a.length : Int) != 186) = false := by rw [ha]; rfl
      have e2 : ((b.length : Int) != 186) = false := by rw [hb]; rfl
      simp only [e1, e2, cond_false]
      refine EvL.ev ?_
      refine EvL.fold (L := impl_DiffImages_l1) b (fun s i => (a, s, b, (b.length : Int), (i : Int))) _ _ (fun s i => s.length ≤ i) ?_ ?_ [] (by simp)
      · intro s i x hx hs
        have hi : i < b.length := (List.getElem?_eq_some_iff.1 hx).1
        have hai : a[i]? = some a[i] := List.getElem?_eq_getElem (by omega)
        have hcap : (s.length + ([((i : Int), x)] : List DWrite).length) * 24 ≤ capBytes := by simp only [List.length_singleton, capBytes]; omega
        refine ⟨?_, by have := diffF_len a s i x; omega⟩
        simp only [EvS, impl_DiffImages_l1, Int.toNat_natCast, hx, Option.bind_some, Int.natCast_nonneg, if_true, Int.ofNat_lt, hi, decide_true, cond_true, wrap_succ hi (by omega), hai, if_pos hcap, diffF, Option.getD_some]
        by_cases hr : (i : Int) < 1
        · simp only [hr, decide_true, cond_true, true_or, true_and]
          cases he : eqS x a[i] with
          | true => simp only [Bool.not_true, cond_false, Bool.true_eq_false, if_false]; exact EvQ.const _
          | false => simp only [Bool.not_false, cond_true, if_true]; exact EvQ.const _
        · by_cases hr2 : 70 ≤ (i : Int)
          · simp only [hr, hr2, decide_true, decide_false, cond_true, cond_false, false_or, true_and]
            cases he : eqS x a[i] with
            | true => simp only [Bool.not_true, cond_false, Bool.true_eq_false, if_false]; exact EvQ.const _
            | false => simp only [Bool.not_false, cond_true, if_true]; exact EvQ.const _
          · simp only [hr, hr2, decide_false, cond_false, or_self, false_and, if_false]; exact EvQ.const _
      · intro s hs
        refine EvL.stop ?_
        simp only [impl_DiffImages_l1, Int.lt_irrefl, decide_false, cond_false, id]
        exact EvQ.const _
    · rw [if_neg (fun h => hb h.2)]
      have e1 : ((a.length : Int) != 186) = false := by rw [ha]; rfl
      have e2 : ((b.length : Int) != 186) = true := by rw [bne_iff_ne]; omega
      simp only [e1, e2, cond_false, cond_true]; exact EvQ.const _
  · rw [if_neg (fun h => ha h.1)]
    have e1 : ((a.length : Int) != 186) = true := by rw [bne_iff_ne]; omega
    simp only [e1, cond_true]; exact EvQ.const _
theorem foldE_inv {α σ R : Type} (P : σ → Nat → Prop) (f : σ → Nat → α → σ) (fin : σ → R) (Q : R → Prop) (hs : ∀ s i x, P s i → P (f s i x) (i + 1)) (hf : ∀ s i, P s i → Q (fin s)) : ∀ (l : List α) (s : σ) (i : Nat), (∀ j s, j = i + l.length → P s j → Q (fin s)) → P s i → Q (foldE (fun s i x => Sum.inl (f s i x)) fin s i l)
  | [], s, i, _, h => hf s i h
  | x :: l, s, i, he, h => foldE_inv P f fin Q hs hf l (f s i x) (i + 1) (fun j s hj hp => hf s j hp) (hs s i x h)
theorem diffI_len (a b : List ByteArray) : (diffI a b).length ≤ 186 ∧ szM_WriteS (diffI a b) ≤ 186 + (b.map fun y => y.size).sum := by
  unfold diffI
  split
  · rename_i h
    have key : ∀ (l : List ByteArray) (s : List DWrite) (i : Nat), s.length ≤ i → (foldE (R := List DWrite) (fun s i x => Sum.inl (diffF a s i x)) id s i l).length ≤ i + l.length ∧
        ((foldE (R := List DWrite) (fun s i x => Sum.inl (diffF a s i x)) id s i l).map szM_Write).sum ≤ (s.map szM_Write).sum + (l.map fun y => y.size).sum := by
      intro l
      induction l with
      | nil => intro s i hs; simp [foldE]; exact hs
      | cons x l ih =>
        intro s i hs
        have h1 := diffF_len a s i x
        obtain ⟨k1, k2⟩ := ih (diffF a s i x) (i + 1) (by omega)
        have h2 : ((diffF a s i x).map szM_Write).sum ≤ (s.map szM_Write).sum + x.size := by
          unfold diffF
          split
          · simp [szM_Write]
          · omega
        simp only [foldE, List.length_cons, List.map_cons, List.sum_cons]
        exact ⟨by omega, by omega⟩
    obtain ⟨k1, k2⟩ := key b [] 0 (by simp)
    simp only [szM_WriteS, List.map_nil, List.sum_nil] at k2 ⊢
    exact ⟨by omega, by omega⟩
  · simp [szM_WriteS]
theorem laws_FnExactDiffImages_ev (x0 x1 : List ByteArray) (hx0 : okD (.list false .str) x0) (hx1 : okD (.list false .str) x1) : Ev (fun k => c_laws_FnExactDiffImages k (x0, x1)) true := by
  refine EvQ.run (fun k => laws_FnExactDiffImages_run k x0 x1) ?_
  simp only [laws_FnExactDiffImages]
  refine EvQ.bind (szStringS_ev x0 hx0 (left := 1048576) (by omega) (by omega)) ?_
  by_cases c0 : szR (szM_StringS x0) (1048576) < 0
  · simp only [c0, decide_true, cond_true]; exact EvQ.const _
  obtain ⟨d0, e0⟩ := szR_nonneg c0
  simp only [c0, decide_false, cond_false]
  try simp only [e0]
  refine EvQ.bind (szStringS_ev x1 hx1 (left := 1048576 - ((szM_StringS x0) : Int)) (by omega) (by omega)) ?_
  by_cases c1 : szR (szM_StringS x1) (1048576 - ((szM_StringS x0) : Int)) < 0
  · simp only [c1, decide_true, cond_true]; exact EvQ.const _
  obtain ⟨d1, e1⟩ := szR_nonneg c1
  simp only [c1, decide_false, cond_false]
  try simp only [e1]
  have hs0 : szM_StringS x0 = x0.length + (x0.map fun y => y.size).sum := rfl
  have hs1 : szM_StringS x1 = x1.length + (x1.map fun y => y.size).sum := rfl
  obtain ⟨l1, l2⟩ := diffI_len x0 x1
  have l3 : szM_WriteS (diffI x0 x1) ≤ 1073741824 := by omega
  have hspec := spec_DiffImages_ev x0 x1
  have himpl := impl_DiffImages_ev x0 x1
  refine EvQ.bind (toStringS_ev _ (by omega)) ?_
  refine EvQ.bind (toStringS_ev _ (by omega)) ?_
  refine EvQ.bind hspec ?_
  refine EvQ.bind (toStringS_ev _ (by omega)) ?_
  refine EvQ.bind (toStringS_ev _ (by omega)) ?_
  refine EvQ.bind himpl ?_
  refine EvQ.bind (eqWriteS_ev _ (by omega)) ?_
  simp only [bne_self_eq_false, eqS_refl, Bool.not_true, Bool.not_false, cond_false, cond_true]
  refine EvQ.bind (toStringS_ev _ (by omega)) ?_
  refine EvQ.bind (eqStringS_ev _ (by omega)) ?_
  simp only [bne_self_eq_false, eqS_refl, Bool.not_true, Bool.not_false, cond_false, cond_true]
  refine EvQ.bind (toStringS_ev _ (by omega)) ?_
  refine EvQ.bind (eqStringS_ev _ (by omega)) ?_
  simp only [bne_self_eq_false, eqS_refl, Bool.not_true, Bool.not_false, cond_false, cond_true]
  refine EvQ.bind (markStringS_ev _ _ (by omega) (by omega)) ?_
  refine EvQ.bind (markStringS_ev _ _ (by omega) (by omega)) ?_
  rw [decide_neg_of _ (by omega)]
  simp only [cond_false]
  refine EvQ.bind (eqWriteS_ev _ (by omega)) ?_
  simp only [bne_self_eq_false, eqS_refl, Bool.not_true, Bool.not_false, cond_false, cond_true]
  refine EvQ.bind (markWriteS_ev _ _ (by omega) (by omega)) ?_
  refine EvQ.bind (heldWriteS_ev _ _ (by omega) (by omega)) ?_
  rw [decide_neg_of _ (by omega)]
  simp only [cond_false]
  simp only [bne_self_eq_false, eqS_refl, Bool.not_true, Bool.not_false, cond_false, cond_true]
  refine EvQ.bind (toStringS_ev _ (by omega)) ?_
  refine EvQ.bind (toStringS_ev _ (by omega)) ?_
  refine EvQ.bind himpl ?_
  refine EvQ.bind (eqWriteS_ev _ (by omega)) ?_
  simp only [bne_self_eq_false, eqS_refl, Bool.not_true, Bool.not_false, cond_false, cond_true]
  refine EvQ.bind (heldWriteS_ev _ _ (by omega) (by omega)) ?_
  rw [decide_neg_of _ (by omega)]
  simp only [cond_false]
  simp only [bne_self_eq_false, eqS_refl, Bool.not_true, Bool.not_false, cond_false, cond_true]
  exact EvQ.const _
end Go.Proofs.Ythegbgdoobpkiaa
