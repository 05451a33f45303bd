/- For every string, the program's SumOfText and the reference's SumOfText return the same number. No condition. -/
import Derived.Test.YtipgcaklbdnbbaaPFnExactSumOfTextx1
namespace Go.Proofs.Ytipgcaklbdnbbaa.Pure
open Go.RowKit Go.Proofs.Ytipgcaklbdnbbaa.PFnExactSumOfText Go.Proofs.YtipgcaklbdnbbaaW.PrintWords Go.Proofs.YtipgcaklbdnbbaaW.PrintLast

theorem wrap_step {i : Int} {n : Nat} (h0 : 0 ≤ i) (h : i < (n : Int)) (hn : n ≤ 140737488351232) : wrap64 (i + 1) = i + 1 := by
  unfold wrap64
  omega

theorem both (s : ByteArray) (hn : s.size ≤ 140737488351232) (d : Nat) : ∀ (k : Nat) (x i : Int), 0 ≤ i → i ≤ s.size → (s.size : Int) - i = d → d < k →
    ∃ r, spec_SumOfText.l0 k s x i = some r ∧ impl_SumOfText.l0 k s x (s.size : Int) i = some r := by
  induction d with
  | zero =>
    intro k x i h0 h1 hd hk
    obtain ⟨k, rfl⟩ : ∃ m, k = m + 1 := ⟨k - 1, by omega⟩
    exact ⟨x, by simp only [spec_SumOfText.l0]; rw [if_neg (by omega)], by simp only [impl_SumOfText.l0]; rw [if_neg (by omega)]⟩
  | succ d ih =>
    intro k x i h0 h1 hd hk
    obtain ⟨k, rfl⟩ : ∃ m, k = m + 1 := ⟨k - 1, by omega⟩
    have hlt : i < (s.size : Int) := by omega
    obtain ⟨r, ha, hb⟩ := ih k (Int.tmod (wrap64 ((wrap64 (31 * x)) + (wrap64 (bt s i)))) 65521) (i + 1) (by omega) (by omega) (by omega) (by omega)
    refine ⟨r, ?_, ?_⟩
    · simp only [spec_SumOfText.l0]; rw [if_pos hlt, if_pos h0, wrap_step h0 hlt hn]; exact ha
    · simp only [impl_SumOfText.l0]; rw [if_pos hlt, if_pos h0, if_pos hlt, wrap_step h0 hlt hn]; exact hb

theorem FnExactSumOfText : laws_FnExactSumOfText.Pure := by
  intro s hn
  obtain ⟨r, ha, hb⟩ := both s hn s.size (s.size + 1) 7 0 (by omega) (by omega) (by omega) (by omega)
  refine ⟨s.size + 1, ?_⟩
  unfold laws_FnExactSumOfText.f spec_SumOfText.f impl_SumOfText.f
  rw [ha, hb]
  simp

end Go.Proofs.Ytipgcaklbdnbbaa.Pure
