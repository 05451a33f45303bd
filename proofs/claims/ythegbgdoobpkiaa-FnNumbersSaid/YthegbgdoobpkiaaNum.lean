/- The tables, the residual functions and lemmas of this seat: parts of the proof of the law; conditions: those that each names. -/
import Derived.Test.YthegbgdoobpkiaaGen
set_option linter.unusedVariables false
set_option linter.unusedSimpArgs false
set_option maxRecDepth 100000
namespace Go.Proofs.Ythegbgdoobpkiaa
open Go.Eng
theorem makeNum_ev (x : List Int) (hx : x.length ≤ 1048576) : ∃ n, Ev (fun k => c_spec_MakeNum k (x, (3 : Int))) n ∧ 0 ≤ n ∧ n ≤ 65535 := by
  obtain ⟨r, h1, h2⟩ : ∃ r : Int, EvL (fun k => spec_MakeNum_l2 k 3) (x, (wrapK .i64 ((1263 : Int) + (x.length : Int))), (0 : Int)) r ∧ (0 ≤ r ∧ r ≤ 65535) := by
    refine hash_ev (L := fun k => spec_MakeNum_l2 k 3) (Q := (fun n : Int => 0 ≤ n ∧ n ≤ 65535)) hx (fun k self d => by
        simp only [spec_MakeNum_l2, Int.lt_irrefl, decide_false, cond_false]) (fun h => ?_) (wrapK .i64 ((1263 : Int) + (x.length : Int)))
    obtain ⟨r, h1, h2⟩ := skip_ev (L := spec_MakeNum_l1) (Q := fun n => 0 ≤ n ∧ n ≤ 65535) 3 (by omega) (fun k self d => by
      cases hd : decide (d.2.2.1 < d.1) <;> simp only [spec_MakeNum_l1, hd, cond_true, cond_false]) (fun i c hi hc => by
      obtain ⟨v1, c1, a1, a2, a3, a4⟩ := byte_ev c hc
      obtain ⟨v2, c2, b1, b2, b3, b4⟩ := byte_ev c1 a2
      have w1 : wrapK .i64 (v1 * 256) = v1 * 256 := by rw [wrapK, wrap_i64 (by omega) (by omega)]
      have w2 : wrapK .i64 (v1 * 256 + v2) = v1 * 256 + v2 := by rw [wrapK, wrap_i64 (by omega) (by omega)]
      refine ⟨v1 * 256 + v2, ?_, by omega, by omega⟩
      have hi' : ¬ i < ((3 : Nat) : Int) := by omega
      simp only [spec_MakeNum_l1, hi', decide_false, cond_false]
      refine EvQ.bind a1 (EvQ.bind b1 ?_)
      simp only [w1, w2]
      exact EvQ.const _) (x, 0, h) ⟨hx, by simp⟩
    refine ⟨r, ?_, h2⟩
    simp only [spec_MakeNum_l2, Int.lt_irrefl, decide_false, cond_false]
    exact h1.ev
  exact ⟨r, EvQ.run (fun k => spec_MakeNum_run k _ _) h1.ev, h2⟩
theorem makeBytes_ev (x : List Int) (hx : x.length ≤ 1048576) : ∃ s, Ev (fun k => c_spec_MakeBytes k (x, (5 : Int))) s ∧ s.size ≤ 40 := by
  obtain ⟨r, h1, h2⟩ : ∃ r : ByteArray, EvL (fun k => spec_MakeBytes_l2 k 5) (x, (wrapK .i64 ((1263 : Int) + (x.length : Int))), (0 : Int)) r ∧ (r.size ≤ 40) := by
    refine hash_ev (L := fun k => spec_MakeBytes_l2 k 5) (Q := (fun s : ByteArray => s.size ≤ 40)) hx (fun k self d => by
        simp only [spec_MakeBytes_l2, Int.lt_irrefl, decide_false, cond_false]) (fun h => ?_) (wrapK .i64 ((1263 : Int) + (x.length : Int)))
    obtain ⟨r, h1, h2⟩ := skip_ev (L := spec_MakeBytes_l1) (Q := fun s => s.size ≤ 40) 5 (by omega) (fun k self d => by
      cases hd : decide (d.2.2.1 < d.1) <;> simp only [spec_MakeBytes_l1, hd, cond_true, cond_false]) (fun i c hi hc => by
      obtain ⟨s, c1, a1, a2, a3⟩ := bytes_ev c hc 40 (by omega)
      refine ⟨s, ?_, a3⟩
      have hi' : ¬ i < ((5 : Nat) : Int) := by omega
      simp only [spec_MakeBytes_l1, hi', decide_false, cond_false]
      refine EvQ.bind a1 ?_
      exact EvQ.const _) (x, 0, h) ⟨hx, by simp⟩
    refine ⟨r, ?_, h2⟩
    simp only [spec_MakeBytes_l2, Int.lt_irrefl, decide_false, cond_false]
    exact h1.ev
  exact ⟨r, EvQ.run (fun k => spec_MakeBytes_run k _ _) h1.ev, h2⟩
/-! ### Numbers -/
def numBytes (n : Nat) : List Int := [((n / 16777216 % 256 : Nat) : Int), ((n / 65536 % 256 : Nat) : Int), ((n / 256 % 256 : Nat) : Int), ((n % 256 : Nat) : Int)]
theorem fdiv_256 (n : Nat) : (n : Int).fdiv (2 ^ (min (8 : Int).toNat (IntKind.bits .i64))) = ((n / 256 : Nat) : Int) := by
  have : (2 : Int) ^ (min (8 : Int).toNat (IntKind.bits .i64)) = 256 := rfl
  rw [this, Int.fdiv_eq_ediv_of_nonneg _ (by omega)]; omega
theorem wrap_u8_nat (n : Nat) : wrapK .u8 (n : Int) = ((n % 256 : Nat) : Int) := by rw [wrapK, wrap_u8_mod]; omega
theorem put_round (n i : Nat) (b : List Int) (hi : i < b.length) (hb : b.length < 100) : EvS impl_PutNumber_l1 ((n : Int), b, (i : Int)) (((n / 256 : Nat) : Int), b.set i ((n % 256 : Nat) : Int), (i : Int) - 1) := by
  have hw : wrapK .i64 ((i : Int) - 1) = (i : Int) - 1 := by rw [wrapK, wrap_i64 (by omega) (by omega)]
  have hl : (i : Int) < (b.length : Int) := by omega
  simp only [EvS, impl_PutNumber_l1, Int.natCast_nonneg, decide_true, cond_true, if_true, if_pos hl, Int.toNat_natCast, List.getElem?_eq_getElem hi, Option.bind_some, if_pos (show (0 : Int) ≤ 8 by decide), fdiv_256, wrap_u8_nat, hw]
  exact EvQ.const _
theorem putNumber_ev (n : Nat) (hn : n ≤ 65535) : Ev (fun k => c_impl_PutNumber k ((n : Int), (4 : Int))) (ofBytes (numBytes n)) := by
  refine EvQ.run (fun k => impl_PutNumber_run k _ _) ?_
  have h1 : ¬ (n : Int) < 0 := by omega
  have h2 : ¬ (wrapK .i64 ((1 : Int) * 2 ^ (min (wrapK .i64 ((8 : Int) * 4)).toNat (IntKind.bits .i64)))) ≤ (n : Int) := by
    have : (wrapK .i64 ((1 : Int) * 2 ^ (min (wrapK .i64 ((8 : Int) * 4)).toNat (IntKind.bits .i64)))) = 4294967296 := by kernel_rfl
    rw [this]; omega
  simp only [impl_PutNumber, show decide ((4 : Int) < 1) = false from rfl, show decide ((6 : Int) < 4) = false from rfl, cond_false, h1, decide_false, if_pos (show (0 : Int) ≤ wrapK .i64 ((8 : Int) * 4) by decide), h2, if_pos (show (0 : Int) ≤ 4 by decide), if_pos (show (4 : Int) ≤ 4 by decide), if_pos (show (4 : Int) * 1 ≤ (capBytes : Int) by decide)]
  refine EvL.ev ?_
  show EvL impl_PutNumber_l1 ((n : Int), [0, 0, 0, 0], ((3 : Nat) : Int)) _
  refine EvL.step (put_round n 3 _ (by simp) (by simp)) ?_
  refine EvL.step (put_round (n / 256) 2 _ (by simp) (by simp)) ?_
  refine EvL.step (put_round (n / 256 / 256) 1 _ (by simp) (by simp)) ?_
  refine EvL.step (put_round (n / 256 / 256 / 256) 0 _ (by simp) (by simp)) ?_
  refine EvL.stop ?_
  have e : ([0, 0, 0, 0].set 3 ((n % 256 : Nat) : Int)).set 2 ((n / 256 % 256 : Nat) : Int) = [0, 0, ((n / 256 % 256 : Nat) : Int), ((n % 256 : Nat) : Int)] := rfl
  simp only [impl_PutNumber_l1, show decide ((0 : Int) ≤ ((0 : Nat) : Int) - 1) = false from rfl, cond_false, List.set_cons_succ, List.set_cons_zero]
  have d1 : n / 256 / 256 = n / 65536 := by omega
  have d2 : n / 65536 / 256 = n / 16777216 := by omega
  rw [d1, d2]
  exact EvQ.const _
theorem get_round (s : ByteArray) (v i : Nat) (b : UInt8) (hb : s[1 + i]? = some b) (hv : v < 1099511627776) (hi : i < 4) :
    EvS impl_GetNumber_l1 (s, (1 : Int), (v : Int), (4 : Int), (i : Int)) (s, (1 : Int), ((v * 256 + b.toNat : Nat) : Int), (4 : Int), ((i + 1 : Nat) : Int)) := by
  have hw : wrapK .i64 ((i : Int) + 1) = ((i + 1 : Nat) : Int) := wrap_succ hi (by omega)
  have hw1 : wrapK .i64 ((1 : Int) + (i : Int)) = ((1 + i : Nat) : Int) := by rw [wrapK, wrap_i64 (by omega) (by omega)]; omega
  have hl : (i : Int) < 4 := by omega
  have hlt := b.toNat_lt
  have w2 : wrapK .i64 ((v : Int) * 2 ^ (min (8 : Int).toNat (IntKind.bits .i64))) = ((v * 256 : Nat) : Int) := by
    have : (2 : Int) ^ (min (8 : Int).toNat (IntKind.bits .i64)) = 256 := rfl
    rw [this, wrapK, wrap_i64 (by omega) (by omega)]; omega
  have w3 : wrapK .i64 (b.toNat : Int) = (b.toNat : Int) := by rw [wrapK, wrap_i64 (by omega) (by omega)]
  simp only [EvS, impl_GetNumber_l1, hl, decide_true, cond_true, if_pos (show (0 : Int) ≤ 8 by decide), hw1, Int.natCast_nonneg, if_true, Int.toNat_natCast, hb, Option.map_some, Option.bind_some, w2, w3, or_256 v b.toNat hv hlt, hw]
  exact EvQ.const _
theorem getNumber_ev (n : Nat) (hn : n ≤ 65535) : Ev (fun k => c_impl_GetNumber k (((⟨#[120]⟩ : ByteArray) ++ ofBytes (numBytes n)), (1 : Int), (4 : Int))) ((n : Int), true) := by
  refine EvQ.run (fun k => impl_GetNumber_run k _ _ _) ?_
  have hs : ((⟨#[120]⟩ : ByteArray) ++ ofBytes (numBytes n)).size = 5 := by rw [ByteArray.size_append, ofBytes_size]; rfl
  have hw : wrapK .i64 (((((⟨#[120]⟩ : ByteArray) ++ ofBytes (numBytes n)).size : Nat) : Int) - 4) = 1 := by rw [hs]; rfl
  simp only [impl_GetNumber, show decide ((4 : Int) < 1) = false from rfl, show decide ((6 : Int) < 4) = false from rfl, show decide ((1 : Int) < 0) = false from rfl, cond_false, hw, Int.lt_irrefl, decide_false]
  have hg : ∀ i, ((⟨#[120]⟩ : ByteArray) ++ ofBytes (numBytes n))[1 + i]? = ((numBytes n).map fun n => UInt8.ofNat n.toNat)[i]? := fun i => by
    rw [bget, ByteArray.toList_data_append, ofBytes_list]
    rw [List.getElem?_append_right (by simp)]
    simp
  have hb : ∀ m : Nat, (UInt8.ofNat (((m % 256 : Nat) : Int)).toNat).toNat = m % 256 := fun m => by
    rw [Int.toNat_natCast, UInt8.toNat_ofNat']; omega
  refine EvL.ev ?_
  refine EvL.step (get_round _ 0 0 _ ((hg 0).trans rfl) (by omega) (by omega)) ?_
  rw [hb]
  refine EvL.step (get_round _ _ (0 + 1) _ ((hg 1).trans rfl) (by omega) (by omega)) ?_
  rw [hb]
  refine EvL.step (get_round _ _ (0 + 1 + 1) _ ((hg 2).trans rfl) (by omega) (by omega)) ?_
  rw [hb]
  refine EvL.step (get_round _ _ (0 + 1 + 1 + 1) _ ((hg 3).trans rfl) (by omega) (by omega)) ?_
  rw [hb]
  refine EvL.stop ?_
  have e : (((0 * 256 + n / 16777216 % 256) * 256 + n / 65536 % 256) * 256 + n / 256 % 256) * 256 + n % 256 = n := by omega
  simp only [impl_GetNumber_l1, show decide (((0 + 1 + 1 + 1 + 1 : Nat) : Int) < 4) = false from rfl, cond_false, e]
  exact EvQ.const _
end Go.Proofs.Ythegbgdoobpkiaa
