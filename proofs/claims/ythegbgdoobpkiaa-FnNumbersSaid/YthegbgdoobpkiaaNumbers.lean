/- The tables, the residual functions and lemmas of this seat: parts of the proof of the law; conditions: those that each names. -/
import Derived.Test.YthegbgdoobpkiaaHex
set_option linter.unusedVariables false
set_option linter.unusedSimpArgs false
set_option maxRecDepth 100000
namespace Go.Proofs.Ythegbgdoobpkiaa
open Go.Eng
/-! ### Parts -/
def joined (l : List ByteArray) : List UInt8 := l.flatMap fun s => s.data.toList
theorem cutAll_ev (s : ByteArray) (hs : s.size ≤ 1048576) : ∃ l, Ev (fun k => c_impl_CutAll k (s, (3 : Int))) l ∧ (joined l = s.data.toList ∧ l.length ≤ s.size) := by
  obtain ⟨l, h1, h2⟩ : ∃ l : List ByteArray, EvL impl_CutAll_l1 (s, (3 : Int), ([] : List ByteArray)) l ∧ (joined l = s.data.toList ∧ l.length ≤ s.size) := by
    refine EvL.ex (L := impl_CutAll_l1) (fun d : ByteArray × (Int × List ByteArray) => d.2.1 = 3 ∧ joined d.2.2 ++ d.1.data.toList = s.data.toList ∧ d.2.2.length + d.1.size ≤ s.size) _ (fun d : ByteArray × (Int × List ByteArray) => d.1.size) ?_ ⟨rfl, rfl, by simp⟩
    rintro ⟨r, t, l⟩ ⟨h1, h2, h3⟩
    simp only at h1 h2 h3
    subst h1
    by_cases hr : (0 : Int) < (r.size : Int)
    · have hm : min (3 : Int) (r.size : Int) = ((min 3 r.size : Nat) : Int) := by omega
      have c2 : ((min 3 r.size : Nat) : Int) ≤ (r.size : Int) := by omega
      have hcap : (l.length + ([r.extract 0 (min 3 r.size)] : List ByteArray).length) * 16 ≤ capBytes := by simp only [List.length_singleton, capBytes]; omega
      refine .inr ⟨(r.extract (min 3 r.size) r.size, 3, l ++ [r.extract 0 (min 3 r.size)]), ⟨rfl, ?_, ?_⟩, ?_, ?_⟩
      · simp only [joined, List.flatMap_append, List.flatMap_cons, List.flatMap_nil, List.append_nil]
        rw [← h2, List.append_assoc]
        refine congrArg (joined l ++ ·) ?_
        simp only [ByteArray.data_extract, Array.toList_extract, List.extract_eq_take_drop, List.drop_zero, Nat.sub_zero]
        have hd : (r.data.toList.drop (min 3 r.size)).take (r.size - min 3 r.size) = r.data.toList.drop (min 3 r.size) := by
          refine List.take_of_length_le ?_
          rw [List.length_drop, blen]
          omega
        rw [hd, List.take_append_drop]
      · simp only [List.length_append, List.length_singleton, ByteArray.size_extract]; omega
      · simp only [ByteArray.size_extract]; omega
      · simp only [EvS, impl_CutAll_l1, hr, decide_true, cond_true, hm, Int.natCast_nonneg, if_true, if_pos c2, Int.toNat_natCast, if_pos hcap]
        exact EvQ.const _
    · refine .inl ⟨l, ?_, ?_, by omega⟩
      · simp only [impl_CutAll_l1, hr, decide_false, cond_false]
        exact EvQ.const _
      · rw [← h2]
        have : r.data.toList = [] := List.eq_nil_of_length_eq_zero (by rw [blen]; omega)
        rw [this, List.append_nil]
  refine ⟨l, EvQ.run (fun k => impl_CutAll_run k _ _) ?_, h2⟩
  simp only [impl_CutAll, show decide ((3 : Int) < 1) = false from rfl, show decide ((1000 : Int) < 3) = false from rfl, cond_false]
  exact h1.ev
theorem joinD_nil (l : List ByteArray) : joinD l (⟨#[]⟩ : ByteArray) = joined l := by
  unfold joinD joined
  have hs : ((⟨#[]⟩ : ByteArray)).data.toList = [] := rfl
  rw [hs]
  cases l with
  | nil => rfl
  | cons x r =>
    rw [List.map_cons, Lib.join_cons, List.flatMap_cons]
    refine congrArg (x.data.toList ++ ·) ?_
    unfold Lib.joinTail
    rw [List.flatMap_def, List.map_map]
    rfl
theorem join_ev (l : List ByteArray) (h1 : l.length ≤ 1048576) (h2 : (joined l).length ≤ 1048576) : Ev (fun k => c_impl_Join k (l, (⟨#[]⟩ : ByteArray))) ⟨(joined l).toArray⟩ := by
  refine EvQ.run (fun k => impl_Join_run k _ _) ?_
  simp only [impl_Join]
  refine EvQ.bind (EvQ.run (fun k => c_strings_Join_run k _) ?_) (EvQ.const _)
  simp only [ext_strings_Join, joinD_nil]
  rw [if_pos ⟨by omega, by omega⟩]
  exact EvQ.const _
def zeros (n : Nat) : ByteArray := ⟨(List.replicate n (0 : UInt8)).toArray⟩
theorem repeat_zero : ∀ n, Lib.repeatL [0] n = List.replicate n (0 : UInt8)
  | 0 => rfl
  | n + 1 => by rw [Lib.repeatL, repeat_zero n]; rfl
theorem zeros_size (n : Nat) : (zeros n).size = n := by rw [← blen]; simp [zeros]
theorem padTo_ev (s : ByteArray) (n : Nat) (h : s.size < n) (hn : n ≤ 100000) : Ev (fun k => c_impl_PadTo k (s, (n : Int))) (s ++ zeros (n - s.size)) := by
  refine EvQ.run (fun k => impl_PadTo_run k _ _) ?_
  have h1 : ¬ (n : Int) ≤ (s.size : Int) := by omega
  have h2 : ¬ (100000 : Int) < (n : Int) := by omega
  have hw : wrapK .i64 ((n : Int) - (s.size : Int)) = ((n - s.size : Nat) : Int) := by rw [wrapK, wrap_i64 (by omega) (by omega)]; omega
  simp only [impl_PadTo, h1, h2, decide_false, cond_false, hw]
  have e : Ev (fun k => c_strings_Repeat k ((⟨#[0]⟩ : ByteArray), ((n - s.size : Nat) : Int))) (zeros (n - s.size)) := by
    refine EvQ.run (fun k => c_strings_Repeat_run k _) ?_
    have hz : ((⟨#[0]⟩ : ByteArray)).data.toList = [0] := rfl
    have hz1 : ((⟨#[0]⟩ : ByteArray)).size = 1 := rfl
    simp only [ext_strings_Repeat, Int.toNat_natCast, hz, hz1, repeat_zero]
    rw [if_pos ⟨by omega, by omega, by omega⟩]
    exact EvQ.const _
  refine EvQ.bind e ?_
  rw [if_pos (by rw [zeros_size]; omega)]
  exact EvQ.const _
theorem isZeroes_ev (z : ByteArray) (hz : z.size ≤ 1000) (h : ∀ i, i < z.size → z[i]? = some 0) : Ev (fun k => c_impl_IsZeroes k z) true := by
  refine EvQ.run (fun k => impl_IsZeroes_run k _) ?_
  simp only [impl_IsZeroes]
  refine EvL.ev ?_
  have := EvL.count (L := impl_IsZeroes_l1) (r := true) (fun i => (z, (z.size : Int), (i : Int))) z.size (fun i hi => ?_) (EvL.stop ?_)
  · simpa using this
  · have hl : (i : Int) < (z.size : Int) := by omega
    simp only [EvS, impl_IsZeroes_l1, hl, decide_true, cond_true, Int.natCast_nonneg, if_true, Int.toNat_natCast, h i hi, Option.map_some, Option.bind_some, show ((((0 : UInt8).toNat : Nat) : Int) != 0) = false from rfl, cond_false, wrap_succ hi (show z.size < 4611686018427387904 by omega)]
    exact EvQ.const _
  · simp only [impl_IsZeroes_l1, Int.lt_irrefl, decide_false, cond_false]
    exact EvQ.const _
theorem laws_FnNumbers_ev (x0 : List Int) (hx0 : okD (.list false (.int .u8)) x0) : Ev (fun k => c_laws_FnNumbers k x0) true := by
  refine EvQ.run (fun k => laws_FnNumbers_run k x0) ?_
  simp only [laws_FnNumbers]
  by_cases h : (1048576 : Int) < (x0.length : Int)
  · simp only [h, decide_true, cond_true]; exact EvQ.const _
  simp only [h, decide_false, cond_false]
  obtain ⟨n, n1, n2, n3⟩ := makeNum_ev x0 (by omega)
  obtain ⟨m, rfl⟩ : ∃ m : Nat, n = m := ⟨n.toNat, by omega⟩
  obtain ⟨s, s1, s2⟩ := makeBytes_ev x0 (by omega)
  refine EvQ.bind n1 (EvQ.bind s1 (EvQ.bind (putNumber_ev m (by omega)) ?_))
  have hc : (⟨#[120]⟩ : ByteArray).size + (ofBytes (numBytes m)).size ≤ 9223372036854775807 := by
    rw [ofBytes_size]
    show 1 + 4 ≤ 9223372036854775807
    omega
  simp only [if_pos hc]
  refine EvQ.bind (getNumber_ev m (by omega)) ?_
  refine EvQ.bind (hexOf_ev s (by omega)) ?_
  have hsz : (ofBytes (hexL s)).size = 2 * s.size := by rw [ofBytes_size, hexL, flat_len hexP (fun _ => rfl), blen]
  refine EvQ.bind (impl_UnhexText_ev _ (by omega)) ?_
  rw [unhex_hex]
  simp only [cond_true, beq_self_eq_true, eqS_refl]
  obtain ⟨l, l1, l2, l3⟩ := cutAll_ev s (by omega)
  refine EvQ.bind l1 ?_
  refine EvQ.bind (join_ev l (by omega) (by rw [l2, blen]; omega)) ?_
  have hj : (⟨(joined l).toArray⟩ : ByteArray) = s := bext (by rw [l2])
  rw [hj]
  simp only [eqS_refl, cond_true]
  have hp := padTo_ev s 50 (by omega) (by omega)
  refine EvQ.bind hp ?_
  have hps : (s ++ zeros (50 - s.size)).size = 50 := by rw [ByteArray.size_append, zeros_size]; omega
  have hq : (((s ++ zeros (50 - s.size)).size : Int) == 50) = true := by rw [hps]; rfl
  simp only [hq, cond_true]
  refine EvQ.bind (padTo_ev (⟨#[]⟩ : ByteArray) 9 (by decide) (by omega)) ?_
  have hzz : (⟨#[]⟩ : ByteArray) ++ zeros (9 - (⟨#[]⟩ : ByteArray).size) = zeros 9 := rfl
  rw [hzz]
  refine EvQ.bind (isZeroes_ev (zeros 9) (by rw [zeros_size]; omega) (fun i hi => by
    rw [zeros_size] at hi
    rw [bget]
    show (List.replicate 9 (0 : UInt8))[i]? = some 0
    rw [List.getElem?_replicate, if_pos hi])) ?_
  simp only [cond_true]
  refine EvQ.bind hp ?_
  have hle : (s.size : Int) ≤ ((s ++ zeros (50 - s.size)).size : Int) := by rw [hps]; omega
  have hx : (s ++ zeros (50 - s.size)).extract 0 s.size = s := bext (by
    rw [ByteArray.data_extract, ByteArray.data_append]
    simp only [Array.toList_extract, Array.toList_append, List.extract_eq_take_drop, List.drop_zero, Nat.sub_zero]
    rw [List.take_append_of_le_length (by rw [blen]; omega), ← blen, List.take_length])
  simp only [Int.natCast_nonneg, if_true, if_pos hle, Int.toNat_natCast, hx, eqS_refl]
  exact EvQ.const _
end Go.Proofs.Ythegbgdoobpkiaa
