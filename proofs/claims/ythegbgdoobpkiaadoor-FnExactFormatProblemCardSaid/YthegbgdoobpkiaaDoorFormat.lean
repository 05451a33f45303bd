/- The tables, the residual functions and lemmas of this seat: parts of the proof of the law; conditions: those that each names. -/
import Derived.Test.YthegbgdoobpkiaaDoorStd
import Derived.Test.YthegbgdoobpkiaaDoorEng4
set_option linter.unusedVariables false
set_option linter.unusedSimpArgs false
set_option maxRecDepth 100000
namespace Go.Proofs.YthegbgdoobpkiaaDoor
open Go.Eng
theorem ten_ne : (10 : Int) ≠ 0 := by decide
theorem digits_ev : ∀ (k u : Nat) (s : ByteArray), u < 10 ^ (k + 1) → u < 9223372036854775808 → s.size + k ≤ 1000 → EvL spec_FormatInt_l1 ((u : Int), s) ⟨(Lib.decDigits u ++ s.data.toList).toArray⟩ := by
  intro k
  induction k with
  | zero =>
    intro u s h _ hs
    have hu : u < 10 := by simpa using h
    have h9 : ¬ (9 : Int) < (u : Int) := by omega
    refine EvL.stop ?_
    have hsz : (ofBytes [((48 + u : Nat) : Int)]).size + s.size ≤ 9223372036854775807 := by rw [ofBytes_size, List.length_singleton]; omega
    have e : ofBytes [((48 + u : Nat) : Int)] ++ s = ⟨(Lib.decDigits u ++ s.data.toList).toArray⟩ := bext (by rw [ByteArray.toList_data_append, digit_list, decDigits_small hu])
    simp only [spec_FormatInt_l1, h9, decide_false, cond_false, digit_byte hu, if_pos hsz, e]
    exact EvQ.const _
  | succ k ih =>
    intro u s h h63 hs
    by_cases hu : u < 10
    · exact (by
        have h9 : ¬ (9 : Int) < (u : Int) := by omega
        refine EvL.stop ?_
        have hsz : (ofBytes [((48 + u : Nat) : Int)]).size + s.size ≤ 9223372036854775807 := by rw [ofBytes_size, List.length_singleton]; omega
        have e : ofBytes [((48 + u : Nat) : Int)] ++ s = ⟨(Lib.decDigits u ++ s.data.toList).toArray⟩ := bext (by rw [ByteArray.toList_data_append, digit_list, decDigits_small hu])
        simp only [spec_FormatInt_l1, h9, decide_false, cond_false, digit_byte hu, if_pos hsz, e]
        exact EvQ.const _)
    · have h9 : (9 : Int) < (u : Int) := by omega
      have hm : u % 10 < 10 := by omega
      have hsz : (ofBytes [((48 + u % 10 : Nat) : Int)]).size + s.size ≤ 9223372036854775807 := by rw [ofBytes_size, List.length_singleton]; omega
      have hq : wrapK .i64 ((u / 10 : Nat) : Int) = ((u / 10 : Nat) : Int) := by rw [wrapK, wrap_i64 (by omega) (by omega)]
      have hn := ih (u / 10) (ofBytes [((48 + u % 10 : Nat) : Int)] ++ s) (by rw [Nat.pow_succ] at h; omega) (by omega) (by rw [ByteArray.size_append, ofBytes_size, List.length_singleton]; omega)
      have e : Lib.decDigits (u / 10) ++ (ofBytes [((48 + u % 10 : Nat) : Int)] ++ s).data.toList = Lib.decDigits u ++ s.data.toList := by
        rw [ByteArray.toList_data_append, digit_list, decDigits_big hu, List.append_assoc]
      rw [e] at hn
      refine EvL.step ?_ hn
      simp only [EvS, spec_FormatInt_l1, h9, decide_true, cond_true, if_pos ten_ne, tmod_10, tdiv_10, digit_byte hm, if_pos hsz, hq]
      exact EvQ.const _
theorem neg_ev : ∀ (k m : Nat), 0 < m → m < 10 ^ (k + 1) → m ≤ 9223372036854775808 → k ≤ 100 → Ev (fun n => c_spec_FormatInt n (-(m : Int))) ⟨(45 :: Lib.decDigits m).toArray⟩ := by
  intro k
  induction k with
  | zero =>
    intro m h0 h _ _
    have hm : m < 10 := by simpa using h
    refine EvQ.run (fun n => spec_FormatInt_run n _) ?_
    have hneg : -(m : Int) < 0 := by omega
    have hq : (wrapK .i64 ((-(m : Int)).tdiv 10) == (0 : Int)) = true := by
      rw [Int.neg_tdiv, tdiv_10, show m / 10 = 0 by omega]; rfl
    have hb : wrapK .u8 (wrapK .i64 ((48 : Int) - -(m : Int))) = ((48 + m : Nat) : Int) := by
      rw [show (48 : Int) - -(m : Int) = 48 + m by omega]; exact digit_byte hm
    have hsz : (⟨#[45]⟩ : ByteArray).size + (ofBytes [((48 + m : Nat) : Int)]).size ≤ 9223372036854775807 := by rw [ofBytes_size]; show 1 + 1 ≤ _; omega
    have e : (⟨#[45]⟩ : ByteArray) ++ ofBytes [((48 + m : Nat) : Int)] = ⟨(45 :: Lib.decDigits m).toArray⟩ := bext (by rw [ByteArray.toList_data_append, digit_list, decDigits_small hm]; rfl)
    simp only [spec_FormatInt, hneg, decide_true, cond_true, if_pos ten_ne, hq, hb, if_pos hsz, e]
    exact EvQ.const _
  | succ k ih =>
    intro m h0 h h63 hk
    refine EvQ.run (fun n => spec_FormatInt_run n _) ?_
    have hneg : -(m : Int) < 0 := by omega
    by_cases hm : m < 10
    · have hq : (wrapK .i64 ((-(m : Int)).tdiv 10) == (0 : Int)) = true := by
        rw [Int.neg_tdiv, tdiv_10, show m / 10 = 0 by omega]; rfl
      have hb : wrapK .u8 (wrapK .i64 ((48 : Int) - -(m : Int))) = ((48 + m : Nat) : Int) := by
        rw [show (48 : Int) - -(m : Int) = 48 + m by omega]; exact digit_byte hm
      have hsz : (⟨#[45]⟩ : ByteArray).size + (ofBytes [((48 + m : Nat) : Int)]).size ≤ 9223372036854775807 := by rw [ofBytes_size]; show 1 + 1 ≤ _; omega
      have e : (⟨#[45]⟩ : ByteArray) ++ ofBytes [((48 + m : Nat) : Int)] = ⟨(45 :: Lib.decDigits m).toArray⟩ := bext (by rw [ByteArray.toList_data_append, digit_list, decDigits_small hm]; rfl)
      simp only [spec_FormatInt, hneg, decide_true, cond_true, if_pos ten_ne, hq, hb, if_pos hsz, e]
      exact EvQ.const _
    · have hw : wrapK .i64 ((-(m : Int)).tdiv 10) = -((m / 10 : Nat) : Int) := by
        rw [Int.neg_tdiv, tdiv_10, wrapK, wrap_i64 (by omega) (by omega)]
      have hq : (-((m / 10 : Nat) : Int) == (0 : Int)) = false := by rw [beq_eq_false_iff_ne]; omega
      have hd : m % 10 < 10 := by omega
      have hb : wrapK .u8 (wrapK .i64 ((48 : Int) - (-(m : Int)).tmod 10)) = ((48 + m % 10 : Nat) : Int) := by
        rw [Int.neg_tmod, tmod_10, show (48 : Int) - -((m % 10 : Nat) : Int) = 48 + ((m % 10 : Nat) : Int) by omega]; exact digit_byte hd
      have hn := ih (m / 10) (by omega) (by rw [Nat.pow_succ] at h; omega) (by omega) (by omega)
      have hl := decDigits_len k (m / 10) (by rw [Nat.pow_succ] at h; omega)
      have hsz : (⟨(45 :: Lib.decDigits (m / 10)).toArray⟩ : ByteArray).size + (ofBytes [((48 + m % 10 : Nat) : Int)]).size ≤ 9223372036854775807 := by
        rw [ofBytes_size, ← blen, List.length_singleton]
        show (45 :: Lib.decDigits (m / 10)).length + 1 ≤ _
        rw [List.length_cons]; omega
      have e : (⟨(45 :: Lib.decDigits (m / 10)).toArray⟩ : ByteArray) ++ ofBytes [((48 + m % 10 : Nat) : Int)] = ⟨(45 :: Lib.decDigits m).toArray⟩ := bext (by
        rw [ByteArray.toList_data_append, digit_list, decDigits_big hm]; rfl)
      simp only [spec_FormatInt, hneg, decide_true, cond_true, if_pos ten_ne, hw, hq, cond_false, hb]
      refine EvQ.bind hn ?_
      simp only [if_pos hsz, e]
      exact EvQ.const _
theorem spec_FormatInt_ev (n : Int) (h0 : -9223372036854775808 ≤ n) (h1 : n ≤ 9223372036854775807) : Ev (fun k => c_spec_FormatInt k n) ⟨(Lib.itoa n).toArray⟩ := by
  unfold Lib.itoa
  by_cases hn : n < 0
  · rw [if_pos hn]
    obtain ⟨m, rfl⟩ : ∃ m : Nat, n = -(m : Int) := ⟨n.natAbs, by omega⟩
    rw [Int.natAbs_neg, Int.natAbs_natCast]
    exact neg_ev 19 m (by omega) (by omega) (by omega) (by omega)
  · rw [if_neg hn]
    obtain ⟨m, rfl⟩ : ∃ m : Nat, n = (m : Int) := ⟨n.toNat, by omega⟩
    rw [Int.toNat_natCast]
    refine EvQ.run (fun k => spec_FormatInt_run k _) ?_
    simp only [spec_FormatInt, hn, decide_false, cond_false]
    have := digits_ev 19 m ByteArray.empty (by omega) (by omega) (by show 0 + 19 ≤ 1000; omega)
    rw [show (ByteArray.empty).data.toList = [] from rfl, List.append_nil] at this
    exact this.ev
theorem impl_FormatInt_ev (n : Int) (h0 : -9223372036854775808 ≤ n) (h1 : n ≤ 9223372036854775807) : Ev (fun k => c_impl_FormatInt k n) ⟨(Lib.itoa n).toArray⟩ := by
  refine EvQ.run (fun k => impl_FormatInt_run k _) ?_
  simp only [impl_FormatInt]
  refine EvQ.bind (EvQ.run (fun k => c_strconv_Itoa_run k _) ?_) (EvQ.const _)
  simp only [ext_strconv_Itoa, if_pos (And.intro h0 h1)]
  exact EvQ.const _
theorem tail_ev {c : Nat → Int → Option ByteArray} {a b : Int} {A B : ByteArray} (ha : Ev (fun k => c k a) A) (hb : Ev (fun k => c k b) B) (hA : A.size ≤ 100) (hB : B.size ≤ 100) (y : ByteArray) (hy : y.size ≤ 100) :
    Ev (fun k => if y.size + (⟨#[32]⟩ : ByteArray).size ≤ 9223372036854775807 then (c k a).bind fun y3 =>
      (if (y ++ (⟨#[32]⟩ : ByteArray)).size + y3.size ≤ 9223372036854775807 then (if ((y ++ (⟨#[32]⟩ : ByteArray)) ++ y3).size + (⟨#[32]⟩ : ByteArray).size ≤ 9223372036854775807 then (c k b).bind fun y4 =>
      (if (((y ++ (⟨#[32]⟩ : ByteArray)) ++ y3) ++ (⟨#[32]⟩ : ByteArray)).size + y4.size ≤ 9223372036854775807 then some ((((y ++ (⟨#[32]⟩ : ByteArray)) ++ y3) ++ (⟨#[32]⟩ : ByteArray)) ++ y4) else none) else none) else none) else none)
      ((((y ++ (⟨#[32]⟩ : ByteArray)) ++ A) ++ (⟨#[32]⟩ : ByteArray)) ++ B) := by
  have h32 : (⟨#[32]⟩ : ByteArray).size = 1 := rfl
  have s1 : y.size + (⟨#[32]⟩ : ByteArray).size ≤ 9223372036854775807 := by omega
  have s2 : (y ++ (⟨#[32]⟩ : ByteArray)).size + A.size ≤ 9223372036854775807 := by rw [ByteArray.size_append]; omega
  have s3 : ((y ++ (⟨#[32]⟩ : ByteArray)) ++ A).size + (⟨#[32]⟩ : ByteArray).size ≤ 9223372036854775807 := by rw [ByteArray.size_append, ByteArray.size_append]; omega
  have s4 : (((y ++ (⟨#[32]⟩ : ByteArray)) ++ A) ++ (⟨#[32]⟩ : ByteArray)).size + B.size ≤ 9223372036854775807 := by rw [ByteArray.size_append, ByteArray.size_append, ByteArray.size_append]; omega
  simp only [if_pos s1]
  refine EvQ.bind ha ?_
  simp only [if_pos s2, if_pos s3]
  refine EvQ.bind hb ?_
  simp only [if_pos s4]
  exact EvQ.const _
theorem spec_l01In_ev (n lo hi : Int) : Ev (fun k => c_spec_l01In k (n, lo, hi)) (decide (lo ≤ n) && decide (n ≤ hi)) := by
  refine EvQ.run (fun k => spec_l01In_run k n lo hi) ?_
  simp only [spec_l01In]
  cases h : decide (lo ≤ n) with
  | true => simp only [cond_true, Bool.true_and]; exact EvQ.const _
  | false => simp only [cond_false, Bool.false_and]; exact EvQ.const _
def kinds : List ByteArray := [(⟨#[63]⟩ : ByteArray), (⟨#[108, 105, 110, 107, 115]⟩ : ByteArray), (⟨#[100, 97, 110, 103, 108, 105, 110, 103]⟩ : ByteArray), (⟨#[108, 111, 115, 116]⟩ : ByteArray), (⟨#[116, 119, 105, 99, 101]⟩ : ByteArray), (⟨#[100, 117, 112, 108, 105, 99, 97, 116, 101]⟩ : ByteArray), (⟨#[114, 101, 99, 111, 114, 100]⟩ : ByteArray), (⟨#[113, 117, 111, 116, 97]⟩ : ByteArray)]
def kinds1 : List ByteArray := [(⟨#[]⟩ : ByteArray), (⟨#[108, 105, 110, 107, 115]⟩ : ByteArray), (⟨#[100, 97, 110, 103, 108, 105, 110, 103]⟩ : ByteArray), (⟨#[108, 111, 115, 116]⟩ : ByteArray), (⟨#[116, 119, 105, 99, 101]⟩ : ByteArray), (⟨#[100, 117, 112, 108, 105, 99, 97, 116, 101]⟩ : ByteArray), (⟨#[114, 101, 99, 111, 114, 100]⟩ : ByteArray), (⟨#[113, 117, 111, 116, 97]⟩ : ByteArray)]
theorem kinds_at (n : Nat) (h0 : 1 ≤ n) (h1 : n ≤ 7) : ∃ y : ByteArray, kinds[n]? = some y ∧ kinds1[n]? = some y ∧ y.size ≤ 100 := by
  obtain rfl | rfl | rfl | rfl | rfl | rfl | rfl : n = 1 ∨ n = 2 ∨ n = 3 ∨ n = 4 ∨ n = 5 ∨ n = 6 ∨ n = 7 := by omega
  all_goals exact ⟨_, rfl, rfl, by decide⟩
def fmtR (y : ByteArray) (a b : Int) : ByteArray := (((y ++ (⟨#[32]⟩ : ByteArray)) ++ (⟨(Lib.itoa a).toArray⟩ : ByteArray)) ++ (⟨#[32]⟩ : ByteArray)) ++ (⟨(Lib.itoa b).toArray⟩ : ByteArray)
theorem format_ev (q a b : Int) (ha : -9223372036854775808 ≤ a ∧ a ≤ 9223372036854775807) (hb : -9223372036854775808 ≤ b ∧ b ≤ 9223372036854775807) :
    ∃ r, Ev (fun k => c_spec_FormatProblem k (q, a, b)) r ∧ Ev (fun k => c_impl_FormatProblem k (q, a, b)) r := by
  have sA : (⟨(Lib.itoa a).toArray⟩ : ByteArray).size ≤ 100 := by
    rw [← blen]
    show (Lib.itoa a).length ≤ 100
    have := itoa_len ha.1 ha.2; omega
  have sB : (⟨(Lib.itoa b).toArray⟩ : ByteArray).size ≤ 100 := by
    rw [← blen]
    show (Lib.itoa b).length ≤ 100
    have := itoa_len hb.1 hb.2; omega
  have tS := tail_ev (spec_FormatInt_ev a ha.1 ha.2) (spec_FormatInt_ev b hb.1 hb.2) sA sB
  have tI := tail_ev (impl_FormatInt_ev a ha.1 ha.2) (impl_FormatInt_ev b hb.1 hb.2) sA sB
  by_cases h1 : 1 ≤ q
  · by_cases h7 : q ≤ 7
    · obtain ⟨n, rfl⟩ : ∃ n : Nat, q = n := ⟨q.toNat, by omega⟩
      obtain ⟨y, y1, y2, y3⟩ := kinds_at n (by omega) (by omega)
      refine ⟨fmtR y a b, EvQ.run (fun k => spec_FormatProblem_run k _) ?_, EvQ.run (fun k => impl_FormatProblem_run k _) ?_⟩
      rotate_left
      · have n1 : ¬ (n : Int) < 1 := by omega
        have n7 : ¬ (7 : Int) < (n : Int) := by omega
        have hl : (n : Int) < ((kinds.length : Nat) : Int) := by show (n : Int) < 8; omega
        refine EvQ.congr (fun k => ?_) (tI y y3)
        show impl_FormatProblem k ((n : Int), a, b) = _
        unfold impl_FormatProblem
        simp only [n1, n7, decide_false, cond_false]
        rw [if_pos (Int.natCast_nonneg n)]
        refine (if_pos hl).trans ?_
        rw [Int.toNat_natCast]
        show (kinds[n]?).bind _ = _
        rw [y1]; rfl
      · refine EvQ.bind (spec_l01In_ev _ _ _) ?_
        have e : (decide ((1 : Int) ≤ (n : Int)) && decide ((n : Int) ≤ 7)) = true := by simp only [Bool.and_eq_true, decide_eq_true_eq]; omega
        have hl : (n : Int) < ((kinds1.length : Nat) : Int) := by show (n : Int) < 8; omega
        refine EvQ.congr (fun k => ?_) (tS y y3)
        rw [e]
        simp only [cond_true]
        rw [if_pos (Int.natCast_nonneg n)]
        refine (if_pos hl).trans ?_
        rw [Int.toNat_natCast]
        show (kinds1[n]?).bind _ = _
        rw [y2]; rfl
    · refine ⟨fmtR (⟨#[63]⟩ : ByteArray) a b, EvQ.run (fun k => spec_FormatProblem_run k _) ?_, EvQ.run (fun k => impl_FormatProblem_run k _) ?_⟩
      rotate_left
      · have n1 : ¬ q < 1 := by omega
        have n7 : (7 : Int) < q := by omega
        refine EvQ.congr (fun k => ?_) (tI (⟨#[63]⟩ : ByteArray) (by decide))
        show impl_FormatProblem k (q, a, b) = _
        unfold impl_FormatProblem
        simp only [n1, n7, decide_false, decide_true, cond_false, cond_true]
        rfl
      · refine EvQ.bind (spec_l01In_ev _ _ _) ?_
        have e : (decide ((1 : Int) ≤ q) && decide (q ≤ 7)) = false := by simp only [Bool.and_eq_false_iff, decide_eq_false_iff_not]; omega
        refine EvQ.congr (fun k => ?_) (tS (⟨#[63]⟩ : ByteArray) (by decide))
        rw [e]
        rfl
  · refine ⟨fmtR (⟨#[63]⟩ : ByteArray) a b, EvQ.run (fun k => spec_FormatProblem_run k _) ?_, EvQ.run (fun k => impl_FormatProblem_run k _) ?_⟩
    rotate_left
    · have n1 : q < 1 := by omega
      refine EvQ.congr (fun k => ?_) (tI (⟨#[63]⟩ : ByteArray) (by decide))
      show impl_FormatProblem k (q, a, b) = _
      unfold impl_FormatProblem
      simp only [n1, decide_true, cond_true]
      rfl
    · refine EvQ.bind (spec_l01In_ev _ _ _) ?_
      have e : (decide ((1 : Int) ≤ q) && decide (q ≤ 7)) = false := by simp only [Bool.and_eq_false_iff, decide_eq_false_iff_not]; omega
      refine EvQ.congr (fun k => ?_) (tS (⟨#[63]⟩ : ByteArray) (by decide))
      rw [e]
      rfl
theorem laws_FnExactFormatProblem_ev (x0 : DProblem) (hx0 : okD (.pair (.int .i64) (.pair (.int .i64) (.int .i64))) x0) : Ev (fun k => c_laws_FnExactFormatProblem k x0) true := by
  obtain ⟨q, a, b⟩ := x0
  obtain ⟨r, r1, r2⟩ := format_ev q a b (okD_i64 hx0.2.1) (okD_i64 hx0.2.2)
  refine EvQ.run (fun k => laws_FnExactFormatProblem_run k _) ?_
  simp only [laws_FnExactFormatProblem]
  have ht : Ev (fun k => c_laws_toProblem k (q, a, b)) (q, a, b) := EvQ.run (fun k => laws_toProblem_run k _) (EvQ.const _)
  refine EvQ.bind ht (EvQ.bind r1 (EvQ.bind ht (EvQ.bind r2 ?_)))
  simp only [eqS_refl, Bool.not_true, cond_false]
  exact EvQ.const _
end Go.Proofs.YthegbgdoobpkiaaDoor
