/- The tables, the residual functions and lemmas of this seat: parts of the proof of the law; conditions: those that each names. -/
import Derived.Test.YthegbgdoobpkiaaDoorTab
set_option maxRecDepth 100000
set_option linter.unusedVariables false
namespace Go.Proofs.YthegbgdoobpkiaaDoor
open Go.Eng
noncomputable def spec_l01In (k : Nat) (x0 : Int) (x1 : Int) (x2 : Int) : Option Bool :=
  (bif (decide (x1 ≤ x0)) then some (decide (x0 ≤ x2)) else some false)
set_option maxHeartbeats 0 in
theorem spec_l01In_run (k : Nat) (x0 : Int) (x1 : Int) (x2 : Int) : c_spec_l01In (k + 1) (x0, x1, x2) = spec_l01In k x0 x1 x2 := by kernel_rfl
noncomputable def spec_FormatInt_l1 (k : Nat) (self : (Int × ByteArray) → Option ByteArray) (d : (Int × ByteArray)) : Option ByteArray :=
  (bif (decide ((9 : Int) < d.1)) then (if ((10 : Int) : Int) ≠ 0 then (if (ofBytes ([(wrapK .u8 (wrapK .i64 ((48 : Int) + (d.1.tmod (10 : Int)))))] : List Int)).size + d.2.size ≤ 9223372036854775807 then (if ((10 : Int) : Int) ≠ 0 then self ((wrapK .i64 (d.1.tdiv (10 : Int))), ((ofBytes ([(wrapK .u8 (wrapK .i64 ((48 : Int) + (d.1.tmod (10 : Int)))))] : List Int)) ++ d.2)) else none) else none) else none) else (if (ofBytes ([(wrapK .u8 (wrapK .i64 ((48 : Int) + d.1)))] : List Int)).size + d.2.size ≤ 9223372036854775807 then some ((ofBytes ([(wrapK .u8 (wrapK .i64 ((48 : Int) + d.1)))] : List Int)) ++ d.2) else none))
noncomputable def spec_FormatInt (k : Nat) (x0 : Int) : Option ByteArray :=
  (bif (decide (x0 < (0 : Int))) then (if ((10 : Int) : Int) ≠ 0 then (bif ((wrapK .i64 (x0.tdiv (10 : Int))) == (0 : Int)) then (if (⟨#[45]⟩ : ByteArray).size + (ofBytes ([(wrapK .u8 (wrapK .i64 ((48 : Int) - x0)))] : List Int)).size ≤ 9223372036854775807 then some ((⟨#[45]⟩ : ByteArray) ++ (ofBytes ([(wrapK .u8 (wrapK .i64 ((48 : Int) - x0)))] : List Int))) else none) else (if ((10 : Int) : Int) ≠ 0 then (c_spec_FormatInt k (wrapK .i64 (x0.tdiv (10 : Int)))).bind fun y1 =>
  (if ((10 : Int) : Int) ≠ 0 then (if y1.size + (ofBytes ([(wrapK .u8 (wrapK .i64 ((48 : Int) - (x0.tmod (10 : Int)))))] : List Int)).size ≤ 9223372036854775807 then some (y1 ++ (ofBytes ([(wrapK .u8 (wrapK .i64 ((48 : Int) - (x0.tmod (10 : Int)))))] : List Int))) else none) else none) else none)) else none) else iter k (spec_FormatInt_l1 k) (x0, (⟨#[]⟩ : ByteArray)))
set_option maxHeartbeats 0 in
theorem spec_FormatInt_run (k : Nat) (x0 : Int) : c_spec_FormatInt (k + 1) (x0) = spec_FormatInt k x0 := by kernel_rfl
noncomputable def spec_FormatProblem (k : Nat) (x0 : DProblem) : Option ByteArray :=
  (c_spec_l01In k (x0.1, (1 : Int), (7 : Int))).bind fun y1 =>
  (bif y1 then (if 0 ≤ x0.1 then (if x0.1 < (([(⟨#[]⟩ : ByteArray), (⟨#[108, 105, 110, 107, 115]⟩ : ByteArray), (⟨#[100, 97, 110, 103, 108, 105, 110, 103]⟩ : ByteArray), (⟨#[108, 111, 115, 116]⟩ : ByteArray), (⟨#[116, 119, 105, 99, 101]⟩ : ByteArray), (⟨#[100, 117, 112, 108, 105, 99, 97, 116, 101]⟩ : ByteArray), (⟨#[114, 101, 99, 111, 114, 100]⟩ : ByteArray), (⟨#[113, 117, 111, 116, 97]⟩ : ByteArray)] : List ByteArray).length : Int) then (([(⟨#[]⟩ : ByteArray), (⟨#[108, 105, 110, 107, 115]⟩ : ByteArray), (⟨#[100, 97, 110, 103, 108, 105, 110, 103]⟩ : ByteArray), (⟨#[108, 111, 115, 116]⟩ : ByteArray), (⟨#[116, 119, 105, 99, 101]⟩ : ByteArray), (⟨#[100, 117, 112, 108, 105, 99, 97, 116, 101]⟩ : ByteArray), (⟨#[114, 101, 99, 111, 114, 100]⟩ : ByteArray), (⟨#[113, 117, 111, 116, 97]⟩ : ByteArray)] : List ByteArray)[x0.1.toNat]?).bind fun y2 =>
  (if y2.size + (⟨#[32]⟩ : ByteArray).size ≤ 9223372036854775807 then (c_spec_FormatInt k x0.2.1).bind fun y3 =>
  (if (y2 ++ (⟨#[32]⟩ : ByteArray)).size + y3.size ≤ 9223372036854775807 then (if ((y2 ++ (⟨#[32]⟩ : ByteArray)) ++ y3).size + (⟨#[32]⟩ : ByteArray).size ≤ 9223372036854775807 then (c_spec_FormatInt k x0.2.2).bind fun y4 =>
  (if (((y2 ++ (⟨#[32]⟩ : ByteArray)) ++ y3) ++ (⟨#[32]⟩ : ByteArray)).size + y4.size ≤ 9223372036854775807 then some ((((y2 ++ (⟨#[32]⟩ : ByteArray)) ++ y3) ++ (⟨#[32]⟩ : ByteArray)) ++ y4) else none) else none) else none) else none) else none) else none) else (if (⟨#[63]⟩ : ByteArray).size + (⟨#[32]⟩ : ByteArray).size ≤ 9223372036854775807 then (c_spec_FormatInt k x0.2.1).bind fun y5 =>
  (if ((⟨#[63]⟩ : ByteArray) ++ (⟨#[32]⟩ : ByteArray)).size + y5.size ≤ 9223372036854775807 then (if (((⟨#[63]⟩ : ByteArray) ++ (⟨#[32]⟩ : ByteArray)) ++ y5).size + (⟨#[32]⟩ : ByteArray).size ≤ 9223372036854775807 then (c_spec_FormatInt k x0.2.2).bind fun y6 =>
  (if ((((⟨#[63]⟩ : ByteArray) ++ (⟨#[32]⟩ : ByteArray)) ++ y5) ++ (⟨#[32]⟩ : ByteArray)).size + y6.size ≤ 9223372036854775807 then some (((((⟨#[63]⟩ : ByteArray) ++ (⟨#[32]⟩ : ByteArray)) ++ y5) ++ (⟨#[32]⟩ : ByteArray)) ++ y6) else none) else none) else none) else none))
set_option maxHeartbeats 0 in
theorem spec_FormatProblem_run (k : Nat) (x0 : DProblem) : c_spec_FormatProblem (k + 1) (x0) = spec_FormatProblem k x0 := by kernel_rfl
noncomputable def laws_toProblem (k : Nat) (x0 : DProblem) : Option DProblem :=
  some (x0.1, x0.2.1, x0.2.2)
set_option maxHeartbeats 0 in
theorem laws_toProblem_run (k : Nat) (x0 : DProblem) : c_laws_toProblem (k + 1) (x0) = laws_toProblem k x0 := by kernel_rfl
noncomputable def impl_FormatInt (k : Nat) (x0 : Int) : Option ByteArray :=
  (c_strconv_Itoa k x0).bind fun y1 =>
  some y1
set_option maxHeartbeats 0 in
theorem impl_FormatInt_run (k : Nat) (x0 : Int) : c_impl_FormatInt (k + 1) (x0) = impl_FormatInt k x0 := by kernel_rfl
noncomputable def impl_FormatProblem (k : Nat) (x0 : DProblem) : Option ByteArray :=
  (bif (decide (x0.1 < (1 : Int))) then (if 0 ≤ (0 : Int) then (if (0 : Int) < (([(⟨#[63]⟩ : ByteArray), (⟨#[108, 105, 110, 107, 115]⟩ : ByteArray), (⟨#[100, 97, 110, 103, 108, 105, 110, 103]⟩ : ByteArray), (⟨#[108, 111, 115, 116]⟩ : ByteArray), (⟨#[116, 119, 105, 99, 101]⟩ : ByteArray), (⟨#[100, 117, 112, 108, 105, 99, 97, 116, 101]⟩ : ByteArray), (⟨#[114, 101, 99, 111, 114, 100]⟩ : ByteArray), (⟨#[113, 117, 111, 116, 97]⟩ : ByteArray)] : List ByteArray).length : Int) then (([(⟨#[63]⟩ : ByteArray), (⟨#[108, 105, 110, 107, 115]⟩ : ByteArray), (⟨#[100, 97, 110, 103, 108, 105, 110, 103]⟩ : ByteArray), (⟨#[108, 111, 115, 116]⟩ : ByteArray), (⟨#[116, 119, 105, 99, 101]⟩ : ByteArray), (⟨#[100, 117, 112, 108, 105, 99, 97, 116, 101]⟩ : ByteArray), (⟨#[114, 101, 99, 111, 114, 100]⟩ : ByteArray), (⟨#[113, 117, 111, 116, 97]⟩ : ByteArray)] : List ByteArray)[(0 : Int).toNat]?).bind fun y1 =>
  (if y1.size + (⟨#[32]⟩ : ByteArray).size ≤ 9223372036854775807 then (c_impl_FormatInt k x0.2.1).bind fun y2 =>
  (if (y1 ++ (⟨#[32]⟩ : ByteArray)).size + y2.size ≤ 9223372036854775807 then (if ((y1 ++ (⟨#[32]⟩ : ByteArray)) ++ y2).size + (⟨#[32]⟩ : ByteArray).size ≤ 9223372036854775807 then (c_impl_FormatInt k x0.2.2).bind fun y3 =>
  (if (((y1 ++ (⟨#[32]⟩ : ByteArray)) ++ y2) ++ (⟨#[32]⟩ : ByteArray)).size + y3.size ≤ 9223372036854775807 then some ((((y1 ++ (⟨#[32]⟩ : ByteArray)) ++ y2) ++ (⟨#[32]⟩ : ByteArray)) ++ y3) else none) else none) else none) else none) else none) else none) else (bif (decide ((7 : Int) < x0.1)) then (if 0 ≤ (0 : Int) then (if (0 : Int) < (([(⟨#[63]⟩ : ByteArray), (⟨#[108, 105, 110, 107, 115]⟩ : ByteArray), (⟨#[100, 97, 110, 103, 108, 105, 110, 103]⟩ : ByteArray), (⟨#[108, 111, 115, 116]⟩ : ByteArray), (⟨#[116, 119, 105, 99, 101]⟩ : ByteArray), (⟨#[100, 117, 112, 108, 105, 99, 97, 116, 101]⟩ : ByteArray), (⟨#[114, 101, 99, 111, 114, 100]⟩ : ByteArray), (⟨#[113, 117, 111, 116, 97]⟩ : ByteArray)] : List ByteArray).length : Int) then (([(⟨#[63]⟩ : ByteArray), (⟨#[108, 105, 110, 107, 115]⟩ : ByteArray), (⟨#[100, 97, 110, 103, 108, 105, 110, 103]⟩ : ByteArray), (⟨#[108, 111, 115, 116]⟩ : ByteArray), (⟨#[116, 119, 105, 99, 101]⟩ : ByteArray), (⟨#[100, 117, 112, 108, 105, 99, 97, 116, 101]⟩ : ByteArray), (⟨#[114, 101, 99, 111, 114, 100]⟩ : ByteArray), (⟨#[113, 117, 111, 116, 97]⟩ : ByteArray)] : List ByteArray)[(0 : Int).toNat]?).bind fun y4 =>
  (if y4.size + (⟨#[32]⟩ : ByteArray).size ≤ 9223372036854775807 then (c_impl_FormatInt k x0.2.1).bind fun y5 =>
  (if (y4 ++ (⟨#[32]⟩ : ByteArray)).size + y5.size ≤ 9223372036854775807 then (if ((y4 ++ (⟨#[32]⟩ : ByteArray)) ++ y5).size + (⟨#[32]⟩ : ByteArray).size ≤ 9223372036854775807 then (c_impl_FormatInt k x0.2.2).bind fun y6 =>
  (if (((y4 ++ (⟨#[32]⟩ : ByteArray)) ++ y5) ++ (⟨#[32]⟩ : ByteArray)).size + y6.size ≤ 9223372036854775807 then some ((((y4 ++ (⟨#[32]⟩ : ByteArray)) ++ y5) ++ (⟨#[32]⟩ : ByteArray)) ++ y6) else none) else none) else none) else none) else none) else none) else (if 0 ≤ x0.1 then (if x0.1 < (([(⟨#[63]⟩ : ByteArray), (⟨#[108, 105, 110, 107, 115]⟩ : ByteArray), (⟨#[100, 97, 110, 103, 108, 105, 110, 103]⟩ : ByteArray), (⟨#[108, 111, 115, 116]⟩ : ByteArray), (⟨#[116, 119, 105, 99, 101]⟩ : ByteArray), (⟨#[100, 117, 112, 108, 105, 99, 97, 116, 101]⟩ : ByteArray), (⟨#[114, 101, 99, 111, 114, 100]⟩ : ByteArray), (⟨#[113, 117, 111, 116, 97]⟩ : ByteArray)] : List ByteArray).length : Int) then (([(⟨#[63]⟩ : ByteArray), (⟨#[108, 105, 110, 107, 115]⟩ : ByteArray), (⟨#[100, 97, 110, 103, 108, 105, 110, 103]⟩ : ByteArray), (⟨#[108, 111, 115, 116]⟩ : ByteArray), (⟨#[116, 119, 105, 99, 101]⟩ : ByteArray), (⟨#[100, 117, 112, 108, 105, 99, 97, 116, 101]⟩ : ByteArray), (⟨#[114, 101, 99, 111, 114, 100]⟩ : ByteArray), (⟨#[113, 117, 111, 116, 97]⟩ : ByteArray)] : List ByteArray)[x0.1.toNat]?).bind fun y7 =>
  (if y7.size + (⟨#[32]⟩ : ByteArray).size ≤ 9223372036854775807 then (c_impl_FormatInt k x0.2.1).bind fun y8 =>
  (if (y7 ++ (⟨#[32]⟩ : ByteArray)).size + y8.size ≤ 9223372036854775807 then (if ((y7 ++ (⟨#[32]⟩ : ByteArray)) ++ y8).size + (⟨#[32]⟩ : ByteArray).size ≤ 9223372036854775807 then (c_impl_FormatInt k x0.2.2).bind fun y9 =>
  (if (((y7 ++ (⟨#[32]⟩ : ByteArray)) ++ y8) ++ (⟨#[32]⟩ : ByteArray)).size + y9.size ≤ 9223372036854775807 then some ((((y7 ++ (⟨#[32]⟩ : ByteArray)) ++ y8) ++ (⟨#[32]⟩ : ByteArray)) ++ y9) else none) else none) else none) else none) else none) else none)))
set_option maxHeartbeats 0 in
theorem impl_FormatProblem_run (k : Nat) (x0 : DProblem) : c_impl_FormatProblem (k + 1) (x0) = impl_FormatProblem k x0 := by kernel_rfl
noncomputable def laws_FnExactFormatProblem (k : Nat) (x0 : DProblem) : Option Bool :=
  (c_laws_toProblem k x0).bind fun y1 =>
  (c_spec_FormatProblem k y1).bind fun y2 =>
  (c_laws_toProblem k x0).bind fun y3 =>
  (c_impl_FormatProblem k y3).bind fun y4 =>
  (bif (!(eqS y4 y2)) then some false else some true)
set_option maxHeartbeats 0 in
theorem laws_FnExactFormatProblem_run (k : Nat) (x0 : DProblem) : c_laws_FnExactFormatProblem (k + 1) (x0) = laws_FnExactFormatProblem k x0 := by kernel_rfl
end Go.Proofs.YthegbgdoobpkiaaDoor
