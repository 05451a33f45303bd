/- The tables, the residual functions and lemmas of this seat: parts of the proof of the law; conditions: those that each names. -/
import Derived.Test.YthegbgdoobpkiaaTab
set_option maxRecDepth 100000
set_option linter.unusedVariables false
namespace Go.Proofs.Ythegbgdoobpkiaa
open Go.Eng
noncomputable def spec_UnhexText_l1 (k : Nat) (a0 : (ByteArray × ((List Int) × Int)) → Option (ByteArray × Bool)) (self : (ByteArray × ((List Int) × (Int × (Int × Dl01Cur)))) → Option (ByteArray × Bool)) (d : (ByteArray × ((List Int) × (Int × (Int × Dl01Cur))))) : Option (ByteArray × Bool) :=
  (bif (decide (d.2.2.2.2.2.2 < d.2.2.2.2.2.1)) then (if 0 ≤ d.2.2.2.2.2.2 then (if d.2.2.2.2.2.2 < (d.2.2.2.2.1.length : Int) then (d.2.2.2.2.1[d.2.2.2.2.2.2.toNat]?).bind fun v0 =>
  (bif (decide ((48 : Int) ≤ v0)) then (bif (decide (v0 ≤ (57 : Int))) then self (d.1, d.2.1, d.2.2.1, (wrapK .i64 ((wrapK .i64 ((wrapK .i64 ((16 : Int) * d.2.2.2.1)) + (wrapK .i64 v0))) - (48 : Int))), d.2.2.2.2.1, d.2.2.2.2.2.1, (wrapK .i64 (d.2.2.2.2.2.2 + (1 : Int)))) else (bif (decide ((97 : Int) ≤ v0)) then (bif (decide (v0 ≤ (102 : Int))) then self (d.1, d.2.1, d.2.2.1, (wrapK .i64 ((wrapK .i64 ((wrapK .i64 ((16 : Int) * d.2.2.2.1)) + (wrapK .i64 v0))) - (87 : Int))), d.2.2.2.2.1, d.2.2.2.2.2.1, (wrapK .i64 (d.2.2.2.2.2.2 + (1 : Int)))) else some ((⟨#[]⟩ : ByteArray), false)) else some ((⟨#[]⟩ : ByteArray), false))) else (bif (decide ((97 : Int) ≤ v0)) then (bif (decide (v0 ≤ (102 : Int))) then self (d.1, d.2.1, d.2.2.1, (wrapK .i64 ((wrapK .i64 ((wrapK .i64 ((16 : Int) * d.2.2.2.1)) + (wrapK .i64 v0))) - (87 : Int))), d.2.2.2.2.1, d.2.2.2.2.2.1, (wrapK .i64 (d.2.2.2.2.2.2 + (1 : Int)))) else some ((⟨#[]⟩ : ByteArray), false)) else some ((⟨#[]⟩ : ByteArray), false))) else none) else none) else (if (d.2.1.length + ([(wrapK .u8 d.2.2.2.1)] : List Int).length) * 1 ≤ capBytes then a0 (d.1, (d.2.1 ++ ([(wrapK .u8 d.2.2.2.1)] : List Int)), (wrapK .i64 (d.2.2.1 + (2 : Int)))) else none))
noncomputable def spec_UnhexText_l2 (k : Nat) (self : (ByteArray × ((List Int) × Int)) → Option (ByteArray × Bool)) (d : (ByteArray × ((List Int) × Int))) : Option (ByteArray × Bool) :=
  (bif (decide (d.2.2 < (d.1.size : Int))) then (if 0 ≤ d.2.2 then ((d.1[d.2.2.toNat]?.map fun v0 => (v0.toNat : Int))).bind fun v1 =>
  (if 0 ≤ (wrapK .i64 (d.2.2 + (1 : Int))) then ((d.1[(wrapK .i64 (d.2.2 + (1 : Int))).toNat]?.map fun v0 => (v0.toNat : Int))).bind fun v2 =>
  iter k (spec_UnhexText_l1 k self) (d.1, d.2.1, d.2.2, (0 : Int), ([v1, v2] : List Int), (([v1, v2] : List Int).length : Int), (0 : Int)) else none) else none) else some ((ofBytes d.2.1), true))
noncomputable def spec_UnhexText (k : Nat) (x0 : ByteArray) : Option (ByteArray × Bool) :=
  (if ((2 : Int) : Int) ≠ 0 then (bif (((x0.size : Int).tmod (2 : Int)) != (0 : Int)) then some ((⟨#[]⟩ : ByteArray), false) else iter k (spec_UnhexText_l2 k) (x0, ([] : List Int), (0 : Int))) else none)
set_option maxHeartbeats 0 in
theorem spec_UnhexText_run (k : Nat) (x0 : ByteArray) : c_spec_UnhexText (k + 1) (x0) = spec_UnhexText k x0 := by kernel_rfl
noncomputable def impl_UnhexText_l1 (k : Nat) (self : (ByteArray × ((List Int) × Int)) → Option (ByteArray × Bool)) (d : (ByteArray × ((List Int) × Int))) : Option (ByteArray × Bool) :=
  (bif (decide (d.2.2 < (d.1.size : Int))) then (if 0 ≤ d.2.2 then ((d.1[d.2.2.toNat]?.map fun v0 => (v0.toNat : Int))).bind fun v1 =>
  (c_strings_IndexByte k ((⟨#[48, 49, 50, 51, 52, 53, 54, 55, 56, 57, 97, 98, 99, 100, 101, 102]⟩ : ByteArray), v1)).bind fun v2 =>
  (if 0 ≤ (wrapK .i64 (d.2.2 + (1 : Int))) then ((d.1[(wrapK .i64 (d.2.2 + (1 : Int))).toNat]?.map fun v0 => (v0.toNat : Int))).bind fun v3 =>
  (c_strings_IndexByte k ((⟨#[48, 49, 50, 51, 52, 53, 54, 55, 56, 57, 97, 98, 99, 100, 101, 102]⟩ : ByteArray), v3)).bind fun v4 =>
  (bif (decide (v2 < (0 : Int))) then some ((⟨#[]⟩ : ByteArray), false) else (bif (decide (v4 < (0 : Int))) then some ((⟨#[]⟩ : ByteArray), false) else (if 0 ≤ (4 : Int) then (if (d.2.1.length + ([(wrapK .u8 (intBits .or .i64 (wrapK .i64 (v2 * 2 ^ (min (4 : Int).toNat (IntKind.bits .i64)))) v4))] : List Int).length) * 1 ≤ capBytes then self (d.1, (d.2.1 ++ ([(wrapK .u8 (intBits .or .i64 (wrapK .i64 (v2 * 2 ^ (min (4 : Int).toNat (IntKind.bits .i64)))) v4))] : List Int)), (wrapK .i64 (d.2.2 + (2 : Int)))) else none) else none))) else none) else none) else some ((ofBytes d.2.1), true))
noncomputable def impl_UnhexText (k : Nat) (x0 : ByteArray) : Option (ByteArray × Bool) :=
  (if ((2 : Int) : Int) ≠ 0 then (bif (((x0.size : Int).tmod (2 : Int)) != (0 : Int)) then some ((⟨#[]⟩ : ByteArray), false) else iter k (impl_UnhexText_l1 k) (x0, ([] : List Int), (0 : Int))) else none)
set_option maxHeartbeats 0 in
theorem impl_UnhexText_run (k : Nat) (x0 : ByteArray) : c_impl_UnhexText (k + 1) (x0) = impl_UnhexText k x0 := by kernel_rfl
noncomputable def laws_FnExactUnhexText (k : Nat) (x0 : ByteArray) : Option Bool :=
  (bif (decide ((1048576 : Int) < (x0.size : Int))) then some true else (c_spec_UnhexText k x0).bind fun y1 =>
  (c_impl_UnhexText k x0).bind fun y2 =>
  (bif (!(eqS y2.1 y1.1)) then some false else (bif (y2.2 != y1.2) then some false else some true)))
set_option maxHeartbeats 0 in
theorem laws_FnExactUnhexText_run (k : Nat) (x0 : ByteArray) : c_laws_FnExactUnhexText (k + 1) (x0) = laws_FnExactUnhexText k x0 := by kernel_rfl
end Go.Proofs.Ythegbgdoobpkiaa
