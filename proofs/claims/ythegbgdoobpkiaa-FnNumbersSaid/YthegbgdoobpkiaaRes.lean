/- The tables, the residual functions and lemmas of this seat: parts of the proof of the law; conditions: those that each names. -/
import Derived.Test.YthegbgdoobpkiaaTab
set_option maxRecDepth 100000
set_option linter.unusedVariables false
namespace Go.Proofs.Ythegbgdoobpkiaa
open Go.Eng
noncomputable def impl_UnhexText_l1 (k : Nat) (self : (ByteArray × ((List Int) × Int)) → Option (ByteArray × Bool)) (d : (ByteArray × ((List Int) × Int))) : Option (ByteArray × Bool) :=
  (bif (decide (d.2.2 < (d.1.size : Int))) then (if 0 ≤ d.2.2 then ((d.1[d.2.2.toNat]?.map fun v0 => (v0.toNat : Int))).bind fun v1 =>
  (c_strings_IndexByte k ((⟨#[48, 49, 50, 51, 52, 53, 54, 55, 56, 57, 97, 98, 99, 100, 101, 102]⟩ : ByteArray), v1)).bind fun v2 =>
  (if 0 ≤ (wrapK .i64 (d.2.2 + (1 : Int))) then ((d.1[(wrapK .i64 (d.2.2 + (1 : Int))).toNat]?.map fun v0 => (v0.toNat : Int))).bind fun v3 =>
  (c_strings_IndexByte k ((⟨#[48, 49, 50, 51, 52, 53, 54, 55, 56, 57, 97, 98, 99, 100, 101, 102]⟩ : ByteArray), v3)).bind fun v4 =>
  (bif (decide (v2 < (0 : Int))) then some ((⟨#[]⟩ : ByteArray), false) else (bif (decide (v4 < (0 : Int))) then some ((⟨#[]⟩ : ByteArray), false) else (if 0 ≤ (4 : Int) then (if (d.2.1.length + ([(wrapK .u8 (intBits .or .i64 (wrapK .i64 (v2 * 2 ^ (min (4 : Int).toNat (IntKind.bits .i64)))) v4))] : List Int).length) * 1 ≤ capBytes then self (d.1, (d.2.1 ++ ([(wrapK .u8 (intBits .or .i64 (wrapK .i64 (v2 * 2 ^ (min (4 : Int).toNat (IntKind.bits .i64)))) v4))] : List Int)), (wrapK .i64 (d.2.2 + (2 : Int)))) else none) else none))) else none) else none) else some ((ofBytes d.2.1), true))
noncomputable def impl_UnhexText (k : Nat) (x0 : ByteArray) : Option (ByteArray × Bool) :=
  (if ((2 : Int) : Int) ≠ 0 then (bif (((x0.size : Int).tmod (2 : Int)) != (0 : Int)) then some ((⟨#[]⟩ : ByteArray), false) else iter k (impl_UnhexText_l1 k) (x0, ([] : List Int), (0 : Int))) else none)
set_option maxHeartbeats 0 in
theorem impl_UnhexText_run (k : Nat) (x0 : ByteArray) : c_impl_UnhexText (k + 1) (x0) = impl_UnhexText k x0 := by kernel_rfl
noncomputable def spec_l01Byte (k : Nat) (x0 : Dl01Cur) : Option (Int × Dl01Cur) :=
  (if 0 ≤ (33 : Int) then (if 0 ≤ (45 : Int) then (bif (decide (x0.2.1 < (x0.1.length : Int))) then (if 0 ≤ x0.2.1 then (x0.1[x0.2.1.toNat]?).bind fun y1 =>
  some ((intBits .and .i64 (wrapK .i64 ((intBits .and .i64 (intBits .xor .i64 ((wrapK .i64 ((wrapK .i64 (x0.2.2 * (6364136223846793005 : Int))) + (1442695040888963407 : Int))).fdiv (2 ^ (min (33 : Int).toNat (IntKind.bits .i64)))) ((wrapK .i64 ((wrapK .i64 (x0.2.2 * (6364136223846793005 : Int))) + (1442695040888963407 : Int))).fdiv (2 ^ (min (45 : Int).toNat (IntKind.bits .i64))))) (255 : Int)) + (wrapK .i64 y1))) (255 : Int)), (x0.1, (wrapK .i64 (x0.2.1 + (1 : Int))), (wrapK .i64 ((wrapK .i64 (x0.2.2 * (6364136223846793005 : Int))) + (1442695040888963407 : Int))))) else none) else some ((intBits .and .i64 (intBits .xor .i64 ((wrapK .i64 ((wrapK .i64 (x0.2.2 * (6364136223846793005 : Int))) + (1442695040888963407 : Int))).fdiv (2 ^ (min (33 : Int).toNat (IntKind.bits .i64)))) ((wrapK .i64 ((wrapK .i64 (x0.2.2 * (6364136223846793005 : Int))) + (1442695040888963407 : Int))).fdiv (2 ^ (min (45 : Int).toNat (IntKind.bits .i64))))) (255 : Int)), (x0.1, x0.2.1, (wrapK .i64 ((wrapK .i64 (x0.2.2 * (6364136223846793005 : Int))) + (1442695040888963407 : Int)))))) else none) else none)
set_option maxHeartbeats 0 in
theorem spec_l01Byte_run (k : Nat) (x0 : Dl01Cur) : c_spec_l01Byte (k + 1) (x0) = spec_l01Byte k x0 := by kernel_rfl
noncomputable def spec_MakeNum_l1 (k : Nat) (self : (Int × (Unit × (Int × Dl01Cur))) → Option Int) (d : (Int × (Unit × (Int × Dl01Cur)))) : Option Int :=
  (bif (decide (d.2.2.1 < d.1)) then (c_spec_l01Byte k d.2.2.2).bind fun v0 =>
  self (d.1, (), (wrapK .i64 (d.2.2.1 + (1 : Int))), v0.2) else (c_spec_l01Byte k d.2.2.2).bind fun v1 =>
  (c_spec_l01Byte k v1.2).bind fun v2 =>
  some (wrapK .i64 ((wrapK .i64 (v1.1 * (256 : Int))) + v2.1)))
noncomputable def spec_MakeNum_l2 (k : Nat) (a0 : Int) (self : Dl01Cur → Option Int) (d : Dl01Cur) : Option Int :=
  (bif (decide (d.2.2 < (d.1.length : Int))) then (bif (decide (d.2.2 < (4000 : Int))) then (if 0 ≤ d.2.2 then (d.1[d.2.2.toNat]?).bind fun v0 =>
  self (d.1, (intBits .and .i64 (wrapK .i64 ((wrapK .i64 ((wrapK .i64 (d.2.1 * (73 : Int))) + (wrapK .i64 v0))) + (7 : Int))) (1073741823 : Int)), (wrapK .i64 (d.2.2 + (1 : Int)))) else none) else iter k (spec_MakeNum_l1 k) (a0, (), (0 : Int), (d.1, (0 : Int), d.2.1))) else iter k (spec_MakeNum_l1 k) (a0, (), (0 : Int), (d.1, (0 : Int), d.2.1)))
noncomputable def spec_MakeNum (k : Nat) (x0 : (List Int)) (x1 : Int) : Option Int :=
  iter k (spec_MakeNum_l2 k x1) (x0, (wrapK .i64 ((1263 : Int) + (x0.length : Int))), (0 : Int))
set_option maxHeartbeats 0 in
theorem spec_MakeNum_run (k : Nat) (x0 : (List Int)) (x1 : Int) : c_spec_MakeNum (k + 1) (x0, x1) = spec_MakeNum k x0 x1 := by kernel_rfl
noncomputable def spec_l01Below (k : Nat) (x0 : Dl01Cur) (x1 : Int) : Option (Int × Dl01Cur) :=
  (bif (decide (x1 ≤ (0 : Int))) then some ((0 : Int), x0) else (bif (decide (x1 ≤ (256 : Int))) then (c_spec_l01Byte k x0).bind fun y1 =>
  (if (x1 : Int) ≠ 0 then some ((y1.1.tmod x1), y1.2) else none) else (c_spec_l01Byte k x0).bind fun y2 =>
  (c_spec_l01Byte k y2.2).bind fun y3 =>
  (c_spec_l01Byte k y3.2).bind fun y4 =>
  (c_spec_l01Byte k y4.2).bind fun y5 =>
  (if (x1 : Int) ≠ 0 then some (((wrapK .i64 ((wrapK .i64 ((wrapK .i64 ((wrapK .i64 (y2.1 * (16777216 : Int))) + (wrapK .i64 (y3.1 * (65536 : Int))))) + (wrapK .i64 (y4.1 * (256 : Int))))) + y5.1)).tmod x1), y5.2) else none)))
set_option maxHeartbeats 0 in
theorem spec_l01Below_run (k : Nat) (x0 : Dl01Cur) (x1 : Int) : c_spec_l01Below (k + 1) (x0, x1) = spec_l01Below k x0 x1 := by kernel_rfl
noncomputable def spec_l01Pick (k : Nat) (x0 : Dl01Cur) (x1 : (List Int)) : Option (Int × Dl01Cur) :=
  (c_spec_l01Below k (x0, (x1.length : Int))).bind fun y1 =>
  (if 0 ≤ y1.1 then (x1[y1.1.toNat]?).bind fun y2 =>
  some (y2, y1.2) else none)
set_option maxHeartbeats 0 in
theorem spec_l01Pick_run (k : Nat) (x0 : Dl01Cur) (x1 : (List Int)) : c_spec_l01Pick (k + 1) (x0, x1) = spec_l01Pick k x0 x1 := by kernel_rfl
noncomputable def spec_l02Bytes_l1 (k : Nat) (self : (Unit × ((List Int) × (Int × Dl01Cur))) → Option (ByteArray × Dl01Cur)) (d : (Unit × ((List Int) × (Int × Dl01Cur)))) : Option (ByteArray × Dl01Cur) :=
  (bif (decide ((0 : Int) < d.2.2.1)) then (c_spec_l01Byte k d.2.2.2).bind fun v0 =>
  (c_spec_l01Pick k (v0.2, ([(0 : Int), (1 : Int), (65 : Int), (97 : Int), (255 : Int), v0.1] : List Int))).bind fun v1 =>
  (if (d.2.1.length + ([(wrapK .u8 v1.1)] : List Int).length) * 1 ≤ capBytes then self ((), (d.2.1 ++ ([(wrapK .u8 v1.1)] : List Int)), (wrapK .i64 (d.2.2.1 - (1 : Int))), v1.2) else none) else some ((ofBytes d.2.1), d.2.2.2))
noncomputable def spec_l02Bytes (k : Nat) (x0 : Dl01Cur) (x1 : Int) : Option (ByteArray × Dl01Cur) :=
  (c_spec_l01Below k (x0, (wrapK .i64 (x1 + (1 : Int))))).bind fun y1 =>
  iter k (spec_l02Bytes_l1 k) ((), ([] : List Int), y1.1, y1.2)
set_option maxHeartbeats 0 in
theorem spec_l02Bytes_run (k : Nat) (x0 : Dl01Cur) (x1 : Int) : c_spec_l02Bytes (k + 1) (x0, x1) = spec_l02Bytes k x0 x1 := by kernel_rfl
noncomputable def spec_MakeBytes_l1 (k : Nat) (self : (Int × (Unit × (Int × Dl01Cur))) → Option ByteArray) (d : (Int × (Unit × (Int × Dl01Cur)))) : Option ByteArray :=
  (bif (decide (d.2.2.1 < d.1)) then (c_spec_l01Byte k d.2.2.2).bind fun v0 =>
  self (d.1, (), (wrapK .i64 (d.2.2.1 + (1 : Int))), v0.2) else (c_spec_l02Bytes k (d.2.2.2, (40 : Int))).bind fun v1 =>
  some v1.1)
noncomputable def spec_MakeBytes_l2 (k : Nat) (a0 : Int) (self : Dl01Cur → Option ByteArray) (d : Dl01Cur) : Option ByteArray :=
  (bif (decide (d.2.2 < (d.1.length : Int))) then (bif (decide (d.2.2 < (4000 : Int))) then (if 0 ≤ d.2.2 then (d.1[d.2.2.toNat]?).bind fun v0 =>
  self (d.1, (intBits .and .i64 (wrapK .i64 ((wrapK .i64 ((wrapK .i64 (d.2.1 * (73 : Int))) + (wrapK .i64 v0))) + (7 : Int))) (1073741823 : Int)), (wrapK .i64 (d.2.2 + (1 : Int)))) else none) else iter k (spec_MakeBytes_l1 k) (a0, (), (0 : Int), (d.1, (0 : Int), d.2.1))) else iter k (spec_MakeBytes_l1 k) (a0, (), (0 : Int), (d.1, (0 : Int), d.2.1)))
noncomputable def spec_MakeBytes (k : Nat) (x0 : (List Int)) (x1 : Int) : Option ByteArray :=
  iter k (spec_MakeBytes_l2 k x1) (x0, (wrapK .i64 ((1263 : Int) + (x0.length : Int))), (0 : Int))
set_option maxHeartbeats 0 in
theorem spec_MakeBytes_run (k : Nat) (x0 : (List Int)) (x1 : Int) : c_spec_MakeBytes (k + 1) (x0, x1) = spec_MakeBytes k x0 x1 := by kernel_rfl
noncomputable def impl_GetNumber_l1 (k : Nat) (self : (ByteArray × (Int × DAclEntry)) → Option (Int × Bool)) (d : (ByteArray × (Int × DAclEntry))) : Option (Int × Bool) :=
  (bif (decide (d.2.2.2.2 < d.2.2.2.1)) then (if 0 ≤ (8 : Int) then (if 0 ≤ (wrapK .i64 (d.2.1 + d.2.2.2.2)) then ((d.1[(wrapK .i64 (d.2.1 + d.2.2.2.2)).toNat]?.map fun v0 => (v0.toNat : Int))).bind fun v1 =>
  self (d.1, d.2.1, (intBits .or .i64 (wrapK .i64 (d.2.2.1 * 2 ^ (min (8 : Int).toNat (IntKind.bits .i64)))) (wrapK .i64 v1)), d.2.2.2.1, (wrapK .i64 (d.2.2.2.2 + (1 : Int)))) else none) else none) else some (d.2.2.1, true))
noncomputable def impl_GetNumber (k : Nat) (x0 : ByteArray) (x1 : Int) (x2 : Int) : Option (Int × Bool) :=
  (bif (decide (x2 < (1 : Int))) then some ((0 : Int), false) else (bif (decide ((6 : Int) < x2)) then some ((0 : Int), false) else (bif (decide (x1 < (0 : Int))) then some ((0 : Int), false) else (bif (decide ((wrapK .i64 ((x0.size : Int) - x2)) < x1)) then some ((0 : Int), false) else iter k (impl_GetNumber_l1 k) (x0, x1, (0 : Int), x2, (0 : Int))))))
set_option maxHeartbeats 0 in
theorem impl_GetNumber_run (k : Nat) (x0 : ByteArray) (x1 : Int) (x2 : Int) : c_impl_GetNumber (k + 1) (x0, x1, x2) = impl_GetNumber k x0 x1 x2 := by kernel_rfl
noncomputable def impl_PutNumber_l1 (k : Nat) (self : (Int × ((List Int) × Int)) → Option ByteArray) (d : (Int × ((List Int) × Int))) : Option ByteArray :=
  (bif (decide ((0 : Int) ≤ d.2.2)) then (if 0 ≤ d.2.2 then (if d.2.2 < (d.2.1.length : Int) then (d.2.1[d.2.2.toNat]?).bind fun v0 =>
  (if 0 ≤ (8 : Int) then self ((d.1.fdiv (2 ^ (min (8 : Int).toNat (IntKind.bits .i64)))), (d.2.1.set d.2.2.toNat (wrapK .u8 d.1)), (wrapK .i64 (d.2.2 - (1 : Int)))) else none) else none) else none) else some (ofBytes d.2.1))
noncomputable def impl_PutNumber (k : Nat) (x0 : Int) (x1 : Int) : Option ByteArray :=
  (bif (decide (x1 < (1 : Int))) then some (⟨#[]⟩ : ByteArray) else (bif (decide ((6 : Int) < x1)) then some (⟨#[]⟩ : ByteArray) else (bif (decide (x0 < (0 : Int))) then some (⟨#[]⟩ : ByteArray) else (if 0 ≤ (wrapK .i64 ((8 : Int) * x1)) then (bif (decide ((wrapK .i64 ((1 : Int) * 2 ^ (min (wrapK .i64 ((8 : Int) * x1)).toNat (IntKind.bits .i64)))) ≤ x0)) then some (⟨#[]⟩ : ByteArray) else (if 0 ≤ x1 then (if x1 ≤ x1 then (if x1 * 1 ≤ (capBytes : Int) then iter k (impl_PutNumber_l1 k) (x0, (List.replicate x1.toNat (0 : Int)), (wrapK .i64 (x1 - (1 : Int)))) else none) else none) else none)) else none))))
set_option maxHeartbeats 0 in
theorem impl_PutNumber_run (k : Nat) (x0 : Int) (x1 : Int) : c_impl_PutNumber (k + 1) (x0, x1) = impl_PutNumber k x0 x1 := by kernel_rfl
noncomputable def impl_HexOf_l1 (k : Nat) (self : (ByteArray × Dl01Cur) → Option ByteArray) (d : (ByteArray × Dl01Cur)) : Option ByteArray :=
  (bif (decide (d.2.2.2 < d.2.2.1)) then (if 0 ≤ d.2.2.2 then ((d.1[d.2.2.2.toNat]?.map fun v0 => (v0.toNat : Int))).bind fun v1 =>
  (if 0 ≤ (4 : Int) then (if 0 ≤ (v1.fdiv (2 ^ (min (4 : Int).toNat (IntKind.bits .u8)))) then (((⟨#[48, 49, 50, 51, 52, 53, 54, 55, 56, 57, 97, 98, 99, 100, 101, 102]⟩ : ByteArray)[(v1.fdiv (2 ^ (min (4 : Int).toNat (IntKind.bits .u8)))).toNat]?.map fun v0 => (v0.toNat : Int))).bind fun v2 =>
  (if 0 ≤ d.2.2.2 then ((d.1[d.2.2.2.toNat]?.map fun v0 => (v0.toNat : Int))).bind fun v3 =>
  (if 0 ≤ (intBits .and .u8 v3 (15 : Int)) then (((⟨#[48, 49, 50, 51, 52, 53, 54, 55, 56, 57, 97, 98, 99, 100, 101, 102]⟩ : ByteArray)[(intBits .and .u8 v3 (15 : Int)).toNat]?.map fun v0 => (v0.toNat : Int))).bind fun v4 =>
  (if (d.2.1.length + ([v2, v4] : List Int).length) * 1 ≤ capBytes then self (d.1, (d.2.1 ++ ([v2, v4] : List Int)), d.2.2.1, (wrapK .i64 (d.2.2.2 + (1 : Int)))) else none) else none) else none) else none) else none) else none) else some (ofBytes d.2.1))
noncomputable def impl_HexOf (k : Nat) (x0 : ByteArray) : Option ByteArray :=
  iter k (impl_HexOf_l1 k) (x0, ([] : List Int), (x0.size : Int), (0 : Int))
set_option maxHeartbeats 0 in
theorem impl_HexOf_run (k : Nat) (x0 : ByteArray) : c_impl_HexOf (k + 1) (x0) = impl_HexOf k x0 := by kernel_rfl
noncomputable def impl_Join (k : Nat) (x0 : (List ByteArray)) (x1 : ByteArray) : Option ByteArray :=
  (c_strings_Join k (x0, x1)).bind fun y1 =>
  some y1
set_option maxHeartbeats 0 in
theorem impl_Join_run (k : Nat) (x0 : (List ByteArray)) (x1 : ByteArray) : c_impl_Join (k + 1) (x0, x1) = impl_Join k x0 x1 := by kernel_rfl
noncomputable def impl_CutAll_l1 (k : Nat) (self : (ByteArray × (Int × (List ByteArray))) → Option (List ByteArray)) (d : (ByteArray × (Int × (List ByteArray)))) : Option (List ByteArray) :=
  (bif (decide ((0 : Int) < (d.1.size : Int))) then (if 0 ≤ (min d.2.1 (d.1.size : Int)) then (if (min d.2.1 (d.1.size : Int)) ≤ (d.1.size : Int) then (if (d.2.2.length + ([(d.1.extract 0 ((min d.2.1 (d.1.size : Int)).toNat))] : List ByteArray).length) * 16 ≤ capBytes then (if 0 ≤ (min d.2.1 (d.1.size : Int)) then (if (min d.2.1 (d.1.size : Int)) ≤ (d.1.size : Int) then self ((d.1.extract ((min d.2.1 (d.1.size : Int)).toNat) d.1.size), d.2.1, (d.2.2 ++ ([(d.1.extract 0 ((min d.2.1 (d.1.size : Int)).toNat))] : List ByteArray))) else none) else none) else none) else none) else none) else some d.2.2)
noncomputable def impl_CutAll (k : Nat) (x0 : ByteArray) (x1 : Int) : Option (List ByteArray) :=
  (bif (decide (x1 < (1 : Int))) then some ([] : List ByteArray) else (bif (decide ((1000 : Int) < x1)) then some ([] : List ByteArray) else iter k (impl_CutAll_l1 k) (x0, x1, ([] : List ByteArray))))
set_option maxHeartbeats 0 in
theorem impl_CutAll_run (k : Nat) (x0 : ByteArray) (x1 : Int) : c_impl_CutAll (k + 1) (x0, x1) = impl_CutAll k x0 x1 := by kernel_rfl
noncomputable def impl_PadTo (k : Nat) (x0 : ByteArray) (x1 : Int) : Option ByteArray :=
  (bif (decide (x1 ≤ (x0.size : Int))) then some x0 else (bif (decide ((100000 : Int) < x1)) then some (⟨#[]⟩ : ByteArray) else (c_strings_Repeat k ((⟨#[0]⟩ : ByteArray), (wrapK .i64 (x1 - (x0.size : Int))))).bind fun y1 =>
  (if x0.size + y1.size ≤ 9223372036854775807 then some (x0 ++ y1) else none)))
set_option maxHeartbeats 0 in
theorem impl_PadTo_run (k : Nat) (x0 : ByteArray) (x1 : Int) : c_impl_PadTo (k + 1) (x0, x1) = impl_PadTo k x0 x1 := by kernel_rfl
noncomputable def impl_IsZeroes_l1 (k : Nat) (self : (ByteArray × (Int × Int)) → Option Bool) (d : (ByteArray × (Int × Int))) : Option Bool :=
  (bif (decide (d.2.2 < d.2.1)) then (if 0 ≤ d.2.2 then ((d.1[d.2.2.toNat]?.map fun v0 => (v0.toNat : Int))).bind fun v1 =>
  (bif (v1 != (0 : Int)) then some false else self (d.1, d.2.1, (wrapK .i64 (d.2.2 + (1 : Int))))) else none) else some true)
noncomputable def impl_IsZeroes (k : Nat) (x0 : ByteArray) : Option Bool :=
  iter k (impl_IsZeroes_l1 k) (x0, (x0.size : Int), (0 : Int))
set_option maxHeartbeats 0 in
theorem impl_IsZeroes_run (k : Nat) (x0 : ByteArray) : c_impl_IsZeroes (k + 1) (x0) = impl_IsZeroes k x0 := by kernel_rfl
noncomputable def laws_FnNumbers (k : Nat) (x0 : (List Int)) : Option Bool :=
  (bif (decide ((1048576 : Int) < (x0.length : Int))) then some true else (c_spec_MakeNum k (x0, (3 : Int))).bind fun y1 =>
  (c_spec_MakeBytes k (x0, (5 : Int))).bind fun y2 =>
  (c_impl_PutNumber k (y1, (4 : Int))).bind fun y3 =>
  (if (⟨#[120]⟩ : ByteArray).size + y3.size ≤ 9223372036854775807 then (c_impl_GetNumber k (((⟨#[120]⟩ : ByteArray) ++ y3), (1 : Int), (4 : Int))).bind fun y4 =>
  (c_impl_HexOf k y2).bind fun y5 =>
  (c_impl_UnhexText k y5).bind fun y6 =>
  (bif y4.2 then (bif y6.2 then (bif (y4.1 == y1) then (bif (eqS y6.1 y2) then (c_impl_CutAll k (y2, (3 : Int))).bind fun y7 =>
  (c_impl_Join k (y7, (⟨#[]⟩ : ByteArray))).bind fun y8 =>
  (bif (eqS y8 y2) then (c_impl_PadTo k (y2, (50 : Int))).bind fun y9 =>
  (bif ((y9.size : Int) == (50 : Int)) then (c_impl_PadTo k ((⟨#[]⟩ : ByteArray), (9 : Int))).bind fun y10 =>
  (c_impl_IsZeroes k y10).bind fun y11 =>
  (bif y11 then (c_impl_PadTo k (y2, (50 : Int))).bind fun y12 =>
  (if 0 ≤ (y2.size : Int) then (if (y2.size : Int) ≤ (y12.size : Int) then some (eqS (y12.extract 0 ((y2.size : Int).toNat)) y2) else none) else none) else some false) else some false) else some false) else some false) else some false) else some false) else some false) else none))
set_option maxHeartbeats 0 in
theorem laws_FnNumbers_run (k : Nat) (x0 : (List Int)) : c_laws_FnNumbers (k + 1) (x0) = laws_FnNumbers k x0 := by kernel_rfl
end Go.Proofs.Ythegbgdoobpkiaa
