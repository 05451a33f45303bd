/- The tables, the residual functions and lemmas of this seat: parts of the proof of the law; conditions: those that each names. -/
import Derived.Test.YtnbipilpdhhhmaaTab
set_option maxRecDepth 100000
set_option linter.unusedVariables false
namespace Go.Proofs.Ytnbipilpdhhhmaa
open Go.Eng
noncomputable def laws_szStringS_l1 (k : Nat) (self : ((List ByteArray) × DQuota) → Option Int) (d : ((List ByteArray) × DQuota)) : Option Int :=
  (bif (decide (d.2.2 < (d.1.length : Int))) then (if 0 ≤ d.2.2 then (d.1[d.2.2.toNat]?).bind fun v0 =>
  (bif (decide ((wrapK .i64 (d.2.1 - (v0.size : Int))) < (0 : Int))) then some (-1 : Int) else self (d.1, (wrapK .i64 (d.2.1 - (v0.size : Int))), (wrapK .i64 (d.2.2 + (1 : Int))))) else none) else some d.2.1)
noncomputable def laws_szStringS (k : Nat) (x0 : (List ByteArray)) (x1 : Int) : Option Int :=
  (bif (decide ((wrapK .i64 (x1 - (x0.length : Int))) < (0 : Int))) then some (-1 : Int) else iter k (laws_szStringS_l1 k) (x0, (wrapK .i64 (x1 - (x0.length : Int))), (0 : Int)))
set_option maxHeartbeats 0 in
theorem laws_szStringS_run (k : Nat) (x0 : (List ByteArray)) (x1 : Int) : c_laws_szStringS (k + 1) (x0, x1) = laws_szStringS k x0 x1 := by kernel_rfl
noncomputable def laws_szWrite (k : Nat) (x0 : DWrite) (x1 : Int) : Option Int :=
  (bif (decide ((wrapK .i64 (x1 - (x0.2.size : Int))) < (0 : Int))) then some (-1 : Int) else some (wrapK .i64 (x1 - (x0.2.size : Int))))
set_option maxHeartbeats 0 in
theorem laws_szWrite_run (k : Nat) (x0 : DWrite) (x1 : Int) : c_laws_szWrite (k + 1) (x0, x1) = laws_szWrite k x0 x1 := by kernel_rfl
noncomputable def laws_szWriteS_l1 (k : Nat) (self : ((List DWrite) × DQuota) → Option Int) (d : ((List DWrite) × DQuota)) : Option Int :=
  (bif (decide (d.2.2 < (d.1.length : Int))) then (if 0 ≤ d.2.2 then (d.1[d.2.2.toNat]?).bind fun v0 =>
  (c_laws_szWrite k (v0, d.2.1)).bind fun v1 =>
  (bif (decide (v1 < (0 : Int))) then some (-1 : Int) else self (d.1, v1, (wrapK .i64 (d.2.2 + (1 : Int))))) else none) else some d.2.1)
noncomputable def laws_szWriteS (k : Nat) (x0 : (List DWrite)) (x1 : Int) : Option Int :=
  (bif (decide ((wrapK .i64 (x1 - (x0.length : Int))) < (0 : Int))) then some (-1 : Int) else iter k (laws_szWriteS_l1 k) (x0, (wrapK .i64 (x1 - (x0.length : Int))), (0 : Int)))
set_option maxHeartbeats 0 in
theorem laws_szWriteS_run (k : Nat) (x0 : (List DWrite)) (x1 : Int) : c_laws_szWriteS (k + 1) (x0, x1) = laws_szWriteS k x0 x1 := by kernel_rfl
noncomputable def laws_szDisk (k : Nat) (x0 : DDisk) (x1 : Int) : Option Int :=
  (c_laws_szStringS k (x0.1, x1)).bind fun y1 =>
  (bif (decide (y1 < (0 : Int))) then some (-1 : Int) else (c_laws_szWriteS k (x0.2, y1)).bind fun y2 =>
  (bif (decide (y2 < (0 : Int))) then some (-1 : Int) else some y2))
set_option maxHeartbeats 0 in
theorem laws_szDisk_run (k : Nat) (x0 : DDisk) (x1 : Int) : c_laws_szDisk (k + 1) (x0, x1) = laws_szDisk k x0 x1 := by kernel_rfl
noncomputable def spec_l01In (k : Nat) (x0 : Int) (x1 : Int) (x2 : Int) : Option Bool :=
  (bif (decide (x1 ≤ x0)) then some (decide (x0 ≤ x2)) else some false)
set_option maxHeartbeats 0 in
theorem spec_l01In_run (k : Nat) (x0 : Int) (x1 : Int) (x2 : Int) : c_spec_l01In (k + 1) (x0, x1, x2) = spec_l01In k x0 x1 x2 := by kernel_rfl
noncomputable def spec_IsDisk_l1 (k : Nat) (self : (Unit × ((List DWrite) × (Int × (Int × DDisk)))) → Option Bool) (d : (Unit × ((List DWrite) × (Int × (Int × DDisk))))) : Option Bool :=
  (bif (decide (d.2.2.2.1 < d.2.2.1)) then (if 0 ≤ d.2.2.2.1 then (d.2.1[d.2.2.2.1.toNat]?).bind fun v0 =>
  (c_spec_l01In k (v0.1, (0 : Int), (wrapK .i64 ((d.2.2.2.2.1.length : Int) - (1 : Int))))).bind fun v1 =>
  (bif (!v1) then some false else (bif ((v0.2.size : Int) != (32 : Int)) then some false else self ((), d.2.1, d.2.2.1, (wrapK .i64 (d.2.2.2.1 + (1 : Int))), d.2.2.2.2))) else none) else (bif (decide ((d.2.2.2.2.1.length : Int) ≤ (400 : Int))) then some (decide ((d.2.2.2.2.2.length : Int) ≤ (400 : Int))) else some false))
noncomputable def spec_IsDisk_l2 (k : Nat) (self : (Unit × ((List ByteArray) × (Int × (Int × DDisk)))) → Option Bool) (d : (Unit × ((List ByteArray) × (Int × (Int × DDisk))))) : Option Bool :=
  (bif (decide (d.2.2.2.1 < d.2.2.1)) then (if 0 ≤ d.2.2.2.1 then (d.2.1[d.2.2.2.1.toNat]?).bind fun v0 =>
  (bif ((v0.size : Int) != (32 : Int)) then some false else self ((), d.2.1, d.2.2.1, (wrapK .i64 (d.2.2.2.1 + (1 : Int))), d.2.2.2.2)) else none) else iter k (spec_IsDisk_l1 k) ((), d.2.2.2.2.2, (d.2.2.2.2.2.length : Int), (0 : Int), d.2.2.2.2))
noncomputable def spec_IsDisk (k : Nat) (x0 : DDisk) : Option Bool :=
  iter k (spec_IsDisk_l2 k) ((), x0.1, (x0.1.length : Int), (0 : Int), x0)
set_option maxHeartbeats 0 in
theorem spec_IsDisk_run (k : Nat) (x0 : DDisk) : c_spec_IsDisk (k + 1) (x0) = spec_IsDisk k x0 := by kernel_rfl
noncomputable def spec_l03Copy (k : Nat) (x0 : DDisk) : Option DDisk :=
  (if (([] : List ByteArray).length + x0.1.length) * 16 ≤ capBytes then (if (([] : List DWrite).length + x0.2.length) * 24 ≤ capBytes then some ((([] : List ByteArray) ++ x0.1), (([] : List DWrite) ++ x0.2)) else none) else none)
set_option maxHeartbeats 0 in
theorem spec_l03Copy_run (k : Nat) (x0 : DDisk) : c_spec_l03Copy (k + 1) (x0) = spec_l03Copy k x0 := by kernel_rfl
noncomputable def spec_l03Store_l1 (k : Nat) (self : ((List Bool) × (Bool × (Unit × (Unit × ((List DWrite) × (Int × (Int × (DDisk × DDisk)))))))) → Option DDisk) (d : ((List Bool) × (Bool × (Unit × (Unit × ((List DWrite) × (Int × (Int × (DDisk × DDisk))))))))) : Option DDisk :=
  (bif (decide (d.2.2.2.2.2.2.1 < d.2.2.2.2.2.1)) then (if 0 ≤ d.2.2.2.2.2.2.1 then (d.2.2.2.2.1[d.2.2.2.2.2.2.1.toNat]?).bind fun v0 =>
  (bif d.2.1 then (if 0 ≤ v0.1 then (if v0.1 < (d.2.2.2.2.2.2.2.1.1.length : Int) then (d.2.2.2.2.2.2.2.1.1[v0.1.toNat]?).bind fun v1 =>
  self (d.1, d.2.1, (), (), d.2.2.2.2.1, d.2.2.2.2.2.1, (wrapK .i64 (d.2.2.2.2.2.2.1 + (1 : Int))), ((d.2.2.2.2.2.2.2.1.1.set v0.1.toNat v0.2), d.2.2.2.2.2.2.2.1.2), d.2.2.2.2.2.2.2.2) else none) else none) else (bif (decide (d.2.2.2.2.2.2.1 < (d.1.length : Int))) then (if 0 ≤ d.2.2.2.2.2.2.1 then (d.1[d.2.2.2.2.2.2.1.toNat]?).bind fun v2 =>
  (bif v2 then (if 0 ≤ v0.1 then (if v0.1 < (d.2.2.2.2.2.2.2.1.1.length : Int) then (d.2.2.2.2.2.2.2.1.1[v0.1.toNat]?).bind fun v3 =>
  self (d.1, d.2.1, (), (), d.2.2.2.2.1, d.2.2.2.2.2.1, (wrapK .i64 (d.2.2.2.2.2.2.1 + (1 : Int))), ((d.2.2.2.2.2.2.2.1.1.set v0.1.toNat v0.2), d.2.2.2.2.2.2.2.1.2), d.2.2.2.2.2.2.2.2) else none) else none) else self (d.1, d.2.1, (), (), d.2.2.2.2.1, d.2.2.2.2.2.1, (wrapK .i64 (d.2.2.2.2.2.2.1 + (1 : Int))), d.2.2.2.2.2.2.2.1, d.2.2.2.2.2.2.2.2)) else none) else self (d.1, d.2.1, (), (), d.2.2.2.2.1, d.2.2.2.2.2.1, (wrapK .i64 (d.2.2.2.2.2.2.1 + (1 : Int))), d.2.2.2.2.2.2.2.1, d.2.2.2.2.2.2.2.2))) else none) else some d.2.2.2.2.2.2.2.1)
noncomputable def spec_l03Store (k : Nat) (x0 : DDisk) (x1 : (List Bool)) (x2 : Bool) : Option DDisk :=
  (if (([] : List ByteArray).length + x0.1.length) * 16 ≤ capBytes then iter k (spec_l03Store_l1 k) (x1, x2, (), (), x0.2, (x0.2.length : Int), (0 : Int), ((([] : List ByteArray) ++ x0.1), ([] : List DWrite)), (([] : List ByteArray), ([] : List DWrite))) else none)
set_option maxHeartbeats 0 in
theorem spec_l03Store_run (k : Nat) (x0 : DDisk) (x1 : (List Bool)) (x2 : Bool) : c_spec_l03Store (k + 1) (x0, x1, x2) = spec_l03Store k x0 x1 x2 := by kernel_rfl
noncomputable def spec_CrashDisk (k : Nat) (x0 : DDisk) (x1 : (List Bool)) : Option DDisk :=
  (c_spec_IsDisk k x0).bind fun y1 =>
  (bif (!y1) then (c_spec_l03Copy k x0).bind fun y2 =>
  some y2 else (c_spec_l03Store k (x0, x1, false)).bind fun y3 =>
  some y3)
set_option maxHeartbeats 0 in
theorem spec_CrashDisk_run (k : Nat) (x0 : DDisk) (x1 : (List Bool)) : c_spec_CrashDisk (k + 1) (x0, x1) = spec_CrashDisk k x0 x1 := by kernel_rfl
noncomputable def spec_FlushDisk (k : Nat) (x0 : DDisk) : Option DDisk :=
  (c_spec_IsDisk k x0).bind fun y1 =>
  (bif (!y1) then (c_spec_l03Copy k x0).bind fun y2 =>
  some y2 else (c_spec_l03Store k (x0, ([] : List Bool), true)).bind fun y3 =>
  some y3)
set_option maxHeartbeats 0 in
theorem spec_FlushDisk_run (k : Nat) (x0 : DDisk) : c_spec_FlushDisk (k + 1) (x0) = spec_FlushDisk k x0 := by kernel_rfl
noncomputable def spec_WriteSector (k : Nat) (x0 : DDisk) (x1 : Int) (x2 : ByteArray) : Option (DDisk × Bool) :=
  (c_spec_l03Copy k x0).bind fun y1 =>
  (c_spec_IsDisk k x0).bind fun y2 =>
  (bif (!y2) then some (y1, false) else (c_spec_l01In k (x1, (0 : Int), (wrapK .i64 ((x0.1.length : Int) - (1 : Int))))).bind fun y3 =>
  (bif (!y3) then some (y1, false) else (bif ((x2.size : Int) != (32 : Int)) then some (y1, false) else (bif ((x0.2.length : Int) == (400 : Int)) then some (y1, false) else (if (y1.2.length + ([(x1, x2)] : List DWrite).length) * 24 ≤ capBytes then some ((y1.1, (y1.2 ++ ([(x1, x2)] : List DWrite))), true) else none)))))
set_option maxHeartbeats 0 in
theorem spec_WriteSector_run (k : Nat) (x0 : DDisk) (x1 : Int) (x2 : ByteArray) : c_spec_WriteSector (k + 1) (x0, x1, x2) = spec_WriteSector k x0 x1 x2 := by kernel_rfl
noncomputable def spec_RunSteps_l1 (k : Nat) (self : (Int × (Unit × (Unit × ((List DStep) × (Int × (Int × (DDisk × DDisk))))))) → Option DDisk) (d : (Int × (Unit × (Unit × ((List DStep) × (Int × (Int × (DDisk × DDisk)))))))) : Option DDisk :=
  (bif (decide (d.2.2.2.2.2.1 < d.2.2.2.2.1)) then (if 0 ≤ d.2.2.2.2.2.1 then (d.2.2.2.1[d.2.2.2.2.2.1.toNat]?).bind fun v0 =>
  (bif (decide (d.1 ≤ d.2.2.2.2.2.1)) then some d.2.2.2.2.2.2.1 else (bif v0.1 then (c_spec_FlushDisk k d.2.2.2.2.2.2.1).bind fun v1 =>
  self (d.1, (), (), d.2.2.2.1, d.2.2.2.2.1, (wrapK .i64 (d.2.2.2.2.2.1 + (1 : Int))), v1, d.2.2.2.2.2.2.2) else (c_spec_WriteSector k (d.2.2.2.2.2.2.1, v0.2.1, v0.2.2)).bind fun v2 =>
  self (d.1, (), (), d.2.2.2.1, d.2.2.2.2.1, (wrapK .i64 (d.2.2.2.2.2.1 + (1 : Int))), v2.1, d.2.2.2.2.2.2.2))) else none) else some d.2.2.2.2.2.2.1)
noncomputable def spec_RunSteps (k : Nat) (x0 : DDisk) (x1 : (List DStep)) (x2 : Int) : Option DDisk :=
  (c_spec_l03Copy k x0).bind fun y1 =>
  iter k (spec_RunSteps_l1 k) (x2, (), (), x1, (x1.length : Int), (0 : Int), y1, (([] : List ByteArray), ([] : List DWrite)))
set_option maxHeartbeats 0 in
theorem spec_RunSteps_run (k : Nat) (x0 : DDisk) (x1 : (List DStep)) (x2 : Int) : c_spec_RunSteps (k + 1) (x0, x1, x2) = spec_RunSteps k x0 x1 x2 := by kernel_rfl
noncomputable def spec_l03Read_l1 (k : Nat) (self : (Int × (Unit × (Int × DDisk))) → Option ByteArray) (d : (Int × (Unit × (Int × DDisk)))) : Option ByteArray :=
  (bif (decide ((0 : Int) ≤ d.2.2.1)) then (if 0 ≤ d.2.2.1 then (d.2.2.2.2[d.2.2.1.toNat]?).bind fun v0 =>
  (bif (v0.1 == d.1) then (if 0 ≤ d.2.2.1 then (d.2.2.2.2[d.2.2.1.toNat]?).bind fun v1 =>
  some v1.2 else none) else self (d.1, (), (wrapK .i64 (d.2.2.1 - (1 : Int))), d.2.2.2)) else none) else (if 0 ≤ d.1 then (d.2.2.2.1[d.1.toNat]?).bind fun v2 =>
  some v2 else none))
noncomputable def spec_l03Read (k : Nat) (x0 : DDisk) (x1 : Int) : Option ByteArray :=
  iter k (spec_l03Read_l1 k) (x1, (), (wrapK .i64 ((x0.2.length : Int) - (1 : Int))), x0)
set_option maxHeartbeats 0 in
theorem spec_l03Read_run (k : Nat) (x0 : DDisk) (x1 : Int) : c_spec_l03Read (k + 1) (x0, x1) = spec_l03Read k x0 x1 := by kernel_rfl
noncomputable def spec_GetNumber_l1 (k : Nat) (self : (ByteArray × (Int × DAclEntry)) → Option (Int × Bool)) (d : (ByteArray × (Int × DAclEntry))) : Option (Int × Bool) :=
  (bif (decide (d.2.2.2.2 < d.2.2.1)) then (if 0 ≤ (wrapK .i64 (d.2.1 + d.2.2.2.2)) then ((d.1[(wrapK .i64 (d.2.1 + d.2.2.2.2)).toNat]?.map fun v0 => (v0.toNat : Int))).bind fun v1 =>
  self (d.1, d.2.1, d.2.2.1, (wrapK .i64 ((wrapK .i64 ((256 : Int) * d.2.2.2.1)) + (wrapK .i64 v1))), (wrapK .i64 (d.2.2.2.2 + (1 : Int)))) else none) else some (d.2.2.2.1, true))
noncomputable def spec_GetNumber (k : Nat) (x0 : ByteArray) (x1 : Int) (x2 : Int) : Option (Int × Bool) :=
  (c_spec_l01In k (x2, (1 : Int), (6 : Int))).bind fun y1 =>
  (bif (!y1) then some ((0 : Int), false) else (bif (decide (x1 < (0 : Int))) then some ((0 : Int), false) else (bif (decide ((wrapK .i64 ((x0.size : Int) - x2)) < x1)) then some ((0 : Int), false) else iter k (spec_GetNumber_l1 k) (x0, x1, x2, (0 : Int), (0 : Int)))))
set_option maxHeartbeats 0 in
theorem spec_GetNumber_run (k : Nat) (x0 : ByteArray) (x1 : Int) (x2 : Int) : c_spec_GetNumber (k + 1) (x0, x1, x2) = spec_GetNumber k x0 x1 x2 := by kernel_rfl
noncomputable def spec_IsTxn_l1 (k : Nat) (self : ((List DWrite) × (Unit × ((List DWrite) × (Int × (Int × DDisk))))) → Option Bool) (d : ((List DWrite) × (Unit × ((List DWrite) × (Int × (Int × DDisk)))))) : Option Bool :=
  (bif (decide (d.2.2.2.2.1 < d.2.2.2.1)) then (if 0 ≤ d.2.2.2.2.1 then (d.2.2.1[d.2.2.2.2.1.toNat]?).bind fun v0 =>
  (c_spec_l01In k (v0.1, (0 : Int), (wrapK .i64 ((d.2.2.2.2.2.1.length : Int) - (1 : Int))))).bind fun v1 =>
  (bif (!v1) then some false else (c_spec_l01In k (v0.1, (1 : Int), (69 : Int))).bind fun v2 =>
  (bif v2 then some false else (bif ((v0.2.size : Int) != (32 : Int)) then some false else (bif (decide ((0 : Int) < d.2.2.2.2.1)) then (if 0 ≤ (wrapK .i64 (d.2.2.2.2.1 - (1 : Int))) then (d.1[(wrapK .i64 (d.2.2.2.2.1 - (1 : Int))).toNat]?).bind fun v3 =>
  (bif (decide (v0.1 ≤ v3.1)) then some false else self (d.1, (), d.2.2.1, d.2.2.2.1, (wrapK .i64 (d.2.2.2.2.1 + (1 : Int))), d.2.2.2.2.2)) else none) else self (d.1, (), d.2.2.1, d.2.2.2.1, (wrapK .i64 (d.2.2.2.2.1 + (1 : Int))), d.2.2.2.2.2))))) else none) else some true)
noncomputable def spec_IsTxn (k : Nat) (x0 : DDisk) (x1 : (List DWrite)) : Option Bool :=
  (c_spec_IsDisk k x0).bind fun y1 =>
  (bif (!y1) then some false else (bif (decide ((x0.1.length : Int) < (70 : Int))) then some false else (c_spec_l01In k ((x1.length : Int), (1 : Int), (64 : Int))).bind fun y2 =>
  (bif (!y2) then some false else iter k (spec_IsTxn_l1 k) (x1, (), x1, (x1.length : Int), (0 : Int), x0))))
set_option maxHeartbeats 0 in
theorem spec_IsTxn_run (k : Nat) (x0 : DDisk) (x1 : (List DWrite)) : c_spec_IsTxn (k + 1) (x0, x1) = spec_IsTxn k x0 x1 := by kernel_rfl
noncomputable def spec_PutNumber_l1 (k : Nat) (self : (Int × ((List Int) × Int)) → Option ByteArray) (d : (Int × ((List Int) × Int))) : Option ByteArray :=
  (bif (decide ((0 : Int) ≤ d.2.2)) then (if ((256 : Int) : Int) ≠ 0 then (if 0 ≤ d.2.2 then (if d.2.2 < (d.2.1.length : Int) then (d.2.1[d.2.2.toNat]?).bind fun v0 =>
  (if ((256 : Int) : Int) ≠ 0 then self ((wrapK .i64 (d.1.tdiv (256 : Int))), (d.2.1.set d.2.2.toNat (wrapK .u8 (d.1.tmod (256 : Int)))), (wrapK .i64 (d.2.2 - (1 : Int)))) else none) else none) else none) else none) else some (ofBytes d.2.1))
noncomputable def spec_PutNumber (k : Nat) (x0 : Int) (x1 : Int) : Option ByteArray :=
  (c_spec_l01In k (x1, (1 : Int), (6 : Int))).bind fun y1 =>
  (bif (!y1) then some (⟨#[]⟩ : ByteArray) else (bif (decide (x0 < (0 : Int))) then some (⟨#[]⟩ : ByteArray) else (if 0 ≤ (wrapK .u64 ((8 : Int) * (wrapK .u64 x1))) then (bif (decide ((wrapK .i64 ((1 : Int) * 2 ^ (min (wrapK .u64 ((8 : Int) * (wrapK .u64 x1))).toNat (IntKind.bits .i64)))) ≤ x0)) then some (⟨#[]⟩ : ByteArray) else (if 0 ≤ x1 then (if x1 ≤ x1 then (if x1 * 1 ≤ (capBytes : Int) then iter k (spec_PutNumber_l1 k) (x0, (List.replicate x1.toNat (0 : Int)), (wrapK .i64 (x1 - (1 : Int)))) else none) else none) else none)) else none)))
set_option maxHeartbeats 0 in
theorem spec_PutNumber_run (k : Nat) (x0 : Int) (x1 : Int) : c_spec_PutNumber (k + 1) (x0, x1) = spec_PutNumber k x0 x1 := by kernel_rfl
noncomputable def spec_PadTo_l1 (k : Nat) (self : (Int × (List Int)) → Option ByteArray) (d : (Int × (List Int))) : Option ByteArray :=
  (bif (decide ((d.2.length : Int) < d.1)) then (if (d.2.length + ([(0 : Int)] : List Int).length) * 1 ≤ capBytes then self (d.1, (d.2 ++ ([(0 : Int)] : List Int))) else none) else some (ofBytes d.2))
noncomputable def spec_PadTo (k : Nat) (x0 : ByteArray) (x1 : Int) : Option ByteArray :=
  (bif (decide ((100000 : Int) < x1)) then some (⟨#[]⟩ : ByteArray) else iter k (spec_PadTo_l1 k) (x1, (bytesOf x0)))
set_option maxHeartbeats 0 in
theorem spec_PadTo_run (k : Nat) (x0 : ByteArray) (x1 : Int) : c_spec_PadTo (k + 1) (x0, x1) = spec_PadTo k x0 x1 := by kernel_rfl
noncomputable def spec_l04Ok_l1 (k : Nat) (self : ((List DWrite) × ((List DWrite) × DQuota)) → Option Bool) (d : ((List DWrite) × ((List DWrite) × DQuota))) : Option Bool :=
  (bif (decide (d.2.2.2 < d.2.2.1)) then (if 0 ≤ d.2.2.2 then (d.2.1[d.2.2.2.toNat]?).bind fun v0 =>
  (c_spec_l01In k (v0.1, (0 : Int), (399 : Int))).bind fun v1 =>
  (bif (!v1) then some false else self (d.1, d.2.1, d.2.2.1, (wrapK .i64 (d.2.2.2 + (1 : Int))))) else none) else (c_spec_l01In k ((d.1.length : Int), (1 : Int), (64 : Int))).bind fun v2 =>
  some v2)
noncomputable def spec_l04Ok (k : Nat) (x0 : (List DWrite)) : Option Bool :=
  iter k (spec_l04Ok_l1 k) (x0, x0, (x0.length : Int), (0 : Int))
set_option maxHeartbeats 0 in
theorem spec_l04Ok_run (k : Nat) (x0 : (List DWrite)) : c_spec_l04Ok (k + 1) (x0) = spec_l04Ok k x0 := by kernel_rfl
noncomputable def spec_ChecksumOf_l1 (k : Nat) (self : (ByteArray × DAclEntry) → Option Int) (d : (ByteArray × DAclEntry)) : Option Int :=
  (bif (decide (d.2.2.2 < (d.1.size : Int))) then (if 0 ≤ d.2.2.2 then ((d.1[d.2.2.2.toNat]?.map fun v0 => (v0.toNat : Int))).bind fun v1 =>
  (if ((65521 : Int) : Int) ≠ 0 then (if ((65521 : Int) : Int) ≠ 0 then self (d.1, ((wrapK .i64 (d.2.1 + (wrapK .i64 v1))).tmod (65521 : Int)), ((wrapK .i64 (d.2.2.1 + ((wrapK .i64 (d.2.1 + (wrapK .i64 v1))).tmod (65521 : Int)))).tmod (65521 : Int)), (wrapK .i64 (d.2.2.2 + (1 : Int)))) else none) else none) else none) else some (wrapK .i64 ((wrapK .i64 (d.2.2.1 * (65536 : Int))) + d.2.1)))
noncomputable def spec_ChecksumOf (k : Nat) (x0 : ByteArray) : Option Int :=
  iter k (spec_ChecksumOf_l1 k) (x0, (1 : Int), (0 : Int), (0 : Int))
set_option maxHeartbeats 0 in
theorem spec_ChecksumOf_run (k : Nat) (x0 : ByteArray) : c_spec_ChecksumOf (k + 1) (x0) = spec_ChecksumOf k x0 := by kernel_rfl
noncomputable def spec_CommitSector_l1 (k : Nat) (self : (Int × ((List DWrite) × (ByteArray × ((List DWrite) × DQuota)))) → Option ByteArray) (d : (Int × ((List DWrite) × (ByteArray × ((List DWrite) × DQuota))))) : Option ByteArray :=
  (bif (decide (d.2.2.2.2.2 < d.2.2.2.2.1)) then (if 0 ≤ d.2.2.2.2.2 then (d.2.2.2.1[d.2.2.2.2.2.toNat]?).bind fun v0 =>
  (c_spec_PutNumber k (v0.1, (2 : Int))).bind fun v1 =>
  (if d.2.2.1.size + v1.size ≤ 9223372036854775807 then (if (d.2.2.1 ++ v1).size + v0.2.size ≤ 9223372036854775807 then self (d.1, d.2.1, ((d.2.2.1 ++ v1) ++ v0.2), d.2.2.2.1, d.2.2.2.2.1, (wrapK .i64 (d.2.2.2.2.2 + (1 : Int)))) else none) else none) else none) else (c_spec_PutNumber k (d.1, (4 : Int))).bind fun v2 =>
  (if (⟨#[74, 82, 78, 76]⟩ : ByteArray).size + v2.size ≤ 9223372036854775807 then (c_spec_PutNumber k ((d.2.1.length : Int), (2 : Int))).bind fun v3 =>
  (if ((⟨#[74, 82, 78, 76]⟩ : ByteArray) ++ v2).size + v3.size ≤ 9223372036854775807 then (c_spec_ChecksumOf k d.2.2.1).bind fun v4 =>
  (c_spec_PutNumber k (v4, (4 : Int))).bind fun v5 =>
  (if (((⟨#[74, 82, 78, 76]⟩ : ByteArray) ++ v2) ++ v3).size + v5.size ≤ 9223372036854775807 then (c_spec_PadTo k (((((⟨#[74, 82, 78, 76]⟩ : ByteArray) ++ v2) ++ v3) ++ v5), (32 : Int))).bind fun v6 =>
  some v6 else none) else none) else none))
noncomputable def spec_CommitSector (k : Nat) (x0 : Int) (x1 : (List DWrite)) : Option ByteArray :=
  (c_spec_l01In k (x0, (0 : Int), (1000000000 : Int))).bind fun y1 =>
  (bif (!y1) then some (⟨#[]⟩ : ByteArray) else (c_spec_l04Ok k x1).bind fun y2 =>
  (bif (!y2) then some (⟨#[]⟩ : ByteArray) else iter k (spec_CommitSector_l1 k) (x0, x1, (⟨#[]⟩ : ByteArray), x1, (x1.length : Int), (0 : Int))))
set_option maxHeartbeats 0 in
theorem spec_CommitSector_run (k : Nat) (x0 : Int) (x1 : (List DWrite)) : c_spec_CommitSector (k + 1) (x0, x1) = spec_CommitSector k x0 x1 := by kernel_rfl
noncomputable def spec_ReadJournal_l1 (k : Nat) (self : (Unit × (ByteArray × (Int × (Int × ((List DWrite) × (Int × DDisk)))))) → Option (Int × ((List DWrite) × Bool))) (d : (Unit × (ByteArray × (Int × (Int × ((List DWrite) × (Int × DDisk))))))) : Option (Int × ((List DWrite) × Bool)) :=
  (bif (decide (d.2.2.2.2.2.1 < d.2.2.2.1)) then (if ((16 : Int) : Int) ≠ 0 then (c_spec_l03Read k (d.2.2.2.2.2.2, (wrapK .i64 ((2 : Int) + (wrapK .i64 (d.2.2.2.2.2.1.tdiv (16 : Int))))))).bind fun v0 =>
  (if ((16 : Int) : Int) ≠ 0 then (c_spec_GetNumber k (v0, (wrapK .i64 ((2 : Int) * (d.2.2.2.2.2.1.tmod (16 : Int)))), (2 : Int))).bind fun v1 =>
  (c_spec_l03Read k (d.2.2.2.2.2.2, (wrapK .i64 ((6 : Int) + d.2.2.2.2.2.1)))).bind fun v2 =>
  (if (d.2.2.2.2.1.length + ([(v1.1, v2)] : List DWrite).length) * 24 ≤ capBytes then self ((), d.2.1, d.2.2.1, d.2.2.2.1, (d.2.2.2.2.1 ++ ([(v1.1, v2)] : List DWrite)), (wrapK .i64 (d.2.2.2.2.2.1 + (1 : Int))), d.2.2.2.2.2.2) else none) else none) else none) else (c_spec_IsTxn k (d.2.2.2.2.2.2, d.2.2.2.2.1)).bind fun v3 =>
  (bif (!v3) then some ((0 : Int), ([] : List DWrite), false) else (c_spec_CommitSector k (d.2.2.1, d.2.2.2.2.1)).bind fun v4 =>
  (bif (!(eqS v4 d.2.1)) then some ((0 : Int), ([] : List DWrite), false) else some (d.2.2.1, d.2.2.2.2.1, true))))
noncomputable def spec_ReadJournal (k : Nat) (x0 : DDisk) : Option (Int × ((List DWrite) × Bool)) :=
  (c_spec_IsDisk k x0).bind fun y1 =>
  (bif (!y1) then some ((0 : Int), ([] : List DWrite), false) else (bif (decide ((x0.1.length : Int) < (70 : Int))) then some ((0 : Int), ([] : List DWrite), false) else (c_spec_l03Read k (x0, (1 : Int))).bind fun y2 =>
  (c_spec_GetNumber k (y2, (4 : Int), (4 : Int))).bind fun y3 =>
  (c_spec_GetNumber k (y2, (8 : Int), (2 : Int))).bind fun y4 =>
  (c_spec_l01In k (y4.1, (1 : Int), (64 : Int))).bind fun y5 =>
  (bif (!y5) then some ((0 : Int), ([] : List DWrite), false) else iter k (spec_ReadJournal_l1 k) ((), y2, y3.1, y4.1, ([] : List DWrite), (0 : Int), x0))))
set_option maxHeartbeats 0 in
theorem spec_ReadJournal_run (k : Nat) (x0 : DDisk) : c_spec_ReadJournal (k + 1) (x0) = spec_ReadJournal k x0 := by kernel_rfl
noncomputable def spec_l04Clear (k : Nat)  : Option (List DStep) :=
  (c_spec_PadTo k ((⟨#[]⟩ : ByteArray), (32 : Int))).bind fun y1 =>
  some ([(true, (0 : Int), ByteArray.empty), (false, (1 : Int), y1), (true, (0 : Int), ByteArray.empty)] : List DStep)
set_option maxHeartbeats 0 in
theorem spec_l04Clear_run (k : Nat)  : c_spec_l04Clear (k + 1) () = spec_l04Clear k  := by kernel_rfl
noncomputable def spec_RecoverySteps_l1 (k : Nat) (self : ((List DStep) × ((List DWrite) × DQuota)) → Option (List DStep)) (d : ((List DStep) × ((List DWrite) × DQuota))) : Option (List DStep) :=
  (bif (decide (d.2.2.2 < d.2.2.1)) then (if 0 ≤ d.2.2.2 then (if d.2.2.2 < (d.2.1.length : Int) then (d.2.1[d.2.2.2.toNat]?).bind fun v0 =>
  (if (d.1.length + ([(false, v0)] : List DStep).length) * 32 ≤ capBytes then self ((d.1 ++ ([(false, v0)] : List DStep)), d.2.1, d.2.2.1, (wrapK .i64 (d.2.2.2 + (1 : Int)))) else none) else none) else none) else (c_spec_l04Clear k ()).bind fun v1 =>
  (if (d.1.length + v1.length) * 32 ≤ capBytes then some (d.1 ++ v1) else none))
noncomputable def spec_RecoverySteps (k : Nat) (x0 : DDisk) : Option (List DStep) :=
  (c_spec_ReadJournal k x0).bind fun y1 =>
  (bif (!y1.2.2) then some ([] : List DStep) else iter k (spec_RecoverySteps_l1 k) (([] : List DStep), y1.2.1, (y1.2.1.length : Int), (0 : Int)))
set_option maxHeartbeats 0 in
theorem spec_RecoverySteps_run (k : Nat) (x0 : DDisk) : c_spec_RecoverySteps (k + 1) (x0) = spec_RecoverySteps k x0 := by kernel_rfl
noncomputable def spec_CrashMount (k : Nat) (x0 : DDisk) (x1 : Int) (x2 : (List Bool)) : Option DDisk :=
  (c_spec_RecoverySteps k x0).bind fun y1 =>
  (c_spec_RunSteps k (x0, y1, x1)).bind fun y2 =>
  (c_spec_CrashDisk k (y2, x2)).bind fun y3 =>
  some y3
set_option maxHeartbeats 0 in
theorem spec_CrashMount_run (k : Nat) (x0 : DDisk) (x1 : Int) (x2 : (List Bool)) : c_spec_CrashMount (k + 1) (x0, x1, x2) = spec_CrashMount k x0 x1 x2 := by kernel_rfl
noncomputable def laws_toStringS_l1 (k : Nat) (self : ((List ByteArray) × ((List ByteArray) × Int)) → Option (List ByteArray)) (d : ((List ByteArray) × ((List ByteArray) × Int))) : Option (List ByteArray) :=
  (bif (decide (d.2.2 < (d.1.length : Int))) then (if 0 ≤ d.2.2 then (d.1[d.2.2.toNat]?).bind fun v0 =>
  (if 0 ≤ d.2.2 then (if d.2.2 < (d.2.1.length : Int) then (d.2.1[d.2.2.toNat]?).bind fun v1 =>
  self (d.1, (d.2.1.set d.2.2.toNat v0), (wrapK .i64 (d.2.2 + (1 : Int)))) else none) else none) else none) else some d.2.1)
noncomputable def laws_toStringS (k : Nat) (x0 : (List ByteArray)) : Option (List ByteArray) :=
  (if 0 ≤ (x0.length : Int) then (if (x0.length : Int) ≤ (x0.length : Int) then (if (x0.length : Int) * 16 ≤ (capBytes : Int) then iter k (laws_toStringS_l1 k) (x0, (List.replicate (x0.length : Int).toNat ByteArray.empty), (0 : Int)) else none) else none) else none)
set_option maxHeartbeats 0 in
theorem laws_toStringS_run (k : Nat) (x0 : (List ByteArray)) : c_laws_toStringS (k + 1) (x0) = laws_toStringS k x0 := by kernel_rfl
noncomputable def laws_toWrite (k : Nat) (x0 : DWrite) : Option DWrite :=
  some (x0.1, x0.2)
set_option maxHeartbeats 0 in
theorem laws_toWrite_run (k : Nat) (x0 : DWrite) : c_laws_toWrite (k + 1) (x0) = laws_toWrite k x0 := by kernel_rfl
noncomputable def laws_toWriteS_l1 (k : Nat) (self : ((List DWrite) × ((List DWrite) × Int)) → Option (List DWrite)) (d : ((List DWrite) × ((List DWrite) × Int))) : Option (List DWrite) :=
  (bif (decide (d.2.2 < (d.1.length : Int))) then (if 0 ≤ d.2.2 then (d.1[d.2.2.toNat]?).bind fun v0 =>
  (c_laws_toWrite k v0).bind fun v1 =>
  (if 0 ≤ d.2.2 then (if d.2.2 < (d.2.1.length : Int) then (d.2.1[d.2.2.toNat]?).bind fun v2 =>
  self (d.1, (d.2.1.set d.2.2.toNat v1), (wrapK .i64 (d.2.2 + (1 : Int)))) else none) else none) else none) else some d.2.1)
noncomputable def laws_toWriteS (k : Nat) (x0 : (List DWrite)) : Option (List DWrite) :=
  (if 0 ≤ (x0.length : Int) then (if (x0.length : Int) ≤ (x0.length : Int) then (if (x0.length : Int) * 24 ≤ (capBytes : Int) then iter k (laws_toWriteS_l1 k) (x0, (List.replicate (x0.length : Int).toNat ((0 : Int), ByteArray.empty)), (0 : Int)) else none) else none) else none)
set_option maxHeartbeats 0 in
theorem laws_toWriteS_run (k : Nat) (x0 : (List DWrite)) : c_laws_toWriteS (k + 1) (x0) = laws_toWriteS k x0 := by kernel_rfl
noncomputable def laws_toDisk (k : Nat) (x0 : DDisk) : Option DDisk :=
  (c_laws_toStringS k x0.1).bind fun y1 =>
  (c_laws_toWriteS k x0.2).bind fun y2 =>
  some (y1, y2)
set_option maxHeartbeats 0 in
theorem laws_toDisk_run (k : Nat) (x0 : DDisk) : c_laws_toDisk (k + 1) (x0) = laws_toDisk k x0 := by kernel_rfl
noncomputable def laws_toBoolS_l1 (k : Nat) (self : ((List Bool) × ((List Bool) × Int)) → Option (List Bool)) (d : ((List Bool) × ((List Bool) × Int))) : Option (List Bool) :=
  (bif (decide (d.2.2 < (d.1.length : Int))) then (if 0 ≤ d.2.2 then (d.1[d.2.2.toNat]?).bind fun v0 =>
  (if 0 ≤ d.2.2 then (if d.2.2 < (d.2.1.length : Int) then (d.2.1[d.2.2.toNat]?).bind fun v1 =>
  self (d.1, (d.2.1.set d.2.2.toNat v0), (wrapK .i64 (d.2.2 + (1 : Int)))) else none) else none) else none) else some d.2.1)
noncomputable def laws_toBoolS (k : Nat) (x0 : (List Bool)) : Option (List Bool) :=
  (if 0 ≤ (x0.length : Int) then (if (x0.length : Int) ≤ (x0.length : Int) then (if (x0.length : Int) * 1 ≤ (capBytes : Int) then iter k (laws_toBoolS_l1 k) (x0, (List.replicate (x0.length : Int).toNat false), (0 : Int)) else none) else none) else none)
set_option maxHeartbeats 0 in
theorem laws_toBoolS_run (k : Nat) (x0 : (List Bool)) : c_laws_toBoolS (k + 1) (x0) = laws_toBoolS k x0 := by kernel_rfl
noncomputable def impl_copyDisk (k : Nat) (x0 : DDisk) : Option DDisk :=
  (c_slices_Clone_string_string k x0.1).bind fun y1 =>
  (c_slices_Clone_impl_Write_impl_Write k x0.2).bind fun y2 =>
  some (y1, y2)
set_option maxHeartbeats 0 in
theorem impl_copyDisk_run (k : Nat) (x0 : DDisk) : c_impl_copyDisk (k + 1) (x0) = impl_copyDisk k x0 := by kernel_rfl
noncomputable def impl_IsDisk_l1 (k : Nat) (self : (Unit × ((List DWrite) × (Int × (Int × DDisk)))) → Option Bool) (d : (Unit × ((List DWrite) × (Int × (Int × DDisk))))) : Option Bool :=
  (bif (decide (d.2.2.2.1 < d.2.2.1)) then (if 0 ≤ d.2.2.2.1 then (d.2.1[d.2.2.2.1.toNat]?).bind fun v0 =>
  (bif (decide (v0.1 < (0 : Int))) then some false else (bif (decide ((d.2.2.2.2.1.length : Int) ≤ v0.1)) then some false else (bif ((v0.2.size : Int) != (32 : Int)) then some false else self ((), d.2.1, d.2.2.1, (wrapK .i64 (d.2.2.2.1 + (1 : Int))), d.2.2.2.2)))) else none) else some true)
noncomputable def impl_IsDisk_l2 (k : Nat) (self : (Unit × ((List ByteArray) × (Int × (Int × DDisk)))) → Option Bool) (d : (Unit × ((List ByteArray) × (Int × (Int × DDisk))))) : Option Bool :=
  (bif (decide (d.2.2.2.1 < d.2.2.1)) then (if 0 ≤ d.2.2.2.1 then (d.2.1[d.2.2.2.1.toNat]?).bind fun v0 =>
  (bif ((v0.size : Int) != (32 : Int)) then some false else self ((), d.2.1, d.2.2.1, (wrapK .i64 (d.2.2.2.1 + (1 : Int))), d.2.2.2.2)) else none) else iter k (impl_IsDisk_l1 k) ((), d.2.2.2.2.2, (d.2.2.2.2.2.length : Int), (0 : Int), d.2.2.2.2))
noncomputable def impl_IsDisk (k : Nat) (x0 : DDisk) : Option Bool :=
  (bif (decide ((400 : Int) < (x0.1.length : Int))) then some false else (bif (decide ((400 : Int) < (x0.2.length : Int))) then some false else iter k (impl_IsDisk_l2 k) ((), x0.1, (x0.1.length : Int), (0 : Int), x0)))
set_option maxHeartbeats 0 in
theorem impl_IsDisk_run (k : Nat) (x0 : DDisk) : c_impl_IsDisk (k + 1) (x0) = impl_IsDisk k x0 := by kernel_rfl
noncomputable def impl_CrashDisk_l1 (k : Nat) (self : (Unit × (Unit × (Unit × (Int × (Int × (DDisk × (DDisk × ((List Bool) × DDisk)))))))) → Option DDisk) (d : (Unit × (Unit × (Unit × (Int × (Int × (DDisk × (DDisk × ((List Bool) × DDisk))))))))) : Option DDisk :=
  (bif (decide (d.2.2.2.2.1 < d.2.2.2.1)) then (if 0 ≤ d.2.2.2.2.1 then (if d.2.2.2.2.1 < (d.2.2.2.2.2.1.2.length : Int) then (d.2.2.2.2.2.1.2[d.2.2.2.2.1.toNat]?).bind fun v0 =>
  (bif (decide (d.2.2.2.2.1 < (d.2.2.2.2.2.2.2.1.length : Int))) then (if 0 ≤ d.2.2.2.2.1 then (d.2.2.2.2.2.2.2.1[d.2.2.2.2.1.toNat]?).bind fun v1 =>
  (bif v1 then (if 0 ≤ v0.1 then (if v0.1 < (d.2.2.2.2.2.1.1.length : Int) then (d.2.2.2.2.2.1.1[v0.1.toNat]?).bind fun v2 =>
  self ((), (), (), d.2.2.2.1, (wrapK .i64 (d.2.2.2.2.1 + (1 : Int))), ((d.2.2.2.2.2.1.1.set v0.1.toNat v0.2), d.2.2.2.2.2.1.2), d.2.2.2.2.2.2.1, d.2.2.2.2.2.2.2.1, d.2.2.2.2.2.2.2.2) else none) else none) else self ((), (), (), d.2.2.2.1, (wrapK .i64 (d.2.2.2.2.1 + (1 : Int))), d.2.2.2.2.2.1, d.2.2.2.2.2.2.1, d.2.2.2.2.2.2.2.1, d.2.2.2.2.2.2.2.2)) else none) else self ((), (), (), d.2.2.2.1, (wrapK .i64 (d.2.2.2.2.1 + (1 : Int))), d.2.2.2.2.2.1, d.2.2.2.2.2.2.1, d.2.2.2.2.2.2.2.1, d.2.2.2.2.2.2.2.2)) else none) else none) else some (d.2.2.2.2.2.1.1, ([] : List DWrite)))
noncomputable def impl_CrashDisk (k : Nat) (x0 : DDisk) (x1 : (List Bool)) : Option DDisk :=
  (c_impl_copyDisk k x0).bind fun y1 =>
  (c_impl_IsDisk k x0).bind fun y2 =>
  (bif y2 then iter k (impl_CrashDisk_l1 k) ((), (), (), (y1.2.length : Int), (0 : Int), y1, (([] : List ByteArray), ([] : List DWrite)), x1, x0) else some y1)
set_option maxHeartbeats 0 in
theorem impl_CrashDisk_run (k : Nat) (x0 : DDisk) (x1 : (List Bool)) : c_impl_CrashDisk (k + 1) (x0, x1) = impl_CrashDisk k x0 x1 := by kernel_rfl
noncomputable def impl_all (k : Nat) (x0 : Int) : Option Bool :=
  some true
set_option maxHeartbeats 0 in
theorem impl_all_run (k : Nat) (x0 : Int) : c_impl_all (k + 1) (x0) = impl_all k x0 := by kernel_rfl
noncomputable def impl_Disk_write (k : Nat) (x0 : DDisk) (x1 : Int) (x2 : ByteArray) : Option (Bool × DDisk) :=
  (bif (decide (x1 < (0 : Int))) then some (false, x0) else (bif (decide ((x0.1.length : Int) ≤ x1)) then some (false, x0) else (bif ((x2.size : Int) != (32 : Int)) then some (false, x0) else (bif (decide ((400 : Int) ≤ (x0.2.length : Int))) then some (false, x0) else (if (x0.2.length + ([(x1, x2)] : List DWrite).length) * 24 ≤ capBytes then some (true, (x0.1, (x0.2 ++ ([(x1, x2)] : List DWrite)))) else none)))))
set_option maxHeartbeats 0 in
theorem impl_Disk_write_run (k : Nat) (x0 : DDisk) (x1 : Int) (x2 : ByteArray) : c_impl_Disk_write (k + 1) (x0, x1, x2) = impl_Disk_write k x0 x1 x2 := by kernel_rfl
noncomputable def impl_RunSteps_l1 (k : Nat) (a0 : (Unit × (Unit × ((List DStep) × (Int × (Int × (DDisk × DDisk)))))) → Option DDisk) (a1 : (Unit × (Unit × ((List DStep) × (Int × (Int × (DDisk × DDisk))))))) (self : (Unit × (Unit × (Unit × (Int × (Int × (DStep × (DDisk × DDisk))))))) → Option DDisk) (d : (Unit × (Unit × (Unit × (Int × (Int × (DStep × (DDisk × DDisk)))))))) : Option DDisk :=
  (bif (decide (d.2.2.2.2.1 < d.2.2.2.1)) then (if 0 ≤ d.2.2.2.2.1 then (if d.2.2.2.2.1 < (d.2.2.2.2.2.2.1.2.length : Int) then (d.2.2.2.2.2.2.1.2[d.2.2.2.2.1.toNat]?).bind fun v0 =>
  (c_impl_all k d.2.2.2.2.1).bind fun v1 =>
  (bif v1 then (if 0 ≤ v0.1 then (if v0.1 < (d.2.2.2.2.2.2.1.1.length : Int) then (d.2.2.2.2.2.2.1.1[v0.1.toNat]?).bind fun v2 =>
  self ((), (), (), d.2.2.2.1, (wrapK .i64 (d.2.2.2.2.1 + (1 : Int))), d.2.2.2.2.2.1, ((d.2.2.2.2.2.2.1.1.set v0.1.toNat v0.2), d.2.2.2.2.2.2.1.2), d.2.2.2.2.2.2.2) else none) else none) else self ((), (), (), d.2.2.2.1, (wrapK .i64 (d.2.2.2.2.1 + (1 : Int))), d.2.2.2.2.2.1, d.2.2.2.2.2.2.1, d.2.2.2.2.2.2.2)) else none) else none) else a0 ((), (), a1.2.2.1, a1.2.2.2.1, (wrapK .i64 (a1.2.2.2.2.1 + (1 : Int))), (d.2.2.2.2.2.2.1.1, ([] : List DWrite)), d.2.2.2.2.2.2.2))
noncomputable def impl_RunSteps_l2 (k : Nat) (self : (Unit × (Unit × ((List DStep) × (Int × (Int × (DDisk × DDisk)))))) → Option DDisk) (d : (Unit × (Unit × ((List DStep) × (Int × (Int × (DDisk × DDisk))))))) : Option DDisk :=
  (bif (decide (d.2.2.2.2.1 < d.2.2.2.1)) then (if 0 ≤ d.2.2.2.2.1 then (d.2.2.1[d.2.2.2.2.1.toNat]?).bind fun v0 =>
  (bif v0.1 then iter k (impl_RunSteps_l1 k self d) ((), (), (), (d.2.2.2.2.2.1.2.length : Int), (0 : Int), v0, d.2.2.2.2.2.1, d.2.2.2.2.2.2) else (c_impl_Disk_write k (d.2.2.2.2.2.1, v0.2.1, v0.2.2)).bind fun v1 =>
  self ((), (), d.2.2.1, d.2.2.2.1, (wrapK .i64 (d.2.2.2.2.1 + (1 : Int))), v1.2, d.2.2.2.2.2.2)) else none) else some d.2.2.2.2.2.1)
noncomputable def impl_RunSteps (k : Nat) (x0 : DDisk) (x1 : (List DStep)) (x2 : Int) : Option DDisk :=
  (c_impl_copyDisk k x0).bind fun y1 =>
  (c_impl_IsDisk k x0).bind fun y2 =>
  (bif (!y2) then some y1 else (if 0 ≤ (max (0 : Int) (min x2 (x1.length : Int))) then (if (max (0 : Int) (min x2 (x1.length : Int))) ≤ (x1.length : Int) then iter k (impl_RunSteps_l2 k) ((), (), ((x1.take ((max (0 : Int) (min x2 (x1.length : Int))).toNat)).drop 0), ((((x1.take ((max (0 : Int) (min x2 (x1.length : Int))).toNat)).drop 0).length : Nat) : Int), (0 : Int), y1, (([] : List ByteArray), ([] : List DWrite))) else none) else none))
set_option maxHeartbeats 0 in
theorem impl_RunSteps_run (k : Nat) (x0 : DDisk) (x1 : (List DStep)) (x2 : Int) : c_impl_RunSteps (k + 1) (x0, x1, x2) = impl_RunSteps k x0 x1 x2 := by kernel_rfl
noncomputable def impl_Disk_read_l1 (k : Nat) (self : ((Option DDisk) × DQuota) → Option ByteArray) (d : ((Option DDisk) × DQuota)) : Option ByteArray :=
  (bif (decide ((0 : Int) ≤ d.2.2)) then (d.1).bind fun v0 =>
  (if 0 ≤ d.2.2 then (v0.2[d.2.2.toNat]?).bind fun v1 =>
  (bif (v1.1 == d.2.1) then (d.1).bind fun v2 =>
  (if 0 ≤ d.2.2 then (v2.2[d.2.2.toNat]?).bind fun v3 =>
  some v3.2 else none) else self (d.1, d.2.1, (wrapK .i64 (d.2.2 - (1 : Int))))) else none) else (d.1).bind fun v4 =>
  (if 0 ≤ d.2.1 then (v4.1[d.2.1.toNat]?).bind fun v5 =>
  some v5 else none))
noncomputable def impl_Disk_read (k : Nat) (x0 : (Option DDisk)) (x1 : Int) : Option ByteArray :=
  (x0).bind fun y1 =>
  iter k (impl_Disk_read_l1 k) (x0, x1, (wrapK .i64 ((y1.2.length : Int) - (1 : Int))))
set_option maxHeartbeats 0 in
theorem impl_Disk_read_run (k : Nat) (x0 : (Option DDisk)) (x1 : Int) : c_impl_Disk_read (k + 1) (x0, x1) = impl_Disk_read k x0 x1 := by kernel_rfl
noncomputable def impl_GetNumber_l1 (k : Nat) (self : (ByteArray × (Int × DAclEntry)) → Option (Int × Bool)) (d : (ByteArray × (Int × DAclEntry))) : Option (Int × Bool) :=
  (bif (decide (d.2.2.2.2 < d.2.2.2.1)) then (if 0 ≤ (8 : Int) then (if 0 ≤ (wrapK .i64 (d.2.1 + d.2.2.2.2)) then ((d.1[(wrapK .i64 (d.2.1 + d.2.2.2.2)).toNat]?.map fun v0 => (v0.toNat : Int))).bind fun v1 =>
  self (d.1, d.2.1, (intBits .or .i64 (wrapK .i64 (d.2.2.1 * 2 ^ (min (8 : Int).toNat (IntKind.bits .i64)))) (wrapK .i64 v1)), d.2.2.2.1, (wrapK .i64 (d.2.2.2.2 + (1 : Int)))) else none) else none) else some (d.2.2.1, true))
noncomputable def impl_GetNumber (k : Nat) (x0 : ByteArray) (x1 : Int) (x2 : Int) : Option (Int × Bool) :=
  (bif (decide (x2 < (1 : Int))) then some ((0 : Int), false) else (bif (decide ((6 : Int) < x2)) then some ((0 : Int), false) else (bif (decide (x1 < (0 : Int))) then some ((0 : Int), false) else (bif (decide ((wrapK .i64 ((x0.size : Int) - x2)) < x1)) then some ((0 : Int), false) else iter k (impl_GetNumber_l1 k) (x0, x1, (0 : Int), x2, (0 : Int))))))
set_option maxHeartbeats 0 in
theorem impl_GetNumber_run (k : Nat) (x0 : ByteArray) (x1 : Int) (x2 : Int) : c_impl_GetNumber (k + 1) (x0, x1, x2) = impl_GetNumber k x0 x1 x2 := by kernel_rfl
noncomputable def impl_PutNumber_l1 (k : Nat) (self : (Int × ((List Int) × Int)) → Option ByteArray) (d : (Int × ((List Int) × Int))) : Option ByteArray :=
  (bif (decide ((0 : Int) ≤ d.2.2)) then (if 0 ≤ d.2.2 then (if d.2.2 < (d.2.1.length : Int) then (d.2.1[d.2.2.toNat]?).bind fun v0 =>
  (if 0 ≤ (8 : Int) then self ((d.1.fdiv (2 ^ (min (8 : Int).toNat (IntKind.bits .i64)))), (d.2.1.set d.2.2.toNat (wrapK .u8 d.1)), (wrapK .i64 (d.2.2 - (1 : Int)))) else none) else none) else none) else some (ofBytes d.2.1))
noncomputable def impl_PutNumber (k : Nat) (x0 : Int) (x1 : Int) : Option ByteArray :=
  (bif (decide (x1 < (1 : Int))) then some (⟨#[]⟩ : ByteArray) else (bif (decide ((6 : Int) < x1)) then some (⟨#[]⟩ : ByteArray) else (bif (decide (x0 < (0 : Int))) then some (⟨#[]⟩ : ByteArray) else (if 0 ≤ (wrapK .i64 ((8 : Int) * x1)) then (bif (decide ((wrapK .i64 ((1 : Int) * 2 ^ (min (wrapK .i64 ((8 : Int) * x1)).toNat (IntKind.bits .i64)))) ≤ x0)) then some (⟨#[]⟩ : ByteArray) else (if 0 ≤ x1 then (if x1 ≤ x1 then (if x1 * 1 ≤ (capBytes : Int) then iter k (impl_PutNumber_l1 k) (x0, (List.replicate x1.toNat (0 : Int)), (wrapK .i64 (x1 - (1 : Int)))) else none) else none) else none)) else none))))
set_option maxHeartbeats 0 in
theorem impl_PutNumber_run (k : Nat) (x0 : Int) (x1 : Int) : c_impl_PutNumber (k + 1) (x0, x1) = impl_PutNumber k x0 x1 := by kernel_rfl
noncomputable def impl_PadTo (k : Nat) (x0 : ByteArray) (x1 : Int) : Option ByteArray :=
  (bif (decide (x1 ≤ (x0.size : Int))) then some x0 else (bif (decide ((100000 : Int) < x1)) then some (⟨#[]⟩ : ByteArray) else (c_strings_Repeat k ((⟨#[0]⟩ : ByteArray), (wrapK .i64 (x1 - (x0.size : Int))))).bind fun y1 =>
  (if x0.size + y1.size ≤ 9223372036854775807 then some (x0 ++ y1) else none)))
set_option maxHeartbeats 0 in
theorem impl_PadTo_run (k : Nat) (x0 : ByteArray) (x1 : Int) : c_impl_PadTo (k + 1) (x0, x1) = impl_PadTo k x0 x1 := by kernel_rfl
noncomputable def impl_listed_l1 (k : Nat) (self : ((List DWrite) × ((List DWrite) × DQuota)) → Option Bool) (d : ((List DWrite) × ((List DWrite) × DQuota))) : Option Bool :=
  (bif (decide (d.2.2.2 < d.2.2.1)) then (if 0 ≤ d.2.2.2 then (d.2.1[d.2.2.2.toNat]?).bind fun v0 =>
  (bif (decide (v0.1 < (0 : Int))) then some false else (bif (decide ((400 : Int) ≤ v0.1)) then some false else self (d.1, d.2.1, d.2.2.1, (wrapK .i64 (d.2.2.2 + (1 : Int)))))) else none) else (bif (decide ((1 : Int) ≤ (d.1.length : Int))) then some (decide ((d.1.length : Int) ≤ (64 : Int))) else some false))
noncomputable def impl_listed (k : Nat) (x0 : (List DWrite)) : Option Bool :=
  iter k (impl_listed_l1 k) (x0, x0, (x0.length : Int), (0 : Int))
set_option maxHeartbeats 0 in
theorem impl_listed_run (k : Nat) (x0 : (List DWrite)) : c_impl_listed (k + 1) (x0) = impl_listed k x0 := by kernel_rfl
noncomputable def impl_ChecksumOf_l1 (k : Nat) (self : (ByteArray × (Int × DAclEntry)) → Option Int) (d : (ByteArray × (Int × DAclEntry))) : Option Int :=
  (bif (decide (d.2.2.2.2 < d.2.2.2.1)) then (if 0 ≤ d.2.2.2.2 then ((d.1[d.2.2.2.2.toNat]?.map fun v0 => (v0.toNat : Int))).bind fun v1 =>
  (if ((65521 : Int) : Int) ≠ 0 then (if ((65521 : Int) : Int) ≠ 0 then self (d.1, ((wrapK .i64 (d.2.1 + (wrapK .i64 v1))).tmod (65521 : Int)), ((wrapK .i64 (d.2.2.1 + ((wrapK .i64 (d.2.1 + (wrapK .i64 v1))).tmod (65521 : Int)))).tmod (65521 : Int)), d.2.2.2.1, (wrapK .i64 (d.2.2.2.2 + (1 : Int)))) else none) else none) else none) else some (wrapK .i64 ((wrapK .i64 (d.2.2.1 * (65536 : Int))) + d.2.1)))
noncomputable def impl_ChecksumOf (k : Nat) (x0 : ByteArray) : Option Int :=
  iter k (impl_ChecksumOf_l1 k) (x0, (1 : Int), (0 : Int), (x0.size : Int), (0 : Int))
set_option maxHeartbeats 0 in
theorem impl_ChecksumOf_run (k : Nat) (x0 : ByteArray) : c_impl_ChecksumOf (k + 1) (x0) = impl_ChecksumOf k x0 := by kernel_rfl
noncomputable def impl_CommitSector_l1 (k : Nat) (self : (Int × ((List DWrite) × (ByteArray × ((List DWrite) × DQuota)))) → Option ByteArray) (d : (Int × ((List DWrite) × (ByteArray × ((List DWrite) × DQuota))))) : Option ByteArray :=
  (bif (decide (d.2.2.2.2.2 < d.2.2.2.2.1)) then (if 0 ≤ d.2.2.2.2.2 then (d.2.2.2.1[d.2.2.2.2.2.toNat]?).bind fun v0 =>
  (c_impl_PutNumber k (v0.1, (2 : Int))).bind fun v1 =>
  (if v1.size + v0.2.size ≤ 9223372036854775807 then (if d.2.2.1.size + (v1 ++ v0.2).size ≤ 9223372036854775807 then self (d.1, d.2.1, (d.2.2.1 ++ (v1 ++ v0.2)), d.2.2.2.1, d.2.2.2.2.1, (wrapK .i64 (d.2.2.2.2.2 + (1 : Int)))) else none) else none) else none) else (c_impl_PutNumber k (d.1, (4 : Int))).bind fun v2 =>
  (if (⟨#[74, 82, 78, 76]⟩ : ByteArray).size + v2.size ≤ 9223372036854775807 then (c_impl_PutNumber k ((d.2.1.length : Int), (2 : Int))).bind fun v3 =>
  (if ((⟨#[74, 82, 78, 76]⟩ : ByteArray) ++ v2).size + v3.size ≤ 9223372036854775807 then (c_impl_ChecksumOf k d.2.2.1).bind fun v4 =>
  (c_impl_PutNumber k (v4, (4 : Int))).bind fun v5 =>
  (if (((⟨#[74, 82, 78, 76]⟩ : ByteArray) ++ v2) ++ v3).size + v5.size ≤ 9223372036854775807 then (c_impl_PadTo k (((((⟨#[74, 82, 78, 76]⟩ : ByteArray) ++ v2) ++ v3) ++ v5), (32 : Int))).bind fun v6 =>
  some v6 else none) else none) else none))
noncomputable def impl_CommitSector (k : Nat) (x0 : Int) (x1 : (List DWrite)) : Option ByteArray :=
  (bif (decide (x0 < (0 : Int))) then some (⟨#[]⟩ : ByteArray) else (bif (decide ((1000000000 : Int) < x0)) then some (⟨#[]⟩ : ByteArray) else (c_impl_listed k x1).bind fun y1 =>
  (bif (!y1) then some (⟨#[]⟩ : ByteArray) else iter k (impl_CommitSector_l1 k) (x0, x1, (⟨#[]⟩ : ByteArray), x1, (x1.length : Int), (0 : Int)))))
set_option maxHeartbeats 0 in
theorem impl_CommitSector_run (k : Nat) (x0 : Int) (x1 : (List DWrite)) : c_impl_CommitSector (k + 1) (x0, x1) = impl_CommitSector k x0 x1 := by kernel_rfl
noncomputable def impl_IsTxn_l1 (k : Nat) (self : ((List DWrite) × (Unit × ((List DWrite) × (Int × (Int × DDisk))))) → Option Bool) (d : ((List DWrite) × (Unit × ((List DWrite) × (Int × (Int × DDisk)))))) : Option Bool :=
  (bif (decide (d.2.2.2.2.1 < d.2.2.2.1)) then (if 0 ≤ d.2.2.2.2.1 then (d.2.2.1[d.2.2.2.2.1.toNat]?).bind fun v0 =>
  (bif (decide (v0.1 < (0 : Int))) then some false else (bif (decide ((d.2.2.2.2.2.1.length : Int) ≤ v0.1)) then some false else (bif (decide ((1 : Int) ≤ v0.1)) then (bif (decide (v0.1 < (70 : Int))) then some false else (bif ((v0.2.size : Int) != (32 : Int)) then some false else (bif (decide ((0 : Int) < d.2.2.2.2.1)) then (if 0 ≤ (wrapK .i64 (d.2.2.2.2.1 - (1 : Int))) then (d.1[(wrapK .i64 (d.2.2.2.2.1 - (1 : Int))).toNat]?).bind fun v1 =>
  (bif (decide (v0.1 ≤ v1.1)) then some false else self (d.1, (), d.2.2.1, d.2.2.2.1, (wrapK .i64 (d.2.2.2.2.1 + (1 : Int))), d.2.2.2.2.2)) else none) else self (d.1, (), d.2.2.1, d.2.2.2.1, (wrapK .i64 (d.2.2.2.2.1 + (1 : Int))), d.2.2.2.2.2)))) else (bif ((v0.2.size : Int) != (32 : Int)) then some false else (bif (decide ((0 : Int) < d.2.2.2.2.1)) then (if 0 ≤ (wrapK .i64 (d.2.2.2.2.1 - (1 : Int))) then (d.1[(wrapK .i64 (d.2.2.2.2.1 - (1 : Int))).toNat]?).bind fun v2 =>
  (bif (decide (v0.1 ≤ v2.1)) then some false else self (d.1, (), d.2.2.1, d.2.2.2.1, (wrapK .i64 (d.2.2.2.2.1 + (1 : Int))), d.2.2.2.2.2)) else none) else self (d.1, (), d.2.2.1, d.2.2.2.1, (wrapK .i64 (d.2.2.2.2.1 + (1 : Int))), d.2.2.2.2.2)))))) else none) else some true)
noncomputable def impl_IsTxn (k : Nat) (x0 : DDisk) (x1 : (List DWrite)) : Option Bool :=
  (c_impl_IsDisk k x0).bind fun y1 =>
  (bif (!y1) then some false else (bif (decide ((x0.1.length : Int) < (70 : Int))) then some false else (bif (decide ((x1.length : Int) < (1 : Int))) then some false else (bif (decide ((64 : Int) < (x1.length : Int))) then some false else iter k (impl_IsTxn_l1 k) (x1, (), x1, (x1.length : Int), (0 : Int), x0)))))
set_option maxHeartbeats 0 in
theorem impl_IsTxn_run (k : Nat) (x0 : DDisk) (x1 : (List DWrite)) : c_impl_IsTxn (k + 1) (x0, x1) = impl_IsTxn k x0 x1 := by kernel_rfl
noncomputable def impl_ReadJournal_l1 (k : Nat) (self : (Unit × (ByteArray × (Int × ((List DWrite) × (Int × (Int × DDisk)))))) → Option (Int × ((List DWrite) × Bool))) (d : (Unit × (ByteArray × (Int × ((List DWrite) × (Int × (Int × DDisk))))))) : Option (Int × ((List DWrite) × Bool)) :=
  (bif (decide (d.2.2.2.2.2.1 < d.2.2.2.2.1)) then (if ((16 : Int) : Int) ≠ 0 then (c_impl_Disk_read k ((some d.2.2.2.2.2.2), (wrapK .i64 ((2 : Int) + (wrapK .i64 (d.2.2.2.2.2.1.tdiv (16 : Int))))))).bind fun v0 =>
  (if ((16 : Int) : Int) ≠ 0 then (c_impl_GetNumber k (v0, (wrapK .i64 ((2 : Int) * (d.2.2.2.2.2.1.tmod (16 : Int)))), (2 : Int))).bind fun v1 =>
  (c_impl_Disk_read k ((some d.2.2.2.2.2.2), (wrapK .i64 ((6 : Int) + d.2.2.2.2.2.1)))).bind fun v2 =>
  (if (d.2.2.2.1.length + ([(v1.1, v2)] : List DWrite).length) * 24 ≤ capBytes then self ((), d.2.1, d.2.2.1, (d.2.2.2.1 ++ ([(v1.1, v2)] : List DWrite)), d.2.2.2.2.1, (wrapK .i64 (d.2.2.2.2.2.1 + (1 : Int))), d.2.2.2.2.2.2) else none) else none) else none) else (c_impl_CommitSector k (d.2.2.1, d.2.2.2.1)).bind fun v3 =>
  (bif (!(eqS v3 d.2.1)) then some ((0 : Int), ([] : List DWrite), false) else (c_impl_IsTxn k (d.2.2.2.2.2.2, d.2.2.2.1)).bind fun v4 =>
  (bif (!v4) then some ((0 : Int), ([] : List DWrite), false) else some (d.2.2.1, d.2.2.2.1, true))))
noncomputable def impl_ReadJournal (k : Nat) (x0 : DDisk) : Option (Int × ((List DWrite) × Bool)) :=
  (c_impl_IsDisk k x0).bind fun y1 =>
  (bif (!y1) then some ((0 : Int), ([] : List DWrite), false) else (bif (decide ((x0.1.length : Int) < (70 : Int))) then some ((0 : Int), ([] : List DWrite), false) else (c_impl_Disk_read k ((some x0), (1 : Int))).bind fun y2 =>
  (c_impl_GetNumber k (y2, (4 : Int), (4 : Int))).bind fun y3 =>
  (c_impl_GetNumber k (y2, (8 : Int), (2 : Int))).bind fun y4 =>
  (bif (decide ((64 : Int) < y4.1)) then some ((0 : Int), ([] : List DWrite), false) else iter k (impl_ReadJournal_l1 k) ((), y2, y3.1, ([] : List DWrite), y4.1, (0 : Int), x0))))
set_option maxHeartbeats 0 in
theorem impl_ReadJournal_run (k : Nat) (x0 : DDisk) : c_impl_ReadJournal (k + 1) (x0) = impl_ReadJournal k x0 := by kernel_rfl
noncomputable def impl_writeSteps_l1 (k : Nat) (self : ((List DStep) × ((List DWrite) × DQuota)) → Option (List DStep)) (d : ((List DStep) × ((List DWrite) × DQuota))) : Option (List DStep) :=
  (bif (decide (d.2.2.2 < d.2.2.1)) then (if 0 ≤ d.2.2.2 then (d.2.1[d.2.2.2.toNat]?).bind fun v0 =>
  (if (d.1.length + ([(false, v0)] : List DStep).length) * 32 ≤ capBytes then self ((d.1 ++ ([(false, v0)] : List DStep)), d.2.1, d.2.2.1, (wrapK .i64 (d.2.2.2 + (1 : Int)))) else none) else none) else some d.1)
noncomputable def impl_writeSteps (k : Nat) (x0 : (List DWrite)) : Option (List DStep) :=
  iter k (impl_writeSteps_l1 k) (([] : List DStep), x0, (x0.length : Int), (0 : Int))
set_option maxHeartbeats 0 in
theorem impl_writeSteps_run (k : Nat) (x0 : (List DWrite)) : c_impl_writeSteps (k + 1) (x0) = impl_writeSteps k x0 := by kernel_rfl
noncomputable def impl_zeros (k : Nat) (x0 : Int) : Option ByteArray :=
  (if 0 ≤ x0 then (if x0 ≤ x0 then (if x0 * 1 ≤ (capBytes : Int) then some (ofBytes (List.replicate x0.toNat (0 : Int))) else none) else none) else none)
set_option maxHeartbeats 0 in
theorem impl_zeros_run (k : Nat) (x0 : Int) : c_impl_zeros (k + 1) (x0) = impl_zeros k x0 := by kernel_rfl
noncomputable def impl_installSteps (k : Nat) (x0 : (List DWrite)) : Option (List DStep) :=
  (c_impl_writeSteps k x0).bind fun y1 =>
  (c_impl_zeros k (32 : Int)).bind fun y2 =>
  (if (y1.length + ([(true, (0 : Int), ByteArray.empty), (false, (1 : Int), y2), (true, (0 : Int), ByteArray.empty)] : List DStep).length) * 32 ≤ capBytes then some (y1 ++ ([(true, (0 : Int), ByteArray.empty), (false, (1 : Int), y2), (true, (0 : Int), ByteArray.empty)] : List DStep)) else none)
set_option maxHeartbeats 0 in
theorem impl_installSteps_run (k : Nat) (x0 : (List DWrite)) : c_impl_installSteps (k + 1) (x0) = impl_installSteps k x0 := by kernel_rfl
noncomputable def impl_RecoverySteps (k : Nat) (x0 : DDisk) : Option (List DStep) :=
  (c_impl_ReadJournal k x0).bind fun y1 =>
  (bif (!y1.2.2) then some ([] : List DStep) else (c_impl_installSteps k y1.2.1).bind fun y2 =>
  some y2)
set_option maxHeartbeats 0 in
theorem impl_RecoverySteps_run (k : Nat) (x0 : DDisk) : c_impl_RecoverySteps (k + 1) (x0) = impl_RecoverySteps k x0 := by kernel_rfl
noncomputable def impl_CrashMount (k : Nat) (x0 : DDisk) (x1 : Int) (x2 : (List Bool)) : Option DDisk :=
  (c_impl_RecoverySteps k x0).bind fun y1 =>
  (c_impl_RunSteps k (x0, y1, x1)).bind fun y2 =>
  (c_impl_CrashDisk k (y2, x2)).bind fun y3 =>
  some y3
set_option maxHeartbeats 0 in
theorem impl_CrashMount_run (k : Nat) (x0 : DDisk) (x1 : Int) (x2 : (List Bool)) : c_impl_CrashMount (k + 1) (x0, x1, x2) = impl_CrashMount k x0 x1 x2 := by kernel_rfl
noncomputable def laws_eqStringS_l1 (k : Nat) (self : ((List ByteArray) × ((List ByteArray) × Int)) → Option Bool) (d : ((List ByteArray) × ((List ByteArray) × Int))) : Option Bool :=
  (bif (decide (d.2.2 < (d.1.length : Int))) then (if 0 ≤ d.2.2 then (d.1[d.2.2.toNat]?).bind fun v0 =>
  (if 0 ≤ d.2.2 then (d.2.1[d.2.2.toNat]?).bind fun v1 =>
  (bif (!(eqS v0 v1)) then some false else self (d.1, d.2.1, (wrapK .i64 (d.2.2 + (1 : Int))))) else none) else none) else some true)
noncomputable def laws_eqStringS (k : Nat) (x0 : (List ByteArray)) (x1 : (List ByteArray)) : Option Bool :=
  (bif ((x0.length : Int) != (x1.length : Int)) then some false else iter k (laws_eqStringS_l1 k) (x0, x1, (0 : Int)))
set_option maxHeartbeats 0 in
theorem laws_eqStringS_run (k : Nat) (x0 : (List ByteArray)) (x1 : (List ByteArray)) : c_laws_eqStringS (k + 1) (x0, x1) = laws_eqStringS k x0 x1 := by kernel_rfl
noncomputable def laws_eqWrite (k : Nat) (x0 : DWrite) (x1 : DWrite) : Option Bool :=
  (bif (x0.1 != x1.1) then some false else (bif (!(eqS x0.2 x1.2)) then some false else some true))
set_option maxHeartbeats 0 in
theorem laws_eqWrite_run (k : Nat) (x0 : DWrite) (x1 : DWrite) : c_laws_eqWrite (k + 1) (x0, x1) = laws_eqWrite k x0 x1 := by kernel_rfl
noncomputable def laws_eqWriteS_l1 (k : Nat) (self : ((List DWrite) × ((List DWrite) × Int)) → Option Bool) (d : ((List DWrite) × ((List DWrite) × Int))) : Option Bool :=
  (bif (decide (d.2.2 < (d.1.length : Int))) then (if 0 ≤ d.2.2 then (d.1[d.2.2.toNat]?).bind fun v0 =>
  (if 0 ≤ d.2.2 then (d.2.1[d.2.2.toNat]?).bind fun v1 =>
  (c_laws_eqWrite k (v0, v1)).bind fun v2 =>
  (bif (!v2) then some false else self (d.1, d.2.1, (wrapK .i64 (d.2.2 + (1 : Int))))) else none) else none) else some true)
noncomputable def laws_eqWriteS (k : Nat) (x0 : (List DWrite)) (x1 : (List DWrite)) : Option Bool :=
  (bif ((x0.length : Int) != (x1.length : Int)) then some false else iter k (laws_eqWriteS_l1 k) (x0, x1, (0 : Int)))
set_option maxHeartbeats 0 in
theorem laws_eqWriteS_run (k : Nat) (x0 : (List DWrite)) (x1 : (List DWrite)) : c_laws_eqWriteS (k + 1) (x0, x1) = laws_eqWriteS k x0 x1 := by kernel_rfl
noncomputable def laws_eqDisk (k : Nat) (x0 : DDisk) (x1 : DDisk) : Option Bool :=
  (c_laws_eqStringS k (x0.1, x1.1)).bind fun y1 =>
  (bif (!y1) then some false else (c_laws_eqWriteS k (x0.2, x1.2)).bind fun y2 =>
  (bif (!y2) then some false else some true))
set_option maxHeartbeats 0 in
theorem laws_eqDisk_run (k : Nat) (x0 : DDisk) (x1 : DDisk) : c_laws_eqDisk (k + 1) (x0, x1) = laws_eqDisk k x0 x1 := by kernel_rfl
noncomputable def laws_eqBoolS_l1 (k : Nat) (self : ((List Bool) × ((List Bool) × Int)) → Option Bool) (d : ((List Bool) × ((List Bool) × Int))) : Option Bool :=
  (bif (decide (d.2.2 < (d.1.length : Int))) then (if 0 ≤ d.2.2 then (d.1[d.2.2.toNat]?).bind fun v0 =>
  (if 0 ≤ d.2.2 then (d.2.1[d.2.2.toNat]?).bind fun v1 =>
  (bif (v0 != v1) then some false else self (d.1, d.2.1, (wrapK .i64 (d.2.2 + (1 : Int))))) else none) else none) else some true)
noncomputable def laws_eqBoolS (k : Nat) (x0 : (List Bool)) (x1 : (List Bool)) : Option Bool :=
  (bif ((x0.length : Int) != (x1.length : Int)) then some false else iter k (laws_eqBoolS_l1 k) (x0, x1, (0 : Int)))
set_option maxHeartbeats 0 in
theorem laws_eqBoolS_run (k : Nat) (x0 : (List Bool)) (x1 : (List Bool)) : c_laws_eqBoolS (k + 1) (x0, x1) = laws_eqBoolS k x0 x1 := by kernel_rfl
noncomputable def laws_markBoolS_l1 (k : Nat) (self : (Unit × (Int × (Int × (List Bool)))) → Option (Int × (List Bool))) (d : (Unit × (Int × (Int × (List Bool))))) : Option (Int × (List Bool)) :=
  (bif (decide (d.2.2.1 < (d.2.2.2.length : Int))) then (if ((3 : Int) : Int) ≠ 0 then (if 0 ≤ d.2.2.1 then (if d.2.2.1 < (d.2.2.2.length : Int) then (d.2.2.2[d.2.2.1.toNat]?).bind fun v0 =>
  self ((), (wrapK .i64 (d.2.1 + (1 : Int))), (wrapK .i64 (d.2.2.1 + (1 : Int))), (d.2.2.2.set d.2.2.1.toNat ((d.2.1.tmod (3 : Int)) == (0 : Int)))) else none) else none) else none) else some (d.2.1, d.2.2.2))
noncomputable def laws_markBoolS (k : Nat) (x0 : (List Bool)) (x1 : Int) : Option (Int × (List Bool)) :=
  iter k (laws_markBoolS_l1 k) ((), x1, (0 : Int), x0)
set_option maxHeartbeats 0 in
theorem laws_markBoolS_run (k : Nat) (x0 : (List Bool)) (x1 : Int) : c_laws_markBoolS (k + 1) (x0, x1) = laws_markBoolS k x0 x1 := by kernel_rfl
noncomputable def laws_markText_l1 (k : Nat) (self : DWrite → Option ByteArray) (d : DWrite) : Option ByteArray :=
  (bif (decide ((0 : Int) < d.1)) then (if ((10 : Int) : Int) ≠ 0 then (if (ofBytes ([(wrapK .u8 (wrapK .i64 ((48 : Int) + (d.1.tmod (10 : Int)))))] : List Int)).size + d.2.size ≤ 9223372036854775807 then (if ((10 : Int) : Int) ≠ 0 then self ((wrapK .i64 (d.1.tdiv (10 : Int))), ((ofBytes ([(wrapK .u8 (wrapK .i64 ((48 : Int) + (d.1.tmod (10 : Int)))))] : List Int)) ++ d.2)) else none) else none) else none) else (if (⟨#[109]⟩ : ByteArray).size + d.2.size ≤ 9223372036854775807 then some ((⟨#[109]⟩ : ByteArray) ++ d.2) else none))
noncomputable def laws_markText (k : Nat) (x0 : Int) : Option ByteArray :=
  (bif (decide (x0 ≤ (0 : Int))) then some (⟨#[109, 48]⟩ : ByteArray) else iter k (laws_markText_l1 k) (x0, (⟨#[]⟩ : ByteArray)))
set_option maxHeartbeats 0 in
theorem laws_markText_run (k : Nat) (x0 : Int) : c_laws_markText (k + 1) (x0) = laws_markText k x0 := by kernel_rfl
noncomputable def laws_heldStringS_l1 (k : Nat) (self : ((List ByteArray) × DQuota) → Option Int) (d : ((List ByteArray) × DQuota)) : Option Int :=
  (bif (decide (d.2.2 < (d.1.length : Int))) then (if 0 ≤ d.2.2 then (d.1[d.2.2.toNat]?).bind fun v0 =>
  (c_laws_markText k d.2.1).bind fun v1 =>
  (bif (!(eqS v0 v1)) then some (-1 : Int) else self (d.1, (wrapK .i64 (d.2.1 + (1 : Int))), (wrapK .i64 (d.2.2 + (1 : Int))))) else none) else some d.2.1)
noncomputable def laws_heldStringS (k : Nat) (x0 : (List ByteArray)) (x1 : Int) : Option Int :=
  iter k (laws_heldStringS_l1 k) (x0, x1, (0 : Int))
set_option maxHeartbeats 0 in
theorem laws_heldStringS_run (k : Nat) (x0 : (List ByteArray)) (x1 : Int) : c_laws_heldStringS (k + 1) (x0, x1) = laws_heldStringS k x0 x1 := by kernel_rfl
noncomputable def laws_heldWriteS_l1 (k : Nat) (self : ((List DWrite) × DQuota) → Option Int) (d : ((List DWrite) × DQuota)) : Option Int :=
  (bif (decide (d.2.2 < (d.1.length : Int))) then (if 0 ≤ d.2.2 then (d.1[d.2.2.toNat]?).bind fun v0 =>
  (bif (v0.1 != d.2.1) then some (-1 : Int) else (if 0 ≤ d.2.2 then (d.1[d.2.2.toNat]?).bind fun v1 =>
  (c_laws_markText k (wrapK .i64 (d.2.1 + (1 : Int)))).bind fun v2 =>
  (bif (!(eqS v1.2 v2)) then some (-1 : Int) else self (d.1, (wrapK .i64 ((wrapK .i64 (d.2.1 + (1 : Int))) + (1 : Int))), (wrapK .i64 (d.2.2 + (1 : Int))))) else none)) else none) else some d.2.1)
noncomputable def laws_heldWriteS (k : Nat) (x0 : (List DWrite)) (x1 : Int) : Option Int :=
  iter k (laws_heldWriteS_l1 k) (x0, x1, (0 : Int))
set_option maxHeartbeats 0 in
theorem laws_heldWriteS_run (k : Nat) (x0 : (List DWrite)) (x1 : Int) : c_laws_heldWriteS (k + 1) (x0, x1) = laws_heldWriteS k x0 x1 := by kernel_rfl
noncomputable def laws_heldDisk (k : Nat) (x0 : DDisk) (x1 : Int) : Option Int :=
  (c_laws_heldStringS k (x0.1, x1)).bind fun y1 =>
  (bif (decide (y1 < (0 : Int))) then some (-1 : Int) else (c_laws_heldWriteS k (x0.2, y1)).bind fun y2 =>
  (bif (decide (y2 < (0 : Int))) then some (-1 : Int) else some y2))
set_option maxHeartbeats 0 in
theorem laws_heldDisk_run (k : Nat) (x0 : DDisk) (x1 : Int) : c_laws_heldDisk (k + 1) (x0, x1) = laws_heldDisk k x0 x1 := by kernel_rfl
noncomputable def laws_markStringS_l1 (k : Nat) (self : (Unit × (Int × (Int × (List ByteArray)))) → Option (Int × (List ByteArray))) (d : (Unit × (Int × (Int × (List ByteArray))))) : Option (Int × (List ByteArray)) :=
  (bif (decide (d.2.2.1 < (d.2.2.2.length : Int))) then (c_laws_markText k d.2.1).bind fun v0 =>
  (if 0 ≤ d.2.2.1 then (if d.2.2.1 < (d.2.2.2.length : Int) then (d.2.2.2[d.2.2.1.toNat]?).bind fun v1 =>
  self ((), (wrapK .i64 (d.2.1 + (1 : Int))), (wrapK .i64 (d.2.2.1 + (1 : Int))), (d.2.2.2.set d.2.2.1.toNat v0)) else none) else none) else some (d.2.1, d.2.2.2))
noncomputable def laws_markStringS (k : Nat) (x0 : (List ByteArray)) (x1 : Int) : Option (Int × (List ByteArray)) :=
  iter k (laws_markStringS_l1 k) ((), x1, (0 : Int), x0)
set_option maxHeartbeats 0 in
theorem laws_markStringS_run (k : Nat) (x0 : (List ByteArray)) (x1 : Int) : c_laws_markStringS (k + 1) (x0, x1) = laws_markStringS k x0 x1 := by kernel_rfl
noncomputable def laws_markWriteS_l1 (k : Nat) (self : (Unit × (Int × (Int × (List DWrite)))) → Option (Int × (List DWrite))) (d : (Unit × (Int × (Int × (List DWrite))))) : Option (Int × (List DWrite)) :=
  (bif (decide (d.2.2.1 < (d.2.2.2.length : Int))) then (if 0 ≤ d.2.2.1 then (if d.2.2.1 < (d.2.2.2.length : Int) then (d.2.2.2[d.2.2.1.toNat]?).bind fun v0 =>
  (c_laws_markText k (wrapK .i64 (d.2.1 + (1 : Int)))).bind fun v1 =>
  (if 0 ≤ d.2.2.1 then (if d.2.2.1 < (((d.2.2.2.set d.2.2.1.toNat (d.2.1, v0.2)).length : Nat) : Int) then ((d.2.2.2.set d.2.2.1.toNat (d.2.1, v0.2))[d.2.2.1.toNat]?).bind fun v2 =>
  self ((), (wrapK .i64 ((wrapK .i64 (d.2.1 + (1 : Int))) + (1 : Int))), (wrapK .i64 (d.2.2.1 + (1 : Int))), ((d.2.2.2.set d.2.2.1.toNat (d.2.1, v0.2)).set d.2.2.1.toNat (v2.1, v1))) else none) else none) else none) else none) else some (d.2.1, d.2.2.2))
noncomputable def laws_markWriteS (k : Nat) (x0 : (List DWrite)) (x1 : Int) : Option (Int × (List DWrite)) :=
  iter k (laws_markWriteS_l1 k) ((), x1, (0 : Int), x0)
set_option maxHeartbeats 0 in
theorem laws_markWriteS_run (k : Nat) (x0 : (List DWrite)) (x1 : Int) : c_laws_markWriteS (k + 1) (x0, x1) = laws_markWriteS k x0 x1 := by kernel_rfl
noncomputable def laws_FnExactCrashMount (k : Nat) (x0 : DDisk) (x1 : Int) (x2 : (List Bool)) : Option Bool :=
  (bif (decide ((1048576 : Int) < (x2.length : Int))) then some true else (c_laws_szDisk k (x0, (1048576 : Int))).bind fun y1 =>
  (bif (decide (y1 < (0 : Int))) then some true else (c_laws_toDisk k x0).bind fun y2 =>
  (c_laws_toBoolS k x2).bind fun y3 =>
  (c_spec_CrashMount k (y2, x1, y3)).bind fun y4 =>
  (c_laws_toDisk k x0).bind fun y5 =>
  (c_laws_toBoolS k x2).bind fun y6 =>
  (c_impl_CrashMount k (y5, x1, y6)).bind fun y7 =>
  (c_laws_eqDisk k (y7, y4)).bind fun y8 =>
  (bif (!y8) then some false else (c_laws_toDisk k x0).bind fun y9 =>
  (c_laws_eqDisk k (y5, y9)).bind fun y10 =>
  (bif (!y10) then some false else (c_laws_toBoolS k x2).bind fun y11 =>
  (c_laws_eqBoolS k (y6, y11)).bind fun y12 =>
  (bif (!y12) then some false else (c_laws_markStringS k (y5.1, (1 : Int))).bind fun y13 =>
  (c_laws_markWriteS k (y5.2, y13.1)).bind fun y14 =>
  (c_laws_markBoolS k (y6, y14.1)).bind fun y15 =>
  (bif (decide (y15.1 < (0 : Int))) then some false else (c_laws_eqDisk k (y7, y4)).bind fun y16 =>
  (bif (!y16) then some false else (c_laws_markStringS k (y7.1, (1 : Int))).bind fun y17 =>
  (c_laws_markWriteS k (y7.2, y17.1)).bind fun y18 =>
  (c_laws_heldDisk k ((y17.2, y18.2), (1 : Int))).bind fun y19 =>
  (bif (decide (y19 < (0 : Int))) then some false else (bif (y19 != y18.1) then some false else (c_laws_toDisk k x0).bind fun y20 =>
  (c_laws_toBoolS k x2).bind fun y21 =>
  (c_impl_CrashMount k (y20, x1, y21)).bind fun y22 =>
  (c_laws_eqDisk k (y22, y4)).bind fun y23 =>
  (bif (!y23) then some false else (c_laws_heldDisk k ((y17.2, y18.2), (1 : Int))).bind fun y24 =>
  (bif (decide (y24 < (0 : Int))) then some false else (bif (y24 != y18.1) then some false else some true))))))))))))
set_option maxHeartbeats 0 in
theorem laws_FnExactCrashMount_run (k : Nat) (x0 : DDisk) (x1 : Int) (x2 : (List Bool)) : c_laws_FnExactCrashMount (k + 1) (x0, x1, x2) = laws_FnExactCrashMount k x0 x1 x2 := by kernel_rfl
end Go.Proofs.Ytnbipilpdhhhmaa
