/- The tables, the residual functions and lemmas of this seat: parts of the proof of the law; conditions: those that each names. -/
import Derived.Test.YtdbemlllcdpdbaaTab
set_option maxRecDepth 100000
set_option linter.unusedVariables false
namespace Go.Proofs.Ytdbemlllcdpdbaa
open Go.Eng
noncomputable def spec_l01In (k : Nat) (x0 : Int) (x1 : Int) (x2 : Int) : Option Bool :=
  (bif (decide (x1 ≤ x0)) then some (decide (x0 ≤ x2)) else some false)
set_option maxHeartbeats 0 in
theorem spec_l01In_run (k : Nat) (x0 : Int) (x1 : Int) (x2 : Int) : c_spec_l01In (k + 1) (x0, x1, x2) = spec_l01In k x0 x1 x2 := by kernel_rfl
noncomputable def spec_PadTo_l1 (k : Nat) (self : (Int × (List Int)) → Option ByteArray) (d : (Int × (List Int))) : Option ByteArray :=
  (bif (decide ((d.2.length : Int) < d.1)) then (if (d.2.length + ([(0 : Int)] : List Int).length) * 1 ≤ capBytes then self (d.1, (d.2 ++ ([(0 : Int)] : List Int))) else none) else some (ofBytes d.2))
noncomputable def spec_PadTo (k : Nat) (x0 : ByteArray) (x1 : Int) : Option ByteArray :=
  (bif (decide ((100000 : Int) < x1)) then some (⟨#[]⟩ : ByteArray) else iter k (spec_PadTo_l1 k) (x1, (bytesOf x0)))
set_option maxHeartbeats 0 in
theorem spec_PadTo_run (k : Nat) (x0 : ByteArray) (x1 : Int) : c_spec_PadTo (k + 1) (x0, x1) = spec_PadTo k x0 x1 := by kernel_rfl
noncomputable def spec_NewDisk_l1 (k : Nat) (self : (Int × (Unit × (Unit × (DDisk × DDisk)))) → Option DDisk) (d : (Int × (Unit × (Unit × (DDisk × DDisk))))) : Option DDisk :=
  (bif (decide ((d.2.2.2.1.1.length : Int) < d.1)) then (c_spec_PadTo k ((⟨#[]⟩ : ByteArray), (32 : Int))).bind fun v0 =>
  (if (d.2.2.2.1.1.length + ([v0] : List ByteArray).length) * 16 ≤ capBytes then self (d.1, (), (), ((d.2.2.2.1.1 ++ ([v0] : List ByteArray)), d.2.2.2.1.2), d.2.2.2.2) else none) else some d.2.2.2.1)
noncomputable def spec_NewDisk (k : Nat) (x0 : Int) : Option DDisk :=
  (c_spec_l01In k (x0, (0 : Int), (400 : Int))).bind fun y1 =>
  (bif (!y1) then some (([] : List ByteArray), ([] : List DWrite)) else iter k (spec_NewDisk_l1 k) (x0, (), (), (([] : List ByteArray), ([] : List DWrite)), (([] : List ByteArray), ([] : List DWrite))))
set_option maxHeartbeats 0 in
theorem spec_NewDisk_run (k : Nat) (x0 : Int) : c_spec_NewDisk (k + 1) (x0) = spec_NewDisk k x0 := by kernel_rfl
noncomputable def spec_l01Byte (k : Nat) (x0 : Dl01Cur) : Option (Int × Dl01Cur) :=
  (if 0 ≤ (33 : Int) then (if 0 ≤ (45 : Int) then (bif (decide (x0.2.1 < (x0.1.length : Int))) then (if 0 ≤ x0.2.1 then (x0.1[x0.2.1.toNat]?).bind fun y1 =>
  some ((intBits .and .i64 (wrapK .i64 ((intBits .and .i64 (intBits .xor .i64 ((wrapK .i64 ((wrapK .i64 (x0.2.2 * (6364136223846793005 : Int))) + (1442695040888963407 : Int))).fdiv (2 ^ (min (33 : Int).toNat (IntKind.bits .i64)))) ((wrapK .i64 ((wrapK .i64 (x0.2.2 * (6364136223846793005 : Int))) + (1442695040888963407 : Int))).fdiv (2 ^ (min (45 : Int).toNat (IntKind.bits .i64))))) (255 : Int)) + (wrapK .i64 y1))) (255 : Int)), (x0.1, (wrapK .i64 (x0.2.1 + (1 : Int))), (wrapK .i64 ((wrapK .i64 (x0.2.2 * (6364136223846793005 : Int))) + (1442695040888963407 : Int))))) else none) else some ((intBits .and .i64 (intBits .xor .i64 ((wrapK .i64 ((wrapK .i64 (x0.2.2 * (6364136223846793005 : Int))) + (1442695040888963407 : Int))).fdiv (2 ^ (min (33 : Int).toNat (IntKind.bits .i64)))) ((wrapK .i64 ((wrapK .i64 (x0.2.2 * (6364136223846793005 : Int))) + (1442695040888963407 : Int))).fdiv (2 ^ (min (45 : Int).toNat (IntKind.bits .i64))))) (255 : Int)), (x0.1, x0.2.1, (wrapK .i64 ((wrapK .i64 (x0.2.2 * (6364136223846793005 : Int))) + (1442695040888963407 : Int)))))) else none) else none)
set_option maxHeartbeats 0 in
theorem spec_l01Byte_run (k : Nat) (x0 : Dl01Cur) : c_spec_l01Byte (k + 1) (x0) = spec_l01Byte k x0 := by kernel_rfl
noncomputable def spec_l01Below (k : Nat) (x0 : Dl01Cur) (x1 : Int) : Option (Int × Dl01Cur) :=
  (bif (decide (x1 ≤ (0 : Int))) then some ((0 : Int), x0) else (bif (decide (x1 ≤ (256 : Int))) then (c_spec_l01Byte k x0).bind fun y1 =>
  (if (x1 : Int) ≠ 0 then some ((y1.1.tmod x1), y1.2) else none) else (c_spec_l01Byte k x0).bind fun y2 =>
  (c_spec_l01Byte k y2.2).bind fun y3 =>
  (c_spec_l01Byte k y3.2).bind fun y4 =>
  (c_spec_l01Byte k y4.2).bind fun y5 =>
  (if (x1 : Int) ≠ 0 then some (((wrapK .i64 ((wrapK .i64 ((wrapK .i64 ((wrapK .i64 (y2.1 * (16777216 : Int))) + (wrapK .i64 (y3.1 * (65536 : Int))))) + (wrapK .i64 (y4.1 * (256 : Int))))) + y5.1)).tmod x1), y5.2) else none)))
set_option maxHeartbeats 0 in
theorem spec_l01Below_run (k : Nat) (x0 : Dl01Cur) (x1 : Int) : c_spec_l01Below (k + 1) (x0, x1) = spec_l01Below k x0 x1 := by kernel_rfl
noncomputable def spec_l01Pick (k : Nat) (x0 : Dl01Cur) (x1 : (List Int)) : Option (Int × Dl01Cur) :=
  (c_spec_l01Below k (x0, (x1.length : Int))).bind fun y1 =>
  (if 0 ≤ y1.1 then (x1[y1.1.toNat]?).bind fun y2 =>
  some (y2, y1.2) else none)
set_option maxHeartbeats 0 in
theorem spec_l01Pick_run (k : Nat) (x0 : Dl01Cur) (x1 : (List Int)) : c_spec_l01Pick (k + 1) (x0, x1) = spec_l01Pick k x0 x1 := by kernel_rfl
noncomputable def spec_l02Bytes_l1 (k : Nat) (self : (Unit × ((List Int) × (Int × Dl01Cur))) → Option (ByteArray × Dl01Cur)) (d : (Unit × ((List Int) × (Int × Dl01Cur)))) : Option (ByteArray × Dl01Cur) :=
  (bif (decide ((0 : Int) < d.2.2.1)) then (c_spec_l01Byte k d.2.2.2).bind fun v0 =>
  (c_spec_l01Pick k (v0.2, ([(0 : Int), (1 : Int), (65 : Int), (97 : Int), (255 : Int), v0.1] : List Int))).bind fun v1 =>
  (if (d.2.1.length + ([(wrapK .u8 v1.1)] : List Int).length) * 1 ≤ capBytes then self ((), (d.2.1 ++ ([(wrapK .u8 v1.1)] : List Int)), (wrapK .i64 (d.2.2.1 - (1 : Int))), v1.2) else none) else some ((ofBytes d.2.1), d.2.2.2))
noncomputable def spec_l02Bytes (k : Nat) (x0 : Dl01Cur) (x1 : Int) : Option (ByteArray × Dl01Cur) :=
  (c_spec_l01Below k (x0, (wrapK .i64 (x1 + (1 : Int))))).bind fun y1 =>
  iter k (spec_l02Bytes_l1 k) ((), ([] : List Int), y1.1, y1.2)
set_option maxHeartbeats 0 in
theorem spec_l02Bytes_run (k : Nat) (x0 : Dl01Cur) (x1 : Int) : c_spec_l02Bytes (k + 1) (x0, x1) = spec_l02Bytes k x0 x1 := by kernel_rfl
noncomputable def spec_l03Sector (k : Nat) (x0 : Dl01Cur) : Option (ByteArray × Dl01Cur) :=
  (c_spec_l02Bytes k (x0, (3 : Int))).bind fun y1 =>
  (c_spec_PadTo k (y1.1, (32 : Int))).bind fun y2 =>
  some (y2, y1.2)
set_option maxHeartbeats 0 in
theorem spec_l03Sector_run (k : Nat) (x0 : Dl01Cur) : c_spec_l03Sector (k + 1) (x0) = spec_l03Sector k x0 := by kernel_rfl
noncomputable def spec_l04Disk_l1 (k : Nat) (self : (Unit × (Unit × (Unit × (Int × (DDisk × (DDisk × Dl01Cur)))))) → Option (DDisk × Dl01Cur)) (d : (Unit × (Unit × (Unit × (Int × (DDisk × (DDisk × Dl01Cur))))))) : Option (DDisk × Dl01Cur) :=
  (bif (decide (d.2.2.2.1 < (3 : Int))) then (c_spec_l03Sector k d.2.2.2.2.2.2).bind fun v0 =>
  (if 0 ≤ (wrapK .i64 ((70 : Int) + d.2.2.2.1)) then (if (wrapK .i64 ((70 : Int) + d.2.2.2.1)) < (d.2.2.2.2.1.1.length : Int) then (d.2.2.2.2.1.1[(wrapK .i64 ((70 : Int) + d.2.2.2.1)).toNat]?).bind fun v1 =>
  self ((), (), (), (wrapK .i64 (d.2.2.2.1 + (1 : Int))), ((d.2.2.2.2.1.1.set (wrapK .i64 ((70 : Int) + d.2.2.2.1)).toNat v0.1), d.2.2.2.2.1.2), d.2.2.2.2.2.1, v0.2) else none) else none) else some (d.2.2.2.2.1, d.2.2.2.2.2.2))
noncomputable def spec_l04Disk (k : Nat) (x0 : Dl01Cur) : Option (DDisk × Dl01Cur) :=
  (c_spec_NewDisk k (73 : Int)).bind fun y1 =>
  iter k (spec_l04Disk_l1 k) ((), (), (), (0 : Int), y1, (([] : List ByteArray), ([] : List DWrite)), x0)
set_option maxHeartbeats 0 in
theorem spec_l04Disk_run (k : Nat) (x0 : Dl01Cur) : c_spec_l04Disk (k + 1) (x0) = spec_l04Disk k x0 := by kernel_rfl
noncomputable def spec_MakeJournalDisk_l1 (k : Nat) (self : ((List Int) × (Int × (Int × DDisk))) → Option DDisk) (d : ((List Int) × (Int × (Int × DDisk)))) : Option DDisk :=
  (bif (decide (d.2.2.1 < (d.1.length : Int))) then (bif (decide (d.2.2.1 < (4000 : Int))) then (if 0 ≤ d.2.2.1 then (d.1[d.2.2.1.toNat]?).bind fun v0 =>
  self (d.1, (intBits .and .i64 (wrapK .i64 ((wrapK .i64 ((wrapK .i64 (d.2.1 * (73 : Int))) + (wrapK .i64 v0))) + (7 : Int))) (1073741823 : Int)), (wrapK .i64 (d.2.2.1 + (1 : Int))), d.2.2.2) else none) else (c_spec_l04Disk k (d.1, (0 : Int), d.2.1)).bind fun v1 =>
  some v1.1) else (c_spec_l04Disk k (d.1, (0 : Int), d.2.1)).bind fun v2 =>
  some v2.1)
noncomputable def spec_MakeJournalDisk (k : Nat) (x0 : (List Int)) : Option DDisk :=
  iter k (spec_MakeJournalDisk_l1 k) (x0, (wrapK .i64 ((1263 : Int) + (x0.length : Int))), (0 : Int), (([] : List ByteArray), ([] : List DWrite)))
set_option maxHeartbeats 0 in
theorem spec_MakeJournalDisk_run (k : Nat) (x0 : (List Int)) : c_spec_MakeJournalDisk (k + 1) (x0) = spec_MakeJournalDisk k x0 := by kernel_rfl
noncomputable def spec_l01Once (k : Nat) (x0 : Dl01Cur) (x1 : Int) : Option (Bool × Dl01Cur) :=
  (c_spec_l01Below k (x0, x1)).bind fun y1 =>
  some ((y1.1 == (0 : Int)), y1.2)
set_option maxHeartbeats 0 in
theorem spec_l01Once_run (k : Nat) (x0 : Dl01Cur) (x1 : Int) : c_spec_l01Once (k + 1) (x0, x1) = spec_l01Once k x0 x1 := by kernel_rfl
noncomputable def spec_l04Txn_l1 (k : Nat) (self : (Unit × ((List DWrite) × ((List Int) × (Int × (Int × Dl01Cur))))) → Option ((List DWrite) × Dl01Cur)) (d : (Unit × ((List DWrite) × ((List Int) × (Int × (Int × Dl01Cur)))))) : Option ((List DWrite) × Dl01Cur) :=
  (bif (decide (d.2.2.2.2.1 < d.2.2.2.1)) then (if 0 ≤ d.2.2.2.2.1 then (if d.2.2.2.2.1 < (d.2.2.1.length : Int) then (d.2.2.1[d.2.2.2.2.1.toNat]?).bind fun v0 =>
  (c_spec_l01Once k (d.2.2.2.2.2, (2 : Int))).bind fun v1 =>
  (bif v1.1 then (c_spec_l03Sector k v1.2).bind fun v2 =>
  (if (d.2.1.length + ([(v0, v2.1)] : List DWrite).length) * 24 ≤ capBytes then self ((), (d.2.1 ++ ([(v0, v2.1)] : List DWrite)), d.2.2.1, d.2.2.2.1, (wrapK .i64 (d.2.2.2.2.1 + (1 : Int))), v2.2) else none) else (bif (v0 == (70 : Int)) then (c_spec_l03Sector k v1.2).bind fun v3 =>
  (if (d.2.1.length + ([(v0, v3.1)] : List DWrite).length) * 24 ≤ capBytes then self ((), (d.2.1 ++ ([(v0, v3.1)] : List DWrite)), d.2.2.1, d.2.2.2.1, (wrapK .i64 (d.2.2.2.2.1 + (1 : Int))), v3.2) else none) else self ((), d.2.1, d.2.2.1, d.2.2.2.1, (wrapK .i64 (d.2.2.2.2.1 + (1 : Int))), v1.2))) else none) else none) else some (d.2.1, d.2.2.2.2.2))
noncomputable def spec_l04Txn (k : Nat) (x0 : Dl01Cur) : Option ((List DWrite) × Dl01Cur) :=
  iter k (spec_l04Txn_l1 k) ((), ([] : List DWrite), ([(0 : Int), (70 : Int), (71 : Int), (72 : Int)] : List Int), ((([(0 : Int), (70 : Int), (71 : Int), (72 : Int)] : List Int).length : Nat) : Int), (0 : Int), x0)
set_option maxHeartbeats 0 in
theorem spec_l04Txn_run (k : Nat) (x0 : Dl01Cur) : c_spec_l04Txn (k + 1) (x0) = spec_l04Txn k x0 := by kernel_rfl
noncomputable def spec_MakeTxn_l1 (k : Nat) (self : (Int × (Unit × (Int × Dl01Cur))) → Option (List DWrite)) (d : (Int × (Unit × (Int × Dl01Cur)))) : Option (List DWrite) :=
  (bif (decide (d.2.2.1 < d.1)) then (c_spec_l01Byte k d.2.2.2).bind fun v0 =>
  self (d.1, (), (wrapK .i64 (d.2.2.1 + (1 : Int))), v0.2) else (c_spec_l04Txn k d.2.2.2).bind fun v1 =>
  some v1.1)
noncomputable def spec_MakeTxn_l2 (k : Nat) (self : Dl01Cur → Option (List DWrite)) (d : Dl01Cur) : Option (List DWrite) :=
  (bif (decide (d.2.2 < (d.1.length : Int))) then (bif (decide (d.2.2 < (4000 : Int))) then (if 0 ≤ d.2.2 then (d.1[d.2.2.toNat]?).bind fun v0 =>
  self (d.1, (intBits .and .i64 (wrapK .i64 ((wrapK .i64 ((wrapK .i64 (d.2.1 * (73 : Int))) + (wrapK .i64 v0))) + (7 : Int))) (1073741823 : Int)), (wrapK .i64 (d.2.2 + (1 : Int)))) else none) else iter k (spec_MakeTxn_l1 k) ((9 : Int), (), (0 : Int), (d.1, (0 : Int), d.2.1))) else iter k (spec_MakeTxn_l1 k) ((9 : Int), (), (0 : Int), (d.1, (0 : Int), d.2.1)))
noncomputable def spec_MakeTxn (k : Nat) (x0 : (List Int)) : Option (List DWrite) :=
  iter k (spec_MakeTxn_l2 k) (x0, (wrapK .i64 ((1263 : Int) + (x0.length : Int))), (0 : Int))
set_option maxHeartbeats 0 in
theorem spec_MakeTxn_run (k : Nat) (x0 : (List Int)) : c_spec_MakeTxn (k + 1) (x0) = spec_MakeTxn k x0 := by kernel_rfl
noncomputable def impl_CutAll_l1 (k : Nat) (self : (ByteArray × (Int × (List ByteArray))) → Option (List ByteArray)) (d : (ByteArray × (Int × (List ByteArray)))) : Option (List ByteArray) :=
  (bif (decide ((0 : Int) < (d.1.size : Int))) then (if 0 ≤ (min d.2.1 (d.1.size : Int)) then (if (min d.2.1 (d.1.size : Int)) ≤ (d.1.size : Int) then (if (d.2.2.length + ([(d.1.extract 0 ((min d.2.1 (d.1.size : Int)).toNat))] : List ByteArray).length) * 16 ≤ capBytes then (if 0 ≤ (min d.2.1 (d.1.size : Int)) then (if (min d.2.1 (d.1.size : Int)) ≤ (d.1.size : Int) then self ((d.1.extract ((min d.2.1 (d.1.size : Int)).toNat) d.1.size), d.2.1, (d.2.2 ++ ([(d.1.extract 0 ((min d.2.1 (d.1.size : Int)).toNat))] : List ByteArray))) else none) else none) else none) else none) else none) else some d.2.2)
noncomputable def impl_CutAll (k : Nat) (x0 : ByteArray) (x1 : Int) : Option (List ByteArray) :=
  (bif (decide (x1 < (1 : Int))) then some ([] : List ByteArray) else (bif (decide ((1000 : Int) < x1)) then some ([] : List ByteArray) else iter k (impl_CutAll_l1 k) (x0, x1, ([] : List ByteArray))))
set_option maxHeartbeats 0 in
theorem impl_CutAll_run (k : Nat) (x0 : ByteArray) (x1 : Int) : c_impl_CutAll (k + 1) (x0, x1) = impl_CutAll k x0 x1 := by kernel_rfl
noncomputable def impl_listed_l1 (k : Nat) (self : ((List DWrite) × ((List DWrite) × DQuota)) → Option Bool) (d : ((List DWrite) × ((List DWrite) × DQuota))) : Option Bool :=
  (bif (decide (d.2.2.2 < d.2.2.1)) then (if 0 ≤ d.2.2.2 then (d.2.1[d.2.2.2.toNat]?).bind fun v0 =>
  (bif (decide (v0.1 < (0 : Int))) then some false else (bif (decide ((400 : Int) ≤ v0.1)) then some false else self (d.1, d.2.1, d.2.2.1, (wrapK .i64 (d.2.2.2 + (1 : Int)))))) else none) else (bif (decide ((1 : Int) ≤ (d.1.length : Int))) then some (decide ((d.1.length : Int) ≤ (64 : Int))) else some false))
noncomputable def impl_listed (k : Nat) (x0 : (List DWrite)) : Option Bool :=
  iter k (impl_listed_l1 k) (x0, x0, (x0.length : Int), (0 : Int))
set_option maxHeartbeats 0 in
theorem impl_listed_run (k : Nat) (x0 : (List DWrite)) : c_impl_listed (k + 1) (x0) = impl_listed k x0 := by kernel_rfl
noncomputable def impl_PutNumber_l1 (k : Nat) (self : (Int × ((List Int) × Int)) → Option ByteArray) (d : (Int × ((List Int) × Int))) : Option ByteArray :=
  (bif (decide ((0 : Int) ≤ d.2.2)) then (if 0 ≤ d.2.2 then (if d.2.2 < (d.2.1.length : Int) then (d.2.1[d.2.2.toNat]?).bind fun v0 =>
  (if 0 ≤ (8 : Int) then self ((d.1.fdiv (2 ^ (min (8 : Int).toNat (IntKind.bits .i64)))), (d.2.1.set d.2.2.toNat (wrapK .u8 d.1)), (wrapK .i64 (d.2.2 - (1 : Int)))) else none) else none) else none) else some (ofBytes d.2.1))
noncomputable def impl_PutNumber (k : Nat) (x0 : Int) (x1 : Int) : Option ByteArray :=
  (bif (decide (x1 < (1 : Int))) then some (⟨#[]⟩ : ByteArray) else (bif (decide ((6 : Int) < x1)) then some (⟨#[]⟩ : ByteArray) else (bif (decide (x0 < (0 : Int))) then some (⟨#[]⟩ : ByteArray) else (if 0 ≤ (wrapK .i64 ((8 : Int) * x1)) then (bif (decide ((wrapK .i64 ((1 : Int) * 2 ^ (min (wrapK .i64 ((8 : Int) * x1)).toNat (IntKind.bits .i64)))) ≤ x0)) then some (⟨#[]⟩ : ByteArray) else (if 0 ≤ x1 then (if x1 ≤ x1 then (if x1 * 1 ≤ (capBytes : Int) then iter k (impl_PutNumber_l1 k) (x0, (List.replicate x1.toNat (0 : Int)), (wrapK .i64 (x1 - (1 : Int)))) else none) else none) else none)) else none))))
set_option maxHeartbeats 0 in
theorem impl_PutNumber_run (k : Nat) (x0 : Int) (x1 : Int) : c_impl_PutNumber (k + 1) (x0, x1) = impl_PutNumber k x0 x1 := by kernel_rfl
noncomputable def impl_PadTo (k : Nat) (x0 : ByteArray) (x1 : Int) : Option ByteArray :=
  (bif (decide (x1 ≤ (x0.size : Int))) then some x0 else (bif (decide ((100000 : Int) < x1)) then some (⟨#[]⟩ : ByteArray) else (c_strings_Repeat k ((⟨#[0]⟩ : ByteArray), (wrapK .i64 (x1 - (x0.size : Int))))).bind fun y1 =>
  (if x0.size + y1.size ≤ 9223372036854775807 then some (x0 ++ y1) else none)))
set_option maxHeartbeats 0 in
theorem impl_PadTo_run (k : Nat) (x0 : ByteArray) (x1 : Int) : c_impl_PadTo (k + 1) (x0, x1) = impl_PadTo k x0 x1 := by kernel_rfl
noncomputable def impl_JournalWrites_l1 (k : Nat) (self : ((List DWrite) × ((List DWrite) × ((List ByteArray) × DQuota))) → Option (List DWrite)) (d : ((List DWrite) × ((List DWrite) × ((List ByteArray) × DQuota)))) : Option (List DWrite) :=
  (bif (decide (d.2.2.2.2 < d.2.2.2.1)) then (if 0 ≤ d.2.2.2.2 then (if d.2.2.2.2 < (d.2.2.1.length : Int) then (d.2.2.1[d.2.2.2.2.toNat]?).bind fun v0 =>
  (c_impl_PadTo k (v0, (32 : Int))).bind fun v1 =>
  (if (d.2.1.length + ([((wrapK .i64 ((2 : Int) + d.2.2.2.2)), v1)] : List DWrite).length) * 24 ≤ capBytes then self (d.1, (d.2.1 ++ ([((wrapK .i64 ((2 : Int) + d.2.2.2.2)), v1)] : List DWrite)), d.2.2.1, d.2.2.2.1, (wrapK .i64 (d.2.2.2.2 + (1 : Int)))) else none) else none) else none) else (if (d.2.1.length + d.1.length) * 24 ≤ capBytes then some (d.2.1 ++ d.1) else none))
noncomputable def impl_JournalWrites_l2 (k : Nat) (self : (ByteArray × ((List DWrite) × ((List DWrite) × DQuota))) → Option (List DWrite)) (d : (ByteArray × ((List DWrite) × ((List DWrite) × DQuota)))) : Option (List DWrite) :=
  (bif (decide (d.2.2.2.2 < d.2.2.2.1)) then (if 0 ≤ d.2.2.2.2 then (d.2.2.1[d.2.2.2.2.toNat]?).bind fun v0 =>
  (bif ((v0.2.size : Int) != (32 : Int)) then some ([] : List DWrite) else (c_impl_PutNumber k (v0.1, (2 : Int))).bind fun v1 =>
  (if d.1.size + v1.size ≤ 9223372036854775807 then (if (d.2.1.length + ([((wrapK .i64 ((6 : Int) + d.2.2.2.2)), v0.2)] : List DWrite).length) * 24 ≤ capBytes then self ((d.1 ++ v1), (d.2.1 ++ ([((wrapK .i64 ((6 : Int) + d.2.2.2.2)), v0.2)] : List DWrite)), d.2.2.1, d.2.2.2.1, (wrapK .i64 (d.2.2.2.2 + (1 : Int)))) else none) else none)) else none) else (c_impl_CutAll k (d.1, (32 : Int))).bind fun v2 =>
  iter k (impl_JournalWrites_l1 k) (d.2.1, ([] : List DWrite), v2, (v2.length : Int), (0 : Int)))
noncomputable def impl_JournalWrites (k : Nat) (x0 : (List DWrite)) : Option (List DWrite) :=
  (c_impl_listed k x0).bind fun y1 =>
  (bif (!y1) then some ([] : List DWrite) else iter k (impl_JournalWrites_l2 k) ((⟨#[]⟩ : ByteArray), ([] : List DWrite), x0, (x0.length : Int), (0 : Int)))
set_option maxHeartbeats 0 in
theorem impl_JournalWrites_run (k : Nat) (x0 : (List DWrite)) : c_impl_JournalWrites (k + 1) (x0) = impl_JournalWrites k x0 := by kernel_rfl
noncomputable def impl_ChecksumOf_l1 (k : Nat) (self : (ByteArray × (Int × DAclEntry)) → Option Int) (d : (ByteArray × (Int × DAclEntry))) : Option Int :=
  (bif (decide (d.2.2.2.2 < d.2.2.2.1)) then (if 0 ≤ d.2.2.2.2 then ((d.1[d.2.2.2.2.toNat]?.map fun v0 => (v0.toNat : Int))).bind fun v1 =>
  (if ((65521 : Int) : Int) ≠ 0 then (if ((65521 : Int) : Int) ≠ 0 then self (d.1, ((wrapK .i64 (d.2.1 + (wrapK .i64 v1))).tmod (65521 : Int)), ((wrapK .i64 (d.2.2.1 + ((wrapK .i64 (d.2.1 + (wrapK .i64 v1))).tmod (65521 : Int)))).tmod (65521 : Int)), d.2.2.2.1, (wrapK .i64 (d.2.2.2.2 + (1 : Int)))) else none) else none) else none) else some (wrapK .i64 ((wrapK .i64 (d.2.2.1 * (65536 : Int))) + d.2.1)))
noncomputable def impl_ChecksumOf (k : Nat) (x0 : ByteArray) : Option Int :=
  iter k (impl_ChecksumOf_l1 k) (x0, (1 : Int), (0 : Int), (x0.size : Int), (0 : Int))
set_option maxHeartbeats 0 in
theorem impl_ChecksumOf_run (k : Nat) (x0 : ByteArray) : c_impl_ChecksumOf (k + 1) (x0) = impl_ChecksumOf k x0 := by kernel_rfl
noncomputable def impl_CommitSector_l1 (k : Nat) (self : (Int × ((List DWrite) × (ByteArray × ((List DWrite) × DQuota)))) → Option ByteArray) (d : (Int × ((List DWrite) × (ByteArray × ((List DWrite) × DQuota))))) : Option ByteArray :=
  (bif (decide (d.2.2.2.2.2 < d.2.2.2.2.1)) then (if 0 ≤ d.2.2.2.2.2 then (d.2.2.2.1[d.2.2.2.2.2.toNat]?).bind fun v0 =>
  (c_impl_PutNumber k (v0.1, (2 : Int))).bind fun v1 =>
  (if v1.size + v0.2.size ≤ 9223372036854775807 then (if d.2.2.1.size + (v1 ++ v0.2).size ≤ 9223372036854775807 then self (d.1, d.2.1, (d.2.2.1 ++ (v1 ++ v0.2)), d.2.2.2.1, d.2.2.2.2.1, (wrapK .i64 (d.2.2.2.2.2 + (1 : Int)))) else none) else none) else none) else (c_impl_PutNumber k (d.1, (4 : Int))).bind fun v2 =>
  (if (⟨#[74, 82, 78, 76]⟩ : ByteArray).size + v2.size ≤ 9223372036854775807 then (c_impl_PutNumber k ((d.2.1.length : Int), (2 : Int))).bind fun v3 =>
  (if ((⟨#[74, 82, 78, 76]⟩ : ByteArray) ++ v2).size + v3.size ≤ 9223372036854775807 then (c_impl_ChecksumOf k d.2.2.1).bind fun v4 =>
  (c_impl_PutNumber k (v4, (4 : Int))).bind fun v5 =>
  (if (((⟨#[74, 82, 78, 76]⟩ : ByteArray) ++ v2) ++ v3).size + v5.size ≤ 9223372036854775807 then (c_impl_PadTo k (((((⟨#[74, 82, 78, 76]⟩ : ByteArray) ++ v2) ++ v3) ++ v5), (32 : Int))).bind fun v6 =>
  some v6 else none) else none) else none))
noncomputable def impl_CommitSector (k : Nat) (x0 : Int) (x1 : (List DWrite)) : Option ByteArray :=
  (bif (decide (x0 < (0 : Int))) then some (⟨#[]⟩ : ByteArray) else (bif (decide ((1000000000 : Int) < x0)) then some (⟨#[]⟩ : ByteArray) else (c_impl_listed k x1).bind fun y1 =>
  (bif (!y1) then some (⟨#[]⟩ : ByteArray) else iter k (impl_CommitSector_l1 k) (x0, x1, (⟨#[]⟩ : ByteArray), x1, (x1.length : Int), (0 : Int)))))
set_option maxHeartbeats 0 in
theorem impl_CommitSector_run (k : Nat) (x0 : Int) (x1 : (List DWrite)) : c_impl_CommitSector (k + 1) (x0, x1) = impl_CommitSector k x0 x1 := by kernel_rfl
noncomputable def impl_writeSteps_l1 (k : Nat) (self : ((List DStep) × ((List DWrite) × DQuota)) → Option (List DStep)) (d : ((List DStep) × ((List DWrite) × DQuota))) : Option (List DStep) :=
  (bif (decide (d.2.2.2 < d.2.2.1)) then (if 0 ≤ d.2.2.2 then (d.2.1[d.2.2.2.toNat]?).bind fun v0 =>
  (if (d.1.length + ([(false, v0)] : List DStep).length) * 32 ≤ capBytes then self ((d.1 ++ ([(false, v0)] : List DStep)), d.2.1, d.2.2.1, (wrapK .i64 (d.2.2.2 + (1 : Int)))) else none) else none) else some d.1)
noncomputable def impl_writeSteps (k : Nat) (x0 : (List DWrite)) : Option (List DStep) :=
  iter k (impl_writeSteps_l1 k) (([] : List DStep), x0, (x0.length : Int), (0 : Int))
set_option maxHeartbeats 0 in
theorem impl_writeSteps_run (k : Nat) (x0 : (List DWrite)) : c_impl_writeSteps (k + 1) (x0) = impl_writeSteps k x0 := by kernel_rfl
noncomputable def impl_zeros (k : Nat) (x0 : Int) : Option ByteArray :=
  (if 0 ≤ x0 then (if x0 ≤ x0 then (if x0 * 1 ≤ (capBytes : Int) then some (ofBytes (List.replicate x0.toNat (0 : Int))) else none) else none) else none)
set_option maxHeartbeats 0 in
theorem impl_zeros_run (k : Nat) (x0 : Int) : c_impl_zeros (k + 1) (x0) = impl_zeros k x0 := by kernel_rfl
noncomputable def impl_installSteps (k : Nat) (x0 : (List DWrite)) : Option (List DStep) :=
  (c_impl_writeSteps k x0).bind fun y1 =>
  (c_impl_zeros k (32 : Int)).bind fun y2 =>
  (if (y1.length + ([(true, (0 : Int), ByteArray.empty), (false, (1 : Int), y2), (true, (0 : Int), ByteArray.empty)] : List DStep).length) * 32 ≤ capBytes then some (y1 ++ ([(true, (0 : Int), ByteArray.empty), (false, (1 : Int), y2), (true, (0 : Int), ByteArray.empty)] : List DStep)) else none)
set_option maxHeartbeats 0 in
theorem impl_installSteps_run (k : Nat) (x0 : (List DWrite)) : c_impl_installSteps (k + 1) (x0) = impl_installSteps k x0 := by kernel_rfl
noncomputable def impl_TxnSteps (k : Nat) (x0 : Int) (x1 : (List DWrite)) : Option (List DStep) :=
  (c_impl_JournalWrites k x1).bind fun y1 =>
  (c_impl_CommitSector k (x0, x1)).bind fun y2 =>
  (if y1.isEmpty = false then (bif (eqS y2 (⟨#[]⟩ : ByteArray)) then some ([] : List DStep) else (c_impl_writeSteps k y1).bind fun y3 =>
  (if (y3.length + ([(true, (0 : Int), ByteArray.empty), (false, (1 : Int), y2), (true, (0 : Int), ByteArray.empty)] : List DStep).length) * 32 ≤ capBytes then (c_impl_installSteps k x1).bind fun y4 =>
  (if ((y3 ++ ([(true, (0 : Int), ByteArray.empty), (false, (1 : Int), y2), (true, (0 : Int), ByteArray.empty)] : List DStep)).length + y4.length) * 32 ≤ capBytes then some ((y3 ++ ([(true, (0 : Int), ByteArray.empty), (false, (1 : Int), y2), (true, (0 : Int), ByteArray.empty)] : List DStep)) ++ y4) else none) else none)) else none)
set_option maxHeartbeats 0 in
theorem impl_TxnSteps_run (k : Nat) (x0 : Int) (x1 : (List DWrite)) : c_impl_TxnSteps (k + 1) (x0, x1) = impl_TxnSteps k x0 x1 := by kernel_rfl
noncomputable def spec_MakeNum_l1 (k : Nat) (self : (Int × (Unit × (Int × Dl01Cur))) → Option Int) (d : (Int × (Unit × (Int × Dl01Cur)))) : Option Int :=
  (bif (decide (d.2.2.1 < d.1)) then (c_spec_l01Byte k d.2.2.2).bind fun v0 =>
  self (d.1, (), (wrapK .i64 (d.2.2.1 + (1 : Int))), v0.2) else (c_spec_l01Byte k d.2.2.2).bind fun v1 =>
  (c_spec_l01Byte k v1.2).bind fun v2 =>
  some (wrapK .i64 ((wrapK .i64 (v1.1 * (256 : Int))) + v2.1)))
noncomputable def spec_MakeNum_l2 (k : Nat) (a0 : Int) (self : Dl01Cur → Option Int) (d : Dl01Cur) : Option Int :=
  (bif (decide (d.2.2 < (d.1.length : Int))) then (bif (decide (d.2.2 < (4000 : Int))) then (if 0 ≤ d.2.2 then (d.1[d.2.2.toNat]?).bind fun v0 =>
  self (d.1, (intBits .and .i64 (wrapK .i64 ((wrapK .i64 ((wrapK .i64 (d.2.1 * (73 : Int))) + (wrapK .i64 v0))) + (7 : Int))) (1073741823 : Int)), (wrapK .i64 (d.2.2 + (1 : Int)))) else none) else iter k (spec_MakeNum_l1 k) (a0, (), (0 : Int), (d.1, (0 : Int), d.2.1))) else iter k (spec_MakeNum_l1 k) (a0, (), (0 : Int), (d.1, (0 : Int), d.2.1)))
noncomputable def spec_MakeNum (k : Nat) (x0 : (List Int)) (x1 : Int) : Option Int :=
  iter k (spec_MakeNum_l2 k x1) (x0, (wrapK .i64 ((1263 : Int) + (x0.length : Int))), (0 : Int))
set_option maxHeartbeats 0 in
theorem spec_MakeNum_run (k : Nat) (x0 : (List Int)) (x1 : Int) : c_spec_MakeNum (k + 1) (x0, x1) = spec_MakeNum k x0 x1 := by kernel_rfl
noncomputable def impl_copyDisk (k : Nat) (x0 : DDisk) : Option DDisk :=
  (c_slices_Clone_string_string k x0.1).bind fun y1 =>
  (c_slices_Clone_impl_Write_impl_Write k x0.2).bind fun y2 =>
  some (y1, y2)
set_option maxHeartbeats 0 in
theorem impl_copyDisk_run (k : Nat) (x0 : DDisk) : c_impl_copyDisk (k + 1) (x0) = impl_copyDisk k x0 := by kernel_rfl
noncomputable def impl_IsDisk_l1 (k : Nat) (self : (Unit × ((List DWrite) × (Int × (Int × DDisk)))) → Option Bool) (d : (Unit × ((List DWrite) × (Int × (Int × DDisk))))) : Option Bool :=
  (bif (decide (d.2.2.2.1 < d.2.2.1)) then (if 0 ≤ d.2.2.2.1 then (d.2.1[d.2.2.2.1.toNat]?).bind fun v0 =>
  (bif (decide (v0.1 < (0 : Int))) then some false else (bif (decide ((d.2.2.2.2.1.length : Int) ≤ v0.1)) then some false else (bif ((v0.2.size : Int) != (32 : Int)) then some false else self ((), d.2.1, d.2.2.1, (wrapK .i64 (d.2.2.2.1 + (1 : Int))), d.2.2.2.2)))) else none) else some true)
noncomputable def impl_IsDisk_l2 (k : Nat) (self : (Unit × ((List ByteArray) × (Int × (Int × DDisk)))) → Option Bool) (d : (Unit × ((List ByteArray) × (Int × (Int × DDisk))))) : Option Bool :=
  (bif (decide (d.2.2.2.1 < d.2.2.1)) then (if 0 ≤ d.2.2.2.1 then (d.2.1[d.2.2.2.1.toNat]?).bind fun v0 =>
  (bif ((v0.size : Int) != (32 : Int)) then some false else self ((), d.2.1, d.2.2.1, (wrapK .i64 (d.2.2.2.1 + (1 : Int))), d.2.2.2.2)) else none) else iter k (impl_IsDisk_l1 k) ((), d.2.2.2.2.2, (d.2.2.2.2.2.length : Int), (0 : Int), d.2.2.2.2))
noncomputable def impl_IsDisk (k : Nat) (x0 : DDisk) : Option Bool :=
  (bif (decide ((400 : Int) < (x0.1.length : Int))) then some false else (bif (decide ((400 : Int) < (x0.2.length : Int))) then some false else iter k (impl_IsDisk_l2 k) ((), x0.1, (x0.1.length : Int), (0 : Int), x0)))
set_option maxHeartbeats 0 in
theorem impl_IsDisk_run (k : Nat) (x0 : DDisk) : c_impl_IsDisk (k + 1) (x0) = impl_IsDisk k x0 := by kernel_rfl
noncomputable def impl_CrashDisk_l1 (k : Nat) (self : (Unit × (Unit × (Unit × (Int × (Int × (DDisk × (DDisk × ((List Bool) × DDisk)))))))) → Option DDisk) (d : (Unit × (Unit × (Unit × (Int × (Int × (DDisk × (DDisk × ((List Bool) × DDisk))))))))) : Option DDisk :=
  (bif (decide (d.2.2.2.2.1 < d.2.2.2.1)) then (if 0 ≤ d.2.2.2.2.1 then (if d.2.2.2.2.1 < (d.2.2.2.2.2.1.2.length : Int) then (d.2.2.2.2.2.1.2[d.2.2.2.2.1.toNat]?).bind fun v0 =>
  (bif (decide (d.2.2.2.2.1 < (d.2.2.2.2.2.2.2.1.length : Int))) then (if 0 ≤ d.2.2.2.2.1 then (d.2.2.2.2.2.2.2.1[d.2.2.2.2.1.toNat]?).bind fun v1 =>
  (bif v1 then (if 0 ≤ v0.1 then (if v0.1 < (d.2.2.2.2.2.1.1.length : Int) then (d.2.2.2.2.2.1.1[v0.1.toNat]?).bind fun v2 =>
  self ((), (), (), d.2.2.2.1, (wrapK .i64 (d.2.2.2.2.1 + (1 : Int))), ((d.2.2.2.2.2.1.1.set v0.1.toNat v0.2), d.2.2.2.2.2.1.2), d.2.2.2.2.2.2.1, d.2.2.2.2.2.2.2.1, d.2.2.2.2.2.2.2.2) else none) else none) else self ((), (), (), d.2.2.2.1, (wrapK .i64 (d.2.2.2.2.1 + (1 : Int))), d.2.2.2.2.2.1, d.2.2.2.2.2.2.1, d.2.2.2.2.2.2.2.1, d.2.2.2.2.2.2.2.2)) else none) else self ((), (), (), d.2.2.2.1, (wrapK .i64 (d.2.2.2.2.1 + (1 : Int))), d.2.2.2.2.2.1, d.2.2.2.2.2.2.1, d.2.2.2.2.2.2.2.1, d.2.2.2.2.2.2.2.2)) else none) else none) else some (d.2.2.2.2.2.1.1, ([] : List DWrite)))
noncomputable def impl_CrashDisk (k : Nat) (x0 : DDisk) (x1 : (List Bool)) : Option DDisk :=
  (c_impl_copyDisk k x0).bind fun y1 =>
  (c_impl_IsDisk k x0).bind fun y2 =>
  (bif y2 then iter k (impl_CrashDisk_l1 k) ((), (), (), (y1.2.length : Int), (0 : Int), y1, (([] : List ByteArray), ([] : List DWrite)), x1, x0) else some y1)
set_option maxHeartbeats 0 in
theorem impl_CrashDisk_run (k : Nat) (x0 : DDisk) (x1 : (List Bool)) : c_impl_CrashDisk (k + 1) (x0, x1) = impl_CrashDisk k x0 x1 := by kernel_rfl
noncomputable def impl_all (k : Nat) (x0 : Int) : Option Bool :=
  some true
set_option maxHeartbeats 0 in
theorem impl_all_run (k : Nat) (x0 : Int) : c_impl_all (k + 1) (x0) = impl_all k x0 := by kernel_rfl
noncomputable def impl_Disk_write (k : Nat) (x0 : DDisk) (x1 : Int) (x2 : ByteArray) : Option (Bool × DDisk) :=
  (bif (decide (x1 < (0 : Int))) then some (false, x0) else (bif (decide ((x0.1.length : Int) ≤ x1)) then some (false, x0) else (bif ((x2.size : Int) != (32 : Int)) then some (false, x0) else (bif (decide ((400 : Int) ≤ (x0.2.length : Int))) then some (false, x0) else (if (x0.2.length + ([(x1, x2)] : List DWrite).length) * 24 ≤ capBytes then some (true, (x0.1, (x0.2 ++ ([(x1, x2)] : List DWrite)))) else none)))))
set_option maxHeartbeats 0 in
theorem impl_Disk_write_run (k : Nat) (x0 : DDisk) (x1 : Int) (x2 : ByteArray) : c_impl_Disk_write (k + 1) (x0, x1, x2) = impl_Disk_write k x0 x1 x2 := by kernel_rfl
noncomputable def impl_RunSteps_l1 (k : Nat) (a0 : (Unit × (Unit × ((List DStep) × (Int × (Int × (DDisk × DDisk)))))) → Option DDisk) (a1 : (Unit × (Unit × ((List DStep) × (Int × (Int × (DDisk × DDisk))))))) (self : (Unit × (Unit × (Unit × (Int × (Int × (DStep × (DDisk × DDisk))))))) → Option DDisk) (d : (Unit × (Unit × (Unit × (Int × (Int × (DStep × (DDisk × DDisk)))))))) : Option DDisk :=
  (bif (decide (d.2.2.2.2.1 < d.2.2.2.1)) then (if 0 ≤ d.2.2.2.2.1 then (if d.2.2.2.2.1 < (d.2.2.2.2.2.2.1.2.length : Int) then (d.2.2.2.2.2.2.1.2[d.2.2.2.2.1.toNat]?).bind fun v0 =>
  (c_impl_all k d.2.2.2.2.1).bind fun v1 =>
  (bif v1 then (if 0 ≤ v0.1 then (if v0.1 < (d.2.2.2.2.2.2.1.1.length : Int) then (d.2.2.2.2.2.2.1.1[v0.1.toNat]?).bind fun v2 =>
  self ((), (), (), d.2.2.2.1, (wrapK .i64 (d.2.2.2.2.1 + (1 : Int))), d.2.2.2.2.2.1, ((d.2.2.2.2.2.2.1.1.set v0.1.toNat v0.2), d.2.2.2.2.2.2.1.2), d.2.2.2.2.2.2.2) else none) else none) else self ((), (), (), d.2.2.2.1, (wrapK .i64 (d.2.2.2.2.1 + (1 : Int))), d.2.2.2.2.2.1, d.2.2.2.2.2.2.1, d.2.2.2.2.2.2.2)) else none) else none) else a0 ((), (), a1.2.2.1, a1.2.2.2.1, (wrapK .i64 (a1.2.2.2.2.1 + (1 : Int))), (d.2.2.2.2.2.2.1.1, ([] : List DWrite)), d.2.2.2.2.2.2.2))
noncomputable def impl_RunSteps_l2 (k : Nat) (self : (Unit × (Unit × ((List DStep) × (Int × (Int × (DDisk × DDisk)))))) → Option DDisk) (d : (Unit × (Unit × ((List DStep) × (Int × (Int × (DDisk × DDisk))))))) : Option DDisk :=
  (bif (decide (d.2.2.2.2.1 < d.2.2.2.1)) then (if 0 ≤ d.2.2.2.2.1 then (d.2.2.1[d.2.2.2.2.1.toNat]?).bind fun v0 =>
  (bif v0.1 then iter k (impl_RunSteps_l1 k self d) ((), (), (), (d.2.2.2.2.2.1.2.length : Int), (0 : Int), v0, d.2.2.2.2.2.1, d.2.2.2.2.2.2) else (c_impl_Disk_write k (d.2.2.2.2.2.1, v0.2.1, v0.2.2)).bind fun v1 =>
  self ((), (), d.2.2.1, d.2.2.2.1, (wrapK .i64 (d.2.2.2.2.1 + (1 : Int))), v1.2, d.2.2.2.2.2.2)) else none) else some d.2.2.2.2.2.1)
noncomputable def impl_RunSteps (k : Nat) (x0 : DDisk) (x1 : (List DStep)) (x2 : Int) : Option DDisk :=
  (c_impl_copyDisk k x0).bind fun y1 =>
  (c_impl_IsDisk k x0).bind fun y2 =>
  (bif (!y2) then some y1 else (if 0 ≤ (max (0 : Int) (min x2 (x1.length : Int))) then (if (max (0 : Int) (min x2 (x1.length : Int))) ≤ (x1.length : Int) then iter k (impl_RunSteps_l2 k) ((), (), ((x1.take ((max (0 : Int) (min x2 (x1.length : Int))).toNat)).drop 0), ((((x1.take ((max (0 : Int) (min x2 (x1.length : Int))).toNat)).drop 0).length : Nat) : Int), (0 : Int), y1, (([] : List ByteArray), ([] : List DWrite))) else none) else none))
set_option maxHeartbeats 0 in
theorem impl_RunSteps_run (k : Nat) (x0 : DDisk) (x1 : (List DStep)) (x2 : Int) : c_impl_RunSteps (k + 1) (x0, x1, x2) = impl_RunSteps k x0 x1 x2 := by kernel_rfl
noncomputable def spec_l03Keep_l1 (k : Nat) (self : (Unit × ((List Bool) × (Int × Dl01Cur))) → Option ((List Bool) × Dl01Cur)) (d : (Unit × ((List Bool) × (Int × Dl01Cur)))) : Option ((List Bool) × Dl01Cur) :=
  (bif (decide ((0 : Int) < d.2.2.1)) then (c_spec_l01Once k (d.2.2.2, (2 : Int))).bind fun v0 =>
  (if (d.2.1.length + ([v0.1] : List Bool).length) * 1 ≤ capBytes then self ((), (d.2.1 ++ ([v0.1] : List Bool)), (wrapK .i64 (d.2.2.1 - (1 : Int))), v0.2) else none) else some (d.2.1, d.2.2.2))
noncomputable def spec_l03Keep (k : Nat) (x0 : Dl01Cur) : Option ((List Bool) × Dl01Cur) :=
  (c_spec_l01Below k (x0, (5 : Int))).bind fun y1 =>
  iter k (spec_l03Keep_l1 k) ((), ([] : List Bool), y1.1, y1.2)
set_option maxHeartbeats 0 in
theorem spec_l03Keep_run (k : Nat) (x0 : Dl01Cur) : c_spec_l03Keep (k + 1) (x0) = spec_l03Keep k x0 := by kernel_rfl
noncomputable def spec_MakeKeep_l1 (k : Nat) (self : (Int × (Unit × (Int × Dl01Cur))) → Option (List Bool)) (d : (Int × (Unit × (Int × Dl01Cur)))) : Option (List Bool) :=
  (bif (decide (d.2.2.1 < d.1)) then (c_spec_l01Byte k d.2.2.2).bind fun v0 =>
  self (d.1, (), (wrapK .i64 (d.2.2.1 + (1 : Int))), v0.2) else (c_spec_l03Keep k d.2.2.2).bind fun v1 =>
  some v1.1)
noncomputable def spec_MakeKeep_l2 (k : Nat) (a0 : Int) (self : Dl01Cur → Option (List Bool)) (d : Dl01Cur) : Option (List Bool) :=
  (bif (decide (d.2.2 < (d.1.length : Int))) then (bif (decide (d.2.2 < (4000 : Int))) then (if 0 ≤ d.2.2 then (d.1[d.2.2.toNat]?).bind fun v0 =>
  self (d.1, (intBits .and .i64 (wrapK .i64 ((wrapK .i64 ((wrapK .i64 (d.2.1 * (73 : Int))) + (wrapK .i64 v0))) + (7 : Int))) (1073741823 : Int)), (wrapK .i64 (d.2.2 + (1 : Int)))) else none) else iter k (spec_MakeKeep_l1 k) (a0, (), (0 : Int), (d.1, (0 : Int), d.2.1))) else iter k (spec_MakeKeep_l1 k) (a0, (), (0 : Int), (d.1, (0 : Int), d.2.1)))
noncomputable def spec_MakeKeep (k : Nat) (x0 : (List Int)) (x1 : Int) : Option (List Bool) :=
  iter k (spec_MakeKeep_l2 k x1) (x0, (wrapK .i64 ((1263 : Int) + (x0.length : Int))), (0 : Int))
set_option maxHeartbeats 0 in
theorem spec_MakeKeep_run (k : Nat) (x0 : (List Int)) (x1 : Int) : c_spec_MakeKeep (k + 1) (x0, x1) = spec_MakeKeep k x0 x1 := by kernel_rfl
noncomputable def impl_Disk_read_l1 (k : Nat) (self : ((Option DDisk) × DQuota) → Option ByteArray) (d : ((Option DDisk) × DQuota)) : Option ByteArray :=
  (bif (decide ((0 : Int) ≤ d.2.2)) then (d.1).bind fun v0 =>
  (if 0 ≤ d.2.2 then (v0.2[d.2.2.toNat]?).bind fun v1 =>
  (bif (v1.1 == d.2.1) then (d.1).bind fun v2 =>
  (if 0 ≤ d.2.2 then (v2.2[d.2.2.toNat]?).bind fun v3 =>
  some v3.2 else none) else self (d.1, d.2.1, (wrapK .i64 (d.2.2 - (1 : Int))))) else none) else (d.1).bind fun v4 =>
  (if 0 ≤ d.2.1 then (v4.1[d.2.1.toNat]?).bind fun v5 =>
  some v5 else none))
noncomputable def impl_Disk_read (k : Nat) (x0 : (Option DDisk)) (x1 : Int) : Option ByteArray :=
  (x0).bind fun y1 =>
  iter k (impl_Disk_read_l1 k) (x0, x1, (wrapK .i64 ((y1.2.length : Int) - (1 : Int))))
set_option maxHeartbeats 0 in
theorem impl_Disk_read_run (k : Nat) (x0 : (Option DDisk)) (x1 : Int) : c_impl_Disk_read (k + 1) (x0, x1) = impl_Disk_read k x0 x1 := by kernel_rfl
noncomputable def impl_GetNumber_l1 (k : Nat) (self : (ByteArray × (Int × DAclEntry)) → Option (Int × Bool)) (d : (ByteArray × (Int × DAclEntry))) : Option (Int × Bool) :=
  (bif (decide (d.2.2.2.2 < d.2.2.2.1)) then (if 0 ≤ (8 : Int) then (if 0 ≤ (wrapK .i64 (d.2.1 + d.2.2.2.2)) then ((d.1[(wrapK .i64 (d.2.1 + d.2.2.2.2)).toNat]?.map fun v0 => (v0.toNat : Int))).bind fun v1 =>
  self (d.1, d.2.1, (intBits .or .i64 (wrapK .i64 (d.2.2.1 * 2 ^ (min (8 : Int).toNat (IntKind.bits .i64)))) (wrapK .i64 v1)), d.2.2.2.1, (wrapK .i64 (d.2.2.2.2 + (1 : Int)))) else none) else none) else some (d.2.2.1, true))
noncomputable def impl_GetNumber (k : Nat) (x0 : ByteArray) (x1 : Int) (x2 : Int) : Option (Int × Bool) :=
  (bif (decide (x2 < (1 : Int))) then some ((0 : Int), false) else (bif (decide ((6 : Int) < x2)) then some ((0 : Int), false) else (bif (decide (x1 < (0 : Int))) then some ((0 : Int), false) else (bif (decide ((wrapK .i64 ((x0.size : Int) - x2)) < x1)) then some ((0 : Int), false) else iter k (impl_GetNumber_l1 k) (x0, x1, (0 : Int), x2, (0 : Int))))))
set_option maxHeartbeats 0 in
theorem impl_GetNumber_run (k : Nat) (x0 : ByteArray) (x1 : Int) (x2 : Int) : c_impl_GetNumber (k + 1) (x0, x1, x2) = impl_GetNumber k x0 x1 x2 := by kernel_rfl
noncomputable def impl_IsTxn_l1 (k : Nat) (self : ((List DWrite) × (Unit × ((List DWrite) × (Int × (Int × DDisk))))) → Option Bool) (d : ((List DWrite) × (Unit × ((List DWrite) × (Int × (Int × DDisk)))))) : Option Bool :=
  (bif (decide (d.2.2.2.2.1 < d.2.2.2.1)) then (if 0 ≤ d.2.2.2.2.1 then (d.2.2.1[d.2.2.2.2.1.toNat]?).bind fun v0 =>
  (bif (decide (v0.1 < (0 : Int))) then some false else (bif (decide ((d.2.2.2.2.2.1.length : Int) ≤ v0.1)) then some false else (bif (decide ((1 : Int) ≤ v0.1)) then (bif (decide (v0.1 < (70 : Int))) then some false else (bif ((v0.2.size : Int) != (32 : Int)) then some false else (bif (decide ((0 : Int) < d.2.2.2.2.1)) then (if 0 ≤ (wrapK .i64 (d.2.2.2.2.1 - (1 : Int))) then (d.1[(wrapK .i64 (d.2.2.2.2.1 - (1 : Int))).toNat]?).bind fun v1 =>
  (bif (decide (v0.1 ≤ v1.1)) then some false else self (d.1, (), d.2.2.1, d.2.2.2.1, (wrapK .i64 (d.2.2.2.2.1 + (1 : Int))), d.2.2.2.2.2)) else none) else self (d.1, (), d.2.2.1, d.2.2.2.1, (wrapK .i64 (d.2.2.2.2.1 + (1 : Int))), d.2.2.2.2.2)))) else (bif ((v0.2.size : Int) != (32 : Int)) then some false else (bif (decide ((0 : Int) < d.2.2.2.2.1)) then (if 0 ≤ (wrapK .i64 (d.2.2.2.2.1 - (1 : Int))) then (d.1[(wrapK .i64 (d.2.2.2.2.1 - (1 : Int))).toNat]?).bind fun v2 =>
  (bif (decide (v0.1 ≤ v2.1)) then some false else self (d.1, (), d.2.2.1, d.2.2.2.1, (wrapK .i64 (d.2.2.2.2.1 + (1 : Int))), d.2.2.2.2.2)) else none) else self (d.1, (), d.2.2.1, d.2.2.2.1, (wrapK .i64 (d.2.2.2.2.1 + (1 : Int))), d.2.2.2.2.2)))))) else none) else some true)
noncomputable def impl_IsTxn (k : Nat) (x0 : DDisk) (x1 : (List DWrite)) : Option Bool :=
  (c_impl_IsDisk k x0).bind fun y1 =>
  (bif (!y1) then some false else (bif (decide ((x0.1.length : Int) < (70 : Int))) then some false else (bif (decide ((x1.length : Int) < (1 : Int))) then some false else (bif (decide ((64 : Int) < (x1.length : Int))) then some false else iter k (impl_IsTxn_l1 k) (x1, (), x1, (x1.length : Int), (0 : Int), x0)))))
set_option maxHeartbeats 0 in
theorem impl_IsTxn_run (k : Nat) (x0 : DDisk) (x1 : (List DWrite)) : c_impl_IsTxn (k + 1) (x0, x1) = impl_IsTxn k x0 x1 := by kernel_rfl
noncomputable def impl_ReadJournal_l1 (k : Nat) (self : (Unit × (ByteArray × (Int × ((List DWrite) × (Int × (Int × DDisk)))))) → Option (Int × ((List DWrite) × Bool))) (d : (Unit × (ByteArray × (Int × ((List DWrite) × (Int × (Int × DDisk))))))) : Option (Int × ((List DWrite) × Bool)) :=
  (bif (decide (d.2.2.2.2.2.1 < d.2.2.2.2.1)) then (if ((16 : Int) : Int) ≠ 0 then (c_impl_Disk_read k ((some d.2.2.2.2.2.2), (wrapK .i64 ((2 : Int) + (wrapK .i64 (d.2.2.2.2.2.1.tdiv (16 : Int))))))).bind fun v0 =>
  (if ((16 : Int) : Int) ≠ 0 then (c_impl_GetNumber k (v0, (wrapK .i64 ((2 : Int) * (d.2.2.2.2.2.1.tmod (16 : Int)))), (2 : Int))).bind fun v1 =>
  (c_impl_Disk_read k ((some d.2.2.2.2.2.2), (wrapK .i64 ((6 : Int) + d.2.2.2.2.2.1)))).bind fun v2 =>
  (if (d.2.2.2.1.length + ([(v1.1, v2)] : List DWrite).length) * 24 ≤ capBytes then self ((), d.2.1, d.2.2.1, (d.2.2.2.1 ++ ([(v1.1, v2)] : List DWrite)), d.2.2.2.2.1, (wrapK .i64 (d.2.2.2.2.2.1 + (1 : Int))), d.2.2.2.2.2.2) else none) else none) else none) else (c_impl_CommitSector k (d.2.2.1, d.2.2.2.1)).bind fun v3 =>
  (bif (!(eqS v3 d.2.1)) then some ((0 : Int), ([] : List DWrite), false) else (c_impl_IsTxn k (d.2.2.2.2.2.2, d.2.2.2.1)).bind fun v4 =>
  (bif (!v4) then some ((0 : Int), ([] : List DWrite), false) else some (d.2.2.1, d.2.2.2.1, true))))
noncomputable def impl_ReadJournal (k : Nat) (x0 : DDisk) : Option (Int × ((List DWrite) × Bool)) :=
  (c_impl_IsDisk k x0).bind fun y1 =>
  (bif (!y1) then some ((0 : Int), ([] : List DWrite), false) else (bif (decide ((x0.1.length : Int) < (70 : Int))) then some ((0 : Int), ([] : List DWrite), false) else (c_impl_Disk_read k ((some x0), (1 : Int))).bind fun y2 =>
  (c_impl_GetNumber k (y2, (4 : Int), (4 : Int))).bind fun y3 =>
  (c_impl_GetNumber k (y2, (8 : Int), (2 : Int))).bind fun y4 =>
  (bif (decide ((64 : Int) < y4.1)) then some ((0 : Int), ([] : List DWrite), false) else iter k (impl_ReadJournal_l1 k) ((), y2, y3.1, ([] : List DWrite), y4.1, (0 : Int), x0))))
set_option maxHeartbeats 0 in
theorem impl_ReadJournal_run (k : Nat) (x0 : DDisk) : c_impl_ReadJournal (k + 1) (x0) = impl_ReadJournal k x0 := by kernel_rfl
noncomputable def impl_RecoverySteps (k : Nat) (x0 : DDisk) : Option (List DStep) :=
  (c_impl_ReadJournal k x0).bind fun y1 =>
  (bif (!y1.2.2) then some ([] : List DStep) else (c_impl_installSteps k y1.2.1).bind fun y2 =>
  some y2)
set_option maxHeartbeats 0 in
theorem impl_RecoverySteps_run (k : Nat) (x0 : DDisk) : c_impl_RecoverySteps (k + 1) (x0) = impl_RecoverySteps k x0 := by kernel_rfl
noncomputable def impl_CrashMount (k : Nat) (x0 : DDisk) (x1 : Int) (x2 : (List Bool)) : Option DDisk :=
  (c_impl_RecoverySteps k x0).bind fun y1 =>
  (c_impl_RunSteps k (x0, y1, x1)).bind fun y2 =>
  (c_impl_CrashDisk k (y2, x2)).bind fun y3 =>
  some y3
set_option maxHeartbeats 0 in
theorem impl_CrashMount_run (k : Nat) (x0 : DDisk) (x1 : Int) (x2 : (List Bool)) : c_impl_CrashMount (k + 1) (x0, x1, x2) = impl_CrashMount k x0 x1 x2 := by kernel_rfl
noncomputable def impl_RecoverDisk (k : Nat) (x0 : DDisk) : Option DDisk :=
  (c_impl_RecoverySteps k x0).bind fun y1 =>
  (c_impl_RunSteps k (x0, y1, (y1.length : Int))).bind fun y2 =>
  some y2
set_option maxHeartbeats 0 in
theorem impl_RecoverDisk_run (k : Nat) (x0 : DDisk) : c_impl_RecoverDisk (k + 1) (x0) = impl_RecoverDisk k x0 := by kernel_rfl
noncomputable def impl_ReadSector (k : Nat) (x0 : DDisk) (x1 : Int) : Option ByteArray :=
  (c_impl_IsDisk k x0).bind fun y1 =>
  (bif (!y1) then some (⟨#[]⟩ : ByteArray) else (bif (decide (x1 < (0 : Int))) then some (⟨#[]⟩ : ByteArray) else (bif (decide ((x0.1.length : Int) ≤ x1)) then some (⟨#[]⟩ : ByteArray) else (c_impl_Disk_read k ((some x0), x1)).bind fun y2 =>
  some y2)))
set_option maxHeartbeats 0 in
theorem impl_ReadSector_run (k : Nat) (x0 : DDisk) (x1 : Int) : c_impl_ReadSector (k + 1) (x0, x1) = impl_ReadSector k x0 x1 := by kernel_rfl
noncomputable def slices_Equal_string_string_l1 (k : Nat) (self : ((List ByteArray) × ((List ByteArray) × DQuota)) → Option Bool) (d : ((List ByteArray) × ((List ByteArray) × DQuota))) : Option Bool :=
  (bif (decide (d.2.2.2 < d.2.2.1)) then (if 0 ≤ d.2.2.2 then (d.1[d.2.2.2.toNat]?).bind fun v0 =>
  (if 0 ≤ d.2.2.2 then (d.2.1[d.2.2.2.toNat]?).bind fun v1 =>
  (bif (!(eqS v0 v1)) then some false else self (d.1, d.2.1, d.2.2.1, (wrapK .i64 (d.2.2.2 + (1 : Int))))) else none) else none) else some true)
noncomputable def slices_Equal_string_string (k : Nat) (x0 : (List ByteArray)) (x1 : (List ByteArray)) : Option Bool :=
  (bif ((x0.length : Int) != (x1.length : Int)) then some false else iter k (slices_Equal_string_string_l1 k) (x0, x1, (x0.length : Int), (0 : Int)))
set_option maxHeartbeats 0 in
theorem slices_Equal_string_string_run (k : Nat) (x0 : (List ByteArray)) (x1 : (List ByteArray)) : c_slices_Equal_string_string (k + 1) (x0, x1) = slices_Equal_string_string k x0 x1 := by kernel_rfl
noncomputable def slices_Equal_impl_Write_impl_Write_l1 (k : Nat) (self : ((List DWrite) × ((List DWrite) × DQuota)) → Option Bool) (d : ((List DWrite) × ((List DWrite) × DQuota))) : Option Bool :=
  (bif (decide (d.2.2.2 < d.2.2.1)) then (if 0 ≤ d.2.2.2 then (d.1[d.2.2.2.toNat]?).bind fun v0 =>
  (if 0 ≤ d.2.2.2 then (d.2.1[d.2.2.2.toNat]?).bind fun v1 =>
  (bif (!((v0.1 == v1.1) && (eqS v0.2 v1.2))) then some false else self (d.1, d.2.1, d.2.2.1, (wrapK .i64 (d.2.2.2 + (1 : Int))))) else none) else none) else some true)
noncomputable def slices_Equal_impl_Write_impl_Write (k : Nat) (x0 : (List DWrite)) (x1 : (List DWrite)) : Option Bool :=
  (bif ((x0.length : Int) != (x1.length : Int)) then some false else iter k (slices_Equal_impl_Write_impl_Write_l1 k) (x0, x1, (x0.length : Int), (0 : Int)))
set_option maxHeartbeats 0 in
theorem slices_Equal_impl_Write_impl_Write_run (k : Nat) (x0 : (List DWrite)) (x1 : (List DWrite)) : c_slices_Equal_impl_Write_impl_Write (k + 1) (x0, x1) = slices_Equal_impl_Write_impl_Write k x0 x1 := by kernel_rfl
noncomputable def impl_SameDisk (k : Nat) (x0 : DDisk) (x1 : DDisk) : Option Bool :=
  (c_slices_Equal_string_string k (x0.1, x1.1)).bind fun y1 =>
  (bif y1 then (c_slices_Equal_impl_Write_impl_Write k (x0.2, x1.2)).bind fun y2 =>
  some y2 else some false)
set_option maxHeartbeats 0 in
theorem impl_SameDisk_run (k : Nat) (x0 : DDisk) (x1 : DDisk) : c_impl_SameDisk (k + 1) (x0, x1) = impl_SameDisk k x0 x1 := by kernel_rfl
noncomputable def laws_FnRecover_l1 (k : Nat) (self : (Unit × ((List DStep) × (Unit × (Unit × (Int × (Int × (DDisk × (DDisk × DDisk)))))))) → Option Bool) (d : (Unit × ((List DStep) × (Unit × (Unit × (Int × (Int × (DDisk × (DDisk × DDisk))))))))) : Option Bool :=
  (bif (decide (d.2.2.2.2.2.1 < d.2.2.2.2.1)) then (bif (decide (d.2.2.2.2.2.1 < (1 : Int))) then (c_impl_ReadSector k (d.2.2.2.2.2.2.2.1, d.2.2.2.2.2.1)).bind fun v0 =>
  (c_impl_ReadSector k (d.2.2.2.2.2.2.1, d.2.2.2.2.2.1)).bind fun v1 =>
  (bif (!(eqS v0 v1)) then some false else self ((), d.2.1, (), (), d.2.2.2.2.1, (wrapK .i64 (d.2.2.2.2.2.1 + (1 : Int))), d.2.2.2.2.2.2.1, d.2.2.2.2.2.2.2.1, d.2.2.2.2.2.2.2.2)) else (bif (decide ((70 : Int) ≤ d.2.2.2.2.2.1)) then (c_impl_ReadSector k (d.2.2.2.2.2.2.2.1, d.2.2.2.2.2.1)).bind fun v2 =>
  (c_impl_ReadSector k (d.2.2.2.2.2.2.1, d.2.2.2.2.2.1)).bind fun v3 =>
  (bif (!(eqS v2 v3)) then some false else self ((), d.2.1, (), (), d.2.2.2.2.1, (wrapK .i64 (d.2.2.2.2.2.1 + (1 : Int))), d.2.2.2.2.2.2.1, d.2.2.2.2.2.2.2.1, d.2.2.2.2.2.2.2.2)) else self ((), d.2.1, (), (), d.2.2.2.2.1, (wrapK .i64 (d.2.2.2.2.2.1 + (1 : Int))), d.2.2.2.2.2.2.1, d.2.2.2.2.2.2.2.1, d.2.2.2.2.2.2.2.2))) else (bif (decide ((0 : Int) < (d.2.1.length : Int))) then (c_impl_RecoverDisk k d.2.2.2.2.2.2.2.1).bind fun v4 =>
  (c_impl_SameDisk k (v4, d.2.2.2.2.2.2.2.1)).bind fun v5 =>
  (bif v5 then some ((d.2.2.2.2.2.2.2.1.1.length : Int) == (d.2.2.2.2.2.2.2.2.1.length : Int)) else some false) else some false))
noncomputable def laws_FnRecover (k : Nat) (x0 : (List Int)) : Option Bool :=
  (bif (decide ((1048576 : Int) < (x0.length : Int))) then some true else (c_spec_MakeJournalDisk k x0).bind fun y1 =>
  (c_spec_MakeTxn k x0).bind fun y2 =>
  (c_impl_TxnSteps k ((7 : Int), y2)).bind fun y3 =>
  (c_spec_MakeNum k (x0, (3 : Int))).bind fun y4 =>
  (if ((wrapK .i64 ((y3.length : Int) + (1 : Int))) : Int) ≠ 0 then (c_impl_RunSteps k (y1, y3, (y4.tmod (wrapK .i64 ((y3.length : Int) + (1 : Int)))))).bind fun y5 =>
  (c_spec_MakeKeep k (x0, (30 : Int))).bind fun y6 =>
  (c_impl_CrashDisk k (y5, y6)).bind fun y7 =>
  (c_spec_MakeNum k (x0, (5 : Int))).bind fun y8 =>
  (c_impl_RecoverySteps k y7).bind fun y9 =>
  (if ((wrapK .i64 ((y9.length : Int) + (1 : Int))) : Int) ≠ 0 then (c_spec_MakeKeep k (x0, (40 : Int))).bind fun y10 =>
  (c_impl_CrashMount k (y7, (y8.tmod (wrapK .i64 ((y9.length : Int) + (1 : Int)))), y10)).bind fun y11 =>
  (c_impl_RecoverDisk k y7).bind fun y12 =>
  (c_impl_RecoverDisk k y11).bind fun y13 =>
  iter k (laws_FnRecover_l1 k) ((), y3, (), (), (y1.1.length : Int), (0 : Int), y13, y12, y1) else none) else none))
set_option maxHeartbeats 0 in
theorem laws_FnRecover_run (k : Nat) (x0 : (List Int)) : c_laws_FnRecover (k + 1) (x0) = laws_FnRecover k x0 := by kernel_rfl
end Go.Proofs.Ytdbemlllcdpdbaa
