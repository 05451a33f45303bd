/- The tables, the residual functions and lemmas of this seat: parts of the proof of the law; conditions: those that each names. -/
import Derived.Test.YtjphpgnghdbpeaaTab
set_option maxRecDepth 100000
set_option linter.unusedVariables false
namespace Go.Proofs.Ytjphpgnghdbpeaa
open Go.Eng
noncomputable def laws_szQuotaS (k : Nat) (x0 : (List DQuota)) (x1 : Int) : Option Int :=
  (bif (decide ((wrapK .i64 (x1 - (x0.length : Int))) < (0 : Int))) then some (-1 : Int) else some (wrapK .i64 (x1 - (x0.length : Int))))
set_option maxHeartbeats 0 in
theorem laws_szQuotaS_run (k : Nat) (x0 : (List DQuota)) (x1 : Int) : c_laws_szQuotaS (k + 1) (x0, x1) = laws_szQuotaS k x0 x1 := by kernel_rfl
noncomputable def laws_szIntS (k : Nat) (x0 : (List Int)) (x1 : Int) : Option Int :=
  (bif (decide ((wrapK .i64 (x1 - (x0.length : Int))) < (0 : Int))) then some (-1 : Int) else some (wrapK .i64 (x1 - (x0.length : Int))))
set_option maxHeartbeats 0 in
theorem laws_szIntS_run (k : Nat) (x0 : (List Int)) (x1 : Int) : c_laws_szIntS (k + 1) (x0, x1) = laws_szIntS k x0 x1 := by kernel_rfl
noncomputable def laws_szAclEntryS (k : Nat) (x0 : (List DOpen)) (x1 : Int) : Option Int :=
  (bif (decide ((wrapK .i64 (x1 - (x0.length : Int))) < (0 : Int))) then some (-1 : Int) else some (wrapK .i64 (x1 - (x0.length : Int))))
set_option maxHeartbeats 0 in
theorem laws_szAclEntryS_run (k : Nat) (x0 : (List DOpen)) (x1 : Int) : c_laws_szAclEntryS (k + 1) (x0, x1) = laws_szAclEntryS k x0 x1 := by kernel_rfl
noncomputable def laws_szInode (k : Nat) (x0 : DInode) (x1 : Int) : Option Int :=
  (c_laws_szIntS k (x0.2.2.2.2.2.2.2.1, x1)).bind fun y1 =>
  (bif (decide (y1 < (0 : Int))) then some (-1 : Int) else (c_laws_szAclEntryS k (x0.2.2.2.2.2.2.2.2.1, y1)).bind fun y2 =>
  (bif (decide (y2 < (0 : Int))) then some (-1 : Int) else (c_laws_szAclEntryS k (x0.2.2.2.2.2.2.2.2.2, y2)).bind fun y3 =>
  (bif (decide (y3 < (0 : Int))) then some (-1 : Int) else some y3)))
set_option maxHeartbeats 0 in
theorem laws_szInode_run (k : Nat) (x0 : DInode) (x1 : Int) : c_laws_szInode (k + 1) (x0, x1) = laws_szInode k x0 x1 := by kernel_rfl
noncomputable def laws_szInodeS_l1 (k : Nat) (self : ((List DInode) × DQuota) → Option Int) (d : ((List DInode) × DQuota)) : Option Int :=
  (bif (decide (d.2.2 < (d.1.length : Int))) then (if 0 ≤ d.2.2 then (d.1[d.2.2.toNat]?).bind fun v0 =>
  (c_laws_szInode k (v0, d.2.1)).bind fun v1 =>
  (bif (decide (v1 < (0 : Int))) then some (-1 : Int) else self (d.1, v1, (wrapK .i64 (d.2.2 + (1 : Int))))) else none) else some d.2.1)
noncomputable def laws_szInodeS (k : Nat) (x0 : (List DInode)) (x1 : Int) : Option Int :=
  (bif (decide ((wrapK .i64 (x1 - (x0.length : Int))) < (0 : Int))) then some (-1 : Int) else iter k (laws_szInodeS_l1 k) (x0, (wrapK .i64 (x1 - (x0.length : Int))), (0 : Int)))
set_option maxHeartbeats 0 in
theorem laws_szInodeS_run (k : Nat) (x0 : (List DInode)) (x1 : Int) : c_laws_szInodeS (k + 1) (x0, x1) = laws_szInodeS k x0 x1 := by kernel_rfl
noncomputable def laws_szStringS_l1 (k : Nat) (self : ((List ByteArray) × DQuota) → Option Int) (d : ((List ByteArray) × DQuota)) : Option Int :=
  (bif (decide (d.2.2 < (d.1.length : Int))) then (if 0 ≤ d.2.2 then (d.1[d.2.2.toNat]?).bind fun v0 =>
  (bif (decide ((wrapK .i64 (d.2.1 - (v0.size : Int))) < (0 : Int))) then some (-1 : Int) else self (d.1, (wrapK .i64 (d.2.1 - (v0.size : Int))), (wrapK .i64 (d.2.2 + (1 : Int))))) else none) else some d.2.1)
noncomputable def laws_szStringS (k : Nat) (x0 : (List ByteArray)) (x1 : Int) : Option Int :=
  (bif (decide ((wrapK .i64 (x1 - (x0.length : Int))) < (0 : Int))) then some (-1 : Int) else iter k (laws_szStringS_l1 k) (x0, (wrapK .i64 (x1 - (x0.length : Int))), (0 : Int)))
set_option maxHeartbeats 0 in
theorem laws_szStringS_run (k : Nat) (x0 : (List ByteArray)) (x1 : Int) : c_laws_szStringS (k + 1) (x0, x1) = laws_szStringS k x0 x1 := by kernel_rfl
noncomputable def laws_szFS (k : Nat) (x0 : DFS) (x1 : Int) : Option Int :=
  (c_laws_szQuotaS k (x0.2.1, x1)).bind fun y1 =>
  (bif (decide (y1 < (0 : Int))) then some (-1 : Int) else (c_laws_szInodeS k (x0.2.2.1, y1)).bind fun y2 =>
  (bif (decide (y2 < (0 : Int))) then some (-1 : Int) else (c_laws_szStringS k (x0.2.2.2, y2)).bind fun y3 =>
  (bif (decide (y3 < (0 : Int))) then some (-1 : Int) else some y3)))
set_option maxHeartbeats 0 in
theorem laws_szFS_run (k : Nat) (x0 : DFS) (x1 : Int) : c_laws_szFS (k + 1) (x0, x1) = laws_szFS k x0 x1 := by kernel_rfl
noncomputable def laws_szCred (k : Nat) (x0 : DCred) (x1 : Int) : Option Int :=
  (c_laws_szIntS k (x0.2.2, x1)).bind fun y1 =>
  (bif (decide (y1 < (0 : Int))) then some (-1 : Int) else some y1)
set_option maxHeartbeats 0 in
theorem laws_szCred_run (k : Nat) (x0 : DCred) (x1 : Int) : c_laws_szCred (k + 1) (x0, x1) = laws_szCred k x0 x1 := by kernel_rfl
noncomputable def laws_szOpenS (k : Nat) (x0 : (List DOpen)) (x1 : Int) : Option Int :=
  (bif (decide ((wrapK .i64 (x1 - (x0.length : Int))) < (0 : Int))) then some (-1 : Int) else some (wrapK .i64 (x1 - (x0.length : Int))))
set_option maxHeartbeats 0 in
theorem laws_szOpenS_run (k : Nat) (x0 : (List DOpen)) (x1 : Int) : c_laws_szOpenS (k + 1) (x0, x1) = laws_szOpenS k x0 x1 := by kernel_rfl
noncomputable def laws_szProc (k : Nat) (x0 : DProc) (x1 : Int) : Option Int :=
  (c_laws_szCred k (x0.1, x1)).bind fun y1 =>
  (bif (decide (y1 < (0 : Int))) then some (-1 : Int) else (c_laws_szOpenS k (x0.2, y1)).bind fun y2 =>
  (bif (decide (y2 < (0 : Int))) then some (-1 : Int) else some y2))
set_option maxHeartbeats 0 in
theorem laws_szProc_run (k : Nat) (x0 : DProc) (x1 : Int) : c_laws_szProc (k + 1) (x0, x1) = laws_szProc k x0 x1 := by kernel_rfl
noncomputable def laws_szProcS_l1 (k : Nat) (self : ((List DProc) × DQuota) → Option Int) (d : ((List DProc) × DQuota)) : Option Int :=
  (bif (decide (d.2.2 < (d.1.length : Int))) then (if 0 ≤ d.2.2 then (d.1[d.2.2.toNat]?).bind fun v0 =>
  (c_laws_szProc k (v0, d.2.1)).bind fun v1 =>
  (bif (decide (v1 < (0 : Int))) then some (-1 : Int) else self (d.1, v1, (wrapK .i64 (d.2.2 + (1 : Int))))) else none) else some d.2.1)
noncomputable def laws_szProcS (k : Nat) (x0 : (List DProc)) (x1 : Int) : Option Int :=
  (bif (decide ((wrapK .i64 (x1 - (x0.length : Int))) < (0 : Int))) then some (-1 : Int) else iter k (laws_szProcS_l1 k) (x0, (wrapK .i64 (x1 - (x0.length : Int))), (0 : Int)))
set_option maxHeartbeats 0 in
theorem laws_szProcS_run (k : Nat) (x0 : (List DProc)) (x1 : Int) : c_laws_szProcS (k + 1) (x0, x1) = laws_szProcS k x0 x1 := by kernel_rfl
noncomputable def laws_szSystem (k : Nat) (x0 : DSystem) (x1 : Int) : Option Int :=
  (c_laws_szFS k (x0.1, x1)).bind fun y1 =>
  (bif (decide (y1 < (0 : Int))) then some (-1 : Int) else (c_laws_szProcS k (x0.2, y1)).bind fun y2 =>
  (bif (decide (y2 < (0 : Int))) then some (-1 : Int) else some y2))
set_option maxHeartbeats 0 in
theorem laws_szSystem_run (k : Nat) (x0 : DSystem) (x1 : Int) : c_laws_szSystem (k + 1) (x0, x1) = laws_szSystem k x0 x1 := by kernel_rfl
noncomputable def spec_l06Copy (k : Nat) (x0 : DCred) : Option DCred :=
  (if (([] : List Int).length + x0.2.2.length) * 8 ≤ capBytes then some (x0.1, x0.2.1, (([] : List Int) ++ x0.2.2)) else none)
set_option maxHeartbeats 0 in
theorem spec_l06Copy_run (k : Nat) (x0 : DCred) : c_spec_l06Copy (k + 1) (x0) = spec_l06Copy k x0 := by kernel_rfl
noncomputable def spec_CredsOf_l1 (k : Nat) (self : ((List DCred) × ((List DProc) × DQuota)) → Option (List DCred)) (d : ((List DCred) × ((List DProc) × DQuota))) : Option (List DCred) :=
  (bif (decide (d.2.2.2 < d.2.2.1)) then (if 0 ≤ d.2.2.2 then (d.2.1[d.2.2.2.toNat]?).bind fun v0 =>
  (c_spec_l06Copy k v0.1).bind fun v1 =>
  (if (d.1.length + ([v1] : List DCred).length) * 40 ≤ capBytes then self ((d.1 ++ ([v1] : List DCred)), d.2.1, d.2.2.1, (wrapK .i64 (d.2.2.2 + (1 : Int)))) else none) else none) else some d.1)
noncomputable def spec_CredsOf (k : Nat) (x0 : DSystem) : Option (List DCred) :=
  iter k (spec_CredsOf_l1 k) (([] : List DCred), x0.2, (x0.2.length : Int), (0 : Int))
set_option maxHeartbeats 0 in
theorem spec_CredsOf_run (k : Nat) (x0 : DSystem) : c_spec_CredsOf (k + 1) (x0) = spec_CredsOf k x0 := by kernel_rfl
noncomputable def laws_toQuota (k : Nat) (x0 : DQuota) : Option DQuota :=
  some (x0.1, x0.2)
set_option maxHeartbeats 0 in
theorem laws_toQuota_run (k : Nat) (x0 : DQuota) : c_laws_toQuota (k + 1) (x0) = laws_toQuota k x0 := by kernel_rfl
noncomputable def laws_toQuotaS_l1 (k : Nat) (self : ((List DQuota) × ((List DQuota) × Int)) → Option (List DQuota)) (d : ((List DQuota) × ((List DQuota) × Int))) : Option (List DQuota) :=
  (bif (decide (d.2.2 < (d.1.length : Int))) then (if 0 ≤ d.2.2 then (d.1[d.2.2.toNat]?).bind fun v0 =>
  (c_laws_toQuota k v0).bind fun v1 =>
  (if 0 ≤ d.2.2 then (if d.2.2 < (d.2.1.length : Int) then (d.2.1[d.2.2.toNat]?).bind fun v2 =>
  self (d.1, (d.2.1.set d.2.2.toNat v1), (wrapK .i64 (d.2.2 + (1 : Int)))) else none) else none) else none) else some d.2.1)
noncomputable def laws_toQuotaS (k : Nat) (x0 : (List DQuota)) : Option (List DQuota) :=
  (if 0 ≤ (x0.length : Int) then (if (x0.length : Int) ≤ (x0.length : Int) then (if (x0.length : Int) * 16 ≤ (capBytes : Int) then iter k (laws_toQuotaS_l1 k) (x0, (List.replicate (x0.length : Int).toNat ((0 : Int), (0 : Int))), (0 : Int)) else none) else none) else none)
set_option maxHeartbeats 0 in
theorem laws_toQuotaS_run (k : Nat) (x0 : (List DQuota)) : c_laws_toQuotaS (k + 1) (x0) = laws_toQuotaS k x0 := by kernel_rfl
noncomputable def laws_toIntS_l1 (k : Nat) (self : ((List Int) × ((List Int) × Int)) → Option (List Int)) (d : ((List Int) × ((List Int) × Int))) : Option (List Int) :=
  (bif (decide (d.2.2 < (d.1.length : Int))) then (if 0 ≤ d.2.2 then (d.1[d.2.2.toNat]?).bind fun v0 =>
  (if 0 ≤ d.2.2 then (if d.2.2 < (d.2.1.length : Int) then (d.2.1[d.2.2.toNat]?).bind fun v1 =>
  self (d.1, (d.2.1.set d.2.2.toNat v0), (wrapK .i64 (d.2.2 + (1 : Int)))) else none) else none) else none) else some d.2.1)
noncomputable def laws_toIntS (k : Nat) (x0 : (List Int)) : Option (List Int) :=
  (if 0 ≤ (x0.length : Int) then (if (x0.length : Int) ≤ (x0.length : Int) then (if (x0.length : Int) * 8 ≤ (capBytes : Int) then iter k (laws_toIntS_l1 k) (x0, (List.replicate (x0.length : Int).toNat (0 : Int)), (0 : Int)) else none) else none) else none)
set_option maxHeartbeats 0 in
theorem laws_toIntS_run (k : Nat) (x0 : (List Int)) : c_laws_toIntS (k + 1) (x0) = laws_toIntS k x0 := by kernel_rfl
noncomputable def laws_toAclEntry (k : Nat) (x0 : DOpen) : Option DOpen :=
  some (x0.1, x0.2.1, x0.2.2)
set_option maxHeartbeats 0 in
theorem laws_toAclEntry_run (k : Nat) (x0 : DOpen) : c_laws_toAclEntry (k + 1) (x0) = laws_toAclEntry k x0 := by kernel_rfl
noncomputable def laws_toAclEntryS_l1 (k : Nat) (self : ((List DOpen) × ((List DOpen) × Int)) → Option (List DOpen)) (d : ((List DOpen) × ((List DOpen) × Int))) : Option (List DOpen) :=
  (bif (decide (d.2.2 < (d.1.length : Int))) then (if 0 ≤ d.2.2 then (d.1[d.2.2.toNat]?).bind fun v0 =>
  (c_laws_toAclEntry k v0).bind fun v1 =>
  (if 0 ≤ d.2.2 then (if d.2.2 < (d.2.1.length : Int) then (d.2.1[d.2.2.toNat]?).bind fun v2 =>
  self (d.1, (d.2.1.set d.2.2.toNat v1), (wrapK .i64 (d.2.2 + (1 : Int)))) else none) else none) else none) else some d.2.1)
noncomputable def laws_toAclEntryS (k : Nat) (x0 : (List DOpen)) : Option (List DOpen) :=
  (if 0 ≤ (x0.length : Int) then (if (x0.length : Int) ≤ (x0.length : Int) then (if (x0.length : Int) * 24 ≤ (capBytes : Int) then iter k (laws_toAclEntryS_l1 k) (x0, (List.replicate (x0.length : Int).toNat ((0 : Int), (0 : Int), (0 : Int))), (0 : Int)) else none) else none) else none)
set_option maxHeartbeats 0 in
theorem laws_toAclEntryS_run (k : Nat) (x0 : (List DOpen)) : c_laws_toAclEntryS (k + 1) (x0) = laws_toAclEntryS k x0 := by kernel_rfl
noncomputable def laws_toInode (k : Nat) (x0 : DInode) : Option DInode :=
  (c_laws_toIntS k x0.2.2.2.2.2.2.2.1).bind fun y1 =>
  (c_laws_toAclEntryS k x0.2.2.2.2.2.2.2.2.1).bind fun y2 =>
  (c_laws_toAclEntryS k x0.2.2.2.2.2.2.2.2.2).bind fun y3 =>
  some (x0.1, x0.2.1, x0.2.2.1, x0.2.2.2.1, x0.2.2.2.2.1, x0.2.2.2.2.2.1, x0.2.2.2.2.2.2.1, y1, y2, y3)
set_option maxHeartbeats 0 in
theorem laws_toInode_run (k : Nat) (x0 : DInode) : c_laws_toInode (k + 1) (x0) = laws_toInode k x0 := by kernel_rfl
noncomputable def laws_toInodeS_l1 (k : Nat) (self : ((List DInode) × ((List DInode) × Int)) → Option (List DInode)) (d : ((List DInode) × ((List DInode) × Int))) : Option (List DInode) :=
  (bif (decide (d.2.2 < (d.1.length : Int))) then (if 0 ≤ d.2.2 then (d.1[d.2.2.toNat]?).bind fun v0 =>
  (c_laws_toInode k v0).bind fun v1 =>
  (if 0 ≤ d.2.2 then (if d.2.2 < (d.2.1.length : Int) then (d.2.1[d.2.2.toNat]?).bind fun v2 =>
  self (d.1, (d.2.1.set d.2.2.toNat v1), (wrapK .i64 (d.2.2 + (1 : Int)))) else none) else none) else none) else some d.2.1)
noncomputable def laws_toInodeS (k : Nat) (x0 : (List DInode)) : Option (List DInode) :=
  (if 0 ≤ (x0.length : Int) then (if (x0.length : Int) ≤ (x0.length : Int) then (if (x0.length : Int) * 128 ≤ (capBytes : Int) then iter k (laws_toInodeS_l1 k) (x0, (List.replicate (x0.length : Int).toNat ((0 : Int), (0 : Int), (0 : Int), (0 : Int), (0 : Int), (0 : Int), (0 : Int), ([] : List Int), ([] : List DOpen), ([] : List DOpen))), (0 : Int)) else none) else none) else none)
set_option maxHeartbeats 0 in
theorem laws_toInodeS_run (k : Nat) (x0 : (List DInode)) : c_laws_toInodeS (k + 1) (x0) = laws_toInodeS k x0 := by kernel_rfl
noncomputable def laws_toStringS_l1 (k : Nat) (self : ((List ByteArray) × ((List ByteArray) × Int)) → Option (List ByteArray)) (d : ((List ByteArray) × ((List ByteArray) × Int))) : Option (List ByteArray) :=
  (bif (decide (d.2.2 < (d.1.length : Int))) then (if 0 ≤ d.2.2 then (d.1[d.2.2.toNat]?).bind fun v0 =>
  (if 0 ≤ d.2.2 then (if d.2.2 < (d.2.1.length : Int) then (d.2.1[d.2.2.toNat]?).bind fun v1 =>
  self (d.1, (d.2.1.set d.2.2.toNat v0), (wrapK .i64 (d.2.2 + (1 : Int)))) else none) else none) else none) else some d.2.1)
noncomputable def laws_toStringS (k : Nat) (x0 : (List ByteArray)) : Option (List ByteArray) :=
  (if 0 ≤ (x0.length : Int) then (if (x0.length : Int) ≤ (x0.length : Int) then (if (x0.length : Int) * 16 ≤ (capBytes : Int) then iter k (laws_toStringS_l1 k) (x0, (List.replicate (x0.length : Int).toNat ByteArray.empty), (0 : Int)) else none) else none) else none)
set_option maxHeartbeats 0 in
theorem laws_toStringS_run (k : Nat) (x0 : (List ByteArray)) : c_laws_toStringS (k + 1) (x0) = laws_toStringS k x0 := by kernel_rfl
noncomputable def laws_toFS (k : Nat) (x0 : DFS) : Option DFS :=
  (c_laws_toQuotaS k x0.2.1).bind fun y1 =>
  (c_laws_toInodeS k x0.2.2.1).bind fun y2 =>
  (c_laws_toStringS k x0.2.2.2).bind fun y3 =>
  some (x0.1, y1, y2, y3)
set_option maxHeartbeats 0 in
theorem laws_toFS_run (k : Nat) (x0 : DFS) : c_laws_toFS (k + 1) (x0) = laws_toFS k x0 := by kernel_rfl
noncomputable def laws_toCred (k : Nat) (x0 : DCred) : Option DCred :=
  (c_laws_toIntS k x0.2.2).bind fun y1 =>
  some (x0.1, x0.2.1, y1)
set_option maxHeartbeats 0 in
theorem laws_toCred_run (k : Nat) (x0 : DCred) : c_laws_toCred (k + 1) (x0) = laws_toCred k x0 := by kernel_rfl
noncomputable def laws_toOpen (k : Nat) (x0 : DOpen) : Option DOpen :=
  some (x0.1, x0.2.1, x0.2.2)
set_option maxHeartbeats 0 in
theorem laws_toOpen_run (k : Nat) (x0 : DOpen) : c_laws_toOpen (k + 1) (x0) = laws_toOpen k x0 := by kernel_rfl
noncomputable def laws_toOpenS_l1 (k : Nat) (self : ((List DOpen) × ((List DOpen) × Int)) → Option (List DOpen)) (d : ((List DOpen) × ((List DOpen) × Int))) : Option (List DOpen) :=
  (bif (decide (d.2.2 < (d.1.length : Int))) then (if 0 ≤ d.2.2 then (d.1[d.2.2.toNat]?).bind fun v0 =>
  (c_laws_toOpen k v0).bind fun v1 =>
  (if 0 ≤ d.2.2 then (if d.2.2 < (d.2.1.length : Int) then (d.2.1[d.2.2.toNat]?).bind fun v2 =>
  self (d.1, (d.2.1.set d.2.2.toNat v1), (wrapK .i64 (d.2.2 + (1 : Int)))) else none) else none) else none) else some d.2.1)
noncomputable def laws_toOpenS (k : Nat) (x0 : (List DOpen)) : Option (List DOpen) :=
  (if 0 ≤ (x0.length : Int) then (if (x0.length : Int) ≤ (x0.length : Int) then (if (x0.length : Int) * 24 ≤ (capBytes : Int) then iter k (laws_toOpenS_l1 k) (x0, (List.replicate (x0.length : Int).toNat ((0 : Int), (0 : Int), (0 : Int))), (0 : Int)) else none) else none) else none)
set_option maxHeartbeats 0 in
theorem laws_toOpenS_run (k : Nat) (x0 : (List DOpen)) : c_laws_toOpenS (k + 1) (x0) = laws_toOpenS k x0 := by kernel_rfl
noncomputable def laws_toProc (k : Nat) (x0 : DProc) : Option DProc :=
  (c_laws_toCred k x0.1).bind fun y1 =>
  (c_laws_toOpenS k x0.2).bind fun y2 =>
  some (y1, y2)
set_option maxHeartbeats 0 in
theorem laws_toProc_run (k : Nat) (x0 : DProc) : c_laws_toProc (k + 1) (x0) = laws_toProc k x0 := by kernel_rfl
noncomputable def laws_toProcS_l1 (k : Nat) (self : ((List DProc) × ((List DProc) × Int)) → Option (List DProc)) (d : ((List DProc) × ((List DProc) × Int))) : Option (List DProc) :=
  (bif (decide (d.2.2 < (d.1.length : Int))) then (if 0 ≤ d.2.2 then (d.1[d.2.2.toNat]?).bind fun v0 =>
  (c_laws_toProc k v0).bind fun v1 =>
  (if 0 ≤ d.2.2 then (if d.2.2 < (d.2.1.length : Int) then (d.2.1[d.2.2.toNat]?).bind fun v2 =>
  self (d.1, (d.2.1.set d.2.2.toNat v1), (wrapK .i64 (d.2.2 + (1 : Int)))) else none) else none) else none) else some d.2.1)
noncomputable def laws_toProcS (k : Nat) (x0 : (List DProc)) : Option (List DProc) :=
  (if 0 ≤ (x0.length : Int) then (if (x0.length : Int) ≤ (x0.length : Int) then (if (x0.length : Int) * 64 ≤ (capBytes : Int) then iter k (laws_toProcS_l1 k) (x0, (List.replicate (x0.length : Int).toNat (((0 : Int), (0 : Int), ([] : List Int)), ([] : List DOpen))), (0 : Int)) else none) else none) else none)
set_option maxHeartbeats 0 in
theorem laws_toProcS_run (k : Nat) (x0 : (List DProc)) : c_laws_toProcS (k + 1) (x0) = laws_toProcS k x0 := by kernel_rfl
noncomputable def laws_toSystem (k : Nat) (x0 : DSystem) : Option DSystem :=
  (c_laws_toFS k x0.1).bind fun y1 =>
  (c_laws_toProcS k x0.2).bind fun y2 =>
  some (y1, y2)
set_option maxHeartbeats 0 in
theorem laws_toSystem_run (k : Nat) (x0 : DSystem) : c_laws_toSystem (k + 1) (x0) = laws_toSystem k x0 := by kernel_rfl
noncomputable def impl_copyCred (k : Nat) (x0 : DCred) : Option DCred :=
  (c_slices_Clone_int_int k x0.2.2).bind fun y1 =>
  some (x0.1, x0.2.1, y1)
set_option maxHeartbeats 0 in
theorem impl_copyCred_run (k : Nat) (x0 : DCred) : c_impl_copyCred (k + 1) (x0) = impl_copyCred k x0 := by kernel_rfl
noncomputable def impl_CredsOf_l1 (k : Nat) (self : ((List DCred) × ((List DProc) × DQuota)) → Option (List DCred)) (d : ((List DCred) × ((List DProc) × DQuota))) : Option (List DCred) :=
  (bif (decide (d.2.2.2 < d.2.2.1)) then (if 0 ≤ d.2.2.2 then (d.2.1[d.2.2.2.toNat]?).bind fun v0 =>
  (c_impl_copyCred k v0.1).bind fun v1 =>
  (if (d.1.length + ([v1] : List DCred).length) * 40 ≤ capBytes then self ((d.1 ++ ([v1] : List DCred)), d.2.1, d.2.2.1, (wrapK .i64 (d.2.2.2 + (1 : Int)))) else none) else none) else some d.1)
noncomputable def impl_CredsOf (k : Nat) (x0 : DSystem) : Option (List DCred) :=
  iter k (impl_CredsOf_l1 k) (([] : List DCred), x0.2, (x0.2.length : Int), (0 : Int))
set_option maxHeartbeats 0 in
theorem impl_CredsOf_run (k : Nat) (x0 : DSystem) : c_impl_CredsOf (k + 1) (x0) = impl_CredsOf k x0 := by kernel_rfl
noncomputable def laws_eqIntS_l1 (k : Nat) (self : ((List Int) × ((List Int) × Int)) → Option Bool) (d : ((List Int) × ((List Int) × Int))) : Option Bool :=
  (bif (decide (d.2.2 < (d.1.length : Int))) then (if 0 ≤ d.2.2 then (d.1[d.2.2.toNat]?).bind fun v0 =>
  (if 0 ≤ d.2.2 then (d.2.1[d.2.2.toNat]?).bind fun v1 =>
  (bif (v0 != v1) then some false else self (d.1, d.2.1, (wrapK .i64 (d.2.2 + (1 : Int))))) else none) else none) else some true)
noncomputable def laws_eqIntS (k : Nat) (x0 : (List Int)) (x1 : (List Int)) : Option Bool :=
  (bif ((x0.length : Int) != (x1.length : Int)) then some false else iter k (laws_eqIntS_l1 k) (x0, x1, (0 : Int)))
set_option maxHeartbeats 0 in
theorem laws_eqIntS_run (k : Nat) (x0 : (List Int)) (x1 : (List Int)) : c_laws_eqIntS (k + 1) (x0, x1) = laws_eqIntS k x0 x1 := by kernel_rfl
noncomputable def laws_eqCred (k : Nat) (x0 : DCred) (x1 : DCred) : Option Bool :=
  (bif (x0.1 != x1.1) then some false else (bif (x0.2.1 != x1.2.1) then some false else (c_laws_eqIntS k (x0.2.2, x1.2.2)).bind fun y1 =>
  (bif (!y1) then some false else some true)))
set_option maxHeartbeats 0 in
theorem laws_eqCred_run (k : Nat) (x0 : DCred) (x1 : DCred) : c_laws_eqCred (k + 1) (x0, x1) = laws_eqCred k x0 x1 := by kernel_rfl
noncomputable def laws_eqCredS_l1 (k : Nat) (self : ((List DCred) × ((List DCred) × Int)) → Option Bool) (d : ((List DCred) × ((List DCred) × Int))) : Option Bool :=
  (bif (decide (d.2.2 < (d.1.length : Int))) then (if 0 ≤ d.2.2 then (d.1[d.2.2.toNat]?).bind fun v0 =>
  (if 0 ≤ d.2.2 then (d.2.1[d.2.2.toNat]?).bind fun v1 =>
  (c_laws_eqCred k (v0, v1)).bind fun v2 =>
  (bif (!v2) then some false else self (d.1, d.2.1, (wrapK .i64 (d.2.2 + (1 : Int))))) else none) else none) else some true)
noncomputable def laws_eqCredS (k : Nat) (x0 : (List DCred)) (x1 : (List DCred)) : Option Bool :=
  (bif ((x0.length : Int) != (x1.length : Int)) then some false else iter k (laws_eqCredS_l1 k) (x0, x1, (0 : Int)))
set_option maxHeartbeats 0 in
theorem laws_eqCredS_run (k : Nat) (x0 : (List DCred)) (x1 : (List DCred)) : c_laws_eqCredS (k + 1) (x0, x1) = laws_eqCredS k x0 x1 := by kernel_rfl
noncomputable def laws_eqQuota (k : Nat) (x0 : DQuota) (x1 : DQuota) : Option Bool :=
  (bif (x0.1 != x1.1) then some false else (bif (x0.2 != x1.2) then some false else some true))
set_option maxHeartbeats 0 in
theorem laws_eqQuota_run (k : Nat) (x0 : DQuota) (x1 : DQuota) : c_laws_eqQuota (k + 1) (x0, x1) = laws_eqQuota k x0 x1 := by kernel_rfl
noncomputable def laws_eqQuotaS_l1 (k : Nat) (self : ((List DQuota) × ((List DQuota) × Int)) → Option Bool) (d : ((List DQuota) × ((List DQuota) × Int))) : Option Bool :=
  (bif (decide (d.2.2 < (d.1.length : Int))) then (if 0 ≤ d.2.2 then (d.1[d.2.2.toNat]?).bind fun v0 =>
  (if 0 ≤ d.2.2 then (d.2.1[d.2.2.toNat]?).bind fun v1 =>
  (c_laws_eqQuota k (v0, v1)).bind fun v2 =>
  (bif (!v2) then some false else self (d.1, d.2.1, (wrapK .i64 (d.2.2 + (1 : Int))))) else none) else none) else some true)
noncomputable def laws_eqQuotaS (k : Nat) (x0 : (List DQuota)) (x1 : (List DQuota)) : Option Bool :=
  (bif ((x0.length : Int) != (x1.length : Int)) then some false else iter k (laws_eqQuotaS_l1 k) (x0, x1, (0 : Int)))
set_option maxHeartbeats 0 in
theorem laws_eqQuotaS_run (k : Nat) (x0 : (List DQuota)) (x1 : (List DQuota)) : c_laws_eqQuotaS (k + 1) (x0, x1) = laws_eqQuotaS k x0 x1 := by kernel_rfl
noncomputable def laws_eqAclEntry (k : Nat) (x0 : DOpen) (x1 : DOpen) : Option Bool :=
  (bif (x0.1 != x1.1) then some false else (bif (x0.2.1 != x1.2.1) then some false else (bif (x0.2.2 != x1.2.2) then some false else some true)))
set_option maxHeartbeats 0 in
theorem laws_eqAclEntry_run (k : Nat) (x0 : DOpen) (x1 : DOpen) : c_laws_eqAclEntry (k + 1) (x0, x1) = laws_eqAclEntry k x0 x1 := by kernel_rfl
noncomputable def laws_eqAclEntryS_l1 (k : Nat) (self : ((List DOpen) × ((List DOpen) × Int)) → Option Bool) (d : ((List DOpen) × ((List DOpen) × Int))) : Option Bool :=
  (bif (decide (d.2.2 < (d.1.length : Int))) then (if 0 ≤ d.2.2 then (d.1[d.2.2.toNat]?).bind fun v0 =>
  (if 0 ≤ d.2.2 then (d.2.1[d.2.2.toNat]?).bind fun v1 =>
  (c_laws_eqAclEntry k (v0, v1)).bind fun v2 =>
  (bif (!v2) then some false else self (d.1, d.2.1, (wrapK .i64 (d.2.2 + (1 : Int))))) else none) else none) else some true)
noncomputable def laws_eqAclEntryS (k : Nat) (x0 : (List DOpen)) (x1 : (List DOpen)) : Option Bool :=
  (bif ((x0.length : Int) != (x1.length : Int)) then some false else iter k (laws_eqAclEntryS_l1 k) (x0, x1, (0 : Int)))
set_option maxHeartbeats 0 in
theorem laws_eqAclEntryS_run (k : Nat) (x0 : (List DOpen)) (x1 : (List DOpen)) : c_laws_eqAclEntryS (k + 1) (x0, x1) = laws_eqAclEntryS k x0 x1 := by kernel_rfl
noncomputable def laws_eqInode (k : Nat) (x0 : DInode) (x1 : DInode) : Option Bool :=
  (bif (x0.1 != x1.1) then some false else (bif (x0.2.1 != x1.2.1) then some false else (bif (x0.2.2.1 != x1.2.2.1) then some false else (bif (x0.2.2.2.1 != x1.2.2.2.1) then some false else (bif (x0.2.2.2.2.1 != x1.2.2.2.2.1) then some false else (bif (x0.2.2.2.2.2.1 != x1.2.2.2.2.2.1) then some false else (bif (x0.2.2.2.2.2.2.1 != x1.2.2.2.2.2.2.1) then some false else (c_laws_eqIntS k (x0.2.2.2.2.2.2.2.1, x1.2.2.2.2.2.2.2.1)).bind fun y1 =>
  (bif (!y1) then some false else (c_laws_eqAclEntryS k (x0.2.2.2.2.2.2.2.2.1, x1.2.2.2.2.2.2.2.2.1)).bind fun y2 =>
  (bif (!y2) then some false else (c_laws_eqAclEntryS k (x0.2.2.2.2.2.2.2.2.2, x1.2.2.2.2.2.2.2.2.2)).bind fun y3 =>
  (bif (!y3) then some false else some true))))))))))
set_option maxHeartbeats 0 in
theorem laws_eqInode_run (k : Nat) (x0 : DInode) (x1 : DInode) : c_laws_eqInode (k + 1) (x0, x1) = laws_eqInode k x0 x1 := by kernel_rfl
noncomputable def laws_eqInodeS_l1 (k : Nat) (self : ((List DInode) × ((List DInode) × Int)) → Option Bool) (d : ((List DInode) × ((List DInode) × Int))) : Option Bool :=
  (bif (decide (d.2.2 < (d.1.length : Int))) then (if 0 ≤ d.2.2 then (d.1[d.2.2.toNat]?).bind fun v0 =>
  (if 0 ≤ d.2.2 then (d.2.1[d.2.2.toNat]?).bind fun v1 =>
  (c_laws_eqInode k (v0, v1)).bind fun v2 =>
  (bif (!v2) then some false else self (d.1, d.2.1, (wrapK .i64 (d.2.2 + (1 : Int))))) else none) else none) else some true)
noncomputable def laws_eqInodeS (k : Nat) (x0 : (List DInode)) (x1 : (List DInode)) : Option Bool :=
  (bif ((x0.length : Int) != (x1.length : Int)) then some false else iter k (laws_eqInodeS_l1 k) (x0, x1, (0 : Int)))
set_option maxHeartbeats 0 in
theorem laws_eqInodeS_run (k : Nat) (x0 : (List DInode)) (x1 : (List DInode)) : c_laws_eqInodeS (k + 1) (x0, x1) = laws_eqInodeS k x0 x1 := by kernel_rfl
noncomputable def laws_eqStringS_l1 (k : Nat) (self : ((List ByteArray) × ((List ByteArray) × Int)) → Option Bool) (d : ((List ByteArray) × ((List ByteArray) × Int))) : Option Bool :=
  (bif (decide (d.2.2 < (d.1.length : Int))) then (if 0 ≤ d.2.2 then (d.1[d.2.2.toNat]?).bind fun v0 =>
  (if 0 ≤ d.2.2 then (d.2.1[d.2.2.toNat]?).bind fun v1 =>
  (bif (!(eqS v0 v1)) then some false else self (d.1, d.2.1, (wrapK .i64 (d.2.2 + (1 : Int))))) else none) else none) else some true)
noncomputable def laws_eqStringS (k : Nat) (x0 : (List ByteArray)) (x1 : (List ByteArray)) : Option Bool :=
  (bif ((x0.length : Int) != (x1.length : Int)) then some false else iter k (laws_eqStringS_l1 k) (x0, x1, (0 : Int)))
set_option maxHeartbeats 0 in
theorem laws_eqStringS_run (k : Nat) (x0 : (List ByteArray)) (x1 : (List ByteArray)) : c_laws_eqStringS (k + 1) (x0, x1) = laws_eqStringS k x0 x1 := by kernel_rfl
noncomputable def laws_eqFS (k : Nat) (x0 : DFS) (x1 : DFS) : Option Bool :=
  (bif (x0.1 != x1.1) then some false else (c_laws_eqQuotaS k (x0.2.1, x1.2.1)).bind fun y1 =>
  (bif (!y1) then some false else (c_laws_eqInodeS k (x0.2.2.1, x1.2.2.1)).bind fun y2 =>
  (bif (!y2) then some false else (c_laws_eqStringS k (x0.2.2.2, x1.2.2.2)).bind fun y3 =>
  (bif (!y3) then some false else some true))))
set_option maxHeartbeats 0 in
theorem laws_eqFS_run (k : Nat) (x0 : DFS) (x1 : DFS) : c_laws_eqFS (k + 1) (x0, x1) = laws_eqFS k x0 x1 := by kernel_rfl
noncomputable def laws_eqOpen (k : Nat) (x0 : DOpen) (x1 : DOpen) : Option Bool :=
  (bif (x0.1 != x1.1) then some false else (bif (x0.2.1 != x1.2.1) then some false else (bif (x0.2.2 != x1.2.2) then some false else some true)))
set_option maxHeartbeats 0 in
theorem laws_eqOpen_run (k : Nat) (x0 : DOpen) (x1 : DOpen) : c_laws_eqOpen (k + 1) (x0, x1) = laws_eqOpen k x0 x1 := by kernel_rfl
noncomputable def laws_eqOpenS_l1 (k : Nat) (self : ((List DOpen) × ((List DOpen) × Int)) → Option Bool) (d : ((List DOpen) × ((List DOpen) × Int))) : Option Bool :=
  (bif (decide (d.2.2 < (d.1.length : Int))) then (if 0 ≤ d.2.2 then (d.1[d.2.2.toNat]?).bind fun v0 =>
  (if 0 ≤ d.2.2 then (d.2.1[d.2.2.toNat]?).bind fun v1 =>
  (c_laws_eqOpen k (v0, v1)).bind fun v2 =>
  (bif (!v2) then some false else self (d.1, d.2.1, (wrapK .i64 (d.2.2 + (1 : Int))))) else none) else none) else some true)
noncomputable def laws_eqOpenS (k : Nat) (x0 : (List DOpen)) (x1 : (List DOpen)) : Option Bool :=
  (bif ((x0.length : Int) != (x1.length : Int)) then some false else iter k (laws_eqOpenS_l1 k) (x0, x1, (0 : Int)))
set_option maxHeartbeats 0 in
theorem laws_eqOpenS_run (k : Nat) (x0 : (List DOpen)) (x1 : (List DOpen)) : c_laws_eqOpenS (k + 1) (x0, x1) = laws_eqOpenS k x0 x1 := by kernel_rfl
noncomputable def laws_eqProc (k : Nat) (x0 : DProc) (x1 : DProc) : Option Bool :=
  (c_laws_eqCred k (x0.1, x1.1)).bind fun y1 =>
  (bif (!y1) then some false else (c_laws_eqOpenS k (x0.2, x1.2)).bind fun y2 =>
  (bif (!y2) then some false else some true))
set_option maxHeartbeats 0 in
theorem laws_eqProc_run (k : Nat) (x0 : DProc) (x1 : DProc) : c_laws_eqProc (k + 1) (x0, x1) = laws_eqProc k x0 x1 := by kernel_rfl
noncomputable def laws_eqProcS_l1 (k : Nat) (self : ((List DProc) × ((List DProc) × Int)) → Option Bool) (d : ((List DProc) × ((List DProc) × Int))) : Option Bool :=
  (bif (decide (d.2.2 < (d.1.length : Int))) then (if 0 ≤ d.2.2 then (d.1[d.2.2.toNat]?).bind fun v0 =>
  (if 0 ≤ d.2.2 then (d.2.1[d.2.2.toNat]?).bind fun v1 =>
  (c_laws_eqProc k (v0, v1)).bind fun v2 =>
  (bif (!v2) then some false else self (d.1, d.2.1, (wrapK .i64 (d.2.2 + (1 : Int))))) else none) else none) else some true)
noncomputable def laws_eqProcS (k : Nat) (x0 : (List DProc)) (x1 : (List DProc)) : Option Bool :=
  (bif ((x0.length : Int) != (x1.length : Int)) then some false else iter k (laws_eqProcS_l1 k) (x0, x1, (0 : Int)))
set_option maxHeartbeats 0 in
theorem laws_eqProcS_run (k : Nat) (x0 : (List DProc)) (x1 : (List DProc)) : c_laws_eqProcS (k + 1) (x0, x1) = laws_eqProcS k x0 x1 := by kernel_rfl
noncomputable def laws_eqSystem (k : Nat) (x0 : DSystem) (x1 : DSystem) : Option Bool :=
  (c_laws_eqFS k (x0.1, x1.1)).bind fun y1 =>
  (bif (!y1) then some false else (c_laws_eqProcS k (x0.2, x1.2)).bind fun y2 =>
  (bif (!y2) then some false else some true))
set_option maxHeartbeats 0 in
theorem laws_eqSystem_run (k : Nat) (x0 : DSystem) (x1 : DSystem) : c_laws_eqSystem (k + 1) (x0, x1) = laws_eqSystem k x0 x1 := by kernel_rfl
noncomputable def laws_markQuotaS_l1 (k : Nat) (self : (Unit × (Int × (Int × (List DQuota)))) → Option (Int × (List DQuota))) (d : (Unit × (Int × (Int × (List DQuota))))) : Option (Int × (List DQuota)) :=
  (bif (decide (d.2.2.1 < (d.2.2.2.length : Int))) then (if 0 ≤ d.2.2.1 then (if d.2.2.1 < (d.2.2.2.length : Int) then (d.2.2.2[d.2.2.1.toNat]?).bind fun v0 =>
  (if 0 ≤ d.2.2.1 then (if d.2.2.1 < ((d.2.2.2.set d.2.2.1.toNat (d.2.1, v0.2)).length : Int) then ((d.2.2.2.set d.2.2.1.toNat (d.2.1, v0.2))[d.2.2.1.toNat]?).bind fun v1 =>
  self ((), (wrapK .i64 ((wrapK .i64 (d.2.1 + (1 : Int))) + (1 : Int))), (wrapK .i64 (d.2.2.1 + (1 : Int))), ((d.2.2.2.set d.2.2.1.toNat (d.2.1, v0.2)).set d.2.2.1.toNat (v1.1, (wrapK .i64 (d.2.1 + (1 : Int)))))) else none) else none) else none) else none) else some (d.2.1, d.2.2.2))
noncomputable def laws_markQuotaS (k : Nat) (x0 : (List DQuota)) (x1 : Int) : Option (Int × (List DQuota)) :=
  iter k (laws_markQuotaS_l1 k) ((), x1, (0 : Int), x0)
set_option maxHeartbeats 0 in
theorem laws_markQuotaS_run (k : Nat) (x0 : (List DQuota)) (x1 : Int) : c_laws_markQuotaS (k + 1) (x0, x1) = laws_markQuotaS k x0 x1 := by kernel_rfl
noncomputable def laws_markIntS_l1 (k : Nat) (self : (Unit × DCred) → Option (Int × (List Int))) (d : (Unit × DCred)) : Option (Int × (List Int)) :=
  (bif (decide (d.2.2.1 < (d.2.2.2.length : Int))) then (if 0 ≤ d.2.2.1 then (if d.2.2.1 < (d.2.2.2.length : Int) then (d.2.2.2[d.2.2.1.toNat]?).bind fun v0 =>
  self ((), (wrapK .i64 (d.2.1 + (1 : Int))), (wrapK .i64 (d.2.2.1 + (1 : Int))), (d.2.2.2.set d.2.2.1.toNat d.2.1)) else none) else none) else some (d.2.1, d.2.2.2))
noncomputable def laws_markIntS (k : Nat) (x0 : (List Int)) (x1 : Int) : Option (Int × (List Int)) :=
  iter k (laws_markIntS_l1 k) ((), x1, (0 : Int), x0)
set_option maxHeartbeats 0 in
theorem laws_markIntS_run (k : Nat) (x0 : (List Int)) (x1 : Int) : c_laws_markIntS (k + 1) (x0, x1) = laws_markIntS k x0 x1 := by kernel_rfl
noncomputable def laws_markAclEntryS_l1 (k : Nat) (self : (Unit × (Int × (Int × (List DOpen)))) → Option (Int × (List DOpen))) (d : (Unit × (Int × (Int × (List DOpen))))) : Option (Int × (List DOpen)) :=
  (bif (decide (d.2.2.1 < (d.2.2.2.length : Int))) then (if 0 ≤ d.2.2.1 then (if d.2.2.1 < (d.2.2.2.length : Int) then (d.2.2.2[d.2.2.1.toNat]?).bind fun v0 =>
  (if 0 ≤ d.2.2.1 then (if d.2.2.1 < ((d.2.2.2.set d.2.2.1.toNat (d.2.1, v0.2)).length : Int) then ((d.2.2.2.set d.2.2.1.toNat (d.2.1, v0.2))[d.2.2.1.toNat]?).bind fun v1 =>
  (if 0 ≤ d.2.2.1 then (if d.2.2.1 < (((d.2.2.2.set d.2.2.1.toNat (d.2.1, v0.2)).set d.2.2.1.toNat (v1.1, (wrapK .i64 (d.2.1 + (1 : Int))), v1.2.2)).length : Int) then (((d.2.2.2.set d.2.2.1.toNat (d.2.1, v0.2)).set d.2.2.1.toNat (v1.1, (wrapK .i64 (d.2.1 + (1 : Int))), v1.2.2))[d.2.2.1.toNat]?).bind fun v2 =>
  self ((), (wrapK .i64 ((wrapK .i64 ((wrapK .i64 (d.2.1 + (1 : Int))) + (1 : Int))) + (1 : Int))), (wrapK .i64 (d.2.2.1 + (1 : Int))), (((d.2.2.2.set d.2.2.1.toNat (d.2.1, v0.2)).set d.2.2.1.toNat (v1.1, (wrapK .i64 (d.2.1 + (1 : Int))), v1.2.2)).set d.2.2.1.toNat (v2.1, v2.2.1, (wrapK .i64 ((wrapK .i64 (d.2.1 + (1 : Int))) + (1 : Int)))))) else none) else none) else none) else none) else none) else none) else some (d.2.1, d.2.2.2))
noncomputable def laws_markAclEntryS (k : Nat) (x0 : (List DOpen)) (x1 : Int) : Option (Int × (List DOpen)) :=
  iter k (laws_markAclEntryS_l1 k) ((), x1, (0 : Int), x0)
set_option maxHeartbeats 0 in
theorem laws_markAclEntryS_run (k : Nat) (x0 : (List DOpen)) (x1 : Int) : c_laws_markAclEntryS (k + 1) (x0, x1) = laws_markAclEntryS k x0 x1 := by kernel_rfl
noncomputable def laws_markInodeS_l1 (k : Nat) (self : (Unit × (Int × (Int × (List DInode)))) → Option (Int × (List DInode))) (d : (Unit × (Int × (Int × (List DInode))))) : Option (Int × (List DInode)) :=
  (bif (decide (d.2.2.1 < (d.2.2.2.length : Int))) then (if 0 ≤ d.2.2.1 then (if d.2.2.1 < (d.2.2.2.length : Int) then (d.2.2.2[d.2.2.1.toNat]?).bind fun v0 =>
  (if 0 ≤ d.2.2.1 then (if d.2.2.1 < ((d.2.2.2.set d.2.2.1.toNat (d.2.1, v0.2)).length : Int) then ((d.2.2.2.set d.2.2.1.toNat (d.2.1, v0.2))[d.2.2.1.toNat]?).bind fun v1 =>
  (if 0 ≤ d.2.2.1 then (if d.2.2.1 < (((d.2.2.2.set d.2.2.1.toNat (d.2.1, v0.2)).set d.2.2.1.toNat (v1.1, (wrapK .i64 (d.2.1 + (1 : Int))), v1.2.2)).length : Int) then (((d.2.2.2.set d.2.2.1.toNat (d.2.1, v0.2)).set d.2.2.1.toNat (v1.1, (wrapK .i64 (d.2.1 + (1 : Int))), v1.2.2))[d.2.2.1.toNat]?).bind fun v2 =>
  (if 0 ≤ d.2.2.1 then (if d.2.2.1 < ((((d.2.2.2.set d.2.2.1.toNat (d.2.1, v0.2)).set d.2.2.1.toNat (v1.1, (wrapK .i64 (d.2.1 + (1 : Int))), v1.2.2)).set d.2.2.1.toNat (v2.1, v2.2.1, (wrapK .i64 ((wrapK .i64 (d.2.1 + (1 : Int))) + (1 : Int))), v2.2.2.2)).length : Int) then ((((d.2.2.2.set d.2.2.1.toNat (d.2.1, v0.2)).set d.2.2.1.toNat (v1.1, (wrapK .i64 (d.2.1 + (1 : Int))), v1.2.2)).set d.2.2.1.toNat (v2.1, v2.2.1, (wrapK .i64 ((wrapK .i64 (d.2.1 + (1 : Int))) + (1 : Int))), v2.2.2.2))[d.2.2.1.toNat]?).bind fun v3 =>
  (if 0 ≤ d.2.2.1 then (if d.2.2.1 < (((((d.2.2.2.set d.2.2.1.toNat (d.2.1, v0.2)).set d.2.2.1.toNat (v1.1, (wrapK .i64 (d.2.1 + (1 : Int))), v1.2.2)).set d.2.2.1.toNat (v2.1, v2.2.1, (wrapK .i64 ((wrapK .i64 (d.2.1 + (1 : Int))) + (1 : Int))), v2.2.2.2)).set d.2.2.1.toNat (v3.1, v3.2.1, v3.2.2.1, (wrapK .i64 ((wrapK .i64 ((wrapK .i64 (d.2.1 + (1 : Int))) + (1 : Int))) + (1 : Int))), v3.2.2.2.2)).length : Int) then (((((d.2.2.2.set d.2.2.1.toNat (d.2.1, v0.2)).set d.2.2.1.toNat (v1.1, (wrapK .i64 (d.2.1 + (1 : Int))), v1.2.2)).set d.2.2.1.toNat (v2.1, v2.2.1, (wrapK .i64 ((wrapK .i64 (d.2.1 + (1 : Int))) + (1 : Int))), v2.2.2.2)).set d.2.2.1.toNat (v3.1, v3.2.1, v3.2.2.1, (wrapK .i64 ((wrapK .i64 ((wrapK .i64 (d.2.1 + (1 : Int))) + (1 : Int))) + (1 : Int))), v3.2.2.2.2))[d.2.2.1.toNat]?).bind fun v4 =>
  (if 0 ≤ d.2.2.1 then (if d.2.2.1 < ((((((d.2.2.2.set d.2.2.1.toNat (d.2.1, v0.2)).set d.2.2.1.toNat (v1.1, (wrapK .i64 (d.2.1 + (1 : Int))), v1.2.2)).set d.2.2.1.toNat (v2.1, v2.2.1, (wrapK .i64 ((wrapK .i64 (d.2.1 + (1 : Int))) + (1 : Int))), v2.2.2.2)).set d.2.2.1.toNat (v3.1, v3.2.1, v3.2.2.1, (wrapK .i64 ((wrapK .i64 ((wrapK .i64 (d.2.1 + (1 : Int))) + (1 : Int))) + (1 : Int))), v3.2.2.2.2)).set d.2.2.1.toNat (v4.1, v4.2.1, v4.2.2.1, v4.2.2.2.1, (wrapK .i64 ((wrapK .i64 ((wrapK .i64 ((wrapK .i64 (d.2.1 + (1 : Int))) + (1 : Int))) + (1 : Int))) + (1 : Int))), v4.2.2.2.2.2)).length : Int) then ((((((d.2.2.2.set d.2.2.1.toNat (d.2.1, v0.2)).set d.2.2.1.toNat (v1.1, (wrapK .i64 (d.2.1 + (1 : Int))), v1.2.2)).set d.2.2.1.toNat (v2.1, v2.2.1, (wrapK .i64 ((wrapK .i64 (d.2.1 + (1 : Int))) + (1 : Int))), v2.2.2.2)).set d.2.2.1.toNat (v3.1, v3.2.1, v3.2.2.1, (wrapK .i64 ((wrapK .i64 ((wrapK .i64 (d.2.1 + (1 : Int))) + (1 : Int))) + (1 : Int))), v3.2.2.2.2)).set d.2.2.1.toNat (v4.1, v4.2.1, v4.2.2.1, v4.2.2.2.1, (wrapK .i64 ((wrapK .i64 ((wrapK .i64 ((wrapK .i64 (d.2.1 + (1 : Int))) + (1 : Int))) + (1 : Int))) + (1 : Int))), v4.2.2.2.2.2))[d.2.2.1.toNat]?).bind fun v5 =>
  (if 0 ≤ d.2.2.1 then (if d.2.2.1 < (((((((d.2.2.2.set d.2.2.1.toNat (d.2.1, v0.2)).set d.2.2.1.toNat (v1.1, (wrapK .i64 (d.2.1 + (1 : Int))), v1.2.2)).set d.2.2.1.toNat (v2.1, v2.2.1, (wrapK .i64 ((wrapK .i64 (d.2.1 + (1 : Int))) + (1 : Int))), v2.2.2.2)).set d.2.2.1.toNat (v3.1, v3.2.1, v3.2.2.1, (wrapK .i64 ((wrapK .i64 ((wrapK .i64 (d.2.1 + (1 : Int))) + (1 : Int))) + (1 : Int))), v3.2.2.2.2)).set d.2.2.1.toNat (v4.1, v4.2.1, v4.2.2.1, v4.2.2.2.1, (wrapK .i64 ((wrapK .i64 ((wrapK .i64 ((wrapK .i64 (d.2.1 + (1 : Int))) + (1 : Int))) + (1 : Int))) + (1 : Int))), v4.2.2.2.2.2)).set d.2.2.1.toNat (v5.1, v5.2.1, v5.2.2.1, v5.2.2.2.1, v5.2.2.2.2.1, (wrapK .i64 ((wrapK .i64 ((wrapK .i64 ((wrapK .i64 ((wrapK .i64 (d.2.1 + (1 : Int))) + (1 : Int))) + (1 : Int))) + (1 : Int))) + (1 : Int))), v5.2.2.2.2.2.2)).length : Int) then (((((((d.2.2.2.set d.2.2.1.toNat (d.2.1, v0.2)).set d.2.2.1.toNat (v1.1, (wrapK .i64 (d.2.1 + (1 : Int))), v1.2.2)).set d.2.2.1.toNat (v2.1, v2.2.1, (wrapK .i64 ((wrapK .i64 (d.2.1 + (1 : Int))) + (1 : Int))), v2.2.2.2)).set d.2.2.1.toNat (v3.1, v3.2.1, v3.2.2.1, (wrapK .i64 ((wrapK .i64 ((wrapK .i64 (d.2.1 + (1 : Int))) + (1 : Int))) + (1 : Int))), v3.2.2.2.2)).set d.2.2.1.toNat (v4.1, v4.2.1, v4.2.2.1, v4.2.2.2.1, (wrapK .i64 ((wrapK .i64 ((wrapK .i64 ((wrapK .i64 (d.2.1 + (1 : Int))) + (1 : Int))) + (1 : Int))) + (1 : Int))), v4.2.2.2.2.2)).set d.2.2.1.toNat (v5.1, v5.2.1, v5.2.2.1, v5.2.2.2.1, v5.2.2.2.2.1, (wrapK .i64 ((wrapK .i64 ((wrapK .i64 ((wrapK .i64 ((wrapK .i64 (d.2.1 + (1 : Int))) + (1 : Int))) + (1 : Int))) + (1 : Int))) + (1 : Int))), v5.2.2.2.2.2.2))[d.2.2.1.toNat]?).bind fun v6 =>
  (if 0 ≤ d.2.2.1 then (if d.2.2.1 < ((((((((d.2.2.2.set d.2.2.1.toNat (d.2.1, v0.2)).set d.2.2.1.toNat (v1.1, (wrapK .i64 (d.2.1 + (1 : Int))), v1.2.2)).set d.2.2.1.toNat (v2.1, v2.2.1, (wrapK .i64 ((wrapK .i64 (d.2.1 + (1 : Int))) + (1 : Int))), v2.2.2.2)).set d.2.2.1.toNat (v3.1, v3.2.1, v3.2.2.1, (wrapK .i64 ((wrapK .i64 ((wrapK .i64 (d.2.1 + (1 : Int))) + (1 : Int))) + (1 : Int))), v3.2.2.2.2)).set d.2.2.1.toNat (v4.1, v4.2.1, v4.2.2.1, v4.2.2.2.1, (wrapK .i64 ((wrapK .i64 ((wrapK .i64 ((wrapK .i64 (d.2.1 + (1 : Int))) + (1 : Int))) + (1 : Int))) + (1 : Int))), v4.2.2.2.2.2)).set d.2.2.1.toNat (v5.1, v5.2.1, v5.2.2.1, v5.2.2.2.1, v5.2.2.2.2.1, (wrapK .i64 ((wrapK .i64 ((wrapK .i64 ((wrapK .i64 ((wrapK .i64 (d.2.1 + (1 : Int))) + (1 : Int))) + (1 : Int))) + (1 : Int))) + (1 : Int))), v5.2.2.2.2.2.2)).set d.2.2.1.toNat (v6.1, v6.2.1, v6.2.2.1, v6.2.2.2.1, v6.2.2.2.2.1, v6.2.2.2.2.2.1, (wrapK .i64 ((wrapK .i64 ((wrapK .i64 ((wrapK .i64 ((wrapK .i64 ((wrapK .i64 (d.2.1 + (1 : Int))) + (1 : Int))) + (1 : Int))) + (1 : Int))) + (1 : Int))) + (1 : Int))), v6.2.2.2.2.2.2.2)).length : Int) then ((((((((d.2.2.2.set d.2.2.1.toNat (d.2.1, v0.2)).set d.2.2.1.toNat (v1.1, (wrapK .i64 (d.2.1 + (1 : Int))), v1.2.2)).set d.2.2.1.toNat (v2.1, v2.2.1, (wrapK .i64 ((wrapK .i64 (d.2.1 + (1 : Int))) + (1 : Int))), v2.2.2.2)).set d.2.2.1.toNat (v3.1, v3.2.1, v3.2.2.1, (wrapK .i64 ((wrapK .i64 ((wrapK .i64 (d.2.1 + (1 : Int))) + (1 : Int))) + (1 : Int))), v3.2.2.2.2)).set d.2.2.1.toNat (v4.1, v4.2.1, v4.2.2.1, v4.2.2.2.1, (wrapK .i64 ((wrapK .i64 ((wrapK .i64 ((wrapK .i64 (d.2.1 + (1 : Int))) + (1 : Int))) + (1 : Int))) + (1 : Int))), v4.2.2.2.2.2)).set d.2.2.1.toNat (v5.1, v5.2.1, v5.2.2.1, v5.2.2.2.1, v5.2.2.2.2.1, (wrapK .i64 ((wrapK .i64 ((wrapK .i64 ((wrapK .i64 ((wrapK .i64 (d.2.1 + (1 : Int))) + (1 : Int))) + (1 : Int))) + (1 : Int))) + (1 : Int))), v5.2.2.2.2.2.2)).set d.2.2.1.toNat (v6.1, v6.2.1, v6.2.2.1, v6.2.2.2.1, v6.2.2.2.2.1, v6.2.2.2.2.2.1, (wrapK .i64 ((wrapK .i64 ((wrapK .i64 ((wrapK .i64 ((wrapK .i64 ((wrapK .i64 (d.2.1 + (1 : Int))) + (1 : Int))) + (1 : Int))) + (1 : Int))) + (1 : Int))) + (1 : Int))), v6.2.2.2.2.2.2.2))[d.2.2.1.toNat]?).bind fun v7 =>
  ((((((((d.2.2.2.set d.2.2.1.toNat (d.2.1, v0.2)).set d.2.2.1.toNat (v1.1, (wrapK .i64 (d.2.1 + (1 : Int))), v1.2.2)).set d.2.2.1.toNat (v2.1, v2.2.1, (wrapK .i64 ((wrapK .i64 (d.2.1 + (1 : Int))) + (1 : Int))), v2.2.2.2)).set d.2.2.1.toNat (v3.1, v3.2.1, v3.2.2.1, (wrapK .i64 ((wrapK .i64 ((wrapK .i64 (d.2.1 + (1 : Int))) + (1 : Int))) + (1 : Int))), v3.2.2.2.2)).set d.2.2.1.toNat (v4.1, v4.2.1, v4.2.2.1, v4.2.2.2.1, (wrapK .i64 ((wrapK .i64 ((wrapK .i64 ((wrapK .i64 (d.2.1 + (1 : Int))) + (1 : Int))) + (1 : Int))) + (1 : Int))), v4.2.2.2.2.2)).set d.2.2.1.toNat (v5.1, v5.2.1, v5.2.2.1, v5.2.2.2.1, v5.2.2.2.2.1, (wrapK .i64 ((wrapK .i64 ((wrapK .i64 ((wrapK .i64 ((wrapK .i64 (d.2.1 + (1 : Int))) + (1 : Int))) + (1 : Int))) + (1 : Int))) + (1 : Int))), v5.2.2.2.2.2.2)).set d.2.2.1.toNat (v6.1, v6.2.1, v6.2.2.1, v6.2.2.2.1, v6.2.2.2.2.1, v6.2.2.2.2.2.1, (wrapK .i64 ((wrapK .i64 ((wrapK .i64 ((wrapK .i64 ((wrapK .i64 ((wrapK .i64 (d.2.1 + (1 : Int))) + (1 : Int))) + (1 : Int))) + (1 : Int))) + (1 : Int))) + (1 : Int))), v6.2.2.2.2.2.2.2))[d.2.2.1.toNat]?).bind fun v8 =>
  (c_laws_markIntS k (v8.2.2.2.2.2.2.2.1, (wrapK .i64 ((wrapK .i64 ((wrapK .i64 ((wrapK .i64 ((wrapK .i64 ((wrapK .i64 ((wrapK .i64 (d.2.1 + (1 : Int))) + (1 : Int))) + (1 : Int))) + (1 : Int))) + (1 : Int))) + (1 : Int))) + (1 : Int))))).bind fun v9 =>
  ((((((((d.2.2.2.set d.2.2.1.toNat (d.2.1, v0.2)).set d.2.2.1.toNat (v1.1, (wrapK .i64 (d.2.1 + (1 : Int))), v1.2.2)).set d.2.2.1.toNat (v2.1, v2.2.1, (wrapK .i64 ((wrapK .i64 (d.2.1 + (1 : Int))) + (1 : Int))), v2.2.2.2)).set d.2.2.1.toNat (v3.1, v3.2.1, v3.2.2.1, (wrapK .i64 ((wrapK .i64 ((wrapK .i64 (d.2.1 + (1 : Int))) + (1 : Int))) + (1 : Int))), v3.2.2.2.2)).set d.2.2.1.toNat (v4.1, v4.2.1, v4.2.2.1, v4.2.2.2.1, (wrapK .i64 ((wrapK .i64 ((wrapK .i64 ((wrapK .i64 (d.2.1 + (1 : Int))) + (1 : Int))) + (1 : Int))) + (1 : Int))), v4.2.2.2.2.2)).set d.2.2.1.toNat (v5.1, v5.2.1, v5.2.2.1, v5.2.2.2.1, v5.2.2.2.2.1, (wrapK .i64 ((wrapK .i64 ((wrapK .i64 ((wrapK .i64 ((wrapK .i64 (d.2.1 + (1 : Int))) + (1 : Int))) + (1 : Int))) + (1 : Int))) + (1 : Int))), v5.2.2.2.2.2.2)).set d.2.2.1.toNat (v6.1, v6.2.1, v6.2.2.1, v6.2.2.2.1, v6.2.2.2.2.1, v6.2.2.2.2.2.1, (wrapK .i64 ((wrapK .i64 ((wrapK .i64 ((wrapK .i64 ((wrapK .i64 ((wrapK .i64 (d.2.1 + (1 : Int))) + (1 : Int))) + (1 : Int))) + (1 : Int))) + (1 : Int))) + (1 : Int))), v6.2.2.2.2.2.2.2))[d.2.2.1.toNat]?).bind fun v10 =>
  (if 0 ≤ d.2.2.1 then (if d.2.2.1 < (((((((((d.2.2.2.set d.2.2.1.toNat (d.2.1, v0.2)).set d.2.2.1.toNat (v1.1, (wrapK .i64 (d.2.1 + (1 : Int))), v1.2.2)).set d.2.2.1.toNat (v2.1, v2.2.1, (wrapK .i64 ((wrapK .i64 (d.2.1 + (1 : Int))) + (1 : Int))), v2.2.2.2)).set d.2.2.1.toNat (v3.1, v3.2.1, v3.2.2.1, (wrapK .i64 ((wrapK .i64 ((wrapK .i64 (d.2.1 + (1 : Int))) + (1 : Int))) + (1 : Int))), v3.2.2.2.2)).set d.2.2.1.toNat (v4.1, v4.2.1, v4.2.2.1, v4.2.2.2.1, (wrapK .i64 ((wrapK .i64 ((wrapK .i64 ((wrapK .i64 (d.2.1 + (1 : Int))) + (1 : Int))) + (1 : Int))) + (1 : Int))), v4.2.2.2.2.2)).set d.2.2.1.toNat (v5.1, v5.2.1, v5.2.2.1, v5.2.2.2.1, v5.2.2.2.2.1, (wrapK .i64 ((wrapK .i64 ((wrapK .i64 ((wrapK .i64 ((wrapK .i64 (d.2.1 + (1 : Int))) + (1 : Int))) + (1 : Int))) + (1 : Int))) + (1 : Int))), v5.2.2.2.2.2.2)).set d.2.2.1.toNat (v6.1, v6.2.1, v6.2.2.1, v6.2.2.2.1, v6.2.2.2.2.1, v6.2.2.2.2.2.1, (wrapK .i64 ((wrapK .i64 ((wrapK .i64 ((wrapK .i64 ((wrapK .i64 ((wrapK .i64 (d.2.1 + (1 : Int))) + (1 : Int))) + (1 : Int))) + (1 : Int))) + (1 : Int))) + (1 : Int))), v6.2.2.2.2.2.2.2)).set d.2.2.1.toNat (v10.1, v10.2.1, v10.2.2.1, v10.2.2.2.1, v10.2.2.2.2.1, v10.2.2.2.2.2.1, v10.2.2.2.2.2.2.1, v9.2, v10.2.2.2.2.2.2.2.2)).length : Int) then (((((((((d.2.2.2.set d.2.2.1.toNat (d.2.1, v0.2)).set d.2.2.1.toNat (v1.1, (wrapK .i64 (d.2.1 + (1 : Int))), v1.2.2)).set d.2.2.1.toNat (v2.1, v2.2.1, (wrapK .i64 ((wrapK .i64 (d.2.1 + (1 : Int))) + (1 : Int))), v2.2.2.2)).set d.2.2.1.toNat (v3.1, v3.2.1, v3.2.2.1, (wrapK .i64 ((wrapK .i64 ((wrapK .i64 (d.2.1 + (1 : Int))) + (1 : Int))) + (1 : Int))), v3.2.2.2.2)).set d.2.2.1.toNat (v4.1, v4.2.1, v4.2.2.1, v4.2.2.2.1, (wrapK .i64 ((wrapK .i64 ((wrapK .i64 ((wrapK .i64 (d.2.1 + (1 : Int))) + (1 : Int))) + (1 : Int))) + (1 : Int))), v4.2.2.2.2.2)).set d.2.2.1.toNat (v5.1, v5.2.1, v5.2.2.1, v5.2.2.2.1, v5.2.2.2.2.1, (wrapK .i64 ((wrapK .i64 ((wrapK .i64 ((wrapK .i64 ((wrapK .i64 (d.2.1 + (1 : Int))) + (1 : Int))) + (1 : Int))) + (1 : Int))) + (1 : Int))), v5.2.2.2.2.2.2)).set d.2.2.1.toNat (v6.1, v6.2.1, v6.2.2.1, v6.2.2.2.1, v6.2.2.2.2.1, v6.2.2.2.2.2.1, (wrapK .i64 ((wrapK .i64 ((wrapK .i64 ((wrapK .i64 ((wrapK .i64 ((wrapK .i64 (d.2.1 + (1 : Int))) + (1 : Int))) + (1 : Int))) + (1 : Int))) + (1 : Int))) + (1 : Int))), v6.2.2.2.2.2.2.2)).set d.2.2.1.toNat (v10.1, v10.2.1, v10.2.2.1, v10.2.2.2.1, v10.2.2.2.2.1, v10.2.2.2.2.2.1, v10.2.2.2.2.2.2.1, v9.2, v10.2.2.2.2.2.2.2.2))[d.2.2.1.toNat]?).bind fun v11 =>
  (((((((((d.2.2.2.set d.2.2.1.toNat (d.2.1, v0.2)).set d.2.2.1.toNat (v1.1, (wrapK .i64 (d.2.1 + (1 : Int))), v1.2.2)).set d.2.2.1.toNat (v2.1, v2.2.1, (wrapK .i64 ((wrapK .i64 (d.2.1 + (1 : Int))) + (1 : Int))), v2.2.2.2)).set d.2.2.1.toNat (v3.1, v3.2.1, v3.2.2.1, (wrapK .i64 ((wrapK .i64 ((wrapK .i64 (d.2.1 + (1 : Int))) + (1 : Int))) + (1 : Int))), v3.2.2.2.2)).set d.2.2.1.toNat (v4.1, v4.2.1, v4.2.2.1, v4.2.2.2.1, (wrapK .i64 ((wrapK .i64 ((wrapK .i64 ((wrapK .i64 (d.2.1 + (1 : Int))) + (1 : Int))) + (1 : Int))) + (1 : Int))), v4.2.2.2.2.2)).set d.2.2.1.toNat (v5.1, v5.2.1, v5.2.2.1, v5.2.2.2.1, v5.2.2.2.2.1, (wrapK .i64 ((wrapK .i64 ((wrapK .i64 ((wrapK .i64 ((wrapK .i64 (d.2.1 + (1 : Int))) + (1 : Int))) + (1 : Int))) + (1 : Int))) + (1 : Int))), v5.2.2.2.2.2.2)).set d.2.2.1.toNat (v6.1, v6.2.1, v6.2.2.1, v6.2.2.2.1, v6.2.2.2.2.1, v6.2.2.2.2.2.1, (wrapK .i64 ((wrapK .i64 ((wrapK .i64 ((wrapK .i64 ((wrapK .i64 ((wrapK .i64 (d.2.1 + (1 : Int))) + (1 : Int))) + (1 : Int))) + (1 : Int))) + (1 : Int))) + (1 : Int))), v6.2.2.2.2.2.2.2)).set d.2.2.1.toNat (v10.1, v10.2.1, v10.2.2.1, v10.2.2.2.1, v10.2.2.2.2.1, v10.2.2.2.2.2.1, v10.2.2.2.2.2.2.1, v9.2, v10.2.2.2.2.2.2.2.2))[d.2.2.1.toNat]?).bind fun v12 =>
  (c_laws_markAclEntryS k (v12.2.2.2.2.2.2.2.2.1, v9.1)).bind fun v13 =>
  (((((((((d.2.2.2.set d.2.2.1.toNat (d.2.1, v0.2)).set d.2.2.1.toNat (v1.1, (wrapK .i64 (d.2.1 + (1 : Int))), v1.2.2)).set d.2.2.1.toNat (v2.1, v2.2.1, (wrapK .i64 ((wrapK .i64 (d.2.1 + (1 : Int))) + (1 : Int))), v2.2.2.2)).set d.2.2.1.toNat (v3.1, v3.2.1, v3.2.2.1, (wrapK .i64 ((wrapK .i64 ((wrapK .i64 (d.2.1 + (1 : Int))) + (1 : Int))) + (1 : Int))), v3.2.2.2.2)).set d.2.2.1.toNat (v4.1, v4.2.1, v4.2.2.1, v4.2.2.2.1, (wrapK .i64 ((wrapK .i64 ((wrapK .i64 ((wrapK .i64 (d.2.1 + (1 : Int))) + (1 : Int))) + (1 : Int))) + (1 : Int))), v4.2.2.2.2.2)).set d.2.2.1.toNat (v5.1, v5.2.1, v5.2.2.1, v5.2.2.2.1, v5.2.2.2.2.1, (wrapK .i64 ((wrapK .i64 ((wrapK .i64 ((wrapK .i64 ((wrapK .i64 (d.2.1 + (1 : Int))) + (1 : Int))) + (1 : Int))) + (1 : Int))) + (1 : Int))), v5.2.2.2.2.2.2)).set d.2.2.1.toNat (v6.1, v6.2.1, v6.2.2.1, v6.2.2.2.1, v6.2.2.2.2.1, v6.2.2.2.2.2.1, (wrapK .i64 ((wrapK .i64 ((wrapK .i64 ((wrapK .i64 ((wrapK .i64 ((wrapK .i64 (d.2.1 + (1 : Int))) + (1 : Int))) + (1 : Int))) + (1 : Int))) + (1 : Int))) + (1 : Int))), v6.2.2.2.2.2.2.2)).set d.2.2.1.toNat (v10.1, v10.2.1, v10.2.2.1, v10.2.2.2.1, v10.2.2.2.2.1, v10.2.2.2.2.2.1, v10.2.2.2.2.2.2.1, v9.2, v10.2.2.2.2.2.2.2.2))[d.2.2.1.toNat]?).bind fun v14 =>
  (if 0 ≤ d.2.2.1 then (if d.2.2.1 < ((((((((((d.2.2.2.set d.2.2.1.toNat (d.2.1, v0.2)).set d.2.2.1.toNat (v1.1, (wrapK .i64 (d.2.1 + (1 : Int))), v1.2.2)).set d.2.2.1.toNat (v2.1, v2.2.1, (wrapK .i64 ((wrapK .i64 (d.2.1 + (1 : Int))) + (1 : Int))), v2.2.2.2)).set d.2.2.1.toNat (v3.1, v3.2.1, v3.2.2.1, (wrapK .i64 ((wrapK .i64 ((wrapK .i64 (d.2.1 + (1 : Int))) + (1 : Int))) + (1 : Int))), v3.2.2.2.2)).set d.2.2.1.toNat (v4.1, v4.2.1, v4.2.2.1, v4.2.2.2.1, (wrapK .i64 ((wrapK .i64 ((wrapK .i64 ((wrapK .i64 (d.2.1 + (1 : Int))) + (1 : Int))) + (1 : Int))) + (1 : Int))), v4.2.2.2.2.2)).set d.2.2.1.toNat (v5.1, v5.2.1, v5.2.2.1, v5.2.2.2.1, v5.2.2.2.2.1, (wrapK .i64 ((wrapK .i64 ((wrapK .i64 ((wrapK .i64 ((wrapK .i64 (d.2.1 + (1 : Int))) + (1 : Int))) + (1 : Int))) + (1 : Int))) + (1 : Int))), v5.2.2.2.2.2.2)).set d.2.2.1.toNat (v6.1, v6.2.1, v6.2.2.1, v6.2.2.2.1, v6.2.2.2.2.1, v6.2.2.2.2.2.1, (wrapK .i64 ((wrapK .i64 ((wrapK .i64 ((wrapK .i64 ((wrapK .i64 ((wrapK .i64 (d.2.1 + (1 : Int))) + (1 : Int))) + (1 : Int))) + (1 : Int))) + (1 : Int))) + (1 : Int))), v6.2.2.2.2.2.2.2)).set d.2.2.1.toNat (v10.1, v10.2.1, v10.2.2.1, v10.2.2.2.1, v10.2.2.2.2.1, v10.2.2.2.2.2.1, v10.2.2.2.2.2.2.1, v9.2, v10.2.2.2.2.2.2.2.2)).set d.2.2.1.toNat (v14.1, v14.2.1, v14.2.2.1, v14.2.2.2.1, v14.2.2.2.2.1, v14.2.2.2.2.2.1, v14.2.2.2.2.2.2.1, v14.2.2.2.2.2.2.2.1, v13.2, v14.2.2.2.2.2.2.2.2.2)).length : Int) then ((((((((((d.2.2.2.set d.2.2.1.toNat (d.2.1, v0.2)).set d.2.2.1.toNat (v1.1, (wrapK .i64 (d.2.1 + (1 : Int))), v1.2.2)).set d.2.2.1.toNat (v2.1, v2.2.1, (wrapK .i64 ((wrapK .i64 (d.2.1 + (1 : Int))) + (1 : Int))), v2.2.2.2)).set d.2.2.1.toNat (v3.1, v3.2.1, v3.2.2.1, (wrapK .i64 ((wrapK .i64 ((wrapK .i64 (d.2.1 + (1 : Int))) + (1 : Int))) + (1 : Int))), v3.2.2.2.2)).set d.2.2.1.toNat (v4.1, v4.2.1, v4.2.2.1, v4.2.2.2.1, (wrapK .i64 ((wrapK .i64 ((wrapK .i64 ((wrapK .i64 (d.2.1 + (1 : Int))) + (1 : Int))) + (1 : Int))) + (1 : Int))), v4.2.2.2.2.2)).set d.2.2.1.toNat (v5.1, v5.2.1, v5.2.2.1, v5.2.2.2.1, v5.2.2.2.2.1, (wrapK .i64 ((wrapK .i64 ((wrapK .i64 ((wrapK .i64 ((wrapK .i64 (d.2.1 + (1 : Int))) + (1 : Int))) + (1 : Int))) + (1 : Int))) + (1 : Int))), v5.2.2.2.2.2.2)).set d.2.2.1.toNat (v6.1, v6.2.1, v6.2.2.1, v6.2.2.2.1, v6.2.2.2.2.1, v6.2.2.2.2.2.1, (wrapK .i64 ((wrapK .i64 ((wrapK .i64 ((wrapK .i64 ((wrapK .i64 ((wrapK .i64 (d.2.1 + (1 : Int))) + (1 : Int))) + (1 : Int))) + (1 : Int))) + (1 : Int))) + (1 : Int))), v6.2.2.2.2.2.2.2)).set d.2.2.1.toNat (v10.1, v10.2.1, v10.2.2.1, v10.2.2.2.1, v10.2.2.2.2.1, v10.2.2.2.2.2.1, v10.2.2.2.2.2.2.1, v9.2, v10.2.2.2.2.2.2.2.2)).set d.2.2.1.toNat (v14.1, v14.2.1, v14.2.2.1, v14.2.2.2.1, v14.2.2.2.2.1, v14.2.2.2.2.2.1, v14.2.2.2.2.2.2.1, v14.2.2.2.2.2.2.2.1, v13.2, v14.2.2.2.2.2.2.2.2.2))[d.2.2.1.toNat]?).bind fun v15 =>
  ((((((((((d.2.2.2.set d.2.2.1.toNat (d.2.1, v0.2)).set d.2.2.1.toNat (v1.1, (wrapK .i64 (d.2.1 + (1 : Int))), v1.2.2)).set d.2.2.1.toNat (v2.1, v2.2.1, (wrapK .i64 ((wrapK .i64 (d.2.1 + (1 : Int))) + (1 : Int))), v2.2.2.2)).set d.2.2.1.toNat (v3.1, v3.2.1, v3.2.2.1, (wrapK .i64 ((wrapK .i64 ((wrapK .i64 (d.2.1 + (1 : Int))) + (1 : Int))) + (1 : Int))), v3.2.2.2.2)).set d.2.2.1.toNat (v4.1, v4.2.1, v4.2.2.1, v4.2.2.2.1, (wrapK .i64 ((wrapK .i64 ((wrapK .i64 ((wrapK .i64 (d.2.1 + (1 : Int))) + (1 : Int))) + (1 : Int))) + (1 : Int))), v4.2.2.2.2.2)).set d.2.2.1.toNat (v5.1, v5.2.1, v5.2.2.1, v5.2.2.2.1, v5.2.2.2.2.1, (wrapK .i64 ((wrapK .i64 ((wrapK .i64 ((wrapK .i64 ((wrapK .i64 (d.2.1 + (1 : Int))) + (1 : Int))) + (1 : Int))) + (1 : Int))) + (1 : Int))), v5.2.2.2.2.2.2)).set d.2.2.1.toNat (v6.1, v6.2.1, v6.2.2.1, v6.2.2.2.1, v6.2.2.2.2.1, v6.2.2.2.2.2.1, (wrapK .i64 ((wrapK .i64 ((wrapK .i64 ((wrapK .i64 ((wrapK .i64 ((wrapK .i64 (d.2.1 + (1 : Int))) + (1 : Int))) + (1 : Int))) + (1 : Int))) + (1 : Int))) + (1 : Int))), v6.2.2.2.2.2.2.2)).set d.2.2.1.toNat (v10.1, v10.2.1, v10.2.2.1, v10.2.2.2.1, v10.2.2.2.2.1, v10.2.2.2.2.2.1, v10.2.2.2.2.2.2.1, v9.2, v10.2.2.2.2.2.2.2.2)).set d.2.2.1.toNat (v14.1, v14.2.1, v14.2.2.1, v14.2.2.2.1, v14.2.2.2.2.1, v14.2.2.2.2.2.1, v14.2.2.2.2.2.2.1, v14.2.2.2.2.2.2.2.1, v13.2, v14.2.2.2.2.2.2.2.2.2))[d.2.2.1.toNat]?).bind fun v16 =>
  (c_laws_markAclEntryS k (v16.2.2.2.2.2.2.2.2.2, v13.1)).bind fun v17 =>
  ((((((((((d.2.2.2.set d.2.2.1.toNat (d.2.1, v0.2)).set d.2.2.1.toNat (v1.1, (wrapK .i64 (d.2.1 + (1 : Int))), v1.2.2)).set d.2.2.1.toNat (v2.1, v2.2.1, (wrapK .i64 ((wrapK .i64 (d.2.1 + (1 : Int))) + (1 : Int))), v2.2.2.2)).set d.2.2.1.toNat (v3.1, v3.2.1, v3.2.2.1, (wrapK .i64 ((wrapK .i64 ((wrapK .i64 (d.2.1 + (1 : Int))) + (1 : Int))) + (1 : Int))), v3.2.2.2.2)).set d.2.2.1.toNat (v4.1, v4.2.1, v4.2.2.1, v4.2.2.2.1, (wrapK .i64 ((wrapK .i64 ((wrapK .i64 ((wrapK .i64 (d.2.1 + (1 : Int))) + (1 : Int))) + (1 : Int))) + (1 : Int))), v4.2.2.2.2.2)).set d.2.2.1.toNat (v5.1, v5.2.1, v5.2.2.1, v5.2.2.2.1, v5.2.2.2.2.1, (wrapK .i64 ((wrapK .i64 ((wrapK .i64 ((wrapK .i64 ((wrapK .i64 (d.2.1 + (1 : Int))) + (1 : Int))) + (1 : Int))) + (1 : Int))) + (1 : Int))), v5.2.2.2.2.2.2)).set d.2.2.1.toNat (v6.1, v6.2.1, v6.2.2.1, v6.2.2.2.1, v6.2.2.2.2.1, v6.2.2.2.2.2.1, (wrapK .i64 ((wrapK .i64 ((wrapK .i64 ((wrapK .i64 ((wrapK .i64 ((wrapK .i64 (d.2.1 + (1 : Int))) + (1 : Int))) + (1 : Int))) + (1 : Int))) + (1 : Int))) + (1 : Int))), v6.2.2.2.2.2.2.2)).set d.2.2.1.toNat (v10.1, v10.2.1, v10.2.2.1, v10.2.2.2.1, v10.2.2.2.2.1, v10.2.2.2.2.2.1, v10.2.2.2.2.2.2.1, v9.2, v10.2.2.2.2.2.2.2.2)).set d.2.2.1.toNat (v14.1, v14.2.1, v14.2.2.1, v14.2.2.2.1, v14.2.2.2.2.1, v14.2.2.2.2.2.1, v14.2.2.2.2.2.2.1, v14.2.2.2.2.2.2.2.1, v13.2, v14.2.2.2.2.2.2.2.2.2))[d.2.2.1.toNat]?).bind fun v18 =>
  self ((), v17.1, (wrapK .i64 (d.2.2.1 + (1 : Int))), ((((((((((d.2.2.2.set d.2.2.1.toNat (d.2.1, v0.2)).set d.2.2.1.toNat (v1.1, (wrapK .i64 (d.2.1 + (1 : Int))), v1.2.2)).set d.2.2.1.toNat (v2.1, v2.2.1, (wrapK .i64 ((wrapK .i64 (d.2.1 + (1 : Int))) + (1 : Int))), v2.2.2.2)).set d.2.2.1.toNat (v3.1, v3.2.1, v3.2.2.1, (wrapK .i64 ((wrapK .i64 ((wrapK .i64 (d.2.1 + (1 : Int))) + (1 : Int))) + (1 : Int))), v3.2.2.2.2)).set d.2.2.1.toNat (v4.1, v4.2.1, v4.2.2.1, v4.2.2.2.1, (wrapK .i64 ((wrapK .i64 ((wrapK .i64 ((wrapK .i64 (d.2.1 + (1 : Int))) + (1 : Int))) + (1 : Int))) + (1 : Int))), v4.2.2.2.2.2)).set d.2.2.1.toNat (v5.1, v5.2.1, v5.2.2.1, v5.2.2.2.1, v5.2.2.2.2.1, (wrapK .i64 ((wrapK .i64 ((wrapK .i64 ((wrapK .i64 ((wrapK .i64 (d.2.1 + (1 : Int))) + (1 : Int))) + (1 : Int))) + (1 : Int))) + (1 : Int))), v5.2.2.2.2.2.2)).set d.2.2.1.toNat (v6.1, v6.2.1, v6.2.2.1, v6.2.2.2.1, v6.2.2.2.2.1, v6.2.2.2.2.2.1, (wrapK .i64 ((wrapK .i64 ((wrapK .i64 ((wrapK .i64 ((wrapK .i64 ((wrapK .i64 (d.2.1 + (1 : Int))) + (1 : Int))) + (1 : Int))) + (1 : Int))) + (1 : Int))) + (1 : Int))), v6.2.2.2.2.2.2.2)).set d.2.2.1.toNat (v10.1, v10.2.1, v10.2.2.1, v10.2.2.2.1, v10.2.2.2.2.1, v10.2.2.2.2.2.1, v10.2.2.2.2.2.2.1, v9.2, v10.2.2.2.2.2.2.2.2)).set d.2.2.1.toNat (v14.1, v14.2.1, v14.2.2.1, v14.2.2.2.1, v14.2.2.2.2.1, v14.2.2.2.2.2.1, v14.2.2.2.2.2.2.1, v14.2.2.2.2.2.2.2.1, v13.2, v14.2.2.2.2.2.2.2.2.2)).set d.2.2.1.toNat (v18.1, v18.2.1, v18.2.2.1, v18.2.2.2.1, v18.2.2.2.2.1, v18.2.2.2.2.2.1, v18.2.2.2.2.2.2.1, v18.2.2.2.2.2.2.2.1, v18.2.2.2.2.2.2.2.2.1, v17.2))) else none) else none) else none) else none) else none) else none) else none) else none) else none) else none) else none) else none) else none) else none) else none) else none) else none) else none) else none) else none) else some (d.2.1, d.2.2.2))
noncomputable def laws_markInodeS (k : Nat) (x0 : (List DInode)) (x1 : Int) : Option (Int × (List DInode)) :=
  iter k (laws_markInodeS_l1 k) ((), x1, (0 : Int), x0)
set_option maxHeartbeats 0 in
theorem laws_markInodeS_run (k : Nat) (x0 : (List DInode)) (x1 : Int) : c_laws_markInodeS (k + 1) (x0, x1) = laws_markInodeS k x0 x1 := by kernel_rfl
noncomputable def laws_markText_l1 (k : Nat) (self : DWrite → Option ByteArray) (d : DWrite) : Option ByteArray :=
  (bif (decide ((0 : Int) < d.1)) then (if ((10 : Int) : Int) ≠ 0 then (if (ofBytes ([(wrapK .u8 (wrapK .i64 ((48 : Int) + (d.1.tmod (10 : Int)))))] : List Int)).size + d.2.size ≤ 9223372036854775807 then (if ((10 : Int) : Int) ≠ 0 then self ((wrapK .i64 (d.1.tdiv (10 : Int))), ((ofBytes ([(wrapK .u8 (wrapK .i64 ((48 : Int) + (d.1.tmod (10 : Int)))))] : List Int)) ++ d.2)) else none) else none) else none) else (if (⟨#[109]⟩ : ByteArray).size + d.2.size ≤ 9223372036854775807 then some ((⟨#[109]⟩ : ByteArray) ++ d.2) else none))
noncomputable def laws_markText (k : Nat) (x0 : Int) : Option ByteArray :=
  (bif (decide (x0 ≤ (0 : Int))) then some (⟨#[109, 48]⟩ : ByteArray) else iter k (laws_markText_l1 k) (x0, (⟨#[]⟩ : ByteArray)))
set_option maxHeartbeats 0 in
theorem laws_markText_run (k : Nat) (x0 : Int) : c_laws_markText (k + 1) (x0) = laws_markText k x0 := by kernel_rfl
noncomputable def laws_markStringS_l1 (k : Nat) (self : (Unit × (Int × (Int × (List ByteArray)))) → Option (Int × (List ByteArray))) (d : (Unit × (Int × (Int × (List ByteArray))))) : Option (Int × (List ByteArray)) :=
  (bif (decide (d.2.2.1 < (d.2.2.2.length : Int))) then (c_laws_markText k d.2.1).bind fun v0 =>
  (if 0 ≤ d.2.2.1 then (if d.2.2.1 < (d.2.2.2.length : Int) then (d.2.2.2[d.2.2.1.toNat]?).bind fun v1 =>
  self ((), (wrapK .i64 (d.2.1 + (1 : Int))), (wrapK .i64 (d.2.2.1 + (1 : Int))), (d.2.2.2.set d.2.2.1.toNat v0)) else none) else none) else some (d.2.1, d.2.2.2))
noncomputable def laws_markStringS (k : Nat) (x0 : (List ByteArray)) (x1 : Int) : Option (Int × (List ByteArray)) :=
  iter k (laws_markStringS_l1 k) ((), x1, (0 : Int), x0)
set_option maxHeartbeats 0 in
theorem laws_markStringS_run (k : Nat) (x0 : (List ByteArray)) (x1 : Int) : c_laws_markStringS (k + 1) (x0, x1) = laws_markStringS k x0 x1 := by kernel_rfl
noncomputable def laws_markFS (k : Nat) (x0 : DFS) (x1 : Int) : Option Int :=
  (c_laws_markQuotaS k (x0.2.1, x1)).bind fun y1 =>
  (c_laws_markInodeS k (x0.2.2.1, y1.1)).bind fun y2 =>
  (c_laws_markStringS k (x0.2.2.2, y2.1)).bind fun y3 =>
  some y3.1
set_option maxHeartbeats 0 in
theorem laws_markFS_run (k : Nat) (x0 : DFS) (x1 : Int) : c_laws_markFS (k + 1) (x0, x1) = laws_markFS k x0 x1 := by kernel_rfl
noncomputable def laws_markOpenS_l1 (k : Nat) (self : (Unit × (Int × (Int × (List DOpen)))) → Option (Int × (List DOpen))) (d : (Unit × (Int × (Int × (List DOpen))))) : Option (Int × (List DOpen)) :=
  (bif (decide (d.2.2.1 < (d.2.2.2.length : Int))) then (if 0 ≤ d.2.2.1 then (if d.2.2.1 < (d.2.2.2.length : Int) then (d.2.2.2[d.2.2.1.toNat]?).bind fun v0 =>
  (if 0 ≤ d.2.2.1 then (if d.2.2.1 < ((d.2.2.2.set d.2.2.1.toNat (d.2.1, v0.2)).length : Int) then ((d.2.2.2.set d.2.2.1.toNat (d.2.1, v0.2))[d.2.2.1.toNat]?).bind fun v1 =>
  (if 0 ≤ d.2.2.1 then (if d.2.2.1 < (((d.2.2.2.set d.2.2.1.toNat (d.2.1, v0.2)).set d.2.2.1.toNat (v1.1, (wrapK .i64 (d.2.1 + (1 : Int))), v1.2.2)).length : Int) then (((d.2.2.2.set d.2.2.1.toNat (d.2.1, v0.2)).set d.2.2.1.toNat (v1.1, (wrapK .i64 (d.2.1 + (1 : Int))), v1.2.2))[d.2.2.1.toNat]?).bind fun v2 =>
  self ((), (wrapK .i64 ((wrapK .i64 ((wrapK .i64 (d.2.1 + (1 : Int))) + (1 : Int))) + (1 : Int))), (wrapK .i64 (d.2.2.1 + (1 : Int))), (((d.2.2.2.set d.2.2.1.toNat (d.2.1, v0.2)).set d.2.2.1.toNat (v1.1, (wrapK .i64 (d.2.1 + (1 : Int))), v1.2.2)).set d.2.2.1.toNat (v2.1, v2.2.1, (wrapK .i64 ((wrapK .i64 (d.2.1 + (1 : Int))) + (1 : Int)))))) else none) else none) else none) else none) else none) else none) else some (d.2.1, d.2.2.2))
noncomputable def laws_markOpenS (k : Nat) (x0 : (List DOpen)) (x1 : Int) : Option (Int × (List DOpen)) :=
  iter k (laws_markOpenS_l1 k) ((), x1, (0 : Int), x0)
set_option maxHeartbeats 0 in
theorem laws_markOpenS_run (k : Nat) (x0 : (List DOpen)) (x1 : Int) : c_laws_markOpenS (k + 1) (x0, x1) = laws_markOpenS k x0 x1 := by kernel_rfl
noncomputable def laws_markProcS_l1 (k : Nat) (self : (Unit × (Int × (Int × (List DProc)))) → Option (Int × (List DProc))) (d : (Unit × (Int × (Int × (List DProc))))) : Option (Int × (List DProc)) :=
  (bif (decide (d.2.2.1 < (d.2.2.2.length : Int))) then (if 0 ≤ d.2.2.1 then (if d.2.2.1 < (d.2.2.2.length : Int) then (d.2.2.2[d.2.2.1.toNat]?).bind fun v0 =>
  (if 0 ≤ d.2.2.1 then (if d.2.2.1 < ((d.2.2.2.set d.2.2.1.toNat ((d.2.1, v0.1.2), v0.2)).length : Int) then ((d.2.2.2.set d.2.2.1.toNat ((d.2.1, v0.1.2), v0.2))[d.2.2.1.toNat]?).bind fun v1 =>
  (if 0 ≤ d.2.2.1 then (if d.2.2.1 < (((d.2.2.2.set d.2.2.1.toNat ((d.2.1, v0.1.2), v0.2)).set d.2.2.1.toNat ((v1.1.1, (wrapK .i64 (d.2.1 + (1 : Int))), v1.1.2.2), v1.2)).length : Int) then (((d.2.2.2.set d.2.2.1.toNat ((d.2.1, v0.1.2), v0.2)).set d.2.2.1.toNat ((v1.1.1, (wrapK .i64 (d.2.1 + (1 : Int))), v1.1.2.2), v1.2))[d.2.2.1.toNat]?).bind fun v2 =>
  (((d.2.2.2.set d.2.2.1.toNat ((d.2.1, v0.1.2), v0.2)).set d.2.2.1.toNat ((v1.1.1, (wrapK .i64 (d.2.1 + (1 : Int))), v1.1.2.2), v1.2))[d.2.2.1.toNat]?).bind fun v3 =>
  (c_laws_markIntS k (v3.1.2.2, (wrapK .i64 ((wrapK .i64 (d.2.1 + (1 : Int))) + (1 : Int))))).bind fun v4 =>
  (((d.2.2.2.set d.2.2.1.toNat ((d.2.1, v0.1.2), v0.2)).set d.2.2.1.toNat ((v1.1.1, (wrapK .i64 (d.2.1 + (1 : Int))), v1.1.2.2), v1.2))[d.2.2.1.toNat]?).bind fun v5 =>
  (if 0 ≤ d.2.2.1 then (if d.2.2.1 < ((((d.2.2.2.set d.2.2.1.toNat ((d.2.1, v0.1.2), v0.2)).set d.2.2.1.toNat ((v1.1.1, (wrapK .i64 (d.2.1 + (1 : Int))), v1.1.2.2), v1.2)).set d.2.2.1.toNat ((v5.1.1, v5.1.2.1, v4.2), v5.2)).length : Int) then ((((d.2.2.2.set d.2.2.1.toNat ((d.2.1, v0.1.2), v0.2)).set d.2.2.1.toNat ((v1.1.1, (wrapK .i64 (d.2.1 + (1 : Int))), v1.1.2.2), v1.2)).set d.2.2.1.toNat ((v5.1.1, v5.1.2.1, v4.2), v5.2))[d.2.2.1.toNat]?).bind fun v6 =>
  ((((d.2.2.2.set d.2.2.1.toNat ((d.2.1, v0.1.2), v0.2)).set d.2.2.1.toNat ((v1.1.1, (wrapK .i64 (d.2.1 + (1 : Int))), v1.1.2.2), v1.2)).set d.2.2.1.toNat ((v5.1.1, v5.1.2.1, v4.2), v5.2))[d.2.2.1.toNat]?).bind fun v7 =>
  (c_laws_markOpenS k (v7.2, v4.1)).bind fun v8 =>
  ((((d.2.2.2.set d.2.2.1.toNat ((d.2.1, v0.1.2), v0.2)).set d.2.2.1.toNat ((v1.1.1, (wrapK .i64 (d.2.1 + (1 : Int))), v1.1.2.2), v1.2)).set d.2.2.1.toNat ((v5.1.1, v5.1.2.1, v4.2), v5.2))[d.2.2.1.toNat]?).bind fun v9 =>
  self ((), v8.1, (wrapK .i64 (d.2.2.1 + (1 : Int))), ((((d.2.2.2.set d.2.2.1.toNat ((d.2.1, v0.1.2), v0.2)).set d.2.2.1.toNat ((v1.1.1, (wrapK .i64 (d.2.1 + (1 : Int))), v1.1.2.2), v1.2)).set d.2.2.1.toNat ((v5.1.1, v5.1.2.1, v4.2), v5.2)).set d.2.2.1.toNat (v9.1, v8.2))) else none) else none) else none) else none) else none) else none) else none) else none) else some (d.2.1, d.2.2.2))
noncomputable def laws_markProcS (k : Nat) (x0 : (List DProc)) (x1 : Int) : Option (Int × (List DProc)) :=
  iter k (laws_markProcS_l1 k) ((), x1, (0 : Int), x0)
set_option maxHeartbeats 0 in
theorem laws_markProcS_run (k : Nat) (x0 : (List DProc)) (x1 : Int) : c_laws_markProcS (k + 1) (x0, x1) = laws_markProcS k x0 x1 := by kernel_rfl
noncomputable def laws_markSystem (k : Nat) (x0 : DSystem) (x1 : Int) : Option Int :=
  (c_laws_markFS k (x0.1, x1)).bind fun y1 =>
  (c_laws_markProcS k (x0.2, y1)).bind fun y2 =>
  some y2.1
set_option maxHeartbeats 0 in
theorem laws_markSystem_run (k : Nat) (x0 : DSystem) (x1 : Int) : c_laws_markSystem (k + 1) (x0, x1) = laws_markSystem k x0 x1 := by kernel_rfl
noncomputable def laws_markCredS_l1 (k : Nat) (self : (Unit × (Int × (Int × (List DCred)))) → Option (Int × (List DCred))) (d : (Unit × (Int × (Int × (List DCred))))) : Option (Int × (List DCred)) :=
  (bif (decide (d.2.2.1 < (d.2.2.2.length : Int))) then (if 0 ≤ d.2.2.1 then (if d.2.2.1 < (d.2.2.2.length : Int) then (d.2.2.2[d.2.2.1.toNat]?).bind fun v0 =>
  (if 0 ≤ d.2.2.1 then (if d.2.2.1 < ((d.2.2.2.set d.2.2.1.toNat (d.2.1, v0.2)).length : Int) then ((d.2.2.2.set d.2.2.1.toNat (d.2.1, v0.2))[d.2.2.1.toNat]?).bind fun v1 =>
  (if 0 ≤ d.2.2.1 then (if d.2.2.1 < (((d.2.2.2.set d.2.2.1.toNat (d.2.1, v0.2)).set d.2.2.1.toNat (v1.1, (wrapK .i64 (d.2.1 + (1 : Int))), v1.2.2)).length : Int) then (((d.2.2.2.set d.2.2.1.toNat (d.2.1, v0.2)).set d.2.2.1.toNat (v1.1, (wrapK .i64 (d.2.1 + (1 : Int))), v1.2.2))[d.2.2.1.toNat]?).bind fun v2 =>
  (((d.2.2.2.set d.2.2.1.toNat (d.2.1, v0.2)).set d.2.2.1.toNat (v1.1, (wrapK .i64 (d.2.1 + (1 : Int))), v1.2.2))[d.2.2.1.toNat]?).bind fun v3 =>
  (c_laws_markIntS k (v3.2.2, (wrapK .i64 ((wrapK .i64 (d.2.1 + (1 : Int))) + (1 : Int))))).bind fun v4 =>
  (((d.2.2.2.set d.2.2.1.toNat (d.2.1, v0.2)).set d.2.2.1.toNat (v1.1, (wrapK .i64 (d.2.1 + (1 : Int))), v1.2.2))[d.2.2.1.toNat]?).bind fun v5 =>
  self ((), v4.1, (wrapK .i64 (d.2.2.1 + (1 : Int))), (((d.2.2.2.set d.2.2.1.toNat (d.2.1, v0.2)).set d.2.2.1.toNat (v1.1, (wrapK .i64 (d.2.1 + (1 : Int))), v1.2.2)).set d.2.2.1.toNat (v5.1, v5.2.1, v4.2))) else none) else none) else none) else none) else none) else none) else some (d.2.1, d.2.2.2))
noncomputable def laws_markCredS (k : Nat) (x0 : (List DCred)) (x1 : Int) : Option (Int × (List DCred)) :=
  iter k (laws_markCredS_l1 k) ((), x1, (0 : Int), x0)
set_option maxHeartbeats 0 in
theorem laws_markCredS_run (k : Nat) (x0 : (List DCred)) (x1 : Int) : c_laws_markCredS (k + 1) (x0, x1) = laws_markCredS k x0 x1 := by kernel_rfl
noncomputable def laws_heldIntS_l1 (k : Nat) (self : ((List Int) × DQuota) → Option Int) (d : ((List Int) × DQuota)) : Option Int :=
  (bif (decide (d.2.2 < (d.1.length : Int))) then (if 0 ≤ d.2.2 then (d.1[d.2.2.toNat]?).bind fun v0 =>
  (bif (v0 != d.2.1) then some (-1 : Int) else self (d.1, (wrapK .i64 (d.2.1 + (1 : Int))), (wrapK .i64 (d.2.2 + (1 : Int))))) else none) else some d.2.1)
noncomputable def laws_heldIntS (k : Nat) (x0 : (List Int)) (x1 : Int) : Option Int :=
  iter k (laws_heldIntS_l1 k) (x0, x1, (0 : Int))
set_option maxHeartbeats 0 in
theorem laws_heldIntS_run (k : Nat) (x0 : (List Int)) (x1 : Int) : c_laws_heldIntS (k + 1) (x0, x1) = laws_heldIntS k x0 x1 := by kernel_rfl
noncomputable def laws_heldCredS_l1 (k : Nat) (self : ((List DCred) × DQuota) → Option Int) (d : ((List DCred) × DQuota)) : Option Int :=
  (bif (decide (d.2.2 < (d.1.length : Int))) then (if 0 ≤ d.2.2 then (d.1[d.2.2.toNat]?).bind fun v0 =>
  (bif (v0.1 != d.2.1) then some (-1 : Int) else (if 0 ≤ d.2.2 then (d.1[d.2.2.toNat]?).bind fun v1 =>
  (bif (v1.2.1 != (wrapK .i64 (d.2.1 + (1 : Int)))) then some (-1 : Int) else (if 0 ≤ d.2.2 then (d.1[d.2.2.toNat]?).bind fun v2 =>
  (c_laws_heldIntS k (v2.2.2, (wrapK .i64 ((wrapK .i64 (d.2.1 + (1 : Int))) + (1 : Int))))).bind fun v3 =>
  (bif (decide (v3 < (0 : Int))) then some (-1 : Int) else self (d.1, v3, (wrapK .i64 (d.2.2 + (1 : Int))))) else none)) else none)) else none) else some d.2.1)
noncomputable def laws_heldCredS (k : Nat) (x0 : (List DCred)) (x1 : Int) : Option Int :=
  iter k (laws_heldCredS_l1 k) (x0, x1, (0 : Int))
set_option maxHeartbeats 0 in
theorem laws_heldCredS_run (k : Nat) (x0 : (List DCred)) (x1 : Int) : c_laws_heldCredS (k + 1) (x0, x1) = laws_heldCredS k x0 x1 := by kernel_rfl
noncomputable def laws_FnExactCredsOf (k : Nat) (x0 : DSystem) : Option Bool :=
  (c_laws_szSystem k (x0, (1048576 : Int))).bind fun y1 =>
  (bif (decide (y1 < (0 : Int))) then some true else (c_laws_toSystem k x0).bind fun y2 =>
  (c_spec_CredsOf k y2).bind fun y3 =>
  (c_laws_toSystem k x0).bind fun y4 =>
  (c_impl_CredsOf k y4).bind fun y5 =>
  (c_laws_eqCredS k (y5, y3)).bind fun y6 =>
  (bif (!y6) then some false else (c_laws_toSystem k x0).bind fun y7 =>
  (c_laws_eqSystem k (y4, y7)).bind fun y8 =>
  (bif (!y8) then some false else (c_laws_markSystem k (y4, (1 : Int))).bind fun y9 =>
  (bif (decide (y9 < (0 : Int))) then some false else (c_laws_eqCredS k (y5, y3)).bind fun y10 =>
  (bif (!y10) then some false else (c_laws_markCredS k (y5, (1 : Int))).bind fun y11 =>
  (c_laws_heldCredS k (y11.2, (1 : Int))).bind fun y12 =>
  (bif (decide (y12 < (0 : Int))) then some false else (bif (y12 != y11.1) then some false else (c_laws_toSystem k x0).bind fun y13 =>
  (c_impl_CredsOf k y13).bind fun y14 =>
  (c_laws_eqCredS k (y14, y3)).bind fun y15 =>
  (bif (!y15) then some false else (c_laws_heldCredS k (y11.2, (1 : Int))).bind fun y16 =>
  (bif (decide (y16 < (0 : Int))) then some false else (bif (y16 != y11.1) then some false else some true))))))))))
set_option maxHeartbeats 0 in
theorem laws_FnExactCredsOf_run (k : Nat) (x0 : DSystem) : c_laws_FnExactCredsOf (k + 1) (x0) = laws_FnExactCredsOf k x0 := by kernel_rfl
end Go.Proofs.Ytjphpgnghdbpeaa
