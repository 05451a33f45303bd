/- The tables, the residual functions and lemmas of this seat: parts of the proof of the law; conditions: those that each names. -/
import Derived.Test.YtnbipilpdhhhmaaDoorTab
set_option maxRecDepth 100000
set_option linter.unusedVariables false
namespace Go.Proofs.YtnbipilpdhhhmaaDoor
open Go.Eng
noncomputable def laws_szQuotaS (k : Nat) (x0 : (List DQuota)) (x1 : Int) : Option Int :=
  (bif (decide ((wrapK .i64 (x1 - (x0.length : Int))) < (0 : Int))) then some (-1 : Int) else some (wrapK .i64 (x1 - (x0.length : Int))))
set_option maxHeartbeats 0 in
theorem laws_szQuotaS_run (k : Nat) (x0 : (List DQuota)) (x1 : Int) : c_laws_szQuotaS (k + 1) (x0, x1) = laws_szQuotaS k x0 x1 := by kernel_rfl
noncomputable def laws_szAclEntryS (k : Nat) (x0 : (List DAclEntry)) (x1 : Int) : Option Int :=
  (bif (decide ((wrapK .i64 (x1 - (x0.length : Int))) < (0 : Int))) then some (-1 : Int) else some (wrapK .i64 (x1 - (x0.length : Int))))
set_option maxHeartbeats 0 in
theorem laws_szAclEntryS_run (k : Nat) (x0 : (List DAclEntry)) (x1 : Int) : c_laws_szAclEntryS (k + 1) (x0, x1) = laws_szAclEntryS k x0 x1 := by kernel_rfl
noncomputable def laws_szIntS (k : Nat) (x0 : (List Int)) (x1 : Int) : Option Int :=
  (bif (decide ((wrapK .i64 (x1 - (x0.length : Int))) < (0 : Int))) then some (-1 : Int) else some (wrapK .i64 (x1 - (x0.length : Int))))
set_option maxHeartbeats 0 in
theorem laws_szIntS_run (k : Nat) (x0 : (List Int)) (x1 : Int) : c_laws_szIntS (k + 1) (x0, x1) = laws_szIntS k x0 x1 := by kernel_rfl
noncomputable def laws_szInode (k : Nat) (x0 : DInode) (x1 : Int) : Option Int :=
  (c_laws_szIntS k (x0.2.2.2.2.2.2.2.1, x1)).bind fun y1 =>
  (bif (decide (y1 < (0 : Int))) then some (-1 : Int) else (c_laws_szAclEntryS k (x0.2.2.2.2.2.2.2.2.1, y1)).bind fun y2 =>
  (bif (decide (y2 < (0 : Int))) then some (-1 : Int) else (c_laws_szAclEntryS k (x0.2.2.2.2.2.2.2.2.2, y2)).bind fun y3 =>
  (bif (decide (y3 < (0 : Int))) then some (-1 : Int) else some y3)))
set_option maxHeartbeats 0 in
theorem laws_szInode_run (k : Nat) (x0 : DInode) (x1 : Int) : c_laws_szInode (k + 1) (x0, x1) = laws_szInode k x0 x1 := by kernel_rfl
noncomputable def laws_szInodeS_l1 (k : Nat) (self : ((List DInode) × DQuota) → Option Int) (d : ((List DInode) × DQuota)) : Option Int :=
  (bif (decide (d.2.2 < (d.1.length : Int))) then (if 0 ≤ d.2.2 then (d.1[d.2.2.toNat]?).bind fun v0 =>
  (c_laws_szInode k (v0, d.2.1)).bind fun v1 =>
  (bif (decide (v1 < (0 : Int))) then some (-1 : Int) else self (d.1, v1, (wrapK .i64 (d.2.2 + (1 : Int))))) else none) else some d.2.1)
noncomputable def laws_szInodeS (k : Nat) (x0 : (List DInode)) (x1 : Int) : Option Int :=
  (bif (decide ((wrapK .i64 (x1 - (x0.length : Int))) < (0 : Int))) then some (-1 : Int) else iter k (laws_szInodeS_l1 k) (x0, (wrapK .i64 (x1 - (x0.length : Int))), (0 : Int)))
set_option maxHeartbeats 0 in
theorem laws_szInodeS_run (k : Nat) (x0 : (List DInode)) (x1 : Int) : c_laws_szInodeS (k + 1) (x0, x1) = laws_szInodeS k x0 x1 := by kernel_rfl
noncomputable def laws_szStringS_l1 (k : Nat) (self : ((List ByteArray) × DQuota) → Option Int) (d : ((List ByteArray) × DQuota)) : Option Int :=
  (bif (decide (d.2.2 < (d.1.length : Int))) then (if 0 ≤ d.2.2 then (d.1[d.2.2.toNat]?).bind fun v0 =>
  (bif (decide ((wrapK .i64 (d.2.1 - (v0.size : Int))) < (0 : Int))) then some (-1 : Int) else self (d.1, (wrapK .i64 (d.2.1 - (v0.size : Int))), (wrapK .i64 (d.2.2 + (1 : Int))))) else none) else some d.2.1)
noncomputable def laws_szStringS (k : Nat) (x0 : (List ByteArray)) (x1 : Int) : Option Int :=
  (bif (decide ((wrapK .i64 (x1 - (x0.length : Int))) < (0 : Int))) then some (-1 : Int) else iter k (laws_szStringS_l1 k) (x0, (wrapK .i64 (x1 - (x0.length : Int))), (0 : Int)))
set_option maxHeartbeats 0 in
theorem laws_szStringS_run (k : Nat) (x0 : (List ByteArray)) (x1 : Int) : c_laws_szStringS (k + 1) (x0, x1) = laws_szStringS k x0 x1 := by kernel_rfl
noncomputable def laws_szFS (k : Nat) (x0 : DFS) (x1 : Int) : Option Int :=
  (c_laws_szQuotaS k (x0.2.1, x1)).bind fun y1 =>
  (bif (decide (y1 < (0 : Int))) then some (-1 : Int) else (c_laws_szInodeS k (x0.2.2.1, y1)).bind fun y2 =>
  (bif (decide (y2 < (0 : Int))) then some (-1 : Int) else (c_laws_szStringS k (x0.2.2.2, y2)).bind fun y3 =>
  (bif (decide (y3 < (0 : Int))) then some (-1 : Int) else some y3)))
set_option maxHeartbeats 0 in
theorem laws_szFS_run (k : Nat) (x0 : DFS) (x1 : Int) : c_laws_szFS (k + 1) (x0, x1) = laws_szFS k x0 x1 := by kernel_rfl
noncomputable def spec_l01In (k : Nat) (x0 : Int) (x1 : Int) (x2 : Int) : Option Bool :=
  (bif (decide (x1 ≤ x0)) then some (decide (x0 ≤ x2)) else some false)
set_option maxHeartbeats 0 in
theorem spec_l01In_run (k : Nat) (x0 : Int) (x1 : Int) (x2 : Int) : c_spec_l01In (k + 1) (x0, x1, x2) = spec_l01In k x0 x1 x2 := by kernel_rfl
noncomputable def spec_l06Mode (k : Nat) (x0 : Int) : Option Bool :=
  (c_spec_l01In k (x0, (0 : Int), (2047 : Int))).bind fun y1 =>
  some y1
set_option maxHeartbeats 0 in
theorem spec_l06Mode_run (k : Nat) (x0 : Int) : c_spec_l06Mode (k + 1) (x0) = spec_l06Mode k x0 := by kernel_rfl
noncomputable def spec_l05Entry (k : Nat) (x0 : DAclEntry) : Option Bool :=
  (c_spec_l01In k (x0.2.2, (0 : Int), (7 : Int))).bind fun y1 =>
  (bif (!y1) then some false else (bif (x0.1 == (1 : Int)) then (bif (x0.1 == (1 : Int)) then (c_spec_l01In k (x0.2.1, (0 : Int), (3 : Int))).bind fun y2 =>
  some y2 else (bif (x0.1 == (3 : Int)) then some (x0.2.1 == (0 : Int)) else some false)) else (bif (x0.1 == (2 : Int)) then (c_spec_l01In k (x0.2.1, (0 : Int), (3 : Int))).bind fun y3 =>
  some y3 else (bif (x0.1 == (3 : Int)) then some (x0.2.1 == (0 : Int)) else some false))))
set_option maxHeartbeats 0 in
theorem spec_l05Entry_run (k : Nat) (x0 : DAclEntry) : c_spec_l05Entry (k + 1) (x0) = spec_l05Entry k x0 := by kernel_rfl
noncomputable def spec_IsAcl_l1 (k : Nat) (self : ((List DAclEntry) × ((List DAclEntry) × DQuota)) → Option Bool) (d : ((List DAclEntry) × ((List DAclEntry) × DQuota))) : Option Bool :=
  (bif (decide (d.2.2.2 < d.2.2.1)) then (if 0 ≤ d.2.2.2 then (d.2.1[d.2.2.2.toNat]?).bind fun v0 =>
  (c_spec_l05Entry k v0).bind fun v1 =>
  (bif (!v1) then some false else (bif (decide ((0 : Int) < d.2.2.2)) then (if 0 ≤ (wrapK .i64 (d.2.2.2 - (1 : Int))) then (d.1[(wrapK .i64 (d.2.2.2 - (1 : Int))).toNat]?).bind fun v2 =>
  (bif (decide (v0.1 < v2.1)) then some false else (if 0 ≤ (wrapK .i64 (d.2.2.2 - (1 : Int))) then (d.1[(wrapK .i64 (d.2.2.2 - (1 : Int))).toNat]?).bind fun v3 =>
  (bif (v3.1 == v0.1) then (if 0 ≤ (wrapK .i64 (d.2.2.2 - (1 : Int))) then (d.1[(wrapK .i64 (d.2.2.2 - (1 : Int))).toNat]?).bind fun v4 =>
  (bif (decide (v0.2.1 ≤ v4.2.1)) then some false else self (d.1, d.2.1, d.2.2.1, (wrapK .i64 (d.2.2.2 + (1 : Int))))) else none) else self (d.1, d.2.1, d.2.2.1, (wrapK .i64 (d.2.2.2 + (1 : Int))))) else none)) else none) else self (d.1, d.2.1, d.2.2.1, (wrapK .i64 (d.2.2.2 + (1 : Int)))))) else none) else (bif ((d.1.length : Int) == (0 : Int)) then some true else (bif (decide ((d.1.length : Int) ≤ (6 : Int))) then (if 0 ≤ (wrapK .i64 ((d.1.length : Int) - (1 : Int))) then (d.1[(wrapK .i64 ((d.1.length : Int) - (1 : Int))).toNat]?).bind fun v5 =>
  some (v5.1 == (3 : Int)) else none) else some false)))
noncomputable def spec_IsAcl (k : Nat) (x0 : (List DAclEntry)) : Option Bool :=
  iter k (spec_IsAcl_l1 k) (x0, x0, (x0.length : Int), (0 : Int))
set_option maxHeartbeats 0 in
theorem spec_IsAcl_run (k : Nat) (x0 : (List DAclEntry)) : c_spec_IsAcl (k + 1) (x0) = spec_IsAcl k x0 := by kernel_rfl
noncomputable def spec_l06User (k : Nat) (x0 : Int) : Option Bool :=
  (c_spec_l01In k (x0, (0 : Int), (3 : Int))).bind fun y1 =>
  some y1
set_option maxHeartbeats 0 in
theorem spec_l06User_run (k : Nat) (x0 : Int) : c_spec_l06User (k + 1) (x0) = spec_l06User k x0 := by kernel_rfl
noncomputable def spec_l02Same_l1 (k : Nat) (self : ((List Int) × ((List Int) × DQuota)) → Option Bool) (d : ((List Int) × ((List Int) × DQuota))) : Option Bool :=
  (bif (decide (d.2.2.2 < d.2.2.1)) then (if 0 ≤ d.2.2.2 then (d.2.1[d.2.2.2.toNat]?).bind fun v0 =>
  (if 0 ≤ d.2.2.2 then (d.1[d.2.2.2.toNat]?).bind fun v1 =>
  (bif (v0 != v1) then some false else self (d.1, d.2.1, d.2.2.1, (wrapK .i64 (d.2.2.2 + (1 : Int))))) else none) else none) else some true)
noncomputable def spec_l02Same (k : Nat) (x0 : (List Int)) (x1 : (List Int)) : Option Bool :=
  (bif ((x0.length : Int) != (x1.length : Int)) then some false else iter k (spec_l02Same_l1 k) (x1, x0, (x0.length : Int), (0 : Int)))
set_option maxHeartbeats 0 in
theorem spec_l02Same_run (k : Nat) (x0 : (List Int)) (x1 : (List Int)) : c_spec_l02Same (k + 1) (x0, x1) = spec_l02Same k x0 x1 := by kernel_rfl
noncomputable def spec_l05Same_l1 (k : Nat) (self : ((List DAclEntry) × ((List DAclEntry) × DQuota)) → Option Bool) (d : ((List DAclEntry) × ((List DAclEntry) × DQuota))) : Option Bool :=
  (bif (decide (d.2.2.2 < d.2.2.1)) then (if 0 ≤ d.2.2.2 then (d.2.1[d.2.2.2.toNat]?).bind fun v0 =>
  (if 0 ≤ d.2.2.2 then (d.1[d.2.2.2.toNat]?).bind fun v1 =>
  (bif (!((v0.1 == v1.1) && ((v0.2.1 == v1.2.1) && (v0.2.2 == v1.2.2)))) then some false else self (d.1, d.2.1, d.2.2.1, (wrapK .i64 (d.2.2.2 + (1 : Int))))) else none) else none) else some true)
noncomputable def spec_l05Same (k : Nat) (x0 : (List DAclEntry)) (x1 : (List DAclEntry)) : Option Bool :=
  (bif ((x0.length : Int) != (x1.length : Int)) then some false else iter k (spec_l05Same_l1 k) (x1, x0, (x0.length : Int), (0 : Int)))
set_option maxHeartbeats 0 in
theorem spec_l05Same_run (k : Nat) (x0 : (List DAclEntry)) (x1 : (List DAclEntry)) : c_spec_l05Same (k + 1) (x0, x1) = spec_l05Same k x0 x1 := by kernel_rfl
noncomputable def spec_SameInode (k : Nat) (x0 : DInode) (x1 : DInode) : Option Bool :=
  (bif (x0.1 != x1.1) then some false else (bif (x0.2.1 != x1.2.1) then some false else (bif (x0.2.2.1 != x1.2.2.1) then some false else (bif (x0.2.2.2.1 != x1.2.2.2.1) then some false else (bif (x0.2.2.2.2.1 != x1.2.2.2.2.1) then some false else (bif (x0.2.2.2.2.2.1 != x1.2.2.2.2.2.1) then some false else (bif (x0.2.2.2.2.2.2.1 != x1.2.2.2.2.2.2.1) then some false else (c_spec_l02Same k (x0.2.2.2.2.2.2.2.1, x1.2.2.2.2.2.2.2.1)).bind fun y1 =>
  (bif y1 then (c_spec_l05Same k (x0.2.2.2.2.2.2.2.2.1, x1.2.2.2.2.2.2.2.2.1)).bind fun y2 =>
  (bif y2 then (c_spec_l05Same k (x0.2.2.2.2.2.2.2.2.2, x1.2.2.2.2.2.2.2.2.2)).bind fun y3 =>
  some y3 else some false) else some false))))))))
set_option maxHeartbeats 0 in
theorem spec_SameInode_run (k : Nat) (x0 : DInode) (x1 : DInode) : c_spec_SameInode (k + 1) (x0, x1) = spec_SameInode k x0 x1 := by kernel_rfl
noncomputable def spec_BlocksNeeded (k : Nat) (x0 : Int) : Option Int :=
  (bif (decide (x0 ≤ (0 : Int))) then some (0 : Int) else (if ((32 : Int) : Int) ≠ 0 then some (wrapK .i64 ((wrapK .i64 ((wrapK .i64 (x0 - (1 : Int))).tdiv (32 : Int))) + (1 : Int))) else none))
set_option maxHeartbeats 0 in
theorem spec_BlocksNeeded_run (k : Nat) (x0 : Int) : c_spec_BlocksNeeded (k + 1) (x0) = spec_BlocksNeeded k x0 := by kernel_rfl
noncomputable def spec_l02Has_l1 (k : Nat) (self : (Int × ((List Int) × DQuota)) → Option Bool) (d : (Int × ((List Int) × DQuota))) : Option Bool :=
  (bif (decide (d.2.2.2 < d.2.2.1)) then (if 0 ≤ d.2.2.2 then (d.2.1[d.2.2.2.toNat]?).bind fun v0 =>
  (bif (v0 == d.1) then some true else self (d.1, d.2.1, d.2.2.1, (wrapK .i64 (d.2.2.2 + (1 : Int))))) else none) else some false)
noncomputable def spec_l02Has (k : Nat) (x0 : (List Int)) (x1 : Int) : Option Bool :=
  iter k (spec_l02Has_l1 k) (x1, x0, (x0.length : Int), (0 : Int))
set_option maxHeartbeats 0 in
theorem spec_l02Has_run (k : Nat) (x0 : (List Int)) (x1 : Int) : c_spec_l02Has (k + 1) (x0, x1) = spec_l02Has k x0 x1 := by kernel_rfl
noncomputable def spec_IsInode_l1 (k : Nat) (self : (Unit × ((List Int) × (Int × (Int × DInode)))) → Option Bool) (d : (Unit × ((List Int) × (Int × (Int × DInode))))) : Option Bool :=
  (bif (decide (d.2.2.2.1 < d.2.2.1)) then (if 0 ≤ d.2.2.2.1 then (d.2.1[d.2.2.2.1.toNat]?).bind fun v0 =>
  (c_spec_l01In k (v0, (-1 : Int), (999 : Int))).bind fun v1 =>
  (bif (!v1) then some false else (bif (v0 != (-1 : Int)) then (if 0 ≤ d.2.2.2.1 then (if d.2.2.2.1 ≤ (d.2.2.2.2.2.2.2.2.2.2.2.1.length : Int) then (c_spec_l02Has k (((d.2.2.2.2.2.2.2.2.2.2.2.1.take d.2.2.2.1.toNat).drop 0), v0)).bind fun v2 =>
  (bif v2 then some false else self ((), d.2.1, d.2.2.1, (wrapK .i64 (d.2.2.2.1 + (1 : Int))), d.2.2.2.2)) else none) else none) else self ((), d.2.1, d.2.2.1, (wrapK .i64 (d.2.2.2.1 + (1 : Int))), d.2.2.2.2))) else none) else (joinK (R := Bool) ((bif (d.2.2.2.2.1 == (1 : Int)) then (bif (decide ((0 : Int) < (d.2.2.2.2.2.2.2.2.2.2.2.2.2.length : Int))) then ((some false).map .inr) else (bif ((intBits .and .i64 d.2.2.2.2.2.1 (512 : Int)) != (0 : Int)) then ((some false).map .inr) else some (.inl ((), d.2.2.2.2)))) else some (.inl ((), d.2.2.2.2)))) fun (v3 : (Unit × DInode)) => (c_spec_IsAcl k v3.2.2.2.2.2.2.2.2.2.1).bind fun v4 =>
  (bif v4 then (c_spec_IsAcl k v3.2.2.2.2.2.2.2.2.2.2).bind fun v5 =>
  some v5 else some false)))
noncomputable def spec_IsInode (k : Nat) (x0 : DInode) : Option Bool :=
  (bif (x0.1 == (0 : Int)) then (c_spec_SameInode k (x0, ((0 : Int), (0 : Int), (0 : Int), (0 : Int), (0 : Int), (0 : Int), (0 : Int), ([] : List Int), ([] : List DAclEntry), ([] : List DAclEntry)))).bind fun y1 =>
  some y1 else (joinK (R := Bool) ((bif (x0.1 != (1 : Int)) then (bif (x0.1 != (2 : Int)) then ((some false).map .inr) else (c_spec_l06Mode k x0.2.1).bind fun y3 =>
  (bif (!y3) then ((some false).map .inr) else (c_spec_l06User k x0.2.2.1).bind fun y4 =>
  (bif (!y4) then ((some false).map .inr) else (c_spec_l06User k x0.2.2.2.1).bind fun y5 =>
  (bif (!y5) then ((some false).map .inr) else (c_spec_l01In k (x0.2.2.2.2.1, (0 : Int), (1000 : Int))).bind fun y6 =>
  (bif (!y6) then ((some false).map .inr) else (c_spec_l01In k (x0.2.2.2.2.2.1, (0 : Int), (256 : Int))).bind fun y7 =>
  (bif (!y7) then ((some false).map .inr) else (c_spec_l01In k (x0.2.2.2.2.2.2.1, (0 : Int), (1000000000 : Int))).bind fun y8 =>
  (bif (!y8) then ((some false).map .inr) else (c_spec_BlocksNeeded k x0.2.2.2.2.2.1).bind fun y9 =>
  (bif ((x0.2.2.2.2.2.2.2.1.length : Int) != y9) then ((some false).map .inr) else some (.inl ((), x0)))))))))) else (c_spec_l06Mode k x0.2.1).bind fun y10 =>
  (bif (!y10) then ((some false).map .inr) else (c_spec_l06User k x0.2.2.1).bind fun y11 =>
  (bif (!y11) then ((some false).map .inr) else (c_spec_l06User k x0.2.2.2.1).bind fun y12 =>
  (bif (!y12) then ((some false).map .inr) else (c_spec_l01In k (x0.2.2.2.2.1, (0 : Int), (1000 : Int))).bind fun y13 =>
  (bif (!y13) then ((some false).map .inr) else (c_spec_l01In k (x0.2.2.2.2.2.1, (0 : Int), (256 : Int))).bind fun y14 =>
  (bif (!y14) then ((some false).map .inr) else (c_spec_l01In k (x0.2.2.2.2.2.2.1, (0 : Int), (1000000000 : Int))).bind fun y15 =>
  (bif (!y15) then ((some false).map .inr) else (c_spec_BlocksNeeded k x0.2.2.2.2.2.1).bind fun y16 =>
  (bif ((x0.2.2.2.2.2.2.2.1.length : Int) != y16) then ((some false).map .inr) else some (.inl ((), x0))))))))))) fun (d2 : (Unit × DInode)) => iter k (spec_IsInode_l1 k) ((), d2.2.2.2.2.2.2.2.2.1, (d2.2.2.2.2.2.2.2.2.1.length : Int), (0 : Int), d2.2)))
set_option maxHeartbeats 0 in
theorem spec_IsInode_run (k : Nat) (x0 : DInode) : c_spec_IsInode (k + 1) (x0) = spec_IsInode k x0 := by kernel_rfl
noncomputable def spec_BlockOwner (k : Nat) (x0 : Int) : Option Int :=
  (c_spec_l01In k (x0, (0 : Int), (55 : Int))).bind fun y1 =>
  (bif (!y1) then some (-1 : Int) else (if ((14 : Int) : Int) ≠ 0 then some (wrapK .i64 (x0.tdiv (14 : Int))) else none))
set_option maxHeartbeats 0 in
theorem spec_BlockOwner_run (k : Nat) (x0 : Int) : c_spec_BlockOwner (k + 1) (x0) = spec_BlockOwner k x0 := by kernel_rfl
noncomputable def spec_l08Used_l1 (k : Nat) (a0 : ((List Bool) × ((List DInode) × DQuota)) → Option ((List Bool) × Bool)) (self : ((List Bool) × (Unit × ((List DInode) × (Int × (Int × ((List Int) × (Int × (Int × DInode)))))))) → Option ((List Bool) × Bool)) (d : ((List Bool) × (Unit × ((List DInode) × (Int × (Int × ((List Int) × (Int × (Int × DInode))))))))) : Option ((List Bool) × Bool) :=
  (bif (decide (d.2.2.2.2.2.2.2.1 < d.2.2.2.2.2.2.1)) then (if 0 ≤ d.2.2.2.2.2.2.2.1 then (d.2.2.2.2.2.1[d.2.2.2.2.2.2.2.1.toNat]?).bind fun v0 =>
  (bif (v0 == (-1 : Int)) then self (d.1, (), d.2.2.1, d.2.2.2.1, d.2.2.2.2.1, d.2.2.2.2.2.1, d.2.2.2.2.2.2.1, (wrapK .i64 (d.2.2.2.2.2.2.2.1 + (1 : Int))), d.2.2.2.2.2.2.2.2) else (c_spec_BlockOwner k v0).bind fun v1 =>
  (bif (v1 != d.2.2.2.2.2.2.2.2.2.2.1) then some (([] : List Bool), false) else (if 0 ≤ v0 then (if v0 < (d.1.length : Int) then (d.1[v0.toNat]?).bind fun v2 =>
  (bif v2 then some (([] : List Bool), false) else (if 0 ≤ v0 then (if v0 < (d.1.length : Int) then (d.1[v0.toNat]?).bind fun v3 =>
  self ((d.1.set v0.toNat true), (), d.2.2.1, d.2.2.2.1, d.2.2.2.2.1, d.2.2.2.2.2.1, d.2.2.2.2.2.2.1, (wrapK .i64 (d.2.2.2.2.2.2.2.1 + (1 : Int))), d.2.2.2.2.2.2.2.2) else none) else none)) else none) else none))) else none) else a0 (d.1, d.2.2.1, d.2.2.2.1, (wrapK .i64 (d.2.2.2.2.1 + (1 : Int)))))
noncomputable def spec_l08Used_l2 (k : Nat) (self : ((List Bool) × ((List DInode) × DQuota)) → Option ((List Bool) × Bool)) (d : ((List Bool) × ((List DInode) × DQuota))) : Option ((List Bool) × Bool) :=
  (bif (decide (d.2.2.2 < d.2.2.1)) then (if 0 ≤ d.2.2.2 then (d.2.1[d.2.2.2.toNat]?).bind fun v0 =>
  iter k (spec_l08Used_l1 k self) (d.1, (), d.2.1, d.2.2.1, d.2.2.2, v0.2.2.2.2.2.2.2.1, (v0.2.2.2.2.2.2.2.1.length : Int), (0 : Int), v0) else none) else some (d.1, true))
noncomputable def spec_l08Used (k : Nat) (x0 : DFS) : Option ((List Bool) × Bool) :=
  (if 0 ≤ (56 : Int) then (if (56 : Int) ≤ (56 : Int) then (if (56 : Int) * 1 ≤ (capBytes : Int) then iter k (spec_l08Used_l2 k) ((List.replicate (56 : Int).toNat false), x0.2.2.1, (x0.2.2.1.length : Int), (0 : Int)) else none) else none) else none)
set_option maxHeartbeats 0 in
theorem spec_l08Used_run (k : Nat) (x0 : DFS) : c_spec_l08Used (k + 1) (x0) = spec_l08Used k x0 := by kernel_rfl
noncomputable def spec_IsZeroes_l1 (k : Nat) (self : DerrorAddressString → Option Bool) (d : DerrorAddressString) : Option Bool :=
  (bif (decide (d.2 < (d.1.size : Int))) then (if 0 ≤ d.2 then ((d.1[d.2.toNat]?.map fun v0 => (v0.toNat : Int))).bind fun v1 =>
  (bif (v1 != (0 : Int)) then some false else self (d.1, (wrapK .i64 (d.2 + (1 : Int))))) else none) else some true)
noncomputable def spec_IsZeroes (k : Nat) (x0 : ByteArray) : Option Bool :=
  iter k (spec_IsZeroes_l1 k) (x0, (0 : Int))
set_option maxHeartbeats 0 in
theorem spec_IsZeroes_run (k : Nat) (x0 : ByteArray) : c_spec_IsZeroes (k + 1) (x0) = spec_IsZeroes k x0 := by kernel_rfl
noncomputable def spec_IsFS_l1 (k : Nat) (self : (Unit × ((List DInode) × (Int × (Int × DFS)))) → Option Bool) (d : (Unit × ((List DInode) × (Int × (Int × DFS))))) : Option Bool :=
  (bif (decide (d.2.2.2.1 < d.2.2.1)) then (if 0 ≤ d.2.2.2.1 then (d.2.1[d.2.2.2.1.toNat]?).bind fun v0 =>
  (bif (decide ((0 : Int) ≤ (wrapK .i64 ((v0.2.2.2.2.2.2.2.1.length : Int) - (1 : Int))))) then (if 0 ≤ (wrapK .i64 ((v0.2.2.2.2.2.2.2.1.length : Int) - (1 : Int))) then (v0.2.2.2.2.2.2.2.1[(wrapK .i64 ((v0.2.2.2.2.2.2.2.1.length : Int) - (1 : Int))).toNat]?).bind fun v1 =>
  (bif (v1 != (-1 : Int)) then (if 0 ≤ (wrapK .i64 ((v0.2.2.2.2.2.2.2.1.length : Int) - (1 : Int))) then (v0.2.2.2.2.2.2.2.1[(wrapK .i64 ((v0.2.2.2.2.2.2.2.1.length : Int) - (1 : Int))).toNat]?).bind fun v2 =>
  (if 0 ≤ v2 then (d.2.2.2.2.2.2.2[v2.toNat]?).bind fun v3 =>
  (if 0 ≤ (wrapK .i64 (v0.2.2.2.2.2.1 - (wrapK .i64 ((wrapK .i64 ((v0.2.2.2.2.2.2.2.1.length : Int) - (1 : Int))) * (32 : Int))))) then (if (wrapK .i64 (v0.2.2.2.2.2.1 - (wrapK .i64 ((wrapK .i64 ((v0.2.2.2.2.2.2.2.1.length : Int) - (1 : Int))) * (32 : Int))))) ≤ (v3.size : Int) then (c_spec_IsZeroes k (v3.extract ((wrapK .i64 (v0.2.2.2.2.2.1 - (wrapK .i64 ((wrapK .i64 ((v0.2.2.2.2.2.2.2.1.length : Int) - (1 : Int))) * (32 : Int))))).toNat) v3.size)).bind fun v4 =>
  (bif (!v4) then some false else self ((), d.2.1, d.2.2.1, (wrapK .i64 (d.2.2.2.1 + (1 : Int))), d.2.2.2.2)) else none) else none) else none) else none) else self ((), d.2.1, d.2.2.1, (wrapK .i64 (d.2.2.2.1 + (1 : Int))), d.2.2.2.2)) else none) else self ((), d.2.1, d.2.2.1, (wrapK .i64 (d.2.2.2.1 + (1 : Int))), d.2.2.2.2)) else none) else some true)
noncomputable def spec_IsFS_l2 (k : Nat) (self : (Unit × ((List Bool) × ((List ByteArray) × (Int × (Int × DFS))))) → Option Bool) (d : (Unit × ((List Bool) × ((List ByteArray) × (Int × (Int × DFS)))))) : Option Bool :=
  (bif (decide (d.2.2.2.2.1 < d.2.2.2.1)) then (if 0 ≤ d.2.2.2.2.1 then (d.2.2.1[d.2.2.2.2.1.toNat]?).bind fun v0 =>
  (bif ((v0.size : Int) != (32 : Int)) then some false else (if 0 ≤ d.2.2.2.2.1 then (if d.2.2.2.2.1 < (d.2.1.length : Int) then (d.2.1[d.2.2.2.2.1.toNat]?).bind fun v1 =>
  (bif (!v1) then (c_spec_IsZeroes k v0).bind fun v2 =>
  (bif (!v2) then some false else self ((), d.2.1, d.2.2.1, d.2.2.2.1, (wrapK .i64 (d.2.2.2.2.1 + (1 : Int))), d.2.2.2.2.2)) else self ((), d.2.1, d.2.2.1, d.2.2.2.1, (wrapK .i64 (d.2.2.2.2.1 + (1 : Int))), d.2.2.2.2.2)) else none) else none)) else none) else iter k (spec_IsFS_l1 k) ((), d.2.2.2.2.2.2.2.1, (d.2.2.2.2.2.2.2.1.length : Int), (0 : Int), d.2.2.2.2.2))
noncomputable def spec_IsFS_l3 (k : Nat) (self : (Unit × ((List DInode) × (Int × (Int × DFS)))) → Option Bool) (d : (Unit × ((List DInode) × (Int × (Int × DFS))))) : Option Bool :=
  (bif (decide (d.2.2.2.1 < d.2.2.1)) then (if 0 ≤ d.2.2.2.1 then (d.2.1[d.2.2.2.1.toNat]?).bind fun v0 =>
  (c_spec_IsInode k v0).bind fun v1 =>
  (bif (!v1) then some false else self ((), d.2.1, d.2.2.1, (wrapK .i64 (d.2.2.2.1 + (1 : Int))), d.2.2.2.2)) else none) else (if 0 ≤ (0 : Int) then (d.2.2.2.2.2.2.1[(0 : Int).toNat]?).bind fun v2 =>
  (bif (v2.1 != (2 : Int)) then some false else (c_spec_l08Used k d.2.2.2.2).bind fun v3 =>
  (bif (!v3.2) then some false else iter k (spec_IsFS_l2 k) ((), v3.1, d.2.2.2.2.2.2.2, (d.2.2.2.2.2.2.2.length : Int), (0 : Int), d.2.2.2.2))) else none))
noncomputable def spec_IsFS_l4 (k : Nat) (self : (Unit × ((List DQuota) × (Int × (Int × DFS)))) → Option Bool) (d : (Unit × ((List DQuota) × (Int × (Int × DFS))))) : Option Bool :=
  (bif (decide (d.2.2.2.1 < d.2.2.1)) then (if 0 ≤ d.2.2.2.1 then (d.2.1[d.2.2.2.1.toNat]?).bind fun v0 =>
  (c_spec_l01In k (v0.1, (0 : Int), (5 : Int))).bind fun v1 =>
  (bif (!v1) then some false else (c_spec_l01In k (v0.2, (0 : Int), (14 : Int))).bind fun v2 =>
  (bif (!v2) then some false else self ((), d.2.1, d.2.2.1, (wrapK .i64 (d.2.2.2.1 + (1 : Int))), d.2.2.2.2))) else none) else iter k (spec_IsFS_l3 k) ((), d.2.2.2.2.2.2.1, (d.2.2.2.2.2.2.1.length : Int), (0 : Int), d.2.2.2.2))
noncomputable def spec_IsFS (k : Nat) (x0 : DFS) : Option Bool :=
  (c_spec_l01In k (x0.1, (0 : Int), (1000000000 : Int))).bind fun y1 =>
  (bif (!y1) then some false else (bif ((x0.2.1.length : Int) != (4 : Int)) then some false else (bif ((x0.2.2.1.length : Int) != (20 : Int)) then some false else (bif ((x0.2.2.2.length : Int) != (56 : Int)) then some false else iter k (spec_IsFS_l4 k) ((), x0.2.1, (x0.2.1.length : Int), (0 : Int), x0)))))
set_option maxHeartbeats 0 in
theorem spec_IsFS_run (k : Nat) (x0 : DFS) : c_spec_IsFS (k + 1) (x0) = spec_IsFS k x0 := by kernel_rfl
noncomputable def spec_FormatInt_l1 (k : Nat) (self : (Int × ByteArray) → Option ByteArray) (d : (Int × ByteArray)) : Option ByteArray :=
  (bif (decide ((9 : Int) < d.1)) then (if ((10 : Int) : Int) ≠ 0 then (if (ofBytes ([(wrapK .u8 (wrapK .i64 ((48 : Int) + (d.1.tmod (10 : Int)))))] : List Int)).size + d.2.size ≤ 9223372036854775807 then (if ((10 : Int) : Int) ≠ 0 then self ((wrapK .i64 (d.1.tdiv (10 : Int))), ((ofBytes ([(wrapK .u8 (wrapK .i64 ((48 : Int) + (d.1.tmod (10 : Int)))))] : List Int)) ++ d.2)) else none) else none) else none) else (if (ofBytes ([(wrapK .u8 (wrapK .i64 ((48 : Int) + d.1)))] : List Int)).size + d.2.size ≤ 9223372036854775807 then some ((ofBytes ([(wrapK .u8 (wrapK .i64 ((48 : Int) + d.1)))] : List Int)) ++ d.2) else none))
noncomputable def spec_FormatInt (k : Nat) (x0 : Int) : Option ByteArray :=
  (bif (decide (x0 < (0 : Int))) then (if ((10 : Int) : Int) ≠ 0 then (bif ((wrapK .i64 (x0.tdiv (10 : Int))) == (0 : Int)) then (if (⟨#[45]⟩ : ByteArray).size + (ofBytes ([(wrapK .u8 (wrapK .i64 ((48 : Int) - x0)))] : List Int)).size ≤ 9223372036854775807 then some ((⟨#[45]⟩ : ByteArray) ++ (ofBytes ([(wrapK .u8 (wrapK .i64 ((48 : Int) - x0)))] : List Int))) else none) else (if ((10 : Int) : Int) ≠ 0 then (c_spec_FormatInt k (wrapK .i64 (x0.tdiv (10 : Int)))).bind fun y1 =>
  (if ((10 : Int) : Int) ≠ 0 then (if y1.size + (ofBytes ([(wrapK .u8 (wrapK .i64 ((48 : Int) - (x0.tmod (10 : Int)))))] : List Int)).size ≤ 9223372036854775807 then some (y1 ++ (ofBytes ([(wrapK .u8 (wrapK .i64 ((48 : Int) - (x0.tmod (10 : Int)))))] : List Int))) else none) else none) else none)) else none) else iter k (spec_FormatInt_l1 k) (x0, (⟨#[]⟩ : ByteArray)))
set_option maxHeartbeats 0 in
theorem spec_FormatInt_run (k : Nat) (x0 : Int) : c_spec_FormatInt (k + 1) (x0) = spec_FormatInt k x0 := by kernel_rfl
noncomputable def spec_l08Inodes_l1 (k : Nat) (self : (Int × (Unit × (Int × (Int × DFS)))) → Option Int) (d : (Int × (Unit × (Int × (Int × DFS))))) : Option Int :=
  (bif (decide (d.2.2.2.1 < (5 : Int))) then (if 0 ≤ (wrapK .i64 ((wrapK .i64 (d.1 * (5 : Int))) + d.2.2.2.1)) then (d.2.2.2.2.2.2.1[(wrapK .i64 ((wrapK .i64 (d.1 * (5 : Int))) + d.2.2.2.1)).toNat]?).bind fun v0 =>
  (bif (v0.1 != (0 : Int)) then self (d.1, (), (wrapK .i64 (d.2.2.1 + (1 : Int))), (wrapK .i64 (d.2.2.2.1 + (1 : Int))), d.2.2.2.2) else self (d.1, (), d.2.2.1, (wrapK .i64 (d.2.2.2.1 + (1 : Int))), d.2.2.2.2)) else none) else some d.2.2.1)
noncomputable def spec_l08Inodes (k : Nat) (x0 : DFS) (x1 : Int) : Option Int :=
  iter k (spec_l08Inodes_l1 k) (x1, (), (0 : Int), (0 : Int), x0)
set_option maxHeartbeats 0 in
theorem spec_l08Inodes_run (k : Nat) (x0 : DFS) (x1 : Int) : c_spec_l08Inodes (k + 1) (x0, x1) = spec_l08Inodes k x0 x1 := by kernel_rfl
noncomputable def spec_l08Blocks_l1 (k : Nat) (a0 : (Int × (Int × ((List DInode) × DQuota))) → Option Int) (self : (Int × (Int × ((List DInode) × (Int × (Int × ((List Int) × DQuota)))))) → Option Int) (d : (Int × (Int × ((List DInode) × (Int × (Int × ((List Int) × DQuota))))))) : Option Int :=
  (bif (decide (d.2.2.2.2.2.2.2 < d.2.2.2.2.2.2.1)) then (if 0 ≤ d.2.2.2.2.2.2.2 then (d.2.2.2.2.2.1[d.2.2.2.2.2.2.2.toNat]?).bind fun v0 =>
  (bif (v0 != (-1 : Int)) then (c_spec_BlockOwner k v0).bind fun v1 =>
  (bif (v1 == d.1) then self (d.1, (wrapK .i64 (d.2.1 + (1 : Int))), d.2.2.1, d.2.2.2.1, d.2.2.2.2.1, d.2.2.2.2.2.1, d.2.2.2.2.2.2.1, (wrapK .i64 (d.2.2.2.2.2.2.2 + (1 : Int)))) else self (d.1, d.2.1, d.2.2.1, d.2.2.2.1, d.2.2.2.2.1, d.2.2.2.2.2.1, d.2.2.2.2.2.2.1, (wrapK .i64 (d.2.2.2.2.2.2.2 + (1 : Int))))) else self (d.1, d.2.1, d.2.2.1, d.2.2.2.1, d.2.2.2.2.1, d.2.2.2.2.2.1, d.2.2.2.2.2.2.1, (wrapK .i64 (d.2.2.2.2.2.2.2 + (1 : Int))))) else none) else a0 (d.1, d.2.1, d.2.2.1, d.2.2.2.1, (wrapK .i64 (d.2.2.2.2.1 + (1 : Int)))))
noncomputable def spec_l08Blocks_l2 (k : Nat) (self : (Int × (Int × ((List DInode) × DQuota))) → Option Int) (d : (Int × (Int × ((List DInode) × DQuota)))) : Option Int :=
  (bif (decide (d.2.2.2.2 < d.2.2.2.1)) then (if 0 ≤ d.2.2.2.2 then (d.2.2.1[d.2.2.2.2.toNat]?).bind fun v0 =>
  iter k (spec_l08Blocks_l1 k self) (d.1, d.2.1, d.2.2.1, d.2.2.2.1, d.2.2.2.2, v0.2.2.2.2.2.2.2.1, (v0.2.2.2.2.2.2.2.1.length : Int), (0 : Int)) else none) else some d.2.1)
noncomputable def spec_l08Blocks (k : Nat) (x0 : DFS) (x1 : Int) : Option Int :=
  iter k (spec_l08Blocks_l2 k) (x1, (0 : Int), x0.2.2.1, (x0.2.2.1.length : Int), (0 : Int))
set_option maxHeartbeats 0 in
theorem spec_l08Blocks_run (k : Nat) (x0 : DFS) (x1 : Int) : c_spec_l08Blocks (k + 1) (x0, x1) = spec_l08Blocks k x0 x1 := by kernel_rfl
noncomputable def spec_UsageText (k : Nat) (x0 : DFS) (x1 : Int) : Option ByteArray :=
  (c_spec_IsFS k x0).bind fun y1 =>
  (bif (!y1) then some (⟨#[]⟩ : ByteArray) else (c_spec_l06User k x1).bind fun y2 =>
  (bif (!y2) then some (⟨#[]⟩ : ByteArray) else (if 0 ≤ x1 then (x0.2.1[x1.toNat]?).bind fun y3 =>
  (c_spec_l08Inodes k (x0, x1)).bind fun y4 =>
  (c_spec_FormatInt k y4).bind fun y5 =>
  (if y5.size + (⟨#[47]⟩ : ByteArray).size ≤ 9223372036854775807 then (c_spec_FormatInt k y3.1).bind fun y6 =>
  (if (y5 ++ (⟨#[47]⟩ : ByteArray)).size + y6.size ≤ 9223372036854775807 then (if ((y5 ++ (⟨#[47]⟩ : ByteArray)) ++ y6).size + (⟨#[32]⟩ : ByteArray).size ≤ 9223372036854775807 then (c_spec_l08Blocks k (x0, x1)).bind fun y7 =>
  (c_spec_FormatInt k y7).bind fun y8 =>
  (if (((y5 ++ (⟨#[47]⟩ : ByteArray)) ++ y6) ++ (⟨#[32]⟩ : ByteArray)).size + y8.size ≤ 9223372036854775807 then (if ((((y5 ++ (⟨#[47]⟩ : ByteArray)) ++ y6) ++ (⟨#[32]⟩ : ByteArray)) ++ y8).size + (⟨#[47]⟩ : ByteArray).size ≤ 9223372036854775807 then (c_spec_FormatInt k y3.2).bind fun y9 =>
  (if (((((y5 ++ (⟨#[47]⟩ : ByteArray)) ++ y6) ++ (⟨#[32]⟩ : ByteArray)) ++ y8) ++ (⟨#[47]⟩ : ByteArray)).size + y9.size ≤ 9223372036854775807 then some ((((((y5 ++ (⟨#[47]⟩ : ByteArray)) ++ y6) ++ (⟨#[32]⟩ : ByteArray)) ++ y8) ++ (⟨#[47]⟩ : ByteArray)) ++ y9) else none) else none) else none) else none) else none) else none) else none)))
set_option maxHeartbeats 0 in
theorem spec_UsageText_run (k : Nat) (x0 : DFS) (x1 : Int) : c_spec_UsageText (k + 1) (x0, x1) = spec_UsageText k x0 x1 := by kernel_rfl
noncomputable def laws_toQuota (k : Nat) (x0 : DQuota) : Option DQuota :=
  some (x0.1, x0.2)
set_option maxHeartbeats 0 in
theorem laws_toQuota_run (k : Nat) (x0 : DQuota) : c_laws_toQuota (k + 1) (x0) = laws_toQuota k x0 := by kernel_rfl
noncomputable def laws_toQuotaS_l1 (k : Nat) (self : ((List DQuota) × ((List DQuota) × Int)) → Option (List DQuota)) (d : ((List DQuota) × ((List DQuota) × Int))) : Option (List DQuota) :=
  (bif (decide (d.2.2 < (d.1.length : Int))) then (if 0 ≤ d.2.2 then (d.1[d.2.2.toNat]?).bind fun v0 =>
  (c_laws_toQuota k v0).bind fun v1 =>
  (if 0 ≤ d.2.2 then (if d.2.2 < (d.2.1.length : Int) then (d.2.1[d.2.2.toNat]?).bind fun v2 =>
  self (d.1, (d.2.1.set d.2.2.toNat v1), (wrapK .i64 (d.2.2 + (1 : Int)))) else none) else none) else none) else some d.2.1)
noncomputable def laws_toQuotaS (k : Nat) (x0 : (List DQuota)) : Option (List DQuota) :=
  (if 0 ≤ (x0.length : Int) then (if (x0.length : Int) ≤ (x0.length : Int) then (if (x0.length : Int) * 16 ≤ (capBytes : Int) then iter k (laws_toQuotaS_l1 k) (x0, (List.replicate (x0.length : Int).toNat ((0 : Int), (0 : Int))), (0 : Int)) else none) else none) else none)
set_option maxHeartbeats 0 in
theorem laws_toQuotaS_run (k : Nat) (x0 : (List DQuota)) : c_laws_toQuotaS (k + 1) (x0) = laws_toQuotaS k x0 := by kernel_rfl
noncomputable def laws_toAclEntry (k : Nat) (x0 : DAclEntry) : Option DAclEntry :=
  some (x0.1, x0.2.1, x0.2.2)
set_option maxHeartbeats 0 in
theorem laws_toAclEntry_run (k : Nat) (x0 : DAclEntry) : c_laws_toAclEntry (k + 1) (x0) = laws_toAclEntry k x0 := by kernel_rfl
noncomputable def laws_toAclEntryS_l1 (k : Nat) (self : ((List DAclEntry) × ((List DAclEntry) × Int)) → Option (List DAclEntry)) (d : ((List DAclEntry) × ((List DAclEntry) × Int))) : Option (List DAclEntry) :=
  (bif (decide (d.2.2 < (d.1.length : Int))) then (if 0 ≤ d.2.2 then (d.1[d.2.2.toNat]?).bind fun v0 =>
  (c_laws_toAclEntry k v0).bind fun v1 =>
  (if 0 ≤ d.2.2 then (if d.2.2 < (d.2.1.length : Int) then (d.2.1[d.2.2.toNat]?).bind fun v2 =>
  self (d.1, (d.2.1.set d.2.2.toNat v1), (wrapK .i64 (d.2.2 + (1 : Int)))) else none) else none) else none) else some d.2.1)
noncomputable def laws_toAclEntryS (k : Nat) (x0 : (List DAclEntry)) : Option (List DAclEntry) :=
  (if 0 ≤ (x0.length : Int) then (if (x0.length : Int) ≤ (x0.length : Int) then (if (x0.length : Int) * 24 ≤ (capBytes : Int) then iter k (laws_toAclEntryS_l1 k) (x0, (List.replicate (x0.length : Int).toNat ((0 : Int), (0 : Int), (0 : Int))), (0 : Int)) else none) else none) else none)
set_option maxHeartbeats 0 in
theorem laws_toAclEntryS_run (k : Nat) (x0 : (List DAclEntry)) : c_laws_toAclEntryS (k + 1) (x0) = laws_toAclEntryS k x0 := by kernel_rfl
noncomputable def laws_toIntS_l1 (k : Nat) (self : ((List Int) × ((List Int) × Int)) → Option (List Int)) (d : ((List Int) × ((List Int) × Int))) : Option (List Int) :=
  (bif (decide (d.2.2 < (d.1.length : Int))) then (if 0 ≤ d.2.2 then (d.1[d.2.2.toNat]?).bind fun v0 =>
  (if 0 ≤ d.2.2 then (if d.2.2 < (d.2.1.length : Int) then (d.2.1[d.2.2.toNat]?).bind fun v1 =>
  self (d.1, (d.2.1.set d.2.2.toNat v0), (wrapK .i64 (d.2.2 + (1 : Int)))) else none) else none) else none) else some d.2.1)
noncomputable def laws_toIntS (k : Nat) (x0 : (List Int)) : Option (List Int) :=
  (if 0 ≤ (x0.length : Int) then (if (x0.length : Int) ≤ (x0.length : Int) then (if (x0.length : Int) * 8 ≤ (capBytes : Int) then iter k (laws_toIntS_l1 k) (x0, (List.replicate (x0.length : Int).toNat (0 : Int)), (0 : Int)) else none) else none) else none)
set_option maxHeartbeats 0 in
theorem laws_toIntS_run (k : Nat) (x0 : (List Int)) : c_laws_toIntS (k + 1) (x0) = laws_toIntS k x0 := by kernel_rfl
noncomputable def laws_toInode (k : Nat) (x0 : DInode) : Option DInode :=
  (c_laws_toIntS k x0.2.2.2.2.2.2.2.1).bind fun y1 =>
  (c_laws_toAclEntryS k x0.2.2.2.2.2.2.2.2.1).bind fun y2 =>
  (c_laws_toAclEntryS k x0.2.2.2.2.2.2.2.2.2).bind fun y3 =>
  some (x0.1, x0.2.1, x0.2.2.1, x0.2.2.2.1, x0.2.2.2.2.1, x0.2.2.2.2.2.1, x0.2.2.2.2.2.2.1, y1, y2, y3)
set_option maxHeartbeats 0 in
theorem laws_toInode_run (k : Nat) (x0 : DInode) : c_laws_toInode (k + 1) (x0) = laws_toInode k x0 := by kernel_rfl
noncomputable def laws_toInodeS_l1 (k : Nat) (self : ((List DInode) × ((List DInode) × Int)) → Option (List DInode)) (d : ((List DInode) × ((List DInode) × Int))) : Option (List DInode) :=
  (bif (decide (d.2.2 < (d.1.length : Int))) then (if 0 ≤ d.2.2 then (d.1[d.2.2.toNat]?).bind fun v0 =>
  (c_laws_toInode k v0).bind fun v1 =>
  (if 0 ≤ d.2.2 then (if d.2.2 < (d.2.1.length : Int) then (d.2.1[d.2.2.toNat]?).bind fun v2 =>
  self (d.1, (d.2.1.set d.2.2.toNat v1), (wrapK .i64 (d.2.2 + (1 : Int)))) else none) else none) else none) else some d.2.1)
noncomputable def laws_toInodeS (k : Nat) (x0 : (List DInode)) : Option (List DInode) :=
  (if 0 ≤ (x0.length : Int) then (if (x0.length : Int) ≤ (x0.length : Int) then (if (x0.length : Int) * 128 ≤ (capBytes : Int) then iter k (laws_toInodeS_l1 k) (x0, (List.replicate (x0.length : Int).toNat ((0 : Int), (0 : Int), (0 : Int), (0 : Int), (0 : Int), (0 : Int), (0 : Int), ([] : List Int), ([] : List DAclEntry), ([] : List DAclEntry))), (0 : Int)) else none) else none) else none)
set_option maxHeartbeats 0 in
theorem laws_toInodeS_run (k : Nat) (x0 : (List DInode)) : c_laws_toInodeS (k + 1) (x0) = laws_toInodeS k x0 := by kernel_rfl
noncomputable def laws_toStringS_l1 (k : Nat) (self : ((List ByteArray) × ((List ByteArray) × Int)) → Option (List ByteArray)) (d : ((List ByteArray) × ((List ByteArray) × Int))) : Option (List ByteArray) :=
  (bif (decide (d.2.2 < (d.1.length : Int))) then (if 0 ≤ d.2.2 then (d.1[d.2.2.toNat]?).bind fun v0 =>
  (if 0 ≤ d.2.2 then (if d.2.2 < (d.2.1.length : Int) then (d.2.1[d.2.2.toNat]?).bind fun v1 =>
  self (d.1, (d.2.1.set d.2.2.toNat v0), (wrapK .i64 (d.2.2 + (1 : Int)))) else none) else none) else none) else some d.2.1)
noncomputable def laws_toStringS (k : Nat) (x0 : (List ByteArray)) : Option (List ByteArray) :=
  (if 0 ≤ (x0.length : Int) then (if (x0.length : Int) ≤ (x0.length : Int) then (if (x0.length : Int) * 16 ≤ (capBytes : Int) then iter k (laws_toStringS_l1 k) (x0, (List.replicate (x0.length : Int).toNat ByteArray.empty), (0 : Int)) else none) else none) else none)
set_option maxHeartbeats 0 in
theorem laws_toStringS_run (k : Nat) (x0 : (List ByteArray)) : c_laws_toStringS (k + 1) (x0) = laws_toStringS k x0 := by kernel_rfl
noncomputable def laws_toFS (k : Nat) (x0 : DFS) : Option DFS :=
  (c_laws_toQuotaS k x0.2.1).bind fun y1 =>
  (c_laws_toInodeS k x0.2.2.1).bind fun y2 =>
  (c_laws_toStringS k x0.2.2.2).bind fun y3 =>
  some (x0.1, y1, y2, y3)
set_option maxHeartbeats 0 in
theorem laws_toFS_run (k : Nat) (x0 : DFS) : c_laws_toFS (k + 1) (x0) = laws_toFS k x0 := by kernel_rfl
noncomputable def impl_isUser (k : Nat) (x0 : Int) : Option Bool :=
  (bif (decide ((0 : Int) ≤ x0)) then some (decide (x0 < (4 : Int))) else some false)
set_option maxHeartbeats 0 in
theorem impl_isUser_run (k : Nat) (x0 : Int) : c_impl_isUser (k + 1) (x0) = impl_isUser k x0 := by kernel_rfl
noncomputable def impl_isMode (k : Nat) (x0 : Int) : Option Bool :=
  (bif (decide ((0 : Int) ≤ x0)) then some (decide (x0 ≤ (2047 : Int))) else some false)
set_option maxHeartbeats 0 in
theorem impl_isMode_run (k : Nat) (x0 : Int) : c_impl_isMode (k + 1) (x0) = impl_isMode k x0 := by kernel_rfl
noncomputable def cmp_Or_int_l1 (k : Nat) (self : (Int × ((List Int) × DQuota)) → Option Int) (d : (Int × ((List Int) × DQuota))) : Option Int :=
  (bif (decide (d.2.2.2 < d.2.2.1)) then (if 0 ≤ d.2.2.2 then (d.2.1[d.2.2.2.toNat]?).bind fun v0 =>
  (bif (v0 != d.1) then some v0 else self (d.1, d.2.1, d.2.2.1, (wrapK .i64 (d.2.2.2 + (1 : Int))))) else none) else some d.1)
noncomputable def cmp_Or_int (k : Nat) (x0 : (List Int)) : Option Int :=
  iter k (cmp_Or_int_l1 k) ((0 : Int), x0, (x0.length : Int), (0 : Int))
set_option maxHeartbeats 0 in
theorem cmp_Or_int_run (k : Nat) (x0 : (List Int)) : c_cmp_Or_int (k + 1) (x0) = cmp_Or_int k x0 := by kernel_rfl
noncomputable def cmp_isNaN_int (k : Nat) (x0 : Int) : Option Bool :=
  some (x0 != x0)
set_option maxHeartbeats 0 in
theorem cmp_isNaN_int_run (k : Nat) (x0 : Int) : c_cmp_isNaN_int (k + 1) (x0) = cmp_isNaN_int k x0 := by kernel_rfl
noncomputable def cmp_Compare_int (k : Nat) (x0 : Int) (x1 : Int) : Option Int :=
  (c_cmp_isNaN_int k x0).bind fun y1 =>
  (c_cmp_isNaN_int k x1).bind fun y2 =>
  (bif y1 then (bif y2 then some (0 : Int) else some (-1 : Int)) else (bif y2 then some (1 : Int) else (bif (decide (x0 < x1)) then some (-1 : Int) else (bif (decide (x1 < x0)) then some (1 : Int) else some (0 : Int)))))
set_option maxHeartbeats 0 in
theorem cmp_Compare_int_run (k : Nat) (x0 : Int) (x1 : Int) : c_cmp_Compare_int (k + 1) (x0, x1) = cmp_Compare_int k x0 x1 := by kernel_rfl
noncomputable def impl_IsAcl_l1 (k : Nat) (self : ((List DAclEntry) × ((List DAclEntry) × DQuota)) → Option Bool) (d : ((List DAclEntry) × ((List DAclEntry) × DQuota))) : Option Bool :=
  (bif (decide (d.2.2.2 < d.2.2.1)) then (if 0 ≤ d.2.2.2 then (d.2.1[d.2.2.2.toNat]?).bind fun v0 =>
  (bif (decide (v0.2.2 < (0 : Int))) then some false else (bif (decide ((7 : Int) < v0.2.2)) then some false else (joinK (R := Bool) ((bif (v0.1 == (1 : Int)) then (bif (v0.1 == (1 : Int)) then (c_impl_isUser k v0.2.1).bind fun v1 =>
  (bif (!v1) then ((some false).map .inr) else some (.inl (d.1, d.2.2.2, (), d.2.1, d.2.2.1, d.2.2.2, v0))) else (bif (v0.1 == (3 : Int)) then (bif (v0.2.1 != (0 : Int)) then ((some false).map .inr) else some (.inl (d.1, d.2.2.2, (), d.2.1, d.2.2.1, d.2.2.2, v0))) else ((some false).map .inr))) else (bif (v0.1 == (2 : Int)) then (c_impl_isUser k v0.2.1).bind fun v2 =>
  (bif (!v2) then ((some false).map .inr) else some (.inl (d.1, d.2.2.2, (), d.2.1, d.2.2.1, d.2.2.2, v0))) else (bif (v0.1 == (3 : Int)) then (bif (v0.2.1 != (0 : Int)) then ((some false).map .inr) else some (.inl (d.1, d.2.2.2, (), d.2.1, d.2.2.1, d.2.2.2, v0))) else ((some false).map .inr))))) fun (v3 : ((List DAclEntry) × (Int × (Unit × ((List DAclEntry) × (Int × (Int × DAclEntry))))))) => (bif (decide ((0 : Int) < v3.2.1)) then (if 0 ≤ (wrapK .i64 (v3.2.1 - (1 : Int))) then (v3.1[(wrapK .i64 (v3.2.1 - (1 : Int))).toNat]?).bind fun v4 =>
  (c_cmp_Compare_int k (v4.1, v3.2.2.2.2.2.2.1)).bind fun v5 =>
  (if 0 ≤ (wrapK .i64 (v3.2.1 - (1 : Int))) then (v3.1[(wrapK .i64 (v3.2.1 - (1 : Int))).toNat]?).bind fun v6 =>
  (c_cmp_Compare_int k (v6.2.1, v3.2.2.2.2.2.2.2.1)).bind fun v7 =>
  (c_cmp_Or_int k ([v5, v7] : List Int)).bind fun v8 =>
  (bif (decide ((0 : Int) ≤ v8)) then some false else self (v3.1, v3.2.2.2.1, v3.2.2.2.2.1, (wrapK .i64 (v3.2.2.2.2.2.1 + (1 : Int))))) else none) else none) else self (v3.1, v3.2.2.2.1, v3.2.2.2.2.1, (wrapK .i64 (v3.2.2.2.2.2.1 + (1 : Int)))))))) else none) else (bif ((d.1.length : Int) == (0 : Int)) then some true else (if 0 ≤ (wrapK .i64 ((d.1.length : Int) - (1 : Int))) then (d.1[(wrapK .i64 ((d.1.length : Int) - (1 : Int))).toNat]?).bind fun v9 =>
  some (v9.1 == (3 : Int)) else none)))
noncomputable def impl_IsAcl (k : Nat) (x0 : (List DAclEntry)) : Option Bool :=
  (bif (decide ((6 : Int) < (x0.length : Int))) then some false else iter k (impl_IsAcl_l1 k) (x0, x0, (x0.length : Int), (0 : Int)))
set_option maxHeartbeats 0 in
theorem impl_IsAcl_run (k : Nat) (x0 : (List DAclEntry)) : c_impl_IsAcl (k + 1) (x0) = impl_IsAcl k x0 := by kernel_rfl
noncomputable def slices_Equal_int_int_l1 (k : Nat) (self : ((List Int) × ((List Int) × DQuota)) → Option Bool) (d : ((List Int) × ((List Int) × DQuota))) : Option Bool :=
  (bif (decide (d.2.2.2 < d.2.2.1)) then (if 0 ≤ d.2.2.2 then (d.1[d.2.2.2.toNat]?).bind fun v0 =>
  (if 0 ≤ d.2.2.2 then (d.2.1[d.2.2.2.toNat]?).bind fun v1 =>
  (bif (v0 != v1) then some false else self (d.1, d.2.1, d.2.2.1, (wrapK .i64 (d.2.2.2 + (1 : Int))))) else none) else none) else some true)
noncomputable def slices_Equal_int_int (k : Nat) (x0 : (List Int)) (x1 : (List Int)) : Option Bool :=
  (bif ((x0.length : Int) != (x1.length : Int)) then some false else iter k (slices_Equal_int_int_l1 k) (x0, x1, (x0.length : Int), (0 : Int)))
set_option maxHeartbeats 0 in
theorem slices_Equal_int_int_run (k : Nat) (x0 : (List Int)) (x1 : (List Int)) : c_slices_Equal_int_int (k + 1) (x0, x1) = slices_Equal_int_int k x0 x1 := by kernel_rfl
noncomputable def slices_Equal_impl_AclEntry_impl_AclEntry_l1 (k : Nat) (self : ((List DAclEntry) × ((List DAclEntry) × DQuota)) → Option Bool) (d : ((List DAclEntry) × ((List DAclEntry) × DQuota))) : Option Bool :=
  (bif (decide (d.2.2.2 < d.2.2.1)) then (if 0 ≤ d.2.2.2 then (d.1[d.2.2.2.toNat]?).bind fun v0 =>
  (if 0 ≤ d.2.2.2 then (d.2.1[d.2.2.2.toNat]?).bind fun v1 =>
  (bif (!((v0.1 == v1.1) && ((v0.2.1 == v1.2.1) && (v0.2.2 == v1.2.2)))) then some false else self (d.1, d.2.1, d.2.2.1, (wrapK .i64 (d.2.2.2 + (1 : Int))))) else none) else none) else some true)
noncomputable def slices_Equal_impl_AclEntry_impl_AclEntry (k : Nat) (x0 : (List DAclEntry)) (x1 : (List DAclEntry)) : Option Bool :=
  (bif ((x0.length : Int) != (x1.length : Int)) then some false else iter k (slices_Equal_impl_AclEntry_impl_AclEntry_l1 k) (x0, x1, (x0.length : Int), (0 : Int)))
set_option maxHeartbeats 0 in
theorem slices_Equal_impl_AclEntry_impl_AclEntry_run (k : Nat) (x0 : (List DAclEntry)) (x1 : (List DAclEntry)) : c_slices_Equal_impl_AclEntry_impl_AclEntry (k + 1) (x0, x1) = slices_Equal_impl_AclEntry_impl_AclEntry k x0 x1 := by kernel_rfl
noncomputable def impl_SameInode (k : Nat) (x0 : DInode) (x1 : DInode) : Option Bool :=
  (bif (x0.1 == x1.1) then (bif (x0.2.1 == x1.2.1) then (bif (x0.2.2.1 == x1.2.2.1) then (bif (x0.2.2.2.1 == x1.2.2.2.1) then (bif (x0.2.2.2.2.1 == x1.2.2.2.2.1) then (bif (x0.2.2.2.2.2.1 == x1.2.2.2.2.2.1) then (bif (x0.2.2.2.2.2.2.1 == x1.2.2.2.2.2.2.1) then (c_slices_Equal_int_int k (x0.2.2.2.2.2.2.2.1, x1.2.2.2.2.2.2.2.1)).bind fun y1 =>
  (bif y1 then (c_slices_Equal_impl_AclEntry_impl_AclEntry k (x0.2.2.2.2.2.2.2.2.1, x1.2.2.2.2.2.2.2.2.1)).bind fun y2 =>
  (bif y2 then (c_slices_Equal_impl_AclEntry_impl_AclEntry k (x0.2.2.2.2.2.2.2.2.2, x1.2.2.2.2.2.2.2.2.2)).bind fun y3 =>
  some y3 else some false) else some false) else some false) else some false) else some false) else some false) else some false) else some false) else some false)
set_option maxHeartbeats 0 in
theorem impl_SameInode_run (k : Nat) (x0 : DInode) (x1 : DInode) : c_impl_SameInode (k + 1) (x0, x1) = impl_SameInode k x0 x1 := by kernel_rfl
noncomputable def impl_BlocksNeeded (k : Nat) (x0 : Int) : Option Int :=
  (bif (decide (x0 ≤ (0 : Int))) then some (0 : Int) else (if ((32 : Int) : Int) ≠ 0 then some (wrapK .i64 ((wrapK .i64 ((wrapK .i64 (x0 - (1 : Int))).tdiv (32 : Int))) + (1 : Int))) else none))
set_option maxHeartbeats 0 in
theorem impl_BlocksNeeded_run (k : Nat) (x0 : Int) : c_impl_BlocksNeeded (k + 1) (x0) = impl_BlocksNeeded k x0 := by kernel_rfl
noncomputable def slices_Index_int_int_l1 (k : Nat) (self : ((List Int) × DAclEntry) → Option Int) (d : ((List Int) × DAclEntry)) : Option Int :=
  (bif (decide (d.2.2.2 < d.2.2.1)) then (if 0 ≤ d.2.2.2 then (d.1[d.2.2.2.toNat]?).bind fun v0 =>
  (bif (d.2.1 == v0) then some d.2.2.2 else self (d.1, d.2.1, d.2.2.1, (wrapK .i64 (d.2.2.2 + (1 : Int))))) else none) else some (-1 : Int))
noncomputable def slices_Index_int_int (k : Nat) (x0 : (List Int)) (x1 : Int) : Option Int :=
  iter k (slices_Index_int_int_l1 k) (x0, x1, (x0.length : Int), (0 : Int))
set_option maxHeartbeats 0 in
theorem slices_Index_int_int_run (k : Nat) (x0 : (List Int)) (x1 : Int) : c_slices_Index_int_int (k + 1) (x0, x1) = slices_Index_int_int k x0 x1 := by kernel_rfl
noncomputable def slices_Contains_int_int (k : Nat) (x0 : (List Int)) (x1 : Int) : Option Bool :=
  (c_slices_Index_int_int k (x0, x1)).bind fun y1 =>
  some (decide ((0 : Int) ≤ y1))
set_option maxHeartbeats 0 in
theorem slices_Contains_int_int_run (k : Nat) (x0 : (List Int)) (x1 : Int) : c_slices_Contains_int_int (k + 1) (x0, x1) = slices_Contains_int_int k x0 x1 := by kernel_rfl
noncomputable def impl_IsInode_l1 (k : Nat) (self : (Unit × ((List Int) × (Int × (Int × DInode)))) → Option Bool) (d : (Unit × ((List Int) × (Int × (Int × DInode))))) : Option Bool :=
  (bif (decide (d.2.2.2.1 < d.2.2.1)) then (if 0 ≤ d.2.2.2.1 then (d.2.1[d.2.2.2.1.toNat]?).bind fun v0 =>
  (bif (v0 != (-1 : Int)) then (bif (decide (v0 < (0 : Int))) then some false else (bif (decide ((999 : Int) < v0)) then some false else (if 0 ≤ d.2.2.2.1 then (if d.2.2.2.1 ≤ (d.2.2.2.2.2.2.2.2.2.2.2.1.length : Int) then (c_slices_Contains_int_int k (((d.2.2.2.2.2.2.2.2.2.2.2.1.take d.2.2.2.1.toNat).drop 0), v0)).bind fun v1 =>
  (bif v1 then some false else self ((), d.2.1, d.2.2.1, (wrapK .i64 (d.2.2.2.1 + (1 : Int))), d.2.2.2.2)) else none) else none))) else self ((), d.2.1, d.2.2.1, (wrapK .i64 (d.2.2.2.1 + (1 : Int))), d.2.2.2.2)) else none) else (bif (d.2.2.2.2.1 == (2 : Int)) then some true else (bif ((d.2.2.2.2.2.2.2.2.2.2.2.2.2.length : Int) == (0 : Int)) then some ((intBits .and .i64 d.2.2.2.2.2.1 (512 : Int)) == (0 : Int)) else some false)))
noncomputable def impl_IsInode (k : Nat) (x0 : DInode) : Option Bool :=
  (joinK (R := Bool) ((bif (x0.1 == (0 : Int)) then (c_impl_SameInode k (x0, ((0 : Int), (0 : Int), (0 : Int), (0 : Int), (0 : Int), (0 : Int), (0 : Int), ([] : List Int), ([] : List DAclEntry), ([] : List DAclEntry)))).bind fun y2 =>
  ((some y2).map .inr) else (bif (x0.1 == (1 : Int)) then (bif (x0.1 == (1 : Int)) then some (.inl ((), x0)) else ((some false).map .inr)) else (bif (x0.1 == (2 : Int)) then some (.inl ((), x0)) else ((some false).map .inr))))) fun (d1 : (Unit × DInode)) => (c_impl_isMode k d1.2.2.1).bind fun y3 =>
  (bif (!y3) then some false else (c_impl_isUser k d1.2.2.2.1).bind fun y4 =>
  (bif (!y4) then some false else (c_impl_isUser k d1.2.2.2.2.1).bind fun y5 =>
  (bif (!y5) then some false else (bif (decide (d1.2.2.2.2.2.1 < (0 : Int))) then some false else (bif (decide ((1000 : Int) < d1.2.2.2.2.2.1)) then some false else (bif (decide (d1.2.2.2.2.2.2.1 < (0 : Int))) then some false else (bif (decide ((256 : Int) < d1.2.2.2.2.2.2.1)) then some false else (bif (decide (d1.2.2.2.2.2.2.2.1 < (0 : Int))) then some false else (bif (decide ((1000000000 : Int) < d1.2.2.2.2.2.2.2.1)) then some false else (c_impl_BlocksNeeded k d1.2.2.2.2.2.2.1).bind fun y6 =>
  (bif ((d1.2.2.2.2.2.2.2.2.1.length : Int) != y6) then some false else (c_impl_IsAcl k d1.2.2.2.2.2.2.2.2.2.1).bind fun y7 =>
  (bif (!y7) then some false else (c_impl_IsAcl k d1.2.2.2.2.2.2.2.2.2.2).bind fun y8 =>
  (bif (!y8) then some false else iter k (impl_IsInode_l1 k) ((), d1.2.2.2.2.2.2.2.2.1, (d1.2.2.2.2.2.2.2.2.1.length : Int), (0 : Int), d1.2))))))))))))))
set_option maxHeartbeats 0 in
theorem impl_IsInode_run (k : Nat) (x0 : DInode) : c_impl_IsInode (k + 1) (x0) = impl_IsInode k x0 := by kernel_rfl
noncomputable def impl_BlockOwner (k : Nat) (x0 : Int) : Option Int :=
  (bif (decide (x0 < (0 : Int))) then some (-1 : Int) else (bif (decide ((56 : Int) ≤ x0)) then some (-1 : Int) else (if ((14 : Int) : Int) ≠ 0 then some (wrapK .i64 (x0.tdiv (14 : Int))) else none)))
set_option maxHeartbeats 0 in
theorem impl_BlockOwner_run (k : Nat) (x0 : Int) : c_impl_BlockOwner (k + 1) (x0) = impl_BlockOwner k x0 := by kernel_rfl
noncomputable def impl_IsZeroes_l1 (k : Nat) (self : (ByteArray × DQuota) → Option Bool) (d : (ByteArray × DQuota)) : Option Bool :=
  (bif (decide (d.2.2 < d.2.1)) then (if 0 ≤ d.2.2 then ((d.1[d.2.2.toNat]?.map fun v0 => (v0.toNat : Int))).bind fun v1 =>
  (bif (v1 != (0 : Int)) then some false else self (d.1, d.2.1, (wrapK .i64 (d.2.2 + (1 : Int))))) else none) else some true)
noncomputable def impl_IsZeroes (k : Nat) (x0 : ByteArray) : Option Bool :=
  iter k (impl_IsZeroes_l1 k) (x0, (x0.size : Int), (0 : Int))
set_option maxHeartbeats 0 in
theorem impl_IsZeroes_run (k : Nat) (x0 : ByteArray) : c_impl_IsZeroes (k + 1) (x0) = impl_IsZeroes k x0 := by kernel_rfl
noncomputable def impl_IsFS_l1 (k : Nat) (a0 : (Unit × (Unit × ((List DInode) × (Int × (Int × ((List Bool) × DFS)))))) → Option Bool) (self : (Unit × (Unit × (Unit × ((List DInode) × (Int × (Int × ((List Int) × (Int × (Int × (DInode × ((List Bool) × DFS))))))))))) → Option Bool) (d : (Unit × (Unit × (Unit × ((List DInode) × (Int × (Int × ((List Int) × (Int × (Int × (DInode × ((List Bool) × DFS)))))))))))) : Option Bool :=
  (bif (decide (d.2.2.2.2.2.2.2.2.1 < d.2.2.2.2.2.2.2.1)) then (if 0 ≤ d.2.2.2.2.2.2.2.2.1 then (d.2.2.2.2.2.2.1[d.2.2.2.2.2.2.2.2.1.toNat]?).bind fun v0 =>
  (bif (v0 == (-1 : Int)) then self ((), (), (), d.2.2.2.1, d.2.2.2.2.1, d.2.2.2.2.2.1, d.2.2.2.2.2.2.1, d.2.2.2.2.2.2.2.1, (wrapK .i64 (d.2.2.2.2.2.2.2.2.1 + (1 : Int))), d.2.2.2.2.2.2.2.2.2.1, d.2.2.2.2.2.2.2.2.2.2.1, d.2.2.2.2.2.2.2.2.2.2.2) else (c_impl_BlockOwner k v0).bind fun v1 =>
  (bif (v1 != d.2.2.2.2.2.2.2.2.2.1.2.2.1) then some false else (if 0 ≤ v0 then (if v0 < (56 : Int) then (d.2.2.2.2.2.2.2.2.2.2.1[v0.toNat]?).bind fun v2 =>
  (bif v2 then some false else (if 0 ≤ v0 then (if v0 < (56 : Int) then (d.2.2.2.2.2.2.2.2.2.2.1[v0.toNat]?).bind fun v3 =>
  (bif (decide ((wrapK .i64 (d.2.2.2.2.2.2.2.2.2.1.2.2.2.2.2.1 - (wrapK .i64 (d.2.2.2.2.2.2.2.2.1 * (32 : Int))))) < (32 : Int))) then (if 0 ≤ v0 then (d.2.2.2.2.2.2.2.2.2.2.2.2.2.2[v0.toNat]?).bind fun v4 =>
  (if 0 ≤ (wrapK .i64 (d.2.2.2.2.2.2.2.2.2.1.2.2.2.2.2.1 - (wrapK .i64 (d.2.2.2.2.2.2.2.2.1 * (32 : Int))))) then (if (wrapK .i64 (d.2.2.2.2.2.2.2.2.2.1.2.2.2.2.2.1 - (wrapK .i64 (d.2.2.2.2.2.2.2.2.1 * (32 : Int))))) ≤ (v4.size : Int) then (c_impl_IsZeroes k (v4.extract ((wrapK .i64 (d.2.2.2.2.2.2.2.2.2.1.2.2.2.2.2.1 - (wrapK .i64 (d.2.2.2.2.2.2.2.2.1 * (32 : Int))))).toNat) v4.size)).bind fun v5 =>
  (bif (!v5) then some false else self ((), (), (), d.2.2.2.1, d.2.2.2.2.1, d.2.2.2.2.2.1, d.2.2.2.2.2.2.1, d.2.2.2.2.2.2.2.1, (wrapK .i64 (d.2.2.2.2.2.2.2.2.1 + (1 : Int))), d.2.2.2.2.2.2.2.2.2.1, (d.2.2.2.2.2.2.2.2.2.2.1.set v0.toNat true), d.2.2.2.2.2.2.2.2.2.2.2)) else none) else none) else none) else self ((), (), (), d.2.2.2.1, d.2.2.2.2.1, d.2.2.2.2.2.1, d.2.2.2.2.2.2.1, d.2.2.2.2.2.2.2.1, (wrapK .i64 (d.2.2.2.2.2.2.2.2.1 + (1 : Int))), d.2.2.2.2.2.2.2.2.2.1, (d.2.2.2.2.2.2.2.2.2.2.1.set v0.toNat true), d.2.2.2.2.2.2.2.2.2.2.2)) else none) else none)) else none) else none))) else none) else a0 ((), (), d.2.2.2.1, d.2.2.2.2.1, (wrapK .i64 (d.2.2.2.2.2.1 + (1 : Int))), d.2.2.2.2.2.2.2.2.2.2.1, d.2.2.2.2.2.2.2.2.2.2.2))
noncomputable def impl_IsFS_l2 (k : Nat) (self : (Unit × (Unit × ((List ByteArray) × (Int × (Int × ((List Bool) × DFS)))))) → Option Bool) (d : (Unit × (Unit × ((List ByteArray) × (Int × (Int × ((List Bool) × DFS))))))) : Option Bool :=
  (bif (decide (d.2.2.2.2.1 < d.2.2.2.1)) then (if 0 ≤ d.2.2.2.2.1 then (d.2.2.1[d.2.2.2.2.1.toNat]?).bind fun v0 =>
  (if 0 ≤ d.2.2.2.2.1 then (if d.2.2.2.2.1 < (56 : Int) then (d.2.2.2.2.2.1[d.2.2.2.2.1.toNat]?).bind fun v1 =>
  (bif (!v1) then (c_impl_IsZeroes k v0).bind fun v2 =>
  (bif (!v2) then some false else self ((), (), d.2.2.1, d.2.2.2.1, (wrapK .i64 (d.2.2.2.2.1 + (1 : Int))), d.2.2.2.2.2.1, d.2.2.2.2.2.2)) else self ((), (), d.2.2.1, d.2.2.2.1, (wrapK .i64 (d.2.2.2.2.1 + (1 : Int))), d.2.2.2.2.2.1, d.2.2.2.2.2.2)) else none) else none) else none) else (if 0 ≤ (0 : Int) then (d.2.2.2.2.2.2.2.2.1[(0 : Int).toNat]?).bind fun v3 =>
  some (v3.1 == (2 : Int)) else none))
noncomputable def impl_IsFS_l3 (k : Nat) (self : (Unit × (Unit × ((List DInode) × (Int × (Int × ((List Bool) × DFS)))))) → Option Bool) (d : (Unit × (Unit × ((List DInode) × (Int × (Int × ((List Bool) × DFS))))))) : Option Bool :=
  (bif (decide (d.2.2.2.2.1 < d.2.2.2.1)) then (if 0 ≤ d.2.2.2.2.1 then (d.2.2.1[d.2.2.2.2.1.toNat]?).bind fun v0 =>
  (c_impl_IsInode k v0).bind fun v1 =>
  (bif (!v1) then some false else iter k (impl_IsFS_l1 k self) ((), (), (), d.2.2.1, d.2.2.2.1, d.2.2.2.2.1, v0.2.2.2.2.2.2.2.1, (v0.2.2.2.2.2.2.2.1.length : Int), (0 : Int), v0, d.2.2.2.2.2.1, d.2.2.2.2.2.2)) else none) else iter k (impl_IsFS_l2 k) ((), (), d.2.2.2.2.2.2.2.2.2, (d.2.2.2.2.2.2.2.2.2.length : Int), (0 : Int), d.2.2.2.2.2.1, d.2.2.2.2.2.2))
noncomputable def impl_IsFS_l4 (k : Nat) (self : (Unit × ((List ByteArray) × (Int × (Int × DFS)))) → Option Bool) (d : (Unit × ((List ByteArray) × (Int × (Int × DFS))))) : Option Bool :=
  (bif (decide (d.2.2.2.1 < d.2.2.1)) then (if 0 ≤ d.2.2.2.1 then (d.2.1[d.2.2.2.1.toNat]?).bind fun v0 =>
  (bif ((v0.size : Int) != (32 : Int)) then some false else self ((), d.2.1, d.2.2.1, (wrapK .i64 (d.2.2.2.1 + (1 : Int))), d.2.2.2.2)) else none) else iter k (impl_IsFS_l3 k) ((), (), d.2.2.2.2.2.2.1, (d.2.2.2.2.2.2.1.length : Int), (0 : Int), (List.replicate 56 false), d.2.2.2.2))
noncomputable def impl_IsFS_l5 (k : Nat) (self : (Unit × ((List DQuota) × (Int × (Int × DFS)))) → Option Bool) (d : (Unit × ((List DQuota) × (Int × (Int × DFS))))) : Option Bool :=
  (bif (decide (d.2.2.2.1 < d.2.2.1)) then (if 0 ≤ d.2.2.2.1 then (d.2.1[d.2.2.2.1.toNat]?).bind fun v0 =>
  (bif (decide (v0.1 < (0 : Int))) then some false else (bif (decide ((5 : Int) < v0.1)) then some false else (bif (decide (v0.2 < (0 : Int))) then some false else (bif (decide ((14 : Int) < v0.2)) then some false else self ((), d.2.1, d.2.2.1, (wrapK .i64 (d.2.2.2.1 + (1 : Int))), d.2.2.2.2))))) else none) else iter k (impl_IsFS_l4 k) ((), d.2.2.2.2.2.2.2, (d.2.2.2.2.2.2.2.length : Int), (0 : Int), d.2.2.2.2))
noncomputable def impl_IsFS (k : Nat) (x0 : DFS) : Option Bool :=
  (bif (decide (x0.1 < (0 : Int))) then some false else (bif (decide ((1000000000 : Int) < x0.1)) then some false else (bif ((x0.2.1.length : Int) != (4 : Int)) then some false else (bif ((x0.2.2.1.length : Int) != (20 : Int)) then some false else (bif ((x0.2.2.2.length : Int) != (56 : Int)) then some false else iter k (impl_IsFS_l5 k) ((), x0.2.1, (x0.2.1.length : Int), (0 : Int), x0))))))
set_option maxHeartbeats 0 in
theorem impl_IsFS_run (k : Nat) (x0 : DFS) : c_impl_IsFS (k + 1) (x0) = impl_IsFS k x0 := by kernel_rfl
noncomputable def impl_FormatInt (k : Nat) (x0 : Int) : Option ByteArray :=
  (c_strconv_Itoa k x0).bind fun y1 =>
  some y1
set_option maxHeartbeats 0 in
theorem impl_FormatInt_run (k : Nat) (x0 : Int) : c_impl_FormatInt (k + 1) (x0) = impl_FormatInt k x0 := by kernel_rfl
noncomputable def impl_FS_inodes_l1 (k : Nat) (self : (Int × ((List DInode) × DQuota)) → Option Int) (d : (Int × ((List DInode) × DQuota))) : Option Int :=
  (bif (decide (d.2.2.2 < d.2.2.1)) then (if 0 ≤ d.2.2.2 then (d.2.1[d.2.2.2.toNat]?).bind fun v0 =>
  (bif (v0.1 != (0 : Int)) then self ((wrapK .i64 (d.1 + (1 : Int))), d.2.1, d.2.2.1, (wrapK .i64 (d.2.2.2 + (1 : Int)))) else self (d.1, d.2.1, d.2.2.1, (wrapK .i64 (d.2.2.2 + (1 : Int))))) else none) else some d.1)
noncomputable def impl_FS_inodes (k : Nat) (x0 : (Option DFS)) (x1 : Int) : Option Int :=
  (x0).bind fun y1 =>
  (if 0 ≤ (wrapK .i64 ((wrapK .i64 (x1 + (1 : Int))) * (5 : Int))) then (if (wrapK .i64 ((wrapK .i64 (x1 + (1 : Int))) * (5 : Int))) ≤ (y1.2.2.1.length : Int) then (if 0 ≤ (wrapK .i64 (x1 * (5 : Int))) then (if (wrapK .i64 (x1 * (5 : Int))) ≤ (((wrapK .i64 ((wrapK .i64 (x1 + (1 : Int))) * (5 : Int))).toNat : Nat) : Int) then iter k (impl_FS_inodes_l1 k) ((0 : Int), ((y1.2.2.1.take ((wrapK .i64 ((wrapK .i64 (x1 + (1 : Int))) * (5 : Int))).toNat)).drop ((wrapK .i64 (x1 * (5 : Int))).toNat)), ((((y1.2.2.1.take ((wrapK .i64 ((wrapK .i64 (x1 + (1 : Int))) * (5 : Int))).toNat)).drop ((wrapK .i64 (x1 * (5 : Int))).toNat)).length : Nat) : Int), (0 : Int)) else none) else none) else none) else none)
set_option maxHeartbeats 0 in
theorem impl_FS_inodes_run (k : Nat) (x0 : (Option DFS)) (x1 : Int) : c_impl_FS_inodes (k + 1) (x0, x1) = impl_FS_inodes k x0 x1 := by kernel_rfl
noncomputable def impl_UsedBlocks_l1 (k : Nat) (self : ((List Int) × ((List Int) × DQuota)) → Option (List Int)) (d : ((List Int) × ((List Int) × DQuota))) : Option (List Int) :=
  (bif (decide (d.2.2.2 < d.2.2.1)) then (if 0 ≤ d.2.2.2 then (d.2.1[d.2.2.2.toNat]?).bind fun v0 =>
  (bif (v0 != (-1 : Int)) then (if (d.1.length + ([v0] : List Int).length) * 8 ≤ capBytes then self ((d.1 ++ ([v0] : List Int)), d.2.1, d.2.2.1, (wrapK .i64 (d.2.2.2 + (1 : Int)))) else none) else self (d.1, d.2.1, d.2.2.1, (wrapK .i64 (d.2.2.2 + (1 : Int))))) else none) else some d.1)
noncomputable def impl_UsedBlocks (k : Nat) (x0 : DInode) : Option (List Int) :=
  iter k (impl_UsedBlocks_l1 k) (([] : List Int), x0.2.2.2.2.2.2.2.1, (x0.2.2.2.2.2.2.2.1.length : Int), (0 : Int))
set_option maxHeartbeats 0 in
theorem impl_UsedBlocks_run (k : Nat) (x0 : DInode) : c_impl_UsedBlocks (k + 1) (x0) = impl_UsedBlocks k x0 := by kernel_rfl
noncomputable def impl_FS_taken_l1 (k : Nat) (a0 : ((List Bool) × ((List DInode) × DQuota)) → Option (List Bool)) (self : ((List Bool) × ((List DInode) × (Int × (Int × ((List Int) × DQuota))))) → Option (List Bool)) (d : ((List Bool) × ((List DInode) × (Int × (Int × ((List Int) × DQuota)))))) : Option (List Bool) :=
  (bif (decide (d.2.2.2.2.2.2 < d.2.2.2.2.2.1)) then (if 0 ≤ d.2.2.2.2.2.2 then (if d.2.2.2.2.2.2 < (d.2.2.2.2.1.length : Int) then (d.2.2.2.2.1[d.2.2.2.2.2.2.toNat]?).bind fun v0 =>
  (if 0 ≤ v0 then (if v0 < (d.1.length : Int) then (d.1[v0.toNat]?).bind fun v1 =>
  self ((d.1.set v0.toNat true), d.2.1, d.2.2.1, d.2.2.2.1, d.2.2.2.2.1, d.2.2.2.2.2.1, (wrapK .i64 (d.2.2.2.2.2.2 + (1 : Int)))) else none) else none) else none) else none) else a0 (d.1, d.2.1, d.2.2.1, (wrapK .i64 (d.2.2.2.1 + (1 : Int)))))
noncomputable def impl_FS_taken_l2 (k : Nat) (self : ((List Bool) × ((List DInode) × DQuota)) → Option (List Bool)) (d : ((List Bool) × ((List DInode) × DQuota))) : Option (List Bool) :=
  (bif (decide (d.2.2.2 < d.2.2.1)) then (if 0 ≤ d.2.2.2 then (d.2.1[d.2.2.2.toNat]?).bind fun v0 =>
  (c_impl_UsedBlocks k v0).bind fun v1 =>
  iter k (impl_FS_taken_l1 k self) (d.1, d.2.1, d.2.2.1, d.2.2.2, v1, (v1.length : Int), (0 : Int)) else none) else some d.1)
noncomputable def impl_FS_taken (k : Nat) (x0 : (Option DFS)) : Option (List Bool) :=
  (if 0 ≤ (56 : Int) then (if (56 : Int) ≤ (56 : Int) then (if (56 : Int) * 1 ≤ (capBytes : Int) then (x0).bind fun y1 =>
  iter k (impl_FS_taken_l2 k) ((List.replicate (56 : Int).toNat false), y1.2.2.1, (y1.2.2.1.length : Int), (0 : Int)) else none) else none) else none)
set_option maxHeartbeats 0 in
theorem impl_FS_taken_run (k : Nat) (x0 : (Option DFS)) : c_impl_FS_taken (k + 1) (x0) = impl_FS_taken k x0 := by kernel_rfl
noncomputable def impl_FS_blocks_l1 (k : Nat) (a0 : Int) (self : (Int × (Unit × (Int × (Int × (List Bool))))) → Option Int) (d : (Int × (Unit × (Int × (Int × (List Bool)))))) : Option Int :=
  (bif (decide (d.2.2.2.1 < d.2.2.1)) then (if 0 ≤ d.2.2.2.1 then (if d.2.2.2.1 < ((((wrapK .i64 ((wrapK .i64 (a0 + (1 : Int))) * (14 : Int))).toNat - (wrapK .i64 (a0 * (14 : Int))).toNat) : Nat) : Int) then (d.2.2.2.2[((wrapK .i64 (a0 * (14 : Int))).toNat + d.2.2.2.1.toNat)]?).bind fun v0 =>
  (bif v0 then (if (wrapK .i64 (a0 * (14 : Int))).toNat = (wrapK .i64 (a0 * (14 : Int))).toNat ∧ ((wrapK .i64 ((wrapK .i64 (a0 + (1 : Int))) * (14 : Int))).toNat - (wrapK .i64 (a0 * (14 : Int))).toNat) = ((wrapK .i64 ((wrapK .i64 (a0 + (1 : Int))) * (14 : Int))).toNat - (wrapK .i64 (a0 * (14 : Int))).toNat) then self ((wrapK .i64 (d.1 + (1 : Int))), (), d.2.2.1, (wrapK .i64 (d.2.2.2.1 + (1 : Int))), d.2.2.2.2) else none) else (if (wrapK .i64 (a0 * (14 : Int))).toNat = (wrapK .i64 (a0 * (14 : Int))).toNat ∧ ((wrapK .i64 ((wrapK .i64 (a0 + (1 : Int))) * (14 : Int))).toNat - (wrapK .i64 (a0 * (14 : Int))).toNat) = ((wrapK .i64 ((wrapK .i64 (a0 + (1 : Int))) * (14 : Int))).toNat - (wrapK .i64 (a0 * (14 : Int))).toNat) then self (d.1, (), d.2.2.1, (wrapK .i64 (d.2.2.2.1 + (1 : Int))), d.2.2.2.2) else none)) else none) else none) else some d.1)
noncomputable def impl_FS_blocks (k : Nat) (x0 : (Option DFS)) (x1 : Int) : Option Int :=
  (c_impl_FS_taken k x0).bind fun y1 =>
  (if 0 ≤ (wrapK .i64 ((wrapK .i64 (x1 + (1 : Int))) * (14 : Int))) then (if (wrapK .i64 ((wrapK .i64 (x1 + (1 : Int))) * (14 : Int))) ≤ (y1.length : Int) then (if 0 ≤ (wrapK .i64 (x1 * (14 : Int))) then (if (wrapK .i64 (x1 * (14 : Int))) ≤ (((wrapK .i64 ((wrapK .i64 (x1 + (1 : Int))) * (14 : Int))).toNat : Nat) : Int) then (if (wrapK .i64 (x1 * (14 : Int))).toNat = (wrapK .i64 (x1 * (14 : Int))).toNat ∧ ((wrapK .i64 ((wrapK .i64 (x1 + (1 : Int))) * (14 : Int))).toNat - (wrapK .i64 (x1 * (14 : Int))).toNat) = ((wrapK .i64 ((wrapK .i64 (x1 + (1 : Int))) * (14 : Int))).toNat - (wrapK .i64 (x1 * (14 : Int))).toNat) then iter k (impl_FS_blocks_l1 k x1) ((0 : Int), (), ((((wrapK .i64 ((wrapK .i64 (x1 + (1 : Int))) * (14 : Int))).toNat - (wrapK .i64 (x1 * (14 : Int))).toNat) : Nat) : Int), (0 : Int), y1) else none) else none) else none) else none) else none)
set_option maxHeartbeats 0 in
theorem impl_FS_blocks_run (k : Nat) (x0 : (Option DFS)) (x1 : Int) : c_impl_FS_blocks (k + 1) (x0, x1) = impl_FS_blocks k x0 x1 := by kernel_rfl
noncomputable def impl_UsageText (k : Nat) (x0 : DFS) (x1 : Int) : Option ByteArray :=
  (c_impl_IsFS k x0).bind fun y1 =>
  (bif (!y1) then some (⟨#[]⟩ : ByteArray) else (c_impl_isUser k x1).bind fun y2 =>
  (bif (!y2) then some (⟨#[]⟩ : ByteArray) else (c_impl_FS_inodes k ((some x0), x1)).bind fun y3 =>
  (c_impl_FormatInt k y3).bind fun y4 =>
  (if y4.size + (⟨#[47]⟩ : ByteArray).size ≤ 9223372036854775807 then (if 0 ≤ x1 then (x0.2.1[x1.toNat]?).bind fun y5 =>
  (c_impl_FormatInt k y5.1).bind fun y6 =>
  (if (y4 ++ (⟨#[47]⟩ : ByteArray)).size + y6.size ≤ 9223372036854775807 then (if ((y4 ++ (⟨#[47]⟩ : ByteArray)) ++ y6).size + (⟨#[32]⟩ : ByteArray).size ≤ 9223372036854775807 then (c_impl_FS_blocks k ((some x0), x1)).bind fun y7 =>
  (c_impl_FormatInt k y7).bind fun y8 =>
  (if (((y4 ++ (⟨#[47]⟩ : ByteArray)) ++ y6) ++ (⟨#[32]⟩ : ByteArray)).size + y8.size ≤ 9223372036854775807 then (if ((((y4 ++ (⟨#[47]⟩ : ByteArray)) ++ y6) ++ (⟨#[32]⟩ : ByteArray)) ++ y8).size + (⟨#[47]⟩ : ByteArray).size ≤ 9223372036854775807 then (if 0 ≤ x1 then (x0.2.1[x1.toNat]?).bind fun y9 =>
  (c_impl_FormatInt k y9.2).bind fun y10 =>
  (if (((((y4 ++ (⟨#[47]⟩ : ByteArray)) ++ y6) ++ (⟨#[32]⟩ : ByteArray)) ++ y8) ++ (⟨#[47]⟩ : ByteArray)).size + y10.size ≤ 9223372036854775807 then some ((((((y4 ++ (⟨#[47]⟩ : ByteArray)) ++ y6) ++ (⟨#[32]⟩ : ByteArray)) ++ y8) ++ (⟨#[47]⟩ : ByteArray)) ++ y10) else none) else none) else none) else none) else none) else none) else none) else none)))
set_option maxHeartbeats 0 in
theorem impl_UsageText_run (k : Nat) (x0 : DFS) (x1 : Int) : c_impl_UsageText (k + 1) (x0, x1) = impl_UsageText k x0 x1 := by kernel_rfl
noncomputable def laws_eqQuota (k : Nat) (x0 : DQuota) (x1 : DQuota) : Option Bool :=
  (bif (x0.1 != x1.1) then some false else (bif (x0.2 != x1.2) then some false else some true))
set_option maxHeartbeats 0 in
theorem laws_eqQuota_run (k : Nat) (x0 : DQuota) (x1 : DQuota) : c_laws_eqQuota (k + 1) (x0, x1) = laws_eqQuota k x0 x1 := by kernel_rfl
noncomputable def laws_eqQuotaS_l1 (k : Nat) (self : ((List DQuota) × ((List DQuota) × Int)) → Option Bool) (d : ((List DQuota) × ((List DQuota) × Int))) : Option Bool :=
  (bif (decide (d.2.2 < (d.1.length : Int))) then (if 0 ≤ d.2.2 then (d.1[d.2.2.toNat]?).bind fun v0 =>
  (if 0 ≤ d.2.2 then (d.2.1[d.2.2.toNat]?).bind fun v1 =>
  (c_laws_eqQuota k (v0, v1)).bind fun v2 =>
  (bif (!v2) then some false else self (d.1, d.2.1, (wrapK .i64 (d.2.2 + (1 : Int))))) else none) else none) else some true)
noncomputable def laws_eqQuotaS (k : Nat) (x0 : (List DQuota)) (x1 : (List DQuota)) : Option Bool :=
  (bif ((x0.length : Int) != (x1.length : Int)) then some false else iter k (laws_eqQuotaS_l1 k) (x0, x1, (0 : Int)))
set_option maxHeartbeats 0 in
theorem laws_eqQuotaS_run (k : Nat) (x0 : (List DQuota)) (x1 : (List DQuota)) : c_laws_eqQuotaS (k + 1) (x0, x1) = laws_eqQuotaS k x0 x1 := by kernel_rfl
noncomputable def laws_eqAclEntry (k : Nat) (x0 : DAclEntry) (x1 : DAclEntry) : Option Bool :=
  (bif (x0.1 != x1.1) then some false else (bif (x0.2.1 != x1.2.1) then some false else (bif (x0.2.2 != x1.2.2) then some false else some true)))
set_option maxHeartbeats 0 in
theorem laws_eqAclEntry_run (k : Nat) (x0 : DAclEntry) (x1 : DAclEntry) : c_laws_eqAclEntry (k + 1) (x0, x1) = laws_eqAclEntry k x0 x1 := by kernel_rfl
noncomputable def laws_eqAclEntryS_l1 (k : Nat) (self : ((List DAclEntry) × ((List DAclEntry) × Int)) → Option Bool) (d : ((List DAclEntry) × ((List DAclEntry) × Int))) : Option Bool :=
  (bif (decide (d.2.2 < (d.1.length : Int))) then (if 0 ≤ d.2.2 then (d.1[d.2.2.toNat]?).bind fun v0 =>
  (if 0 ≤ d.2.2 then (d.2.1[d.2.2.toNat]?).bind fun v1 =>
  (c_laws_eqAclEntry k (v0, v1)).bind fun v2 =>
  (bif (!v2) then some false else self (d.1, d.2.1, (wrapK .i64 (d.2.2 + (1 : Int))))) else none) else none) else some true)
noncomputable def laws_eqAclEntryS (k : Nat) (x0 : (List DAclEntry)) (x1 : (List DAclEntry)) : Option Bool :=
  (bif ((x0.length : Int) != (x1.length : Int)) then some false else iter k (laws_eqAclEntryS_l1 k) (x0, x1, (0 : Int)))
set_option maxHeartbeats 0 in
theorem laws_eqAclEntryS_run (k : Nat) (x0 : (List DAclEntry)) (x1 : (List DAclEntry)) : c_laws_eqAclEntryS (k + 1) (x0, x1) = laws_eqAclEntryS k x0 x1 := by kernel_rfl
noncomputable def laws_eqIntS_l1 (k : Nat) (self : ((List Int) × ((List Int) × Int)) → Option Bool) (d : ((List Int) × ((List Int) × Int))) : Option Bool :=
  (bif (decide (d.2.2 < (d.1.length : Int))) then (if 0 ≤ d.2.2 then (d.1[d.2.2.toNat]?).bind fun v0 =>
  (if 0 ≤ d.2.2 then (d.2.1[d.2.2.toNat]?).bind fun v1 =>
  (bif (v0 != v1) then some false else self (d.1, d.2.1, (wrapK .i64 (d.2.2 + (1 : Int))))) else none) else none) else some true)
noncomputable def laws_eqIntS (k : Nat) (x0 : (List Int)) (x1 : (List Int)) : Option Bool :=
  (bif ((x0.length : Int) != (x1.length : Int)) then some false else iter k (laws_eqIntS_l1 k) (x0, x1, (0 : Int)))
set_option maxHeartbeats 0 in
theorem laws_eqIntS_run (k : Nat) (x0 : (List Int)) (x1 : (List Int)) : c_laws_eqIntS (k + 1) (x0, x1) = laws_eqIntS k x0 x1 := by kernel_rfl
noncomputable def laws_eqInode (k : Nat) (x0 : DInode) (x1 : DInode) : Option Bool :=
  (bif (x0.1 != x1.1) then some false else (bif (x0.2.1 != x1.2.1) then some false else (bif (x0.2.2.1 != x1.2.2.1) then some false else (bif (x0.2.2.2.1 != x1.2.2.2.1) then some false else (bif (x0.2.2.2.2.1 != x1.2.2.2.2.1) then some false else (bif (x0.2.2.2.2.2.1 != x1.2.2.2.2.2.1) then some false else (bif (x0.2.2.2.2.2.2.1 != x1.2.2.2.2.2.2.1) then some false else (c_laws_eqIntS k (x0.2.2.2.2.2.2.2.1, x1.2.2.2.2.2.2.2.1)).bind fun y1 =>
  (bif (!y1) then some false else (c_laws_eqAclEntryS k (x0.2.2.2.2.2.2.2.2.1, x1.2.2.2.2.2.2.2.2.1)).bind fun y2 =>
  (bif (!y2) then some false else (c_laws_eqAclEntryS k (x0.2.2.2.2.2.2.2.2.2, x1.2.2.2.2.2.2.2.2.2)).bind fun y3 =>
  (bif (!y3) then some false else some true))))))))))
set_option maxHeartbeats 0 in
theorem laws_eqInode_run (k : Nat) (x0 : DInode) (x1 : DInode) : c_laws_eqInode (k + 1) (x0, x1) = laws_eqInode k x0 x1 := by kernel_rfl
noncomputable def laws_eqInodeS_l1 (k : Nat) (self : ((List DInode) × ((List DInode) × Int)) → Option Bool) (d : ((List DInode) × ((List DInode) × Int))) : Option Bool :=
  (bif (decide (d.2.2 < (d.1.length : Int))) then (if 0 ≤ d.2.2 then (d.1[d.2.2.toNat]?).bind fun v0 =>
  (if 0 ≤ d.2.2 then (d.2.1[d.2.2.toNat]?).bind fun v1 =>
  (c_laws_eqInode k (v0, v1)).bind fun v2 =>
  (bif (!v2) then some false else self (d.1, d.2.1, (wrapK .i64 (d.2.2 + (1 : Int))))) else none) else none) else some true)
noncomputable def laws_eqInodeS (k : Nat) (x0 : (List DInode)) (x1 : (List DInode)) : Option Bool :=
  (bif ((x0.length : Int) != (x1.length : Int)) then some false else iter k (laws_eqInodeS_l1 k) (x0, x1, (0 : Int)))
set_option maxHeartbeats 0 in
theorem laws_eqInodeS_run (k : Nat) (x0 : (List DInode)) (x1 : (List DInode)) : c_laws_eqInodeS (k + 1) (x0, x1) = laws_eqInodeS k x0 x1 := by kernel_rfl
noncomputable def laws_eqStringS_l1 (k : Nat) (self : ((List ByteArray) × ((List ByteArray) × Int)) → Option Bool) (d : ((List ByteArray) × ((List ByteArray) × Int))) : Option Bool :=
  (bif (decide (d.2.2 < (d.1.length : Int))) then (if 0 ≤ d.2.2 then (d.1[d.2.2.toNat]?).bind fun v0 =>
  (if 0 ≤ d.2.2 then (d.2.1[d.2.2.toNat]?).bind fun v1 =>
  (bif (!(eqS v0 v1)) then some false else self (d.1, d.2.1, (wrapK .i64 (d.2.2 + (1 : Int))))) else none) else none) else some true)
noncomputable def laws_eqStringS (k : Nat) (x0 : (List ByteArray)) (x1 : (List ByteArray)) : Option Bool :=
  (bif ((x0.length : Int) != (x1.length : Int)) then some false else iter k (laws_eqStringS_l1 k) (x0, x1, (0 : Int)))
set_option maxHeartbeats 0 in
theorem laws_eqStringS_run (k : Nat) (x0 : (List ByteArray)) (x1 : (List ByteArray)) : c_laws_eqStringS (k + 1) (x0, x1) = laws_eqStringS k x0 x1 := by kernel_rfl
noncomputable def laws_eqFS (k : Nat) (x0 : DFS) (x1 : DFS) : Option Bool :=
  (bif (x0.1 != x1.1) then some false else (c_laws_eqQuotaS k (x0.2.1, x1.2.1)).bind fun y1 =>
  (bif (!y1) then some false else (c_laws_eqInodeS k (x0.2.2.1, x1.2.2.1)).bind fun y2 =>
  (bif (!y2) then some false else (c_laws_eqStringS k (x0.2.2.2, x1.2.2.2)).bind fun y3 =>
  (bif (!y3) then some false else some true))))
set_option maxHeartbeats 0 in
theorem laws_eqFS_run (k : Nat) (x0 : DFS) (x1 : DFS) : c_laws_eqFS (k + 1) (x0, x1) = laws_eqFS k x0 x1 := by kernel_rfl
noncomputable def laws_FnExactUsageText (k : Nat) (x0 : DFS) (x1 : Int) : Option Bool :=
  (c_laws_szFS k (x0, (1048576 : Int))).bind fun y1 =>
  (bif (decide (y1 < (0 : Int))) then some true else (c_laws_toFS k x0).bind fun y2 =>
  (c_spec_UsageText k (y2, x1)).bind fun y3 =>
  (c_laws_toFS k x0).bind fun y4 =>
  (c_impl_UsageText k (y4, x1)).bind fun y5 =>
  (bif (!(eqS y5 y3)) then some false else (c_laws_toFS k x0).bind fun y6 =>
  (c_laws_eqFS k (y4, y6)).bind fun y7 =>
  (bif (!y7) then some false else some true)))
set_option maxHeartbeats 0 in
theorem laws_FnExactUsageText_run (k : Nat) (x0 : DFS) (x1 : Int) : c_laws_FnExactUsageText (k + 1) (x0, x1) = laws_FnExactUsageText k x0 x1 := by kernel_rfl
end Go.Proofs.YtnbipilpdhhhmaaDoor
