/- The tables, the residual functions and lemmas of this seat: parts of the proof of the law; conditions: those that each names. -/
import Derived.Test.YthegbgdoobpkiaaTab
set_option maxRecDepth 100000
set_option linter.unusedVariables false
namespace Go.Proofs.Ythegbgdoobpkiaa
open Go.Eng
noncomputable def laws_szStringS_l1 (k : Nat) (self : ((List ByteArray) × (Int × Int)) → Option Int) (d : ((List ByteArray) × (Int × Int))) : Option Int :=
  (bif (decide (d.2.2 < (d.1.length : Int))) then (if 0 ≤ d.2.2 then (d.1[d.2.2.toNat]?).bind fun v0 =>
  (bif (decide ((wrapK .i64 (d.2.1 - (v0.size : Int))) < (0 : Int))) then some (-1 : Int) else self (d.1, (wrapK .i64 (d.2.1 - (v0.size : Int))), (wrapK .i64 (d.2.2 + (1 : Int))))) else none) else some d.2.1)
noncomputable def laws_szStringS (k : Nat) (x0 : (List ByteArray)) (x1 : Int) : Option Int :=
  (bif (decide ((wrapK .i64 (x1 - (x0.length : Int))) < (0 : Int))) then some (-1 : Int) else iter k (laws_szStringS_l1 k) (x0, (wrapK .i64 (x1 - (x0.length : Int))), (0 : Int)))
theorem laws_szStringS_run (k : Nat) (x0 : (List ByteArray)) (x1 : Int) : c_laws_szStringS (k + 1) (x0, x1) = laws_szStringS k x0 x1 := by kernel_rfl
noncomputable def spec_l01In (k : Nat) (x0 : Int) (x1 : Int) (x2 : Int) : Option Bool :=
  (bif (decide (x1 ≤ x0)) then some (decide (x0 ≤ x2)) else some false)
theorem spec_l01In_run (k : Nat) (x0 : Int) (x1 : Int) (x2 : Int) : c_spec_l01In (k + 1) (x0, x1, x2) = spec_l01In k x0 x1 x2 := by kernel_rfl
noncomputable def spec_DiffImages_l1 (k : Nat) (self : ((List ByteArray) × ((List DWrite) × ((List ByteArray) × (Int × Int)))) → Option (List DWrite)) (d : ((List ByteArray) × ((List DWrite) × ((List ByteArray) × (Int × Int))))) : Option (List DWrite) :=
  (bif (decide (d.2.2.2.2 < d.2.2.2.1)) then (if 0 ≤ d.2.2.2.2 then (d.2.2.1[d.2.2.2.2.toNat]?).bind fun v0 =>
  (c_spec_l01In k (d.2.2.2.2, (1 : Int), (69 : Int))).bind fun v1 =>
  (bif (!v1) then (if 0 ≤ d.2.2.2.2 then (d.1[d.2.2.2.2.toNat]?).bind fun v2 =>
  (bif (!(eqS v0 v2)) then (if (d.2.1.length + ([(d.2.2.2.2, v0)] : List DWrite).length) * 24 ≤ capBytes then self (d.1, (d.2.1 ++ ([(d.2.2.2.2, v0)] : List DWrite)), d.2.2.1, d.2.2.2.1, (wrapK .i64 (d.2.2.2.2 + (1 : Int)))) else none) else self (d.1, d.2.1, d.2.2.1, d.2.2.2.1, (wrapK .i64 (d.2.2.2.2 + (1 : Int))))) else none) else self (d.1, d.2.1, d.2.2.1, d.2.2.2.1, (wrapK .i64 (d.2.2.2.2 + (1 : Int))))) else none) else some d.2.1)
noncomputable def spec_DiffImages (k : Nat) (x0 : (List ByteArray)) (x1 : (List ByteArray)) : Option (List DWrite) :=
  (bif ((x0.length : Int) != (186 : Int)) then some ([] : List DWrite) else (bif ((x1.length : Int) != (186 : Int)) then some ([] : List DWrite) else iter k (spec_DiffImages_l1 k) (x0, ([] : List DWrite), x1, (x1.length : Int), (0 : Int))))
theorem spec_DiffImages_run (k : Nat) (x0 : (List ByteArray)) (x1 : (List ByteArray)) : c_spec_DiffImages (k + 1) (x0, x1) = spec_DiffImages k x0 x1 := by kernel_rfl
noncomputable def laws_toStringS_l1 (k : Nat) (self : ((List ByteArray) × ((List ByteArray) × Int)) → Option (List ByteArray)) (d : ((List ByteArray) × ((List ByteArray) × Int))) : Option (List ByteArray) :=
  (bif (decide (d.2.2 < (d.1.length : Int))) then (if 0 ≤ d.2.2 then (d.1[d.2.2.toNat]?).bind fun v0 =>
  (if 0 ≤ d.2.2 then (if d.2.2 < (d.2.1.length : Int) then (d.2.1[d.2.2.toNat]?).bind fun v1 =>
  self (d.1, (d.2.1.set d.2.2.toNat v0), (wrapK .i64 (d.2.2 + (1 : Int)))) else none) else none) else none) else some d.2.1)
noncomputable def laws_toStringS (k : Nat) (x0 : (List ByteArray)) : Option (List ByteArray) :=
  (if 0 ≤ (x0.length : Int) then (if (x0.length : Int) ≤ (x0.length : Int) then (if (x0.length : Int) * 16 ≤ (capBytes : Int) then iter k (laws_toStringS_l1 k) (x0, (List.replicate (x0.length : Int).toNat ByteArray.empty), (0 : Int)) else none) else none) else none)
theorem laws_toStringS_run (k : Nat) (x0 : (List ByteArray)) : c_laws_toStringS (k + 1) (x0) = laws_toStringS k x0 := by kernel_rfl
noncomputable def impl_DiffImages_l1 (k : Nat) (self : ((List ByteArray) × ((List DWrite) × ((List ByteArray) × (Int × Int)))) → Option (List DWrite)) (d : ((List ByteArray) × ((List DWrite) × ((List ByteArray) × (Int × Int))))) : Option (List DWrite) :=
  (bif (decide (d.2.2.2.2 < d.2.2.2.1)) then (if 0 ≤ d.2.2.2.2 then (d.2.2.1[d.2.2.2.2.toNat]?).bind fun v0 =>
  (bif (decide (d.2.2.2.2 < (1 : Int))) then (if 0 ≤ d.2.2.2.2 then (d.1[d.2.2.2.2.toNat]?).bind fun v1 =>
  (bif (!(eqS v0 v1)) then (if (d.2.1.length + ([(d.2.2.2.2, v0)] : List DWrite).length) * 24 ≤ capBytes then self (d.1, (d.2.1 ++ ([(d.2.2.2.2, v0)] : List DWrite)), d.2.2.1, d.2.2.2.1, (wrapK .i64 (d.2.2.2.2 + (1 : Int)))) else none) else self (d.1, d.2.1, d.2.2.1, d.2.2.2.1, (wrapK .i64 (d.2.2.2.2 + (1 : Int))))) else none) else (bif (decide ((70 : Int) ≤ d.2.2.2.2)) then (if 0 ≤ d.2.2.2.2 then (d.1[d.2.2.2.2.toNat]?).bind fun v2 =>
  (bif (!(eqS v0 v2)) then (if (d.2.1.length + ([(d.2.2.2.2, v0)] : List DWrite).length) * 24 ≤ capBytes then self (d.1, (d.2.1 ++ ([(d.2.2.2.2, v0)] : List DWrite)), d.2.2.1, d.2.2.2.1, (wrapK .i64 (d.2.2.2.2 + (1 : Int)))) else none) else self (d.1, d.2.1, d.2.2.1, d.2.2.2.1, (wrapK .i64 (d.2.2.2.2 + (1 : Int))))) else none) else self (d.1, d.2.1, d.2.2.1, d.2.2.2.1, (wrapK .i64 (d.2.2.2.2 + (1 : Int)))))) else none) else some d.2.1)
noncomputable def impl_DiffImages (k : Nat) (x0 : (List ByteArray)) (x1 : (List ByteArray)) : Option (List DWrite) :=
  (bif ((x0.length : Int) != (186 : Int)) then some ([] : List DWrite) else (bif ((x1.length : Int) != (186 : Int)) then some ([] : List DWrite) else iter k (impl_DiffImages_l1 k) (x0, ([] : List DWrite), x1, (x1.length : Int), (0 : Int))))
theorem impl_DiffImages_run (k : Nat) (x0 : (List ByteArray)) (x1 : (List ByteArray)) : c_impl_DiffImages (k + 1) (x0, x1) = impl_DiffImages k x0 x1 := by kernel_rfl
noncomputable def laws_eqWrite (k : Nat) (x0 : DWrite) (x1 : DWrite) : Option Bool :=
  (bif (x0.1 != x1.1) then some false else (bif (!(eqS x0.2 x1.2)) then some false else some true))
theorem laws_eqWrite_run (k : Nat) (x0 : DWrite) (x1 : DWrite) : c_laws_eqWrite (k + 1) (x0, x1) = laws_eqWrite k x0 x1 := by kernel_rfl
noncomputable def laws_eqWriteS_l1 (k : Nat) (self : ((List DWrite) × ((List DWrite) × Int)) → Option Bool) (d : ((List DWrite) × ((List DWrite) × Int))) : Option Bool :=
  (bif (decide (d.2.2 < (d.1.length : Int))) then (if 0 ≤ d.2.2 then (d.1[d.2.2.toNat]?).bind fun v0 =>
  (if 0 ≤ d.2.2 then (d.2.1[d.2.2.toNat]?).bind fun v1 =>
  (c_laws_eqWrite k (v0, v1)).bind fun v2 =>
  (bif (!v2) then some false else self (d.1, d.2.1, (wrapK .i64 (d.2.2 + (1 : Int))))) else none) else none) else some true)
noncomputable def laws_eqWriteS (k : Nat) (x0 : (List DWrite)) (x1 : (List DWrite)) : Option Bool :=
  (bif ((x0.length : Int) != (x1.length : Int)) then some false else iter k (laws_eqWriteS_l1 k) (x0, x1, (0 : Int)))
theorem laws_eqWriteS_run (k : Nat) (x0 : (List DWrite)) (x1 : (List DWrite)) : c_laws_eqWriteS (k + 1) (x0, x1) = laws_eqWriteS k x0 x1 := by kernel_rfl
noncomputable def laws_eqStringS_l1 (k : Nat) (self : ((List ByteArray) × ((List ByteArray) × Int)) → Option Bool) (d : ((List ByteArray) × ((List ByteArray) × Int))) : Option Bool :=
  (bif (decide (d.2.2 < (d.1.length : Int))) then (if 0 ≤ d.2.2 then (d.1[d.2.2.toNat]?).bind fun v0 =>
  (if 0 ≤ d.2.2 then (d.2.1[d.2.2.toNat]?).bind fun v1 =>
  (bif (!(eqS v0 v1)) then some false else self (d.1, d.2.1, (wrapK .i64 (d.2.2 + (1 : Int))))) else none) else none) else some true)
noncomputable def laws_eqStringS (k : Nat) (x0 : (List ByteArray)) (x1 : (List ByteArray)) : Option Bool :=
  (bif ((x0.length : Int) != (x1.length : Int)) then some false else iter k (laws_eqStringS_l1 k) (x0, x1, (0 : Int)))
theorem laws_eqStringS_run (k : Nat) (x0 : (List ByteArray)) (x1 : (List ByteArray)) : c_laws_eqStringS (k + 1) (x0, x1) = laws_eqStringS k x0 x1 := by kernel_rfl
noncomputable def laws_markText_l1 (k : Nat) (self : DWrite → Option ByteArray) (d : DWrite) : Option ByteArray :=
  (bif (decide ((0 : Int) < d.1)) then (if ((10 : Int) : Int) ≠ 0 then (if (ofBytes ([(wrapK .u8 (wrapK .i64 ((48 : Int) + (d.1.tmod (10 : Int)))))] : List Int)).size + d.2.size ≤ 9223372036854775807 then (if ((10 : Int) : Int) ≠ 0 then self ((wrapK .i64 (d.1.tdiv (10 : Int))), ((ofBytes ([(wrapK .u8 (wrapK .i64 ((48 : Int) + (d.1.tmod (10 : Int)))))] : List Int)) ++ d.2)) else none) else none) else none) else (if (⟨#[109]⟩ : ByteArray).size + d.2.size ≤ 9223372036854775807 then some ((⟨#[109]⟩ : ByteArray) ++ d.2) else none))
noncomputable def laws_markText (k : Nat) (x0 : Int) : Option ByteArray :=
  (bif (decide (x0 ≤ (0 : Int))) then some (⟨#[109, 48]⟩ : ByteArray) else iter k (laws_markText_l1 k) (x0, (⟨#[]⟩ : ByteArray)))
theorem laws_markText_run (k : Nat) (x0 : Int) : c_laws_markText (k + 1) (x0) = laws_markText k x0 := by kernel_rfl
noncomputable def laws_markStringS_l1 (k : Nat) (self : (Unit × (Int × (Int × (List ByteArray)))) → Option (Int × (List ByteArray))) (d : (Unit × (Int × (Int × (List ByteArray))))) : Option (Int × (List ByteArray)) :=
  (bif (decide (d.2.2.1 < (d.2.2.2.length : Int))) then (c_laws_markText k d.2.1).bind fun v0 =>
  (if 0 ≤ d.2.2.1 then (if d.2.2.1 < (d.2.2.2.length : Int) then (d.2.2.2[d.2.2.1.toNat]?).bind fun v1 =>
  self ((), (wrapK .i64 (d.2.1 + (1 : Int))), (wrapK .i64 (d.2.2.1 + (1 : Int))), (d.2.2.2.set d.2.2.1.toNat v0)) else none) else none) else some (d.2.1, d.2.2.2))
noncomputable def laws_markStringS (k : Nat) (x0 : (List ByteArray)) (x1 : Int) : Option (Int × (List ByteArray)) :=
  iter k (laws_markStringS_l1 k) ((), x1, (0 : Int), x0)
theorem laws_markStringS_run (k : Nat) (x0 : (List ByteArray)) (x1 : Int) : c_laws_markStringS (k + 1) (x0, x1) = laws_markStringS k x0 x1 := by kernel_rfl
noncomputable def laws_markWriteS_l1 (k : Nat) (self : (Unit × (Int × (Int × (List DWrite)))) → Option (Int × (List DWrite))) (d : (Unit × (Int × (Int × (List DWrite))))) : Option (Int × (List DWrite)) :=
  (bif (decide (d.2.2.1 < (d.2.2.2.length : Int))) then (if 0 ≤ d.2.2.1 then (if d.2.2.1 < (d.2.2.2.length : Int) then (d.2.2.2[d.2.2.1.toNat]?).bind fun v0 =>
  (c_laws_markText k (wrapK .i64 (d.2.1 + (1 : Int)))).bind fun v1 =>
  (if 0 ≤ d.2.2.1 then (if d.2.2.1 < ((d.2.2.2.set d.2.2.1.toNat (d.2.1, v0.2)).length : Int) then ((d.2.2.2.set d.2.2.1.toNat (d.2.1, v0.2))[d.2.2.1.toNat]?).bind fun v2 =>
  self ((), (wrapK .i64 ((wrapK .i64 (d.2.1 + (1 : Int))) + (1 : Int))), (wrapK .i64 (d.2.2.1 + (1 : Int))), ((d.2.2.2.set d.2.2.1.toNat (d.2.1, v0.2)).set d.2.2.1.toNat (v2.1, v1))) else none) else none) else none) else none) else some (d.2.1, d.2.2.2))
noncomputable def laws_markWriteS (k : Nat) (x0 : (List DWrite)) (x1 : Int) : Option (Int × (List DWrite)) :=
  iter k (laws_markWriteS_l1 k) ((), x1, (0 : Int), x0)
theorem laws_markWriteS_run (k : Nat) (x0 : (List DWrite)) (x1 : Int) : c_laws_markWriteS (k + 1) (x0, x1) = laws_markWriteS k x0 x1 := by kernel_rfl
noncomputable def laws_heldWriteS_l1 (k : Nat) (self : ((List DWrite) × (Int × Int)) → Option Int) (d : ((List DWrite) × (Int × Int))) : Option Int :=
  (bif (decide (d.2.2 < (d.1.length : Int))) then (if 0 ≤ d.2.2 then (d.1[d.2.2.toNat]?).bind fun v0 =>
  (bif (v0.1 != d.2.1) then some (-1 : Int) else (if 0 ≤ d.2.2 then (d.1[d.2.2.toNat]?).bind fun v1 =>
  (c_laws_markText k (wrapK .i64 (d.2.1 + (1 : Int)))).bind fun v2 =>
  (bif (!(eqS v1.2 v2)) then some (-1 : Int) else self (d.1, (wrapK .i64 ((wrapK .i64 (d.2.1 + (1 : Int))) + (1 : Int))), (wrapK .i64 (d.2.2 + (1 : Int))))) else none)) else none) else some d.2.1)
noncomputable def laws_heldWriteS (k : Nat) (x0 : (List DWrite)) (x1 : Int) : Option Int :=
  iter k (laws_heldWriteS_l1 k) (x0, x1, (0 : Int))
theorem laws_heldWriteS_run (k : Nat) (x0 : (List DWrite)) (x1 : Int) : c_laws_heldWriteS (k + 1) (x0, x1) = laws_heldWriteS k x0 x1 := by kernel_rfl
noncomputable def laws_FnExactDiffImages (k : Nat) (x0 : (List ByteArray)) (x1 : (List ByteArray)) : Option Bool :=
  (c_laws_szStringS k (x0, (1048576 : Int))).bind fun y1 =>
  (bif (decide (y1 < (0 : Int))) then some true else (c_laws_szStringS k (x1, y1)).bind fun y2 =>
  (bif (decide (y2 < (0 : Int))) then some true else (c_laws_toStringS k x0).bind fun y3 =>
  (c_laws_toStringS k x1).bind fun y4 =>
  (c_spec_DiffImages k (y3, y4)).bind fun y5 =>
  (c_laws_toStringS k x0).bind fun y6 =>
  (c_laws_toStringS k x1).bind fun y7 =>
  (c_impl_DiffImages k (y6, y7)).bind fun y8 =>
  (c_laws_eqWriteS k (y8, y5)).bind fun y9 =>
  (bif (!y9) then some false else (c_laws_toStringS k x0).bind fun y10 =>
  (c_laws_eqStringS k (y6, y10)).bind fun y11 =>
  (bif (!y11) then some false else (c_laws_toStringS k x1).bind fun y12 =>
  (c_laws_eqStringS k (y7, y12)).bind fun y13 =>
  (bif (!y13) then some false else (c_laws_markStringS k (y6, (1 : Int))).bind fun y14 =>
  (c_laws_markStringS k (y7, y14.1)).bind fun y15 =>
  (bif (decide (y15.1 < (0 : Int))) then some false else (c_laws_eqWriteS k (y8, y5)).bind fun y16 =>
  (bif (!y16) then some false else (c_laws_markWriteS k (y8, (1 : Int))).bind fun y17 =>
  (c_laws_heldWriteS k (y17.2, (1 : Int))).bind fun y18 =>
  (bif (decide (y18 < (0 : Int))) then some false else (bif (y18 != y17.1) then some false else (c_laws_toStringS k x0).bind fun y19 =>
  (c_laws_toStringS k x1).bind fun y20 =>
  (c_impl_DiffImages k (y19, y20)).bind fun y21 =>
  (c_laws_eqWriteS k (y21, y5)).bind fun y22 =>
  (bif (!y22) then some false else (c_laws_heldWriteS k (y17.2, (1 : Int))).bind fun y23 =>
  (bif (decide (y23 < (0 : Int))) then some false else (bif (y23 != y17.1) then some false else some true))))))))))))
theorem laws_FnExactDiffImages_run (k : Nat) (x0 : (List ByteArray)) (x1 : (List ByteArray)) : c_laws_FnExactDiffImages (k + 1) (x0, x1) = laws_FnExactDiffImages k x0 x1 := by kernel_rfl
noncomputable def laws_szAclEntryS (k : Nat) (x0 : (List DAclEntry)) (x1 : Int) : Option Int :=
  (bif (decide ((wrapK .i64 (x1 - (x0.length : Int))) < (0 : Int))) then some (-1 : Int) else some (wrapK .i64 (x1 - (x0.length : Int))))
theorem laws_szAclEntryS_run (k : Nat) (x0 : (List DAclEntry)) (x1 : Int) : c_laws_szAclEntryS (k + 1) (x0, x1) = laws_szAclEntryS k x0 x1 := by kernel_rfl
noncomputable def laws_szCall (k : Nat) (x0 : DCall) (x1 : Int) : Option Int :=
  (bif (decide ((wrapK .i64 (x1 - (x0.2.2.1.size : Int))) < (0 : Int))) then some (-1 : Int) else (bif (decide ((wrapK .i64 ((wrapK .i64 (x1 - (x0.2.2.1.size : Int))) - (x0.2.2.2.1.size : Int))) < (0 : Int))) then some (-1 : Int) else (bif (decide ((wrapK .i64 ((wrapK .i64 ((wrapK .i64 (x1 - (x0.2.2.1.size : Int))) - (x0.2.2.2.1.size : Int))) - (x0.2.2.2.2.2.2.2.1.size : Int))) < (0 : Int))) then some (-1 : Int) else (c_laws_szAclEntryS k (x0.2.2.2.2.2.2.2.2.1, (wrapK .i64 ((wrapK .i64 ((wrapK .i64 (x1 - (x0.2.2.1.size : Int))) - (x0.2.2.2.1.size : Int))) - (x0.2.2.2.2.2.2.2.1.size : Int))))).bind fun y1 =>
  (bif (decide (y1 < (0 : Int))) then some (-1 : Int) else (c_laws_szAclEntryS k (x0.2.2.2.2.2.2.2.2.2, y1)).bind fun y2 =>
  (bif (decide (y2 < (0 : Int))) then some (-1 : Int) else some y2)))))
theorem laws_szCall_run (k : Nat) (x0 : DCall) (x1 : Int) : c_laws_szCall (k + 1) (x0, x1) = laws_szCall k x0 x1 := by kernel_rfl
noncomputable def laws_szBoolS (k : Nat) (x0 : (List Bool)) (x1 : Int) : Option Int :=
  (bif (decide ((wrapK .i64 (x1 - (x0.length : Int))) < (0 : Int))) then some (-1 : Int) else some (wrapK .i64 (x1 - (x0.length : Int))))
theorem laws_szBoolS_run (k : Nat) (x0 : (List Bool)) (x1 : Int) : c_laws_szBoolS (k + 1) (x0, x1) = laws_szBoolS k x0 x1 := by kernel_rfl
noncomputable def laws_szEvent (k : Nat) (x0 : DEvent) (x1 : Int) : Option Int :=
  (c_laws_szCall k (x0.2.1, x1)).bind fun y1 =>
  (bif (decide (y1 < (0 : Int))) then some (-1 : Int) else (c_laws_szBoolS k (x0.2.2.2.1, y1)).bind fun y2 =>
  (bif (decide (y2 < (0 : Int))) then some (-1 : Int) else some y2))
theorem laws_szEvent_run (k : Nat) (x0 : DEvent) (x1 : Int) : c_laws_szEvent (k + 1) (x0, x1) = laws_szEvent k x0 x1 := by kernel_rfl
noncomputable def laws_szEventS_l1 (k : Nat) (self : ((List DEvent) × (Int × Int)) → Option Int) (d : ((List DEvent) × (Int × Int))) : Option Int :=
  (bif (decide (d.2.2 < (d.1.length : Int))) then (if 0 ≤ d.2.2 then (d.1[d.2.2.toNat]?).bind fun v0 =>
  (c_laws_szEvent k (v0, d.2.1)).bind fun v1 =>
  (bif (decide (v1 < (0 : Int))) then some (-1 : Int) else self (d.1, v1, (wrapK .i64 (d.2.2 + (1 : Int))))) else none) else some d.2.1)
noncomputable def laws_szEventS (k : Nat) (x0 : (List DEvent)) (x1 : Int) : Option Int :=
  (bif (decide ((wrapK .i64 (x1 - (x0.length : Int))) < (0 : Int))) then some (-1 : Int) else iter k (laws_szEventS_l1 k) (x0, (wrapK .i64 (x1 - (x0.length : Int))), (0 : Int)))
theorem laws_szEventS_run (k : Nat) (x0 : (List DEvent)) (x1 : Int) : c_laws_szEventS (k + 1) (x0, x1) = laws_szEventS k x0 x1 := by kernel_rfl
noncomputable def spec_CountCrashes_l1 (k : Nat) (self : (Int × ((List DEvent) × (Int × Int))) → Option Int) (d : (Int × ((List DEvent) × (Int × Int)))) : Option Int :=
  (bif (decide (d.2.2.2 < d.2.2.1)) then (if 0 ≤ d.2.2.2 then (d.2.1[d.2.2.2.toNat]?).bind fun v0 =>
  (bif (v0.1 == (2 : Int)) then self ((wrapK .i64 (d.1 + (1 : Int))), d.2.1, d.2.2.1, (wrapK .i64 (d.2.2.2 + (1 : Int)))) else self (d.1, d.2.1, d.2.2.1, (wrapK .i64 (d.2.2.2 + (1 : Int))))) else none) else some d.1)
noncomputable def spec_CountCrashes (k : Nat) (x0 : (List DEvent)) : Option Int :=
  iter k (spec_CountCrashes_l1 k) ((0 : Int), x0, (x0.length : Int), (0 : Int))
theorem spec_CountCrashes_run (k : Nat) (x0 : (List DEvent)) : c_spec_CountCrashes (k + 1) (x0) = spec_CountCrashes k x0 := by kernel_rfl
noncomputable def laws_toAclEntry (k : Nat) (x0 : DAclEntry) : Option DAclEntry :=
  some (x0.1, x0.2.1, x0.2.2)
theorem laws_toAclEntry_run (k : Nat) (x0 : DAclEntry) : c_laws_toAclEntry (k + 1) (x0) = laws_toAclEntry k x0 := by kernel_rfl
noncomputable def laws_toAclEntryS_l1 (k : Nat) (self : ((List DAclEntry) × ((List DAclEntry) × Int)) → Option (List DAclEntry)) (d : ((List DAclEntry) × ((List DAclEntry) × Int))) : Option (List DAclEntry) :=
  (bif (decide (d.2.2 < (d.1.length : Int))) then (if 0 ≤ d.2.2 then (d.1[d.2.2.toNat]?).bind fun v0 =>
  (c_laws_toAclEntry k v0).bind fun v1 =>
  (if 0 ≤ d.2.2 then (if d.2.2 < (d.2.1.length : Int) then (d.2.1[d.2.2.toNat]?).bind fun v2 =>
  self (d.1, (d.2.1.set d.2.2.toNat v1), (wrapK .i64 (d.2.2 + (1 : Int)))) else none) else none) else none) else some d.2.1)
noncomputable def laws_toAclEntryS (k : Nat) (x0 : (List DAclEntry)) : Option (List DAclEntry) :=
  (if 0 ≤ (x0.length : Int) then (if (x0.length : Int) ≤ (x0.length : Int) then (if (x0.length : Int) * 24 ≤ (capBytes : Int) then iter k (laws_toAclEntryS_l1 k) (x0, (List.replicate (x0.length : Int).toNat ((0 : Int), (0 : Int), (0 : Int))), (0 : Int)) else none) else none) else none)
theorem laws_toAclEntryS_run (k : Nat) (x0 : (List DAclEntry)) : c_laws_toAclEntryS (k + 1) (x0) = laws_toAclEntryS k x0 := by kernel_rfl
noncomputable def laws_toCall (k : Nat) (x0 : DCall) : Option DCall :=
  (c_laws_toAclEntryS k x0.2.2.2.2.2.2.2.2.1).bind fun y1 =>
  (c_laws_toAclEntryS k x0.2.2.2.2.2.2.2.2.2).bind fun y2 =>
  some (x0.1, x0.2.1, x0.2.2.1, x0.2.2.2.1, x0.2.2.2.2.1, x0.2.2.2.2.2.1, x0.2.2.2.2.2.2.1, x0.2.2.2.2.2.2.2.1, y1, y2)
theorem laws_toCall_run (k : Nat) (x0 : DCall) : c_laws_toCall (k + 1) (x0) = laws_toCall k x0 := by kernel_rfl
noncomputable def laws_toBoolS_l1 (k : Nat) (self : ((List Bool) × ((List Bool) × Int)) → Option (List Bool)) (d : ((List Bool) × ((List Bool) × Int))) : Option (List Bool) :=
  (bif (decide (d.2.2 < (d.1.length : Int))) then (if 0 ≤ d.2.2 then (d.1[d.2.2.toNat]?).bind fun v0 =>
  (if 0 ≤ d.2.2 then (if d.2.2 < (d.2.1.length : Int) then (d.2.1[d.2.2.toNat]?).bind fun v1 =>
  self (d.1, (d.2.1.set d.2.2.toNat v0), (wrapK .i64 (d.2.2 + (1 : Int)))) else none) else none) else none) else some d.2.1)
noncomputable def laws_toBoolS (k : Nat) (x0 : (List Bool)) : Option (List Bool) :=
  (if 0 ≤ (x0.length : Int) then (if (x0.length : Int) ≤ (x0.length : Int) then (if (x0.length : Int) * 1 ≤ (capBytes : Int) then iter k (laws_toBoolS_l1 k) (x0, (List.replicate (x0.length : Int).toNat false), (0 : Int)) else none) else none) else none)
theorem laws_toBoolS_run (k : Nat) (x0 : (List Bool)) : c_laws_toBoolS (k + 1) (x0) = laws_toBoolS k x0 := by kernel_rfl
noncomputable def laws_toEvent (k : Nat) (x0 : DEvent) : Option DEvent :=
  (c_laws_toCall k x0.2.1).bind fun y1 =>
  (c_laws_toBoolS k x0.2.2.2.1).bind fun y2 =>
  some (x0.1, y1, x0.2.2.1, y2, x0.2.2.2.2)
theorem laws_toEvent_run (k : Nat) (x0 : DEvent) : c_laws_toEvent (k + 1) (x0) = laws_toEvent k x0 := by kernel_rfl
noncomputable def laws_toEventS_l1 (k : Nat) (self : ((List DEvent) × ((List DEvent) × Int)) → Option (List DEvent)) (d : ((List DEvent) × ((List DEvent) × Int))) : Option (List DEvent) :=
  (bif (decide (d.2.2 < (d.1.length : Int))) then (if 0 ≤ d.2.2 then (d.1[d.2.2.toNat]?).bind fun v0 =>
  (c_laws_toEvent k v0).bind fun v1 =>
  (if 0 ≤ d.2.2 then (if d.2.2 < (d.2.1.length : Int) then (d.2.1[d.2.2.toNat]?).bind fun v2 =>
  self (d.1, (d.2.1.set d.2.2.toNat v1), (wrapK .i64 (d.2.2 + (1 : Int)))) else none) else none) else none) else some d.2.1)
noncomputable def laws_toEventS (k : Nat) (x0 : (List DEvent)) : Option (List DEvent) :=
  (if 0 ≤ (x0.length : Int) then (if (x0.length : Int) ≤ (x0.length : Int) then (if (x0.length : Int) * 184 ≤ (capBytes : Int) then iter k (laws_toEventS_l1 k) (x0, (List.replicate (x0.length : Int).toNat ((0 : Int), ((0 : Int), (0 : Int), ByteArray.empty, ByteArray.empty, (0 : Int), (0 : Int), (0 : Int), ByteArray.empty, ([] : List DAclEntry), ([] : List DAclEntry)), (0 : Int), ([] : List Bool), (0 : Int))), (0 : Int)) else none) else none) else none)
theorem laws_toEventS_run (k : Nat) (x0 : (List DEvent)) : c_laws_toEventS (k + 1) (x0) = laws_toEventS k x0 := by kernel_rfl
noncomputable def impl_CountCrashes_l1 (k : Nat) (self : (Int × ((List DEvent) × (Int × Int))) → Option Int) (d : (Int × ((List DEvent) × (Int × Int)))) : Option Int :=
  (bif (decide (d.2.2.2 < d.2.2.1)) then (if 0 ≤ d.2.2.2 then (d.2.1[d.2.2.2.toNat]?).bind fun v0 =>
  (bif (v0.1 == (2 : Int)) then self ((wrapK .i64 (d.1 + (1 : Int))), d.2.1, d.2.2.1, (wrapK .i64 (d.2.2.2 + (1 : Int)))) else self (d.1, d.2.1, d.2.2.1, (wrapK .i64 (d.2.2.2 + (1 : Int))))) else none) else some d.1)
noncomputable def impl_CountCrashes (k : Nat) (x0 : (List DEvent)) : Option Int :=
  iter k (impl_CountCrashes_l1 k) ((0 : Int), x0, (x0.length : Int), (0 : Int))
theorem impl_CountCrashes_run (k : Nat) (x0 : (List DEvent)) : c_impl_CountCrashes (k + 1) (x0) = impl_CountCrashes k x0 := by kernel_rfl
noncomputable def laws_eqAclEntry (k : Nat) (x0 : DAclEntry) (x1 : DAclEntry) : Option Bool :=
  (bif (x0.1 != x1.1) then some false else (bif (x0.2.1 != x1.2.1) then some false else (bif (x0.2.2 != x1.2.2) then some false else some true)))
theorem laws_eqAclEntry_run (k : Nat) (x0 : DAclEntry) (x1 : DAclEntry) : c_laws_eqAclEntry (k + 1) (x0, x1) = laws_eqAclEntry k x0 x1 := by kernel_rfl
noncomputable def laws_eqAclEntryS_l1 (k : Nat) (self : ((List DAclEntry) × ((List DAclEntry) × Int)) → Option Bool) (d : ((List DAclEntry) × ((List DAclEntry) × Int))) : Option Bool :=
  (bif (decide (d.2.2 < (d.1.length : Int))) then (if 0 ≤ d.2.2 then (d.1[d.2.2.toNat]?).bind fun v0 =>
  (if 0 ≤ d.2.2 then (d.2.1[d.2.2.toNat]?).bind fun v1 =>
  (c_laws_eqAclEntry k (v0, v1)).bind fun v2 =>
  (bif (!v2) then some false else self (d.1, d.2.1, (wrapK .i64 (d.2.2 + (1 : Int))))) else none) else none) else some true)
noncomputable def laws_eqAclEntryS (k : Nat) (x0 : (List DAclEntry)) (x1 : (List DAclEntry)) : Option Bool :=
  (bif ((x0.length : Int) != (x1.length : Int)) then some false else iter k (laws_eqAclEntryS_l1 k) (x0, x1, (0 : Int)))
theorem laws_eqAclEntryS_run (k : Nat) (x0 : (List DAclEntry)) (x1 : (List DAclEntry)) : c_laws_eqAclEntryS (k + 1) (x0, x1) = laws_eqAclEntryS k x0 x1 := by kernel_rfl
noncomputable def laws_eqCall (k : Nat) (x0 : DCall) (x1 : DCall) : Option Bool :=
  (bif (x0.1 != x1.1) then some false else (bif (x0.2.1 != x1.2.1) then some false else (bif (!(eqS x0.2.2.1 x1.2.2.1)) then some false else (bif (!(eqS x0.2.2.2.1 x1.2.2.2.1)) then some false else (bif (x0.2.2.2.2.1 != x1.2.2.2.2.1) then some false else (bif (x0.2.2.2.2.2.1 != x1.2.2.2.2.2.1) then some false else (bif (x0.2.2.2.2.2.2.1 != x1.2.2.2.2.2.2.1) then some false else (bif (!(eqS x0.2.2.2.2.2.2.2.1 x1.2.2.2.2.2.2.2.1)) then some false else (c_laws_eqAclEntryS k (x0.2.2.2.2.2.2.2.2.1, x1.2.2.2.2.2.2.2.2.1)).bind fun y1 =>
  (bif (!y1) then some false else (c_laws_eqAclEntryS k (x0.2.2.2.2.2.2.2.2.2, x1.2.2.2.2.2.2.2.2.2)).bind fun y2 =>
  (bif (!y2) then some false else some true))))))))))
theorem laws_eqCall_run (k : Nat) (x0 : DCall) (x1 : DCall) : c_laws_eqCall (k + 1) (x0, x1) = laws_eqCall k x0 x1 := by kernel_rfl
noncomputable def laws_eqBoolS_l1 (k : Nat) (self : ((List Bool) × ((List Bool) × Int)) → Option Bool) (d : ((List Bool) × ((List Bool) × Int))) : Option Bool :=
  (bif (decide (d.2.2 < (d.1.length : Int))) then (if 0 ≤ d.2.2 then (d.1[d.2.2.toNat]?).bind fun v0 =>
  (if 0 ≤ d.2.2 then (d.2.1[d.2.2.toNat]?).bind fun v1 =>
  (bif (v0 != v1) then some false else self (d.1, d.2.1, (wrapK .i64 (d.2.2 + (1 : Int))))) else none) else none) else some true)
noncomputable def laws_eqBoolS (k : Nat) (x0 : (List Bool)) (x1 : (List Bool)) : Option Bool :=
  (bif ((x0.length : Int) != (x1.length : Int)) then some false else iter k (laws_eqBoolS_l1 k) (x0, x1, (0 : Int)))
theorem laws_eqBoolS_run (k : Nat) (x0 : (List Bool)) (x1 : (List Bool)) : c_laws_eqBoolS (k + 1) (x0, x1) = laws_eqBoolS k x0 x1 := by kernel_rfl
noncomputable def laws_eqEvent (k : Nat) (x0 : DEvent) (x1 : DEvent) : Option Bool :=
  (bif (x0.1 != x1.1) then some false else (c_laws_eqCall k (x0.2.1, x1.2.1)).bind fun y1 =>
  (bif (!y1) then some false else (bif (x0.2.2.1 != x1.2.2.1) then some false else (c_laws_eqBoolS k (x0.2.2.2.1, x1.2.2.2.1)).bind fun y2 =>
  (bif (!y2) then some false else (bif (x0.2.2.2.2 != x1.2.2.2.2) then some false else some true)))))
theorem laws_eqEvent_run (k : Nat) (x0 : DEvent) (x1 : DEvent) : c_laws_eqEvent (k + 1) (x0, x1) = laws_eqEvent k x0 x1 := by kernel_rfl
noncomputable def laws_eqEventS_l1 (k : Nat) (self : ((List DEvent) × ((List DEvent) × Int)) → Option Bool) (d : ((List DEvent) × ((List DEvent) × Int))) : Option Bool :=
  (bif (decide (d.2.2 < (d.1.length : Int))) then (if 0 ≤ d.2.2 then (d.1[d.2.2.toNat]?).bind fun v0 =>
  (if 0 ≤ d.2.2 then (d.2.1[d.2.2.toNat]?).bind fun v1 =>
  (c_laws_eqEvent k (v0, v1)).bind fun v2 =>
  (bif (!v2) then some false else self (d.1, d.2.1, (wrapK .i64 (d.2.2 + (1 : Int))))) else none) else none) else some true)
noncomputable def laws_eqEventS (k : Nat) (x0 : (List DEvent)) (x1 : (List DEvent)) : Option Bool :=
  (bif ((x0.length : Int) != (x1.length : Int)) then some false else iter k (laws_eqEventS_l1 k) (x0, x1, (0 : Int)))
theorem laws_eqEventS_run (k : Nat) (x0 : (List DEvent)) (x1 : (List DEvent)) : c_laws_eqEventS (k + 1) (x0, x1) = laws_eqEventS k x0 x1 := by kernel_rfl
noncomputable def laws_FnExactCountCrashes (k : Nat) (x0 : (List DEvent)) : Option Bool :=
  (c_laws_szEventS k (x0, (1048576 : Int))).bind fun y1 =>
  (bif (decide (y1 < (0 : Int))) then some true else (c_laws_toEventS k x0).bind fun y2 =>
  (c_spec_CountCrashes k y2).bind fun y3 =>
  (c_laws_toEventS k x0).bind fun y4 =>
  (c_impl_CountCrashes k y4).bind fun y5 =>
  (bif (y5 != y3) then some false else (c_laws_toEventS k x0).bind fun y6 =>
  (c_laws_eqEventS k (y4, y6)).bind fun y7 =>
  (bif (!y7) then some false else some true)))
theorem laws_FnExactCountCrashes_run (k : Nat) (x0 : (List DEvent)) : c_laws_FnExactCountCrashes (k + 1) (x0) = laws_FnExactCountCrashes k x0 := by kernel_rfl
end Go.Proofs.Ythegbgdoobpkiaa
