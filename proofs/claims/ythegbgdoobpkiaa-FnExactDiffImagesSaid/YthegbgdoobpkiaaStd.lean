/- The tables, the residual functions and lemmas of this seat: parts of the proof of the law; conditions: those that each names. -/
import Derived.Test.YthegbgdoobpkiaaRes
set_option linter.unusedVariables false
set_option linter.unusedSimpArgs false
set_option maxRecDepth 100000
namespace Go.Proofs.Ythegbgdoobpkiaa
open Go.Eng
theorem markText_ex : ∀ (n : Nat) (s : ByteArray), s.size + n < 9223372036854775000 → ∃ r, EvL laws_markText_l1 ((n : Int), s) r := by
  intro n
  induction n using Nat.strongRecOn with
  | _ n ih =>
    intro s hs
    by_cases h0 : n = 0
    · subst h0
      refine ⟨(⟨#[109]⟩ : ByteArray) ++ s, EvL.stop ?_⟩
      have h1 : (⟨#[109]⟩ : ByteArray).size + s.size ≤ 9223372036854775807 := by
        have : (⟨#[109]⟩ : ByteArray).size = 1 := rfl
        omega
      simp only [laws_markText_l1, Int.ofNat_zero, Int.lt_irrefl, decide_false, cond_false, if_pos h1]
      exact EvQ.const _
    · have hc : (ofBytes [(wrapK .u8 (wrapK .i64 ((48 : Int) + ((n : Int).tmod (10 : Int)))))]).size = 1 := rfl
      obtain ⟨r, hr⟩ := ih (n / 10) (by omega) (ofBytes [(wrapK .u8 (wrapK .i64 ((48 : Int) + ((n : Int).tmod (10 : Int)))))] ++ s) (by rw [ByteArray.size_append, hc]; omega)
      refine ⟨r, EvL.step (d' := (((n / 10 : Nat) : Int), ofBytes [(wrapK .u8 (wrapK .i64 ((48 : Int) + ((n : Int).tmod (10 : Int)))))] ++ s)) ?_ hr⟩
      have h1 : (0 : Int) < (n : Int) := by omega
      have h2 : wrapK .i64 ((n : Int).tdiv 10) = ((n / 10 : Nat) : Int) := by
        have e : (n : Int).tdiv 10 = ((n / 10 : Nat) : Int) := by rw [Int.tdiv_eq_ediv_of_nonneg (by omega)]; omega
        rw [e]; exact wrap_i64 (by omega) (by omega)
      have h3 : (ofBytes [(wrapK .u8 (wrapK .i64 ((48 : Int) + ((n : Int).tmod (10 : Int)))))]).size + s.size ≤ 9223372036854775807 := by rw [hc]; omega
      have h4 : (10 : Int) ≠ 0 := by decide
      simp only [EvS, laws_markText_l1, h1, decide_true, cond_true, if_pos h4, if_pos h3, h2]
      exact EvQ.const _
open Classical in
noncomputable def mtext (m : Int) : ByteArray := if h : ∃ s, Ev (fun k => c_laws_markText k m) s then h.choose else ByteArray.empty
theorem markText_ev (m : Int) (h0 : 0 ≤ m) (h1 : m < 4611686018427387904) : Ev (fun k => c_laws_markText k m) (mtext m) := by
  have hex : ∃ s, Ev (fun k => c_laws_markText k m) s := by
    by_cases hm : m ≤ 0
    · refine ⟨(⟨#[109, 48]⟩ : ByteArray), EvQ.run (fun k => laws_markText_run k m) ?_⟩
      simp only [laws_markText, hm, decide_true, cond_true]
      exact EvQ.const _
    · obtain ⟨n, rfl⟩ : ∃ n : Nat, m = n := ⟨m.toNat, by omega⟩
      obtain ⟨r, hr⟩ := markText_ex n ByteArray.empty (by have : ByteArray.empty.size = 0 := rfl; omega)
      refine ⟨r, EvQ.run (fun k => laws_markText_run k n) ?_⟩
      simp only [laws_markText, hm, decide_false, cond_false]
      exact EvL.ev hr
  unfold mtext
  rw [dif_pos hex]
  exact hex.choose_spec
def szM_StringS (x : List ByteArray) : Nat := x.length + (x.map fun y => y.size).sum
theorem szStringS_ev (x : (List ByteArray)) (hx : okD ((.list false .str)) x) {left : Int} (h0 : 0 ≤ left) (h1 : left ≤ 1048576) : Ev (fun k => c_laws_szStringS k (x, left)) (szR (szM_StringS x) left) := by
  refine EvQ.run (fun k => laws_szStringS_run k x left) ?_
  simp only [laws_szStringS]
  have b0 : x.length ≤ 9223372036854775807 := hx.1
  have e0 : wrapK .i64 (left - (x.length : Int)) = left - x.length := wrap_i64 (by omega) (by omega)
  simp only [e0]
  by_cases c0 : left - (x.length : Int) < 0
  · simp only [c0, decide_true, cond_true]; exact ⟨0, fun k _ => by rw [szR, if_neg (by simp only [szM_StringS]; omega)]⟩
  simp only [c0, decide_false, cond_false]
  have hl2 : laws_szStringS_l1 = szL szStrC := by funext k self d; rw [← szStr_eq k self d]; rfl
  rw [hl2]
  have := szL_ev (c := szStrC) (sz := fun (y : ByteArray) => y.size) (l := x) (fun y hy l h0 h1 => szStr_ev y (hx.2 y hy) h0 h1) (by omega) (left := left - x.length) (by omega) (by omega)
  rw [szR_add (by omega)] at this
  exact this
theorem toStringS_ev (x : (List ByteArray)) (hx : (szM_StringS x) ≤ 1073741824) : Ev (fun k => c_laws_toStringS k x) x := by
  refine EvQ.run (fun k => laws_toStringS_run k x) ?_
  simp only [laws_toStringS]
  have hx0 := hx
  simp only [szM_StringS] at hx
  simp only [if_pos (show (0 : Int) ≤ (x.length : Int) by omega), if_pos (Int.le_refl (x.length : Int)), if_pos (show (x.length : Int) * 16 ≤ (capBytes : Int) by simp only [capBytes]; omega)]
  have hl : laws_toStringS_l1 = copyL fun _ y => some y := (show laws_toStringS_l1 = copyL0 from rfl).trans copyL0_eq
  rw [hl]
  exact copyL_ev (fun y _ => EvQ.const _) (by omega) _ (by simp)
def szM_Write (x : DWrite) : Nat := x.2.size
theorem eqWrite_ev (x : DWrite) (hx : (szM_Write x) ≤ 1073741824) : Ev (fun k => c_laws_eqWrite k (x, x)) true := by
  refine EvQ.run (fun k => laws_eqWrite_run k x x) ?_
  simp only [laws_eqWrite]
  simp only [szM_Write] at hx
  simp only [bne_self_eq_false, eqS_refl, Bool.not_true, cond_false]
  exact EvQ.const _
def szM_WriteS (x : List DWrite) : Nat := x.length + (x.map szM_Write).sum
theorem eqWriteS_ev (x : (List DWrite)) (hx : (szM_WriteS x) ≤ 1073741824) : Ev (fun k => c_laws_eqWriteS k (x, x)) true := by
  refine EvQ.run (fun k => laws_eqWriteS_run k x x) ?_
  simp only [laws_eqWriteS]
  have hx0 := hx
  simp only [szM_WriteS] at hx
  simp only [bne_self_eq_false, cond_false]
  have hl : laws_eqWriteS_l1 = eqL c_laws_eqWrite := rfl
  rw [hl]
  exact eqL_ev (fun y hy => eqWrite_ev y (by have := le_sum_map szM_Write hy; omega)) (by omega)
theorem eqStringS_ev (x : (List ByteArray)) (hx : (szM_StringS x) ≤ 1073741824) : Ev (fun k => c_laws_eqStringS k (x, x)) true := by
  refine EvQ.run (fun k => laws_eqStringS_run k x x) ?_
  simp only [laws_eqStringS]
  have hx0 := hx
  simp only [szM_StringS] at hx
  simp only [bne_self_eq_false, cond_false]
  have hl : laws_eqStringS_l1 = eqL (fun _ p => some (eqS p.1 p.2)) := rfl
  rw [hl]
  exact eqL_ev (fun y _ => by simp only [eqS_refl]; exact EvQ.const _) (by omega)
noncomputable def mkStringS (_ : ByteArray) (m : Int) : ByteArray := mtext (m)
theorem markStringS_ev (l0 : List ByteArray) (m0 : Int) (h0 : 0 ≤ m0) (h1 : m0 + 1 * l0.length < 4611686018427387900) : Ev (fun k => c_laws_markStringS k (l0, m0)) (m0 + 1 * l0.length, markF mkStringS 1 l0 m0) := by
  refine EvQ.run (fun k => laws_markStringS_run k l0 m0) ?_
  simp only [laws_markStringS]
  refine EvL.ev ?_
  refine markL_ev (L := laws_markStringS_l1) mkStringS 1 l0 m0 (fun a b => (a, b)) ?_ ?_
  · intro i l x hl hx hi
    have hil : i < l.length := by omega
    have hM : 0 ≤ m0 + 1 * (i : Int) ∧ m0 + 1 * (i : Int) + 1 < 4611686018427387904 := by omega
    have hM2 : m0 + 1 * ((i + 1 : Nat) : Int) = (m0 + 1 * (i : Int)) + 1 := by omega
    simp only [hM2]
    generalize hMd : m0 + 1 * (i : Int) = M at *
    have w1 : wrapK .i64 (M + 1) = M + 1 := wrap_i64 (by omega) (by omega)
    simp only [EvS, laws_markStringS_l1, Int.toNat_natCast, hx, Option.bind_some, Int.natCast_nonneg, if_true, Int.ofNat_lt, hil, decide_true, cond_true, List.length_set, List.getElem?_set_self hil, List.set_set, wrap_succ hil (by omega), mkStringS, w1]
    refine EvQ.bindS (markText_ev _ (by omega) (by omega)) ?_
    try simp only [Int.toNat_natCast, hx, Option.bind_some, Int.natCast_nonneg, if_true, Int.ofNat_lt, hil, decide_true, cond_true, List.length_set, List.getElem?_set_self hil, List.set_set, w1]
    exact EvQ.const _
  · intro l hl
    refine EvL.stop ?_
    simp only [laws_markStringS_l1, hl, Int.ofNat_lt, Nat.lt_irrefl, decide_false, cond_false]
    exact EvQ.const _
noncomputable def mkWriteS (_ : DWrite) (m : Int) : DWrite := (m, mtext (m + 1))
theorem markWriteS_ev (l0 : List DWrite) (m0 : Int) (h0 : 0 ≤ m0) (h1 : m0 + 2 * l0.length < 4611686018427387900) : Ev (fun k => c_laws_markWriteS k (l0, m0)) (m0 + 2 * l0.length, markF mkWriteS 2 l0 m0) := by
  refine EvQ.run (fun k => laws_markWriteS_run k l0 m0) ?_
  simp only [laws_markWriteS]
  refine EvL.ev ?_
  refine markL_ev (L := laws_markWriteS_l1) mkWriteS 2 l0 m0 (fun a b => (a, b)) ?_ ?_
  · intro i l x hl hx hi
    have hil : i < l.length := by omega
    have hM : 0 ≤ m0 + 2 * (i : Int) ∧ m0 + 2 * (i : Int) + 2 < 4611686018427387904 := by omega
    have hM2 : m0 + 2 * ((i + 1 : Nat) : Int) = (m0 + 2 * (i : Int)) + 1 + 1 := by omega
    simp only [hM2]
    generalize hMd : m0 + 2 * (i : Int) = M at *
    have w1 : wrapK .i64 (M + 1) = M + 1 := wrap_i64 (by omega) (by omega)
    have w2 : wrapK .i64 (M + 1 + 1) = M + 1 + 1 := wrap_i64 (by omega) (by omega)
    simp only [EvS, laws_markWriteS_l1, Int.toNat_natCast, hx, Option.bind_some, Int.natCast_nonneg, if_true, Int.ofNat_lt, hil, decide_true, cond_true, List.length_set, List.getElem?_set_self hil, List.set_set, wrap_succ hil (by omega), mkWriteS, w1, w2]
    refine EvQ.bindS (markText_ev _ (by omega) (by omega)) ?_
    try simp only [Int.toNat_natCast, hx, Option.bind_some, Int.natCast_nonneg, if_true, Int.ofNat_lt, hil, decide_true, cond_true, List.length_set, List.getElem?_set_self hil, List.set_set, w1, w2]
    exact EvQ.const _
  · intro l hl
    refine EvL.stop ?_
    simp only [laws_markWriteS_l1, hl, Int.ofNat_lt, Nat.lt_irrefl, decide_false, cond_false]
    exact EvQ.const _
theorem heldWriteS_ev (l0 : List DWrite) (m0 : Int) (h0 : 0 ≤ m0) (h1 : m0 + 2 * l0.length < 4611686018427387900) : Ev (fun k => c_laws_heldWriteS k (markF mkWriteS 2 l0 m0, m0)) (m0 + 2 * l0.length) := by
  refine EvQ.run (fun k => laws_heldWriteS_run k (markF mkWriteS 2 l0 m0) m0) ?_
  simp only [laws_heldWriteS]
  refine EvL.ev ?_
  have hlen := markF_length mkWriteS 2 l0 m0
  refine heldL_ev (L := laws_heldWriteS_l1) (fun m i => (markF mkWriteS 2 l0 m0, m, i)) mkWriteS 2 l0 m0 ?_ ?_
  · intro i x hx hi
    have hil : i < (markF mkWriteS 2 l0 m0).length := by omega
    generalize hG : markF mkWriteS 2 l0 m0 = G at *
    have hM : 0 ≤ m0 + 2 * (i : Int) ∧ m0 + 2 * (i : Int) + 2 < 4611686018427387904 := by omega
    have hM2 : m0 + 2 * ((i + 1 : Nat) : Int) = (m0 + 2 * (i : Int)) + 1 + 1 := by omega
    simp only [hM2]
    generalize hMd : m0 + 2 * (i : Int) = M at *
    have w1 : wrapK .i64 (M + 1) = M + 1 := wrap_i64 (by omega) (by omega)
    have w2 : wrapK .i64 (M + 1 + 1) = M + 1 + 1 := wrap_i64 (by omega) (by omega)
    simp only [mkWriteS] at hx
    simp only [EvS, laws_heldWriteS_l1, Int.toNat_natCast, hx, Option.bind_some, Int.natCast_nonneg, if_true, Int.ofNat_lt, hil, decide_true, cond_true, bne_self_eq_false, cond_false, wrap_succ hil (by omega), w1, w2]
    refine EvQ.bindS (markText_ev _ (by omega) (by omega)) ?_
    try simp only [Int.toNat_natCast, hx, Option.bind_some, Int.natCast_nonneg, if_true, bne_self_eq_false, eqS_refl, Bool.not_true, cond_false, w1, w2]
    exact EvQ.const _
  · refine EvL.stop ?_
    simp only [laws_heldWriteS_l1, hlen, Int.ofNat_lt, Nat.lt_irrefl, decide_false, cond_false]
    exact EvQ.const _
theorem szAclEntryS_ev (x : (List DAclEntry)) (hx : okD ((.list false TAclEntryk)) x) {left : Int} (h0 : 0 ≤ left) (h1 : left ≤ 1048576) : Ev (fun k => c_laws_szAclEntryS k (x, left)) (szR x.length left) := by
  refine EvQ.run (fun k => laws_szAclEntryS_run k x left) ?_
  simp only [laws_szAclEntryS]
  have b0 : x.length ≤ 9223372036854775807 := hx.1
  have e0 : wrapK .i64 (left - (x.length : Int)) = left - x.length := wrap_i64 (by omega) (by omega)
  simp only [e0]
  by_cases c0 : left - (x.length : Int) < 0
  · simp only [c0, decide_true, cond_true]; exact ⟨0, fun k _ => by rw [szR, if_neg (by omega)]⟩
  simp only [c0, decide_false, cond_false]
  exact ⟨0, fun k _ => by rw [szR, if_pos (by omega)]⟩
def szM_Call (x : DCall) : Nat := x.2.2.1.size + x.2.2.2.1.size + x.2.2.2.2.2.2.2.1.size + x.2.2.2.2.2.2.2.2.1.length + x.2.2.2.2.2.2.2.2.2.length
theorem szCall_ev (x : DCall) (hx : okD (TCallk) x) {left : Int} (h0 : 0 ≤ left) (h1 : left ≤ 1048576) : Ev (fun k => c_laws_szCall k (x, left)) (szR (szM_Call x) left) := by
  refine EvQ.run (fun k => laws_szCall_run k x left) ?_
  simp only [laws_szCall, szM_Call]
  have b0 : x.2.2.1.size ≤ 9223372036854775807 := hx.2.2.1
  have e0 : wrapK .i64 (left - (x.2.2.1.size : Int)) = left - x.2.2.1.size := wrap_i64 (by omega) (by omega)
  simp only [e0]
  by_cases c0 : left - (x.2.2.1.size : Int) < 0
  · simp only [c0, decide_true, cond_true]; exact ⟨0, fun k _ => by rw [szR, if_neg (by omega)]⟩
  simp only [c0, decide_false, cond_false]
  have b1 : x.2.2.2.1.size ≤ 9223372036854775807 := hx.2.2.2.1
  have e1 : wrapK .i64 (left - (x.2.2.1.size : Int) - (x.2.2.2.1.size : Int)) = left - (x.2.2.1.size : Int) - x.2.2.2.1.size := wrap_i64 (by omega) (by omega)
  simp only [e1]
  by_cases c1 : left - (x.2.2.1.size : Int) - (x.2.2.2.1.size : Int) < 0
  · simp only [c1, decide_true, cond_true]; exact ⟨0, fun k _ => by rw [szR, if_neg (by omega)]⟩
  simp only [c1, decide_false, cond_false]
  have b2 : x.2.2.2.2.2.2.2.1.size ≤ 9223372036854775807 := hx.2.2.2.2.2.2.2.1
  have e2 : wrapK .i64 (left - (x.2.2.1.size : Int) - (x.2.2.2.1.size : Int) - (x.2.2.2.2.2.2.2.1.size : Int)) = left - (x.2.2.1.size : Int) - (x.2.2.2.1.size : Int) - x.2.2.2.2.2.2.2.1.size := wrap_i64 (by omega) (by omega)
  simp only [e2]
  by_cases c2 : left - (x.2.2.1.size : Int) - (x.2.2.2.1.size : Int) - (x.2.2.2.2.2.2.2.1.size : Int) < 0
  · simp only [c2, decide_true, cond_true]; exact ⟨0, fun k _ => by rw [szR, if_neg (by omega)]⟩
  simp only [c2, decide_false, cond_false]
  refine EvQ.bind (szAclEntryS_ev x.2.2.2.2.2.2.2.2.1 hx.2.2.2.2.2.2.2.2.1 (left := left - (x.2.2.1.size : Int) - (x.2.2.2.1.size : Int) - (x.2.2.2.2.2.2.2.1.size : Int)) (by omega) (by omega)) ?_
  by_cases c3 : szR x.2.2.2.2.2.2.2.2.1.length (left - (x.2.2.1.size : Int) - (x.2.2.2.1.size : Int) - (x.2.2.2.2.2.2.2.1.size : Int)) < 0
  · simp only [c3, decide_true, cond_true]; exact ⟨0, fun k _ => by rw [szR, if_neg (by have := szR_neg c3; omega)]⟩
  obtain ⟨d3, e3⟩ := szR_nonneg c3
  simp only [c3, decide_false, cond_false]
  simp only [e3]
  refine EvQ.bind (szAclEntryS_ev x.2.2.2.2.2.2.2.2.2 hx.2.2.2.2.2.2.2.2.2 (left := left - (x.2.2.1.size : Int) - (x.2.2.2.1.size : Int) - (x.2.2.2.2.2.2.2.1.size : Int) - (x.2.2.2.2.2.2.2.2.1.length : Int)) (by omega) (by omega)) ?_
  by_cases c4 : szR x.2.2.2.2.2.2.2.2.2.length (left - (x.2.2.1.size : Int) - (x.2.2.2.1.size : Int) - (x.2.2.2.2.2.2.2.1.size : Int) - (x.2.2.2.2.2.2.2.2.1.length : Int)) < 0
  · simp only [c4, decide_true, cond_true]; exact ⟨0, fun k _ => by rw [szR, if_neg (by have := szR_neg c4; omega)]⟩
  obtain ⟨d4, e4⟩ := szR_nonneg c4
  simp only [c4, decide_false, cond_false]
  simp only [e4]
  exact ⟨0, fun k _ => by rw [szR, if_pos (by omega)]; simp only [Option.some.injEq]; omega⟩
theorem szBoolS_ev (x : (List Bool)) (hx : okD ((.list false .bool)) x) {left : Int} (h0 : 0 ≤ left) (h1 : left ≤ 1048576) : Ev (fun k => c_laws_szBoolS k (x, left)) (szR x.length left) := by
  refine EvQ.run (fun k => laws_szBoolS_run k x left) ?_
  simp only [laws_szBoolS]
  have b0 : x.length ≤ 9223372036854775807 := hx.1
  have e0 : wrapK .i64 (left - (x.length : Int)) = left - x.length := wrap_i64 (by omega) (by omega)
  simp only [e0]
  by_cases c0 : left - (x.length : Int) < 0
  · simp only [c0, decide_true, cond_true]; exact ⟨0, fun k _ => by rw [szR, if_neg (by omega)]⟩
  simp only [c0, decide_false, cond_false]
  exact ⟨0, fun k _ => by rw [szR, if_pos (by omega)]⟩
def szM_Event (x : DEvent) : Nat := (szM_Call x.2.1) + x.2.2.2.1.length
theorem szEvent_ev (x : DEvent) (hx : okD (TEventk) x) {left : Int} (h0 : 0 ≤ left) (h1 : left ≤ 1048576) : Ev (fun k => c_laws_szEvent k (x, left)) (szR (szM_Event x) left) := by
  refine EvQ.run (fun k => laws_szEvent_run k x left) ?_
  simp only [laws_szEvent, szM_Event]
  refine EvQ.bind (szCall_ev x.2.1 hx.2.1 (left := left) (by omega) (by omega)) ?_
  by_cases c0 : szR (szM_Call x.2.1) (left) < 0
  · simp only [c0, decide_true, cond_true]; exact ⟨0, fun k _ => by rw [szR, if_neg (by have := szR_neg c0; omega)]⟩
  obtain ⟨d0, e0⟩ := szR_nonneg c0
  simp only [c0, decide_false, cond_false]
  simp only [e0]
  refine EvQ.bind (szBoolS_ev x.2.2.2.1 hx.2.2.2.1 (left := left - ((szM_Call x.2.1) : Int)) (by omega) (by omega)) ?_
  by_cases c1 : szR x.2.2.2.1.length (left - ((szM_Call x.2.1) : Int)) < 0
  · simp only [c1, decide_true, cond_true]; exact ⟨0, fun k _ => by rw [szR, if_neg (by have := szR_neg c1; omega)]⟩
  obtain ⟨d1, e1⟩ := szR_nonneg c1
  simp only [c1, decide_false, cond_false]
  simp only [e1]
  exact ⟨0, fun k _ => by rw [szR, if_pos (by omega)]; simp only [Option.some.injEq]; omega⟩
def szM_EventS (x : List DEvent) : Nat := x.length + (x.map szM_Event).sum
theorem szEventS_ev (x : (List DEvent)) (hx : okD ((.list false TEventk)) x) {left : Int} (h0 : 0 ≤ left) (h1 : left ≤ 1048576) : Ev (fun k => c_laws_szEventS k (x, left)) (szR (szM_EventS x) left) := by
  refine EvQ.run (fun k => laws_szEventS_run k x left) ?_
  simp only [laws_szEventS]
  have b0 : x.length ≤ 9223372036854775807 := hx.1
  have e0 : wrapK .i64 (left - (x.length : Int)) = left - x.length := wrap_i64 (by omega) (by omega)
  simp only [e0]
  by_cases c0 : left - (x.length : Int) < 0
  · simp only [c0, decide_true, cond_true]; exact ⟨0, fun k _ => by rw [szR, if_neg (by simp only [szM_EventS]; omega)]⟩
  simp only [c0, decide_false, cond_false]
  have hl2 : laws_szEventS_l1 = szL c_laws_szEvent := rfl
  rw [hl2]
  have := szL_ev (c := c_laws_szEvent) (sz := szM_Event) (l := x) (fun y hy l h0 h1 => szEvent_ev y (hx.2 y hy) h0 h1) (by omega) (left := left - x.length) (by omega) (by omega)
  rw [szR_add (by omega)] at this
  exact this
theorem toAclEntry_ev (x : DAclEntry) : Ev (fun k => c_laws_toAclEntry k x) x := by
  refine EvQ.run (fun k => laws_toAclEntry_run k x) ?_
  simp only [laws_toAclEntry]
  exact EvQ.const _
theorem toAclEntryS_ev (x : (List DAclEntry)) (hx : x.length ≤ 1073741824) : Ev (fun k => c_laws_toAclEntryS k x) x := by
  refine EvQ.run (fun k => laws_toAclEntryS_run k x) ?_
  simp only [laws_toAclEntryS]
  simp only [if_pos (show (0 : Int) ≤ (x.length : Int) by omega), if_pos (Int.le_refl (x.length : Int)), if_pos (show (x.length : Int) * 24 ≤ (capBytes : Int) by simp only [capBytes]; omega)]
  have hl : laws_toAclEntryS_l1 = copyL c_laws_toAclEntry := rfl
  rw [hl]
  exact copyL_ev (fun y hy => toAclEntry_ev y) (by omega) _ (by simp)
theorem toCall_ev (x : DCall) (hx : (szM_Call x) ≤ 1073741824) : Ev (fun k => c_laws_toCall k x) x := by
  refine EvQ.run (fun k => laws_toCall_run k x) ?_
  simp only [laws_toCall]
  simp only [szM_Call] at hx
  refine EvQ.bind (toAclEntryS_ev x.2.2.2.2.2.2.2.2.1 (by omega)) ?_
  refine EvQ.bind (toAclEntryS_ev x.2.2.2.2.2.2.2.2.2 (by omega)) ?_
  exact EvQ.const _
theorem toBoolS_ev (x : (List Bool)) (hx : x.length ≤ 1073741824) : Ev (fun k => c_laws_toBoolS k x) x := by
  refine EvQ.run (fun k => laws_toBoolS_run k x) ?_
  simp only [laws_toBoolS]
  simp only [if_pos (show (0 : Int) ≤ (x.length : Int) by omega), if_pos (Int.le_refl (x.length : Int)), if_pos (show (x.length : Int) * 1 ≤ (capBytes : Int) by simp only [capBytes]; omega)]
  have hl : laws_toBoolS_l1 = copyL fun _ y => some y := (show laws_toBoolS_l1 = copyL0 from rfl).trans copyL0_eq
  rw [hl]
  exact copyL_ev (fun y _ => EvQ.const _) (by omega) _ (by simp)
theorem toEvent_ev (x : DEvent) (hx : (szM_Event x) ≤ 1073741824) : Ev (fun k => c_laws_toEvent k x) x := by
  refine EvQ.run (fun k => laws_toEvent_run k x) ?_
  simp only [laws_toEvent]
  simp only [szM_Event] at hx
  refine EvQ.bind (toCall_ev x.2.1 (by omega)) ?_
  refine EvQ.bind (toBoolS_ev x.2.2.2.1 (by omega)) ?_
  exact EvQ.const _
theorem toEventS_ev (x : (List DEvent)) (hx : (szM_EventS x) ≤ 1073741824) : Ev (fun k => c_laws_toEventS k x) x := by
  refine EvQ.run (fun k => laws_toEventS_run k x) ?_
  simp only [laws_toEventS]
  have hx0 := hx
  simp only [szM_EventS] at hx
  simp only [if_pos (show (0 : Int) ≤ (x.length : Int) by omega), if_pos (Int.le_refl (x.length : Int)), if_pos (show (x.length : Int) * 184 ≤ (capBytes : Int) by simp only [capBytes]; omega)]
  have hl : laws_toEventS_l1 = copyL c_laws_toEvent := rfl
  rw [hl]
  exact copyL_ev (fun y hy => toEvent_ev y (by have := le_sum_map szM_Event hy; omega)) (by omega) _ (by simp)
theorem eqAclEntry_ev (x : DAclEntry) : Ev (fun k => c_laws_eqAclEntry k (x, x)) true := by
  refine EvQ.run (fun k => laws_eqAclEntry_run k x x) ?_
  simp only [laws_eqAclEntry]
  simp only [bne_self_eq_false, eqS_refl, Bool.not_true, cond_false]
  exact EvQ.const _
theorem eqAclEntryS_ev (x : (List DAclEntry)) (hx : x.length ≤ 1073741824) : Ev (fun k => c_laws_eqAclEntryS k (x, x)) true := by
  refine EvQ.run (fun k => laws_eqAclEntryS_run k x x) ?_
  simp only [laws_eqAclEntryS]
  simp only [bne_self_eq_false, cond_false]
  have hl : laws_eqAclEntryS_l1 = eqL c_laws_eqAclEntry := rfl
  rw [hl]
  exact eqL_ev (fun y hy => eqAclEntry_ev y) (by omega)
theorem eqCall_ev (x : DCall) (hx : (szM_Call x) ≤ 1073741824) : Ev (fun k => c_laws_eqCall k (x, x)) true := by
  refine EvQ.run (fun k => laws_eqCall_run k x x) ?_
  simp only [laws_eqCall]
  simp only [szM_Call] at hx
  simp only [bne_self_eq_false, eqS_refl, Bool.not_true, cond_false]
  refine EvQ.bind (eqAclEntryS_ev x.2.2.2.2.2.2.2.2.1 (by omega)) ?_
  simp only [Bool.not_true, cond_false]
  refine EvQ.bind (eqAclEntryS_ev x.2.2.2.2.2.2.2.2.2 (by omega)) ?_
  simp only [Bool.not_true, cond_false]
  exact EvQ.const _
theorem eqBoolS_ev (x : (List Bool)) (hx : x.length ≤ 1073741824) : Ev (fun k => c_laws_eqBoolS k (x, x)) true := by
  refine EvQ.run (fun k => laws_eqBoolS_run k x x) ?_
  simp only [laws_eqBoolS]
  simp only [bne_self_eq_false, cond_false]
  have hl : laws_eqBoolS_l1 = eqL (fun _ p => some (p.1 == p.2)) := rfl
  rw [hl]
  exact eqL_ev (fun y _ => by simp only [beq_self_eq_true]; exact EvQ.const _) (by omega)
theorem eqEvent_ev (x : DEvent) (hx : (szM_Event x) ≤ 1073741824) : Ev (fun k => c_laws_eqEvent k (x, x)) true := by
  refine EvQ.run (fun k => laws_eqEvent_run k x x) ?_
  simp only [laws_eqEvent]
  simp only [szM_Event] at hx
  simp only [bne_self_eq_false, eqS_refl, Bool.not_true, cond_false]
  refine EvQ.bind (eqCall_ev x.2.1 (by omega)) ?_
  simp only [Bool.not_true, cond_false]
  refine EvQ.bind (eqBoolS_ev x.2.2.2.1 (by omega)) ?_
  simp only [Bool.not_true, cond_false]
  exact EvQ.const _
theorem eqEventS_ev (x : (List DEvent)) (hx : (szM_EventS x) ≤ 1073741824) : Ev (fun k => c_laws_eqEventS k (x, x)) true := by
  refine EvQ.run (fun k => laws_eqEventS_run k x x) ?_
  simp only [laws_eqEventS]
  have hx0 := hx
  simp only [szM_EventS] at hx
  simp only [bne_self_eq_false, cond_false]
  have hl : laws_eqEventS_l1 = eqL c_laws_eqEvent := rfl
  rw [hl]
  exact eqL_ev (fun y hy => eqEvent_ev y (by have := le_sum_map szM_Event hy; omega)) (by omega)
end Go.Proofs.Ythegbgdoobpkiaa
