/- The tables, the residual functions and lemmas of this seat: parts of the proof of the law; conditions: those that each names. -/
import Derived.Test.YtnbipilpdhhhmaaSup
set_option linter.unusedVariables false
set_option linter.unusedSimpArgs false
set_option maxRecDepth 100000
namespace Go.Proofs.Ytnbipilpdhhhmaa
open Go.Eng
theorem get_mid {α : Type} (pre : List α) (x : α) (post : List α) : (pre ++ x :: post)[pre.length]? = some x := by simp
theorem set_mid {α : Type} (pre : List α) (x y : α) (post : List α) : (pre ++ x :: post).set pre.length y = pre ++ y :: post := by simp
theorem lt_mid {α : Type} (pre : List α) (x : α) (post : List α) : ((pre.length : Int) < ((pre ++ x :: post).length : Int)) = True := by
  simp only [List.length_append, List.length_cons, eq_iff_iff, iff_true]; omega
abbrev inB (x : DInode) : List Int := x.2.2.2.2.2.2.2.1
abbrev inA (x : DInode) : List DAclEntry := x.2.2.2.2.2.2.2.2.1
abbrev inD (x : DInode) : List DAclEntry := x.2.2.2.2.2.2.2.2.2
noncomputable def mkInodeG (x : DInode) (m : Int) : DInode × Int :=
  ((m, m + 1, m + 2, m + 3, m + 4, m + 5, m + 6, markF mkIntS 1 (inB x) (m + 7), markF mkAclEntryS 3 (inA x) (m + 7 + 1 * (inB x).length), markF mkAclEntryS 3 (inD x) (m + 7 + 1 * (inB x).length + 3 * (inA x).length)), m + 7 + 1 * (inB x).length + 3 * (inA x).length + 3 * (inD x).length)
theorem mkInodeG_le : ∀ (x : DInode) (m : Int), m ≤ (mkInodeG x m).2 ∧ (mkInodeG x m).2 ≤ m + ((7 + (inB x).length + 3 * (inA x).length + 3 * (inD x).length : Nat) : Int) := fun x m => by
  simp only [mkInodeG]; omega
theorem markInodeS_ev (l0 : List DInode) (m0 : Int) (h0 : 0 ≤ m0) (h1 : m0 + ((l0.map fun x => 7 + (inB x).length + 3 * (inA x).length + 3 * (inD x).length).sum : Nat) < 4611686018427387800) (hlen : l0.length < 4611686018427387800) :
    Ev (fun k => c_laws_markInodeS k (l0, m0)) ((markG mkInodeG l0 m0).2, (markG mkInodeG l0 m0).1) := by
  refine EvQ.run (fun k => laws_markInodeS_run k l0 m0) ?_
  simp only [laws_markInodeS]
  refine EvL.ev ?_
  refine markG_ev (L := laws_markInodeS_l1) mkInodeG (fun x => 7 + (inB x).length + 3 * (inA x).length + 3 * (inD x).length) 4611686018427387800 l0 m0 (fun m l => (m, l)) h0 h1 (fun x _ m _ _ => mkInodeG_le x m) (fun pre x post m hx hm hB hl => ?_) (fun m l hl => ?_)
  · have w1 : wrapK .i64 (m + 1) = m + 1 := by rw [wrapK, wrap_i64 (by omega) (by omega)]
    have w2 : wrapK .i64 (m + 1 + 1) = m + 2 := by rw [wrapK, wrap_i64 (by omega) (by omega)]; omega
    have w3 : wrapK .i64 (m + 2 + 1) = m + 3 := by rw [wrapK, wrap_i64 (by omega) (by omega)]; omega
    have w4 : wrapK .i64 (m + 3 + 1) = m + 4 := by rw [wrapK, wrap_i64 (by omega) (by omega)]; omega
    have w5 : wrapK .i64 (m + 4 + 1) = m + 5 := by rw [wrapK, wrap_i64 (by omega) (by omega)]; omega
    have w6 : wrapK .i64 (m + 5 + 1) = m + 6 := by rw [wrapK, wrap_i64 (by omega) (by omega)]; omega
    have w7 : wrapK .i64 (m + 6 + 1) = m + 7 := by rw [wrapK, wrap_i64 (by omega) (by omega)]; omega
    have w8 : wrapK .i64 ((pre.length : Int) + 1) = ((pre.length + 1 : Nat) : Int) := by rw [wrapK, wrap_i64 (by omega) (by omega)]; omega
    have hI := markIntS_ev (inB x) (m + 7) (by omega) (by omega)
    have hA := markAclEntryS_ev (inA x) (m + 7 + 1 * (inB x).length) (by omega) (by omega)
    have hD := markAclEntryS_ev (inD x) (m + 7 + 1 * (inB x).length + 3 * (inA x).length) (by omega) (by omega)
    simp only [EvS, laws_markInodeS_l1, lt_mid, decide_true, cond_true, Int.natCast_nonneg, if_true, Int.toNat_natCast, get_mid, set_mid, Option.bind_some, w1, w2, w3, w4, w5, w6, w7]
    refine EvQ.bindS hI ?_
    simp only [lt_mid, if_true, get_mid, set_mid, Option.bind_some]
    refine EvQ.bindS hA ?_
    simp only [lt_mid, if_true, get_mid, set_mid, Option.bind_some]
    refine EvQ.bindS hD ?_
    simp only [get_mid, set_mid, Option.bind_some, w8, mkInodeG]
    exact EvQ.const _
  · refine EvL.stop ?_
    have : ¬ (l0.length : Int) < (l.length : Int) := by omega
    simp only [laws_markInodeS_l1, this, decide_false, cond_false]
    exact EvQ.const _
theorem sum_inodes : ∀ l : List DInode, (l.map fun x => 7 + (inB x).length + 3 * (inA x).length + 3 * (inD x).length).sum ≤ 7 * l.length + 3 * (l.map szM_Inode).sum
  | [] => by simp
  | x :: l => by
    have := sum_inodes l
    have h : szM_Inode x = (inB x).length + (inA x).length + (inD x).length := rfl
    simp only [List.map_cons, List.sum_cons, List.length_cons, h]
    omega
theorem markFS_ev (x : DFS) (hs : szM_FS x ≤ 1048576) : ∃ q, Ev (fun k => c_laws_markFS k (x, (1 : Int))) q ∧ 0 ≤ q := by
  have e2 : szM_FS x = x.2.1.length + szM_InodeS x.2.2.1 + szM_StringS x.2.2.2 := rfl
  have e3 : szM_InodeS x.2.2.1 = x.2.2.1.length + (x.2.2.1.map szM_Inode).sum := rfl
  have e4 : szM_StringS x.2.2.2 = x.2.2.2.length + (x.2.2.2.map fun y => y.size).sum := rfl
  have s1 := sum_inodes x.2.2.1
  have hQ := markQuotaS_ev x.2.1 1 (by omega) (by omega)
  have hI := markInodeS_ev x.2.2.1 (1 + 2 * x.2.1.length) (by omega) (by omega) (by omega)
  have bI := markG_bound (e := mkInodeG) (c := fun x => 7 + (inB x).length + 3 * (inA x).length + 3 * (inD x).length) (B := 4611686018427387800) (l := x.2.2.1) (m := 1 + 2 * x.2.1.length) (by omega) (by omega) (fun x _ m _ _ => mkInodeG_le x m)
  have hT := markStringS_ev x.2.2.2 (markG mkInodeG x.2.2.1 (1 + 2 * x.2.1.length)).2 (by omega) (by omega)
  refine ⟨(markG mkInodeG x.2.2.1 (1 + 2 * x.2.1.length)).2 + 1 * x.2.2.2.length, EvQ.run (fun k => laws_markFS_run k _ _) ?_, by omega⟩
  simp only [laws_markFS]
  exact EvQ.bind hQ (EvQ.bind hI (EvQ.bind hT (EvQ.const _)))
/-! What the sizes say of a file system -/
theorem fs_small {x : DFS} (h : szM_FS x ≤ 1048576) : fsSmall x ∧ (∀ s ∈ fD x, s.size < big) ∧ (fQ x).length ≤ 1048576 := by
  have e2 : szM_FS x = x.2.1.length + szM_InodeS x.2.2.1 + szM_StringS x.2.2.2 := rfl
  have e3 : szM_InodeS x.2.2.1 = x.2.2.1.length + (x.2.2.1.map szM_Inode).sum := rfl
  have e4 : szM_StringS x.2.2.2 = x.2.2.2.length + (x.2.2.2.map fun y => y.size).sum := rfl
  refine ⟨fun n hn => ?_, fun s hs => ?_, by show x.2.1.length ≤ _; omega⟩
  · have h1 := le_sum_map szM_Inode (show n ∈ x.2.2.1 from hn)
    have h2 : szM_Inode n = (inB n).length + (inA n).length + (inD n).length := rfl
    unfold inoSmall big
    refine ⟨?_, ?_, ?_⟩
    · show (inB n).length < _; omega
    · show (inA n).length < _; omega
    · show (inD n).length < _; omega
  · have h1 := le_sum_map (fun y : ByteArray => y.size) (show s ∈ x.2.2.2 from hs)
    unfold big
    omega
/-! SuperText -/
theorem super_same (x : DFS) (h : szM_FS x ≤ 1048576) : ∃ r, Ev (fun k => c_spec_SuperText k x) r ∧ Ev (fun k => c_impl_SuperText k x) r := by
  obtain ⟨h1, h2, h3⟩ := fs_small h
  obtain ⟨b, e1, e2, _⟩ := (impl_IsFS_say x h1).same (spec_IsFS_say x h1 h2)
  refine ⟨bif !b then (⟨#[]⟩ : ByteArray) else superB x, EvQ.run (fun k => spec_SuperText_run k _) ?_, EvQ.run (fun k => impl_SuperText_run k _) ?_⟩
  · simp only [spec_SuperText]
    refine EvQ.bind e2 ?_
    cases b with
    | false => simp only [Bool.not_false, cond_true]; exact EvQ.const _
    | true => simp only [Bool.not_true, cond_false]; exact EvQ.bind (spec_super_ev x h3) (EvQ.const _)
  · simp only [impl_SuperText]
    refine EvQ.bind e1 ?_
    cases b with
    | false => simp only [Bool.not_false, cond_true]; exact EvQ.const _
    | true => simp only [Bool.not_true, cond_false]; exact EvQ.bind (impl_super_ev x h3) (EvQ.const _)
theorem laws_FnExactSuperText_ev (x0 : DFS) (hx0 : okD (TFSk) x0) : Ev (fun k => c_laws_FnExactSuperText k x0) true := by
  refine EvQ.run (fun k => laws_FnExactSuperText_run k x0) ?_
  simp only [laws_FnExactSuperText]
  refine EvQ.bind (szFS_ev x0 hx0 (left := 1048576) (by omega) (by omega)) ?_
  by_cases c0 : szR (szM_FS x0) 1048576 < 0
  · simp only [c0, decide_true, cond_true]; exact EvQ.const _
  obtain ⟨d0, e0⟩ := szR_nonneg c0
  simp only [c0, decide_false, cond_false]
  have hS : szM_FS x0 ≤ 1048576 := by omega
  have tF := toFS_ev x0 (by omega)
  obtain ⟨r, s1, s2⟩ := super_same x0 hS
  refine EvQ.bind tF (EvQ.bind s1 (EvQ.bind tF (EvQ.bind s2 ?_)))
  simp only [eqS_refl, Bool.not_true, cond_false]
  refine EvQ.bind tF (EvQ.bind (eqFS_ev x0 (by omega)) ?_)
  simp only [Bool.not_true, cond_false]
  exact EvQ.const _
/-! PoolOf -/
def poolS (f : PFS) (u : Int) : Nat → List Int
  | 0 => []
  | i + 1 => match (fI f)[(u * 5).toNat + i]? with
    | some n => bif n.1 != 0 then poolS f u i ++ [u * 5 + i] else poolS f u i
    | none => poolS f u i
theorem pool_len (f : PFS) (u : Int) : ∀ i, (poolS f u i).length ≤ i
  | 0 => Nat.le_refl _
  | i + 1 => by
    have h := pool_len f u i
    simp only [poolS]
    cases (fI f)[(u * 5).toNat + i]? with
    | none => simp only; omega
    | some n =>
      cases hb : n.1 != 0 with
      | true => simp only [hb, cond_true, List.length_append, List.length_singleton]; omega
      | false => simp only [hb, cond_false]; omega
section
variable {f : PFS} {u : Int}
theorem pool_loop (hP : fsP f) (h0 : 0 ≤ u) (h3 : u ≤ 3) {L : Nat → (Int × Unit × List Int × Int × PFS → Option (List Int)) → Int × Unit × List Int × Int × PFS → Option (List Int)}
    (hs : ∀ (i : Nat) (l : List Int) (n : PInode), l.length ≤ 10 → i < 5 → (fI f)[(u * 5).toNat + i]? = some n → EvS L (u, (), l, u * 5 + i, f) (u, (), (bif n.1 != 0 then l ++ [u * 5 + i] else l), u * 5 + (i + 1 : Nat), f))
    (he : ∀ k self l, L k self (u, (), l, u * 5 + 5, f) = some l) : Ev (fun k => iter k (L k) (u, (), ([] : List Int), u * 5, f)) (poolS f u 5) := by
  have hni := hP.ni
  refine EvL.ev ?_
  have := EvL.count (L := L) (r := poolS f u 5) (fun i => (u, (), poolS f u i, u * 5 + (i : Nat), f)) 5 (fun i hi => ?_) (EvL.stop ?_)
  · simpa [poolS] using this
  · obtain ⟨n, hn⟩ : ∃ n, (fI f)[(u * 5).toNat + i]? = some n := ⟨_, List.getElem?_eq_getElem (show (u * 5).toNat + i < (fI f).length by omega)⟩
    have := hs i (poolS f u i) n (by have := pool_len f u i; omega) hi hn
    have e : poolS f u (i + 1) = (bif n.1 != 0 then poolS f u i ++ [u * 5 + i] else poolS f u i) := by simp only [poolS, hn]
    rw [e]; exact this
  · exact EvQ.congr (g := fun _ _ => some (poolS f u 5)) (fun k => funext fun self => he k self _) (EvQ.const _)
theorem has_ev (i : Int) (h0 : 0 ≤ i) (h1 : i < 20) {n : PInode} (hn : (fI f)[i.toNat]? = some n) : Ev (fun k => c_impl_FS_has k (some f, i)) (n.1 != 0) := by
  refine EvQ.run (fun k => impl_FS_has_run k _ _) ?_
  simp only [impl_FS_has, h0, h1, decide_true, cond_true, Option.bind_some, if_true, hn]
  exact EvQ.const _
theorem pool_same (x : DFS) (h : szM_FS x ≤ 1048576) : ∃ r, Ev (fun k => c_spec_PoolOf k (x, u)) r ∧ Ev (fun k => c_impl_PoolOf k (x, u)) r ∧ r.length ≤ 5 := by
  obtain ⟨h1, h2, h3⟩ := fs_small h
  obtain ⟨b, e1, e2, e3⟩ := (impl_IsFS_say x h1).same (spec_IsFS_say x h1 h2)
  refine ⟨bif !b then [] else bif !(decide (0 ≤ u ∧ u ≤ 3)) then [] else poolS x u 5, EvQ.run (fun k => spec_PoolOf_run k _ _) ?_, EvQ.run (fun k => impl_PoolOf_run k _ _) ?_, ?_⟩
  rotate_left 2
  · have h5 := pool_len x u 5
    cases b <;> cases decide (0 ≤ u ∧ u ≤ 3) <;> simp only [Bool.not_false, Bool.not_true, cond_true, cond_false, List.length_nil] <;> omega
  · simp only [spec_PoolOf]
    refine EvQ.bind e2 ?_
    cases b with
    | false => simp only [Bool.not_false, cond_true]; exact EvQ.const _
    | true =>
      simp only [Bool.not_true, cond_false]
      refine EvQ.bind (l06User_ev u) ?_
      by_cases hu : 0 ≤ u ∧ u ≤ 3
      · simp only [hu, and_self, decide_true, Bool.not_true, cond_false]
        have w0 : wrapK .i64 (u * 5) = u * 5 := i64w (by omega) (by omega)
        rw [w0]
        refine pool_loop (e3.1 rfl) hu.1 hu.2 (L := spec_PoolOf_l1) (fun i l n hl hi hn => ?_) (fun k self l => ?_)
        · have w1 : wrapK .i64 (u + 1) = u + 1 := i64w (by omega) (by omega)
          have w2 : wrapK .i64 ((u + 1) * 5) = (u + 1) * 5 := i64w (by omega) (by omega)
          have w3 : wrapK .i64 (u * 5 + (i : Nat) + 1) = u * 5 + (i + 1 : Nat) := by rw [i64w (by omega) (by omega)]; omega
          have c1 : u * 5 + (i : Nat) < (u + 1) * 5 := by omega
          have c2 : 0 ≤ u * 5 + (i : Nat) := by omega
          have t : (u * 5 + (i : Nat)).toNat = (u * 5).toNat + i := by omega
          have c3 : (l.length + ([u * 5 + (i : Nat)] : List Int).length) * 8 ≤ capBytes := by simp [capBytes]; omega
          simp only [EvS, spec_PoolOf_l1, w1, w2, w3, c1, c2, t, hn, decide_true, cond_true, if_true, Option.bind_some, c3]
          cases hb : n.1 != 0 <;> simp only [cond_true, cond_false] <;> exact EvQ.const _
        · have w1 : wrapK .i64 (u + 1) = u + 1 := i64w (by omega) (by omega)
          have w2 : wrapK .i64 ((u + 1) * 5) = (u + 1) * 5 := i64w (by omega) (by omega)
          have c1 : ¬ u * 5 + 5 < (u + 1) * 5 := by omega
          simp only [spec_PoolOf_l1, w1, w2, c1, decide_false, cond_false]
      · simp only [hu, decide_false, Bool.not_false, cond_true]; exact EvQ.const _
  · simp only [impl_PoolOf]
    refine EvQ.bind e1 ?_
    cases b with
    | false => simp only [Bool.not_false, cond_true]; exact EvQ.const _
    | true =>
      simp only [Bool.not_true, cond_false]
      refine EvQ.bind (isUser_ev u) ?_
      by_cases hu : 0 ≤ u ∧ u ≤ 3
      · simp only [hu, and_self, decide_true, Bool.not_true, cond_false]
        have w0 : wrapK .i64 (u * 5) = u * 5 := i64w (by omega) (by omega)
        rw [w0]
        refine pool_loop (e3.1 rfl) hu.1 hu.2 (L := impl_PoolOf_l1) (fun i l n hl hi hn => ?_) (fun k self l => ?_)
        · have w1 : wrapK .i64 (u + 1) = u + 1 := i64w (by omega) (by omega)
          have w2 : wrapK .i64 ((u + 1) * 5) = (u + 1) * 5 := i64w (by omega) (by omega)
          have w3 : wrapK .i64 (u * 5 + (i : Nat) + 1) = u * 5 + (i + 1 : Nat) := by rw [i64w (by omega) (by omega)]; omega
          have c1 : u * 5 + (i : Nat) < (u + 1) * 5 := by omega
          have t : (u * 5 + (i : Nat)).toNat = (u * 5).toNat + i := by omega
          have c3 : (l.length + ([u * 5 + (i : Nat)] : List Int).length) * 8 ≤ capBytes := by simp [capBytes]; omega
          simp only [EvS, impl_PoolOf_l1, w1, w2, w3, c1, decide_true, cond_true]
          refine EvQ.bindS (has_ev (f := x) (u * 5 + (i : Nat)) (by omega) (by omega) (by rw [t]; exact hn)) ?_
          simp only [c3, if_true]
          cases hb : n.1 != 0 <;> simp only [cond_true, cond_false] <;> exact EvQ.const _
        · have w1 : wrapK .i64 (u + 1) = u + 1 := i64w (by omega) (by omega)
          have w2 : wrapK .i64 ((u + 1) * 5) = (u + 1) * 5 := i64w (by omega) (by omega)
          have c1 : ¬ u * 5 + 5 < (u + 1) * 5 := by omega
          simp only [impl_PoolOf_l1, w1, w2, c1, decide_false, cond_false]
      · simp only [hu, decide_false, Bool.not_false, cond_true]; exact EvQ.const _
end
theorem laws_FnExactPoolOf_ev (x0 : DFS) (x1 : Int) (hx0 : okD (TFSk) x0) (hx1 : okD (.int .i64) x1) : Ev (fun k => c_laws_FnExactPoolOf k (x0, x1)) true := by
  refine EvQ.run (fun k => laws_FnExactPoolOf_run k x0 x1) ?_
  simp only [laws_FnExactPoolOf]
  refine EvQ.bind (szFS_ev x0 hx0 (left := 1048576) (by omega) (by omega)) ?_
  by_cases c0 : szR (szM_FS x0) 1048576 < 0
  · simp only [c0, decide_true, cond_true]; exact EvQ.const _
  obtain ⟨d0, e0⟩ := szR_nonneg c0
  simp only [c0, decide_false, cond_false]
  have hS : szM_FS x0 ≤ 1048576 := by omega
  have tF := toFS_ev x0 (by omega)
  obtain ⟨r, s1, s2, s3⟩ := pool_same (u := x1) x0 hS
  have eqR := eqIntS_ev r (by omega)
  obtain ⟨q, mF, hq⟩ := markFS_ev x0 hS
  have nq : decide (q < 0) = false := decide_eq_false (by omega)
  have mR := markIntS_ev r 1 (by omega) (by omega)
  have hR := heldIntS_ev r 1 (by omega) (by omega)
  have nk : decide ((1 : Int) + 1 * r.length < 0) = false := decide_eq_false (by omega)
  refine EvQ.bind tF (EvQ.bind s1 (EvQ.bind tF (EvQ.bind s2 (EvQ.bind eqR ?_))))
  simp only [Bool.not_true, cond_false]
  refine EvQ.bind tF (EvQ.bind (eqFS_ev x0 (by omega)) ?_)
  simp only [Bool.not_true, cond_false]
  refine EvQ.bind mF ?_
  simp only [nq, cond_false]
  refine EvQ.bind eqR ?_
  simp only [Bool.not_true, cond_false]
  refine EvQ.bind mR (EvQ.bind hR ?_)
  simp only [nk, cond_false, bne_self_eq_false]
  refine EvQ.bind tF (EvQ.bind s2 (EvQ.bind eqR ?_))
  simp only [Bool.not_true, cond_false]
  refine EvQ.bind hR ?_
  simp only [nk, cond_false, bne_self_eq_false]
  exact EvQ.const _
end Go.Proofs.Ytnbipilpdhhhmaa
