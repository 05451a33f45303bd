/- The tables, the residual functions and lemmas of this seat: parts of the proof of the law; conditions: those that each names. -/
import Derived.Test.YthegbgdoobpkiaaNum
set_option linter.unusedVariables false
set_option linter.unusedSimpArgs false
set_option maxRecDepth 100000
namespace Go.Proofs.Ythegbgdoobpkiaa
open Go.Eng
/-- A digit's value. -/
def hexV (n : Nat) : Option Nat := if 48 ≤ n ∧ n ≤ 57 then some (n - 48) else if 97 ≤ n ∧ n ≤ 102 then some (n - 87) else none
theorem hexV_lt {n v : Nat} (h : hexV n = some v) : v < 16 := by
  unfold hexV at h
  split at h
  · injection h with h; omega
  · split at h
    · injection h with h; omega
    · cases h
def hexI (n : Nat) : Int := match hexV n with | some v => v | none => -1
def hexRow : List UInt8 := [48, 49, 50, 51, 52, 53, 54, 55, 56, 57, 97, 98, 99, 100, 101, 102]
theorem hexI_all : (List.range 256).all (fun n => Int.beq' (Lib.indexByte hexRow n.toUInt8) (hexI n)) = true := by kernel_rfl
theorem hexI_index (n : Nat) (h : n < 256) : Lib.indexByte hexRow n.toUInt8 = hexI n :=
  Eq.mp (Int.beq'_eq _ _) (List.all_eq_true.1 hexI_all n (List.mem_range.2 h))
theorem index_ev (b : UInt8) : Ev (fun k => c_strings_IndexByte k ((⟨#[48, 49, 50, 51, 52, 53, 54, 55, 56, 57, 97, 98, 99, 100, 101, 102]⟩ : ByteArray), (b.toNat : Int))) (hexI b.toNat) := by
  refine EvQ.run (fun k => c_strings_IndexByte_run k _) ?_
  have h := hexI_index b.toNat b.toNat_lt
  refine EvQ.congr (g := fun _ => some (hexI b.toNat)) (fun _ => ?_) (EvQ.const _)
  show some (Lib.indexByte hexRow ((b.toNat : Int)).toNat.toUInt8) = _
  rw [Int.toNat_natCast, h]
theorem hexC_all : (List.range 16).all (fun a => (List.range 16).all fun b => Int.beq' (wrapK .u8 (intBits .or .i64 (wrapK .i64 ((a : Int) * 2 ^ (min (4 : Int).toNat (IntKind.bits .i64)))) (b : Int))) (16 * a + b : Nat)) = true := by kernel_rfl
theorem hexC (a b : Nat) (ha : a < 16) (hb : b < 16) : wrapK .u8 (intBits .or .i64 (wrapK .i64 ((a : Int) * 2 ^ (min (4 : Int).toNat (IntKind.bits .i64)))) (b : Int)) = ((16 * a + b : Nat) : Int) :=
  Eq.mp (Int.beq'_eq _ _) (List.all_eq_true.1 (List.all_eq_true.1 hexC_all a (List.mem_range.2 ha)) b (List.mem_range.2 hb))
def unF (s : ByteArray) (acc : List Int) (i : Nat) (_ : Nat) : List Int ⊕ (ByteArray × Bool) :=
  match hexV ((s[2 * i]?.getD 0).toNat), hexV ((s[2 * i + 1]?.getD 0).toNat) with
  | some a, some b => .inl (acc ++ [((16 * a + b : Nat) : Int)])
  | _, _ => .inr (⟨#[]⟩, false)
def unhexI (s : ByteArray) : ByteArray × Bool :=
  if s.size % 2 = 0 then foldE (unF s) (fun acc => (ofBytes acc, true)) [] 0 (List.range (s.size / 2)) else (⟨#[]⟩, false)
theorem tmod_two (n : Nat) : ((n : Int).tmod 2) = ((n % 2 : Nat) : Int) := by
  rw [Int.tmod_eq_emod_of_nonneg (by omega)]; omega
theorem at_get {s : ByteArray} {i : Nat} (h : i < s.size) : (s[i]?.map fun v0 => (v0.toNat : Int)) = some (((s[i]?.getD 0).toNat : Nat) : Int) := by
  rw [getElem?_pos s i h]; rfl
theorem hexI_some {n v : Nat} (h : hexV n = some v) : hexI n = (v : Int) := by rw [hexI, h]
theorem hexI_none {n : Nat} (h : hexV n = none) : hexI n = -1 := by rw [hexI, h]
theorem two_ne : (2 : Int) ≠ 0 := by decide
theorem impl_UnhexText_ev (s : ByteArray) (hs : s.size ≤ 1048576) : Ev (fun k => c_impl_UnhexText k s) (unhexI s) := by
  refine EvQ.run (fun k => impl_UnhexText_run k s) ?_
  simp only [impl_UnhexText, unhexI, tmod_two, if_pos two_ne]
  by_cases h2 : s.size % 2 = 0
  · rw [if_pos h2, h2]
    simp only [Int.ofNat_zero, bne_self_eq_false, cond_false]
    refine EvL.ev ?_
    refine EvL.fold (L := impl_UnhexText_l1) (List.range (s.size / 2)) (fun acc i => (s, acc, ((2 * i : Nat) : Int))) _ _ (fun acc i => acc.length ≤ i) ?_ ?_ [] (by simp)
    · intro acc i x hx hlen
      have hi : i < s.size / 2 := by have := (List.getElem?_eq_some_iff.1 hx).1; simpa using this
      have hl : ((2 * i : Nat) : Int) < (s.size : Int) := by omega
      have hw : wrapK .i64 (((2 * i : Nat) : Int) + 1) = ((2 * i + 1 : Nat) : Int) := by rw [wrapK, wrap_i64 (by omega) (by omega)]; omega
      have hw2 : wrapK .i64 (((2 * i : Nat) : Int) + 2) = ((2 * (i + 1) : Nat) : Int) := by rw [wrapK, wrap_i64 (by omega) (by omega)]; omega
      have g1 := at_get (s := s) (i := 2 * i) (by omega)
      have g2 := at_get (s := s) (i := 2 * i + 1) (by omega)
      have key : EvQ (fun k self => impl_UnhexText_l1 k self (s, acc, ((2 * i : Nat) : Int))) (fun self => match hexV ((s[2 * i]?.getD 0).toNat), hexV ((s[2 * i + 1]?.getD 0).toNat) with
          | some a, some b => self (s, acc ++ [((16 * a + b : Nat) : Int)], ((2 * (i + 1) : Nat) : Int))
          | _, _ => some (⟨#[]⟩, false)) := by
        simp only [impl_UnhexText_l1, hl, decide_true, cond_true, Int.natCast_nonneg, if_true, Int.toNat_natCast, g1, Option.bind_some, hw, g2]
        refine EvQ.bindS (index_ev _) ?_
        refine EvQ.bindS (index_ev _) ?_
        cases e1 : hexV ((s[2 * i]?.getD 0).toNat) with
        | none => simp only [hexI_none e1, show decide ((-1 : Int) < 0) = true from rfl, cond_true]; exact EvQ.const _
        | some a =>
          have n1 : decide ((a : Int) < 0) = false := decide_eq_false (by omega)
          simp only [hexI_some e1, n1, cond_false]
          cases e2 : hexV ((s[2 * i + 1]?.getD 0).toNat) with
          | none => simp only [hexI_none e2, show decide ((-1 : Int) < 0) = true from rfl, cond_true]; exact EvQ.const _
          | some b =>
            have n2 : decide ((b : Int) < 0) = false := decide_eq_false (by omega)
            simp only [hexI_some e2, n2, cond_false, hexC a b (hexV_lt e1) (hexV_lt e2), hw2]
            have hcap : (acc.length + ([((16 * a + b : Nat) : Int)] : List Int).length) * 1 ≤ capBytes := by simp only [List.length_singleton, capBytes]; omega
            simp only [if_pos (show (0 : Int) ≤ 4 by decide), if_pos hcap]
            exact EvQ.const _
      simp only [unF]
      revert key
      generalize hexV ((s[2 * i]?.getD 0).toNat) = u
      generalize hexV ((s[2 * i + 1]?.getD 0).toNat) = v
      intro key
      match u, v, key with
      | some a, some b, key => exact ⟨key, by simp; omega⟩
      | none, _, key => exact EvL.stop key
      | some a, none, key => exact EvL.stop key
    · intro acc _
      refine EvL.stop ?_
      have hl : ¬ ((2 * (List.range (s.size / 2)).length : Nat) : Int) < (s.size : Int) := by rw [List.length_range]; omega
      simp only [impl_UnhexText_l1, hl, decide_false, cond_false]
      exact EvQ.const _
  · rw [if_neg h2]
    have : ((((s.size % 2 : Nat) : Int)) != 0) = true := by rw [bne_iff_ne]; omega
    simp only [this, cond_true]; exact EvQ.const _

theorem foldE_congr {α σ R : Type} (f g : σ → Nat → α → σ ⊕ R) (fin : σ → R) : ∀ (l : List α) (s : σ) (i : Nat), (∀ s j x, l[j]? = some x → f s (i + j) x = g s (i + j) x) → foldE f fin s i l = foldE g fin s i l
  | [], _, _, _ => rfl
  | x :: l, s, i, h => by
    have h0 := h s 0 x rfl
    simp only [Nat.add_zero] at h0
    simp only [foldE, h0]
    cases g s i x with
    | inr r => rfl
    | inl s' => exact foldE_congr f g fin l s' (i + 1) fun s j y hj => by have := h s (j + 1) y hj; rw [show i + 1 + j = i + (j + 1) by omega]; exact this
theorem foldE_app {R : Type} (b : List Int) (fin : List Int → R) : ∀ (m i : Nat) (acc : List Int), i + m = b.length → foldE (fun acc i (_ : Nat) => Sum.inl (acc ++ [b[i]?.getD 0])) fin acc i ((List.range b.length).drop i) = fin (acc ++ b.drop i)
  | 0, i, acc, h => by
    rw [List.drop_eq_nil_iff.2 (by simp; omega), List.drop_eq_nil_iff.2 (by omega)]
    simp [foldE]
  | m + 1, i, acc, h => by
    have hi : i < b.length := by omega
    have hr : i < (List.range b.length).length := by simpa using hi
    rw [List.drop_eq_getElem_cons hr, List.drop_eq_getElem_cons hi]
    simp only [foldE]
    rw [foldE_app b fin m (i + 1) _ (by omega), List.getElem?_eq_getElem hi]
    simp
/-! ### Hexadecimal digits there and back -/
def hexD (n : Nat) : UInt8 := hexRow[n]?.getD 0
def hexP (b : UInt8) : List Int := [((hexD (b.toNat / 16)).toNat : Int), ((hexD (b.toNat % 16)).toNat : Int)]
def hexL (s : ByteArray) : List Int := s.data.toList.flatMap hexP
theorem digit_get (n : Nat) (h : n < 16) : (((⟨#[48, 49, 50, 51, 52, 53, 54, 55, 56, 57, 97, 98, 99, 100, 101, 102]⟩ : ByteArray)[n]?).map fun v0 => (v0.toNat : Int)) = some ((hexD n).toNat : Int) := by
  rw [bget]
  show (hexRow[n]?).map _ = _
  have hl : n < hexRow.length := h
  rw [hexD, List.getElem?_eq_getElem hl]; rfl
theorem and15_all : (List.range 256).all (fun n => Int.beq' (intBits .and .u8 (n : Int) 15) (n % 16 : Nat)) = true := by kernel_rfl
theorem and15 (n : Nat) (h : n < 256) : intBits .and .u8 (n : Int) 15 = ((n % 16 : Nat) : Int) := Eq.mp (Int.beq'_eq _ _) (List.all_eq_true.1 and15_all n (List.mem_range.2 h))
theorem hexVD_all : (List.range 16).all (fun n => hexV (hexD n).toNat == some n) = true := by kernel_rfl
theorem hexVD (n : Nat) (h : n < 16) : hexV (hexD n).toNat = some n := eq_of_beq (List.all_eq_true.1 hexVD_all n (List.mem_range.2 h))
theorem flat_len {α : Type} (f : UInt8 → List α) (hf : ∀ b, (f b).length = 2) : ∀ l : List UInt8, (l.flatMap f).length = 2 * l.length
  | [] => rfl
  | b :: l => by rw [List.flatMap_cons, List.length_append, hf, flat_len f hf l, List.length_cons]; omega
theorem hexOf_ev (s : ByteArray) (hs : s.size ≤ 1048576) : Ev (fun k => c_impl_HexOf k s) (ofBytes (hexL s)) := by
  refine EvQ.run (fun k => impl_HexOf_run k s) ?_
  simp only [impl_HexOf]
  refine EvL.ev ?_
  have := EvL.count (L := impl_HexOf_l1) (r := ofBytes (hexL s)) (fun i => (s, (s.data.toList.take i).flatMap hexP, (s.size : Int), (i : Int))) s.size (fun i hi => ?_) (EvL.stop ?_)
  · simpa using this
  · have hl : (i : Int) < (s.size : Int) := by omega
    have hx : s[i]? = some s[i] := getElem?_pos s i hi
    have hm : s[i].toNat < 256 := UInt8.toNat_lt _
    have hd : (s[i].toNat : Int).fdiv (2 ^ (min (4 : Int).toNat (IntKind.bits .u8))) = ((s[i].toNat / 16 : Nat) : Int) := by
      have : (2 : Int) ^ (min (4 : Int).toNat (IntKind.bits .u8)) = 16 := rfl
      rw [this, Int.fdiv_eq_ediv_of_nonneg _ (by omega)]; omega
    have hlen : ((s.data.toList.take i).flatMap hexP).length ≤ 2 * i := by
      rw [flat_len hexP (fun _ => rfl)]
      have := List.length_take_le i s.data.toList
      omega
    have hcap : (((s.data.toList.take i).flatMap hexP).length + ([((hexD (s[i].toNat / 16)).toNat : Int), ((hexD (s[i].toNat % 16)).toNat : Int)] : List Int).length) * 1 ≤ capBytes := by
      simp only [List.length_cons, List.length_nil, capBytes]; omega
    have hnext : (s.data.toList.take (i + 1)).flatMap hexP = (s.data.toList.take i).flatMap hexP ++ [((hexD (s[i].toNat / 16)).toNat : Int), ((hexD (s[i].toNat % 16)).toNat : Int)] := by
      have hb := bget s i
      rw [hx] at hb
      rw [List.take_add_one, ← hb, List.flatMap_append]
      simp [hexP]
    simp only [EvS, impl_HexOf_l1, hl, decide_true, cond_true, Int.natCast_nonneg, if_true, Int.toNat_natCast, hx, Option.map_some, Option.bind_some, if_pos (show (0 : Int) ≤ 4 by decide), hd, digit_get _ (show s[i].toNat / 16 < 16 by omega), and15 _ hm, digit_get _ (show s[i].toNat % 16 < 16 by omega), if_pos hcap, wrap_succ hi (show s.size < 4611686018427387904 by omega), hnext]
    exact EvQ.const _
  · have : s.data.toList.take s.size = s.data.toList := by rw [← blen, List.take_length]
    simp only [impl_HexOf_l1, Int.lt_irrefl, decide_false, cond_false, this]
    exact EvQ.const _
theorem pair_get {α : Type} (f g : UInt8 → α) : ∀ (l : List UInt8) (i : Nat), (l.flatMap fun b => [f b, g b])[2 * i]? = l[i]?.map f ∧ (l.flatMap fun b => [f b, g b])[2 * i + 1]? = l[i]?.map g
  | [], i => by simp
  | b :: l, 0 => by simp
  | b :: l, i + 1 => by
    have := pair_get f g l i
    simp only [List.flatMap_cons, List.cons_append, List.nil_append, List.getElem?_cons_succ]
    rw [show 2 * (i + 1) = 2 * i + 1 + 1 by omega]
    simp only [List.getElem?_cons_succ]
    exact this
theorem unhex_hex (s : ByteArray) : unhexI (ofBytes (hexL s)) = (s, true) := by
  have hsz : (ofBytes (hexL s)).size = 2 * s.size := by rw [ofBytes_size, hexL, flat_len hexP (fun _ => rfl), blen]
  have hl : (ofBytes (hexL s)).data.toList = s.data.toList.flatMap fun b => [hexD (b.toNat / 16), hexD (b.toNat % 16)] := by
    rw [ofBytes_list, hexL, List.map_flatMap]
    refine congrArg (fun f => List.flatMap f s.data.toList) (funext fun b => ?_)
    simp [hexP]
  unfold unhexI
  rw [if_pos (by omega), hsz, show 2 * s.size / 2 = s.size by omega]
  have hb : (bytesOf s).length = s.size := by rw [bytesOf, List.length_map, blen]
  have key := foldE_congr (R := ByteArray × Bool) (unF (ofBytes (hexL s))) (fun acc i (_ : Nat) => Sum.inl (acc ++ [(bytesOf s)[i]?.getD 0])) (fun acc => (ofBytes acc, true)) (List.range s.size) [] 0 (fun acc j x hx => by
    have hj : j < s.size := by have := (List.getElem?_eq_some_iff.1 hx).1; simpa using this
    obtain ⟨p1, p2⟩ := pair_get (fun b => hexD (b.toNat / 16)) (fun b => hexD (b.toNat % 16)) s.data.toList j
    have hsj : s.data.toList[j]? = some s[j] := by rw [← bget]; exact getElem?_pos s j hj
    rw [hsj] at p1 p2
    have hm : s[j].toNat < 256 := UInt8.toNat_lt _
    rw [Nat.zero_add]
    simp only [unF, bget, hl, p1, p2, Option.map_some, Option.getD_some, hexVD _ (show s[j].toNat / 16 < 16 by omega), hexVD _ (show s[j].toNat % 16 < 16 by omega)]
    rw [bytesOf, List.getElem?_map, hsj]
    simp only [Option.map_some, Option.getD_some]
    rw [show 16 * (s[j].toNat / 16) + s[j].toNat % 16 = s[j].toNat by omega])
  rw [key]
  have := foldE_app (R := ByteArray × Bool) (bytesOf s) (fun acc => (ofBytes acc, true)) s.size 0 [] (by omega)
  rw [List.drop_zero, List.drop_zero, hb] at this
  rw [this, List.nil_append]
  have e : ofBytes (bytesOf s) = s := bext (by
    rw [ofBytes_list, bytesOf, List.map_map]
    have : ((fun n : Int => UInt8.ofNat n.toNat) ∘ fun c : UInt8 => (c.toNat : Int)) = id := by
      funext c; simp
    rw [this, List.map_id])
  rw [e]
end Go.Proofs.Ythegbgdoobpkiaa
