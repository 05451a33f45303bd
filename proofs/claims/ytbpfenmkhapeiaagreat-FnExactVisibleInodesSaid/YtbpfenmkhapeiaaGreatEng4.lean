/- The engine, part 4: a symbolic interpreter of the model's programs and the proof that its runs are what the functions do; conditions: those that its theorems name. -/
import Derived.Test.YtbpfenmkhapeiaaGreatEng3
set_option linter.unusedVariables false
set_option linter.unusedSimpArgs false
namespace Go.Eng
section
section
variable {c : Ctx} {KS KS' : Nat → Prop} {e e' : GEnv} {F : Fs} {ρ ρ' : Roots} {w w' : World} {ks : List Kill}
theorem Inv.callIO (h : Inv c KS e F ρ w) (nh : NoHit ks F ρ) {hs : List Nat} (hd : ∀ n ∈ hs, ∃ t x pd, getB ρ n = some (.data false t x pd))
  {l : List (Nat × SG)} (hl : ∀ n y, findN l n = some y → getB ρ n = none ∧ c.pin n = none ∧ c.hdr n = none)
  {r : Nat} {re : Bool} {t : Ty} {x : t.D} {pd : Option (Path × (te : Ty) × List te.D)} (hr : getB ρ r = some (.data re t x pd)) (hrs : r ∉ hs) {ad : Option Addr} {g : t.G} (hg : e.gr r = some ⟨ad, t, g⟩)
  {π : Path} {s : Spot} (hloc : loc t g ad π = some s) {t' : Ty} {g' : t'.G} {T : Ty} {G : T.G} {dr : List Nat} (P : PutG w KS t g ad π s t' g' T G dr)
  (he' : e' = (newE e l).put r ⟨ad, T, G⟩) (R0 : okG w' (fun b => KS' b ∨ b ∈ dr) T G → (∀ b, KS b → ∀ o, w'.cell? ⟨b, o, none⟩ = w.cell? ⟨b, o, none⟩) → Reads w w' KS (fun b => KS' b ∨ b ∈ dr) ρ ρ' e e' ks)
  (hsame : ∀ b, b < w.heap.size → (∀ n ∈ hs, b ∉ blk ρ e n) → b ∉ fp s.t s.g → (∀ B, s.ad = some B → B.block ≠ b) → Same w w' b) (hz : Grew w w')
  (hin : ∀ B, s.ad = some B → InBlk w w' B s.t.sz (cl t' g'))
  (hK : ∀ b, KS b → KS' b) (hKn : ∀ b, KS' b → KS b ∨ (w.heap.size ≤ b ∧ b < w'.heap.size) ∨ (∃ n ∈ hs, b ∈ blk ρ e n) ∨ b ∈ fp s.t s.g)
  (hok : ∀ x ∈ l, okG w' KS' x.2.t x.2.g) (hok' : okG w' KS' t' g') (hn : ((l.flatMap fun x => x.2.fp) ++ fp t' g').Nodup)
  (hf : ∀ b ∈ (l.flatMap fun x => x.2.fp) ++ fp t' g', ¬ KS' b ∧ ((w.heap.size ≤ b ∧ b < w'.heap.size) ∨ (∃ n ∈ hs, b ∈ blk ρ e n) ∨ b ∈ fp s.t s.g))
  (hhdr : ∀ hh, c.hdr r = some hh → π ≠ [] ∨ ∃ te, ∃ gl gl' : OwnL te.G, (⟨ad, t, g⟩ : GRoot) = ⟨none, .list true te, gl⟩ ∧ (⟨ad, T, G⟩ : GRoot) = ⟨none, .list true te, gl'⟩ ∧ gl'.ad = gl.ad ∧ gl'.rows.length = gl.rows.length ∧ gl'.cap = gl.cap)
  (hρl : ∀ n y, findN l n = some y → getB ρ' n = some (.data false y.t (er y.t y.g) none)) (hρh : ∀ n ∈ hs, getB ρ' n = none) (hρr : getB ρ' r = some (.data re T (er T G) none))
  (hρ : ∀ n, n ∉ hs → findN l n = none → n ≠ r → getB ρ' n = getB ρ n) : Inv c (fun b => KS' b ∨ b ∈ dr) e' F ρ' w' := by
 obtain ⟨ad0, g0, q1, q2, q3, q4, q5, q6⟩ := h.root hr
 rw [hg] at q1; cases q1
 have hsp : ∀ A, ad = some A → A.spot = none := fun A hA => (q4 A hA).2.1
 have hL := locG π t g ad s hloc hsp q3
 have nd := h.nd r
 rw [q6] at nd
 simp only [List.nodup_append] at nd
 obtain ⟨⟨nd1, nd2, nd3⟩, _, _⟩ := nd
 have bi : ∀ b ∈ fp t g, b ∈ blk ρ e r := fun b hb => by rw [q6]; simp [hb]
 have ba : ∀ A, ad = some A → A.block ∈ blk ρ e r := fun A hA => by rw [q6, hA]; simp
 have hAn : ∀ A, ad = some A → A.block ∉ fp t g := fun A hA hm => nd3 A.block (by simp [hA]) _ hm rfl
 have bs : ∀ b ∈ fp s.t s.g, b ∈ fp t g := hL.sub
 have hBr : ∀ B, s.ad = some B → B.block ∈ blk ρ e r := fun B hB => by
  rcases hL.where_ hB with ⟨_, A, hA, hAB⟩ | ⟨hn, _⟩
  ·rw [hAB]; exact ba A hA
  ·exact bi _ (hL.in_ hB hn)
 obtain ⟨rest, hpr, hBin⟩ := hL.perm
 have ndsr := List.nodup_append.1 (nodup_perm hpr nd2)
 have hnl : ∀ n y, findN l n = some y → n ≠ r := fun n y hy e0 => by
  have := (hl n y hy).1
  rw [e0, hr] at this; cases this
 have hdis : ∀ n y, findN l n = some y → n ∉ hs := fun n y hy hm => by
  obtain ⟨t, x, pd, h1⟩ := hd n hm
  rw [(hl n y hy).1] at h1; cases h1
 have hnp : ∀ n ∈ hs, ∀ A, c.pin n ≠ some A := fun n hn => by
  obtain ⟨t, x, pd, h1⟩ := hd n hn
  exact h.nopin h1
 have hnr : ∀ n ∈ hs, n ≠ r := fun n hn e0 => hrs (e0 ▸ hn)
 -- where a block may come from
 let Or : Nat → Prop := fun b => (w.heap.size ≤ b ∧ b < w'.heap.size) ∨ (∃ n ∈ hs, b ∈ blk ρ e n) ∨ b ∈ fp s.t s.g
 have noOr : ∀ b, b ∈ blk ρ e r → b ∉ fp s.t s.g → ¬ Or b := fun b hb hnb ho => by
  rcases ho with h1 | ⟨n, hn', h1⟩ | h1
  ·have := h.blt r b hb; omega
  ·exact h.dj n r (hnr n hn') b h1 hb
  ·exact hnb h1
 have restg : ∀ b ∈ rest, b ∈ fp t g ∧ b ∉ fp s.t s.g := fun b hb => ⟨hpr.mem_iff.2 (by simp [hb]), fun h1 => ndsr.2.2 b h1 b hb rfl⟩
 have key1 : ∀ b ∈ rest, ¬ Or b := fun b hb => noOr b (bi b (restg b hb).1) (restg b hb).2
 have adOr : ∀ A, ad = some A → ¬ Or A.block := fun A hA => noOr _ (ba A hA) fun h1 => hAn A hA (bs _ h1)
 have hn' := List.nodup_append.1 hn
 have hp2 : (rest ++ fp t' g').Perm (fp T G ++ dr) := by
  have p1 := P.perm
  simp only [List.perm_iff_count, List.count_append] at p1 hpr ⊢
  intro b; have := p1 b; have := hpr b; omega
 have hnt : ∀ b ∈ fp t' g', ¬ KS' b ∧ Or b := fun b hb => hf b (by simp [hb])
 have hnl2 : ∀ n y, findN l n = some y → ∀ b ∈ y.fp, ¬ KS' b ∧ Or b := fun n y hy b hb => hf b (by
  simp only [List.mem_append]; exact .inl (List.mem_flatMap.2 ⟨_, findN_mem hy, hb⟩))
 have hlt' : ∀ n y, findN l n = some y → ∀ b ∈ y.fp, b ∉ fp t' g' := fun n y hy b hb h1 => hn'.2.2 b (List.mem_flatMap.2 ⟨_, findN_mem hy, hb⟩) b h1 rfl
 have ndT := nodup_perm hp2 (List.nodup_append.2 ⟨ndsr.2.1, hn'.2.1, fun a ha b hb e0 => key1 a ha (e0 ▸ (hnt b hb).2)⟩)
 have ndT' := List.nodup_append.1 ndT
 have hsrc : ∀ b, b ∈ fp T G ∨ b ∈ dr → b ∈ rest ∨ b ∈ fp t' g' := fun b hb => by
  have : b ∈ rest ++ fp t' g' := hp2.mem_iff.2 (by rcases hb with hb | hb <;> simp [hb])
  simpa using this
 have hpinr : ∀ A, c.pin r = some A → ad = some A ∧ ∀ o, A.off ≤ o → o < A.off + t.sz → c.FT A.block o := fun A hA => by
  obtain ⟨_, h2⟩ := h.pin r A hA
  obtain ⟨⟨g2, h3⟩, h4⟩ := h2 _ _ _ _ hr
  rw [hg] at h3
  injection h3 with h3
  exact ⟨congrArg GRoot.ad h3, h4⟩
 have hpn : ∀ b ∈ fp t g, ∀ A, c.pin r = some A → A.block ≠ b := fun b hb A hA e0 => hAn A (hpinr A hA).1 (by rw [e0]; exact hb)
 have hsN : ∀ n, n ∉ hs → n ≠ r → ∀ b ∈ blk ρ e n, Same w w' b := fun n hn1 hn2 b hb => hsame b (h.blt n b hb) (fun m hm hbm => h.dj m n (fun e0 => hn1 (e0 ▸ hm)) b hbm hb)
  (fun h1 => h.dj r n (Ne.symm hn2) b (bi b (bs b h1)) hb) fun B hB e0 => h.dj n r hn2 b hb (by rw [← e0]; exact hBr B hB)
 have hKc : ∀ b, KS b → ∀ o, w'.cell? ⟨b, o, none⟩ = w.cell? ⟨b, o, none⟩ := fun b hb => (hsame b (h.lt b hb) (fun n hn hbn => h.ks n b hbn hb) (fun h1 => h.ks r b (bi b (bs b h1)) hb) fun B hB e0 => h.ks r _ (hBr B hB) (by rw [e0]; exact hb)).2.2
 have hT : okG w' (fun b => KS' b ∨ b ∈ dr) T G := P.ok w' _ (fun b hb => .inl (hK b hb)) (fun b hb => .inr hb) (okG_KS (fun b hb => .inl hb) _ _ hok') hKc nd2 hAn
  (fun b hb hns hB => hsame b (h.blt r b (bi b hb)) (fun m hm hbm => h.dj m r (hnr m hm) b hbm (bi b hb)) hns hB) (fun B hB _ => hin B hB)
 have R := R0 hT hKc
 have hlens : (cl s.t s.g).length = s.t.sz := okG_len _ _ hL.ok
 have hlen' : (cl t' g').length = s.t.sz := by rw [okG_len _ _ hok', P.szs]
 have hrow : ∀ A, ad = some A → RowAt w' A (cl T G) := fun A hA => by
  have hr0 := (q4 A hA).2
  cases hn : noI π with
  | true =>
   obtain ⟨pre, post, e1, e2, e3⟩ := P.out hn
   rw [e3]; rw [e1] at hr0
   refine rowUpd hr0 ?_ (by rw [hlen', hlens])
   rw [hA] at e2
   have := hin _ e2
   rw [hlens]; exact this
  | false =>
   rw [P.inn hn]
   refine Same.row (hsame A.block (h.blt r _ (ba A hA)) (fun m hm hbm => h.dj m r (hnr m hm) _ hbm (ba A hA)) (fun h1 => hAn A hA (bs _ h1)) fun B hB e0 => ?_) hr0
   exact hAn A hA (by rw [← e0]; exact hL.in_ hB hn)
 have hbd : ∀ n y, findN l n = some y → blk ρ' e' n = y.fp := fun n y hy => by
  have h1 := hnl n y hy
  simp [blk, hρl n y hy, he', newE, GEnv.put, hy, SG.fp, h1]
 have hbh : ∀ n ∈ hs, blk ρ' e' n = [] := fun n hn => by simp [blk, hρh n hn]
 have hbr : blk ρ' e' r = (ad.map (·.block)).toList ++ fp T G := by simp [blk, hρr, he', GEnv.put]
 have hadm : ∀ b ∈ (ad.map (·.block)).toList, ∃ A, ad = some A ∧ b = A.block := fun b hb => by
  cases hA : ad with
  | none => rw [hA] at hb; simp at hb
  | some A => rw [hA] at hb; simp at hb; exact ⟨A, rfl, hb⟩
 have hno : ∀ n, ¬ (n ∈ hs ∨ (∃ y, findN l n = some y) ∨ n = r) → n ∉ hs ∧ findN l n = none ∧ n ≠ r := fun n hn => ⟨fun e => hn (.inl e), by
  cases hq : findN l n with
  | none => rfl
  | some y => exact absurd (.inr (.inl ⟨y, hq⟩)) hn, fun e => hn (.inr (.inr e))⟩
 refine h.step (S := fun n => n ∈ hs ∨ (∃ y, findN l n = some y) ∨ n = r) nh
  {reads := R
   out := fun n hn => by
    obtain ⟨h1, h2, h3⟩ := hno n hn
    exact ⟨hρ n h1 h2 h3, by simp [he', newE, GEnv.put, h2, h3], by simp [he', newE, GEnv.put], by simp [he', newE, GEnv.put], by simp [he', newE, GEnv.put, h2, h3]⟩
   same := fun n hn b hb => hsN n (hno n hn).1 (hno n hn).2.2 b hb
   size := hz
   roots := ?_
   nd := ?_
   dj := ?_
   src := ?_
   ksn := ?_
   ksd := ?_
   pin := ?_
   hdr := ?_
   frm := fun b hb => ?_ }
 ·intro n hn
  rcases hn with hn | ⟨y, hy⟩ | rfl
  ·simp only [RootOK, hρh n hn]
  ·simp only [RootOK, hρl n y hy]
   have h1 := hnl n y hy
   exact ⟨none, y.g, by simp [he', newE, GEnv.put, hy, h1], rfl, okG_KS (fun b hb => .inl hb) _ _ (hok _ (findN_mem hy)), fun h => (by cases h), fun _ => rfl, by simp [he', newE, GEnv.put, hy, h1]⟩
  ·simp only [RootOK, hρr]
   refine ⟨ad, G, by simp [he', GEnv.put], rfl, hT, fun hre => ?_, fun hre => ?_, by simp [he', GEnv.put]⟩
   ·obtain ⟨A, hA⟩ := q5 hre
    exact ⟨A, hA, hrow A hA⟩
   ·cases hA : ad with
    | none => rfl
    | some A => have := (q4 A hA).1; rw [hre] at this; cases this
 ·intro n hn1
  rcases hn1 with hn1 | ⟨y, hy⟩ | rfl
  ·rw [hbh n hn1]; simp
  ·rw [hbd n y hy]; exact nodup_of_mem hn'.1 (findN_mem hy)
  ·rw [hbr]
   refine List.nodup_append.2 ⟨nd1, ndT'.1, fun a ha b hb e0 => ?_⟩
   obtain ⟨A, hA, rfl⟩ := hadm a ha
   subst e0
   rcases hsrc _ (.inl hb) with h1 | h1
   ·exact hAn A hA (restg _ h1).1
   ·exact adOr A hA (hnt _ h1).2
 ·have lr : ∀ n y, findN l n = some y → ∀ b ∈ y.fp, b ∉ blk ρ' e' r := fun n y hy b hb hb2 => by
   rw [hbr] at hb2
   rcases List.mem_append.1 hb2 with h1 | h1
   ·obtain ⟨A, hA, rfl⟩ := hadm b h1
    exact adOr A hA (hnl2 n y hy _ hb).2
   ·rcases hsrc _ (.inl h1) with h2 | h2
    ·exact key1 b h2 (hnl2 n y hy _ hb).2
    ·exact hlt' n y hy b hb h2
  intro n m hn1 hm hnm b hb1 hb2
  rcases hn1 with hn1 | ⟨y, hy⟩ | rfl
  ·rw [hbh n hn1] at hb1; cases hb1
  ·rcases hm with hm | ⟨z, hzz⟩ | rfl
   ·rw [hbh m hm] at hb2; cases hb2
   ·rw [hbd n y hy] at hb1; rw [hbd m z hzz] at hb2
    exact findN_disj hn'.1 hnm hy hzz b hb1 hb2
   ·rw [hbd n y hy] at hb1
    exact lr n y hy b hb1 hb2
  ·rcases hm with hm | ⟨z, hzz⟩ | rfl
   ·rw [hbh m hm] at hb2; cases hb2
   ·rw [hbd m z hzz] at hb2
    exact lr m z hzz b hb2 hb1
   ·exact hnm rfl
 ·have org : ∀ b, Or b → ∀ n, (n = r ∨ True) → (w.heap.size ≤ b ∧ b < w'.heap.size) ∨ ∃ m, (m ∈ hs ∨ (∃ y, findN l m = some y) ∨ m = r) ∧ b ∈ blk ρ e m ∧ (m = n ∨ ∀ A, c.pin m = some A → A.block ≠ b) := fun b ho n _ => by
   rcases ho with h1 | ⟨m, hm, h1⟩ | h1
   ·exact .inl h1
   ·exact .inr ⟨m, .inl hm, h1, .inr fun A hA => absurd hA (hnp m hm A)⟩
   ·exact .inr ⟨r, .inr (.inr rfl), bi b (bs b h1), .inr (hpn b (bs b h1))⟩
  intro n hn1 b hb
  rcases hn1 with hn1 | ⟨y, hy⟩ | rfl
  ·rw [hbh n hn1] at hb; cases hb
  ·rw [hbd n y hy] at hb
   exact org b (hnl2 n y hy b hb).2 n (.inr trivial)
  ·rw [hbr] at hb
   rcases List.mem_append.1 hb with h1 | h1
   ·obtain ⟨A, hA, rfl⟩ := hadm b h1
    exact .inr ⟨n, .inr (.inr rfl), ba A hA, .inl rfl⟩
   ·rcases hsrc b (.inl h1) with h2 | h2
    ·exact .inr ⟨n, .inr (.inr rfl), bi b (restg b h2).1, .inl rfl⟩
    ·exact org b (hnt b h2).2 n (.inr trivial)
 ·have org : ∀ b, Or b → KS b ∨ (w.heap.size ≤ b ∧ b < w'.heap.size) ∨ ∃ m, (m ∈ hs ∨ (∃ y, findN l m = some y) ∨ m = r) ∧ b ∈ blk ρ e m ∧ ∀ A, c.pin m = some A → A.block ≠ b := fun b ho => by
   rcases ho with h1 | ⟨m, hm, h1⟩ | h1
   ·exact .inr (.inl h1)
   ·exact .inr (.inr ⟨m, .inl hm, h1, fun A hA => absurd hA (hnp m hm A)⟩)
   ·exact .inr (.inr ⟨r, .inr (.inr rfl), bi b (bs b h1), hpn b (bs b h1)⟩)
  intro b hb
  rcases hb with hb | hb
  ·rcases hKn b hb with h1 | h1
   ·exact .inl h1
   ·exact org b h1
  ·rcases hsrc b (.inr hb) with h2 | h2
   ·exact .inr (.inr ⟨r, .inr (.inr rfl), bi b (restg b h2).1, hpn b (restg b h2).1⟩)
   ·exact org b (hnt b h2).2
 ·intro n hn1 b hb hk
  rcases hn1 with hn1 | ⟨y, hy⟩ | rfl
  ·rw [hbh n hn1] at hb; cases hb
  ·rw [hbd n y hy] at hb
   obtain ⟨h1, h2⟩ := hnl2 n y hy b hb
   rcases hk with hk | hk
   ·exact h1 hk
   ·rcases hsrc b (.inr hk) with h3 | h3
    ·exact key1 b h3 h2
    ·exact hlt' n y hy b hb h3
  ·have notKS' : ∀ b, b ∈ blk ρ e n → ¬ Or b → ¬ KS' b := fun b hb ho hk => by
    rcases hKn b hk with h1 | h1
    ·exact h.ks n b hb h1
    ·exact ho h1
   rw [hbr] at hb
   rcases List.mem_append.1 hb with h1 | h1
   ·obtain ⟨A, hA, rfl⟩ := hadm b h1
    rcases hk with hk | hk
    ·exact notKS' _ (ba A hA) (adOr A hA) hk
    ·rcases hsrc _ (.inr hk) with h3 | h3
     ·exact hAn A hA (restg _ h3).1
     ·exact adOr A hA (hnt _ h3).2
   ·rcases hk with hk | hk
    ·rcases hsrc b (.inl h1) with h3 | h3
     ·exact notKS' b (bi b (restg b h3).1) (key1 b h3) hk
     ·exact (hnt b h3).1 hk
    ·exact ndT'.2.2 b h1 b hk rfl
 ·intro n hn1 A hA
  rcases hn1 with hn1 | ⟨y, hy⟩ | rfl
  ·exact absurd hA (hnp n hn1 A)
  ·rw [(hl n y hy).2.1] at hA; cases hA
  ·obtain ⟨h1, h2⟩ := hpinr A hA
   refine ⟨fun q hq => (by rw [hρr] at hq; cases hq), fun re' t'' x'' pd'' hd' => ?_⟩
   rw [hρr] at hd'; cases hd'
   exact ⟨⟨G, by simp [he', GEnv.put, h1]⟩, by rw [P.sz]; exact h2⟩
 ·intro n hn1 hh hq re' t'' x'' pd'' hd'
  rcases hn1 with hn1 | ⟨y, hy⟩ | rfl
  ·rw [hρh n hn1] at hd'; cases hd'
  ·rw [(hl n y hy).2.2] at hq; cases hq
  ·obtain ⟨te, gl, e1, e2⟩ := h.hdr n hh hq _ _ _ _ hr
   rw [hρr] at hd'; cases hd'
   rcases hhdr hh hq with hne | ⟨te', gl1, gl2, k1, k2, k3, k4, k5⟩
   ·rw [hg] at e1
    injection e1 with e1
    injection e1 with e3 e4 e5
    subst e4
    cases e5
    subst e3
    have hTe := P.lst te rfl hne
    subst hTe
    obtain ⟨sq', k1, k2⟩ := P.st1 [] _ (loc_nil _ _ _) (fun q e => hne (by
     cases π with
     | nil => rfl
     | cons a b => simp at e))
    obtain ⟨gl', k3, k4, k5, k6⟩ := k2.list te gl rfl
    rw [loc_nil] at k1
    injection k1 with k1
    rw [k3] at k1
    have : G = gl' := by injection k1
    refine ⟨te, G, by simp [he', GEnv.put], ?_⟩
    rw [e2, this, k4, k5, k6]
   ·rw [hg] at e1
    injection e1 with e1
    rw [k1] at e1
    injection e1 with e3 e4 e5
    injection e4 with e6 e7
    subst e7
    cases e5
    refine ⟨te', gl2, ?_, by rw [e2, k3, k4, k5]⟩
    have : e'.gr n = some ⟨ad, T, G⟩ := by simp [he', GEnv.put]
    rw [this, k2]
 ·by_cases hin1 : ∃ n ∈ hs, b ∈ blk ρ e n
  ·obtain ⟨n, hn1, hbn⟩ := hin1
   rcases h.may n b hbn with h1 | h1 | ⟨A, h1, _⟩
   ·exact .inr (.inl h1)
   ·exact .inr (.inr (.inl h1))
   ·exact absurd h1 (hnp n hn1 A)
  ·by_cases hbs : b ∈ fp s.t s.g
   ·rcases h.may r b (bi b (bs b hbs)) with h1 | h1 | ⟨A, h1, h2⟩
    ·exact .inr (.inl h1)
    ·exact .inr (.inr (.inl h1))
    ·exact absurd h2 (hpn b (bs b hbs) A h1)
   ·by_cases hB : ∃ B, s.ad = some B ∧ B.block = b
    ·obtain ⟨B, hB, rfl⟩ := hB
     rcases h.may r _ (hBr B hB) with h1 | h1 | ⟨A, h1, h2⟩
     ·exact .inr (.inl h1)
     ·exact .inr (.inr (.inl h1))
     ·obtain ⟨i1, ⟨i2, i3, _⟩, i4⟩ := hin B hB
      obtain ⟨hAd, h5⟩ := hpinr A h1
      refine .inr (.inr (.inr ⟨i1, i2, (fun o ho => i3 o fun hh => ho ?_), i4⟩))
      rcases hL.where_ hB with ⟨hn, _⟩ | ⟨hn, _⟩
      ·obtain ⟨pre, post, e1, e2, _⟩ := P.out hn
       rw [hB, hAd] at e2
       injection e2 with e2
       have hlen := okG_len t g q3
       rw [e1] at hlen
       simp only [List.length_append, hlens] at hlen
       rw [← h2]
       refine h5 o ?_ ?_
       ·have := hh.1; rw [e2] at this; simp only [Addr.plus] at this; omega
       ·have := hh.2; rw [e2] at this; simp only [Addr.plus] at this; omega
      ·exact absurd (by rw [h2]; exact hL.in_ hB hn) (hAn A hAd)
    ·exact .inl (hsame b hb (fun n hn1 hbn => hin1 ⟨n, hn1, hbn⟩) hbs fun B hB' e0 => hB ⟨B, hB', e0⟩)
end
end
section
section
variable {P : Program} {τ : Tabs} {E : Env} {call : CallT} {c : Ctx} {KS KS' : Nat → Prop} {e e' : GEnv} {F : Fs} {ρ ρ' ρE : Roots} {w w' : World} {rs : Roots} {kl : List Kill} {H : List HG} {N : Nat}
theorem outs_rv' : ∀ (l : List SG) (d : Nat), (∀ x ∈ newsOf d l, e'.gr x.1 = some ⟨none, x.2.t, x.2.g⟩ ∧ getB ρ x.1 = some (.data false x.2.t (er x.2.t x.2.g) none)) →
  (l.map SG.d).all (fun y => y.1.shared || !y.1.isList || isOwnL y.1) = true → (∀ y ∈ l, okG w KS y.t y.g) → RVoks w KS ρ e' (outs d (l.map SG.d)).1 (l.map SG.v)
 | [], d, h, hl, hok => rfl
 | y :: l, d, h, hl, hok => by
  simp only [List.map_cons, List.all_cons, Bool.and_eq_true] at hl
  have ih := outs_rv' l (d + 1) (fun x hx => h x (by simp only [newsOf]; split <;> simp [hx])) hl.2 (fun z hz => hok z (by simp [hz]))
  obtain ⟨t, g⟩ := y
  simp only [List.map_cons, outs, SG.d]
  cases hs : t.shared with
  | true =>
   simp only [if_true]
   refine ⟨_, _, rfl, ⟨hs, cl t g, ?_, rfl⟩, ih⟩
   exact okG_repK (fun _ h => h) t g (fun b hb => by rw [fp_shared t hs g] at hb; cases hb) (hok ⟨t, g⟩ (by simp))
  | false =>
   simp only [Bool.false_eq_true, if_false]
   have hmem : (d, (⟨t, g⟩ : SG)) ∈ newsOf d (⟨t, g⟩ :: l) := by simp [newsOf, hs]
   obtain ⟨h1, h2⟩ := h _ hmem
   have hsp : spotD e' ⟨d, []⟩ = some ⟨t, g, none⟩ := by
    simp only [spotD, h1, Option.bind_some, loc_nil]
   have hda : hasData ρ d := ⟨_, _, _, _, h2⟩
   refine ⟨_, _, rfl, ?_, ih⟩
   have hl1 := hl.1
   simp only [SG.d, hs, Bool.false_or] at hl1
   cases t with
   | list o te =>
    cases o with
    | false => simp [Ty.isList, isOwnL] at hl1
    | true => exact ⟨hda, te, g, none, hsp, rfl⟩
   | _ => exact ⟨hda, _, hsp, rfl, rfl⟩
theorem Same.inBlk {B : Addr} {cs : List Value} (h : Same w w' B.block) (hr : RowAt w B cs) : InBlk w w' B cs.length cs :=
 ⟨h.shape, ⟨h.rest.1, fun o _ => h.rest.2 o, (h.row hr).2.1⟩, h.kin⟩
theorem calledP_ok (hC : CtxOK τ c) {KS0 : Nat → Prop} {e0 : GEnv} (h0 : Inv c KS0 e0 F ρ w) (hKS : ∀ b, KS0 b → KS b) {d : Nat} (hd32 : 32768 ≤ d) (T : Taken (d + 4) c F ρ w KS e rs kl H)
  (hfree : getB ρ d = none ∧ getB ρ (d + 1) = none ∧ getB ρ (d + 2) = none) {frz : List Nat} (hfrz : ∀ r ∈ frz, ∃ t x pd, getB (rs ++ ρ) r = some (.data false t x pd))
  {ptr : Bool} {p : Place} {re : Bool} {tr : Ty} {y : tr.D} {pd : Option (Path × (te : Ty) × List te.D)} (hp : getB (rs ++ ρ) p.r = some (.data re tr y pd)) (hpf : p.r ∉ frz)
  {s : Spot} (hs : spotD e p = some s) (hlst : ptr = false → isOwnL s.t = true) (hptrA : ptr = true → s.ad ≠ none) (hhere : s.t.here = true)
  {z : SG} (hzt : z.t = s.t) {u : Dyn} (hu : (wr tr y p.π z.d).run = some u)
  {KS2 : Nat → Prop} {os : List SG} (hlen : os.length ≤ 3) (hK : ∀ b, KS b → KS2 b)
  (hKn : ∀ b, KS2 b → KS b ∨ (w.heap.size ≤ b ∧ b < w'.heap.size) ∨ ((∃ x ∈ H, b ∈ fp x.t x.g) ∨ (∃ n ∈ frz, b ∈ blk (hid H ++ (rs ++ purgesB kl ρ)) e n)) ∨ b ∈ fp s.t s.g)
  (hok : ∀ y ∈ os, okG w' KS2 y.t y.g) (hokz : okG w' KS2 z.t z.g) (hn : (os.flatMap SG.fp ++ z.fp).Nodup)
  (hf : ∀ b ∈ os.flatMap SG.fp ++ z.fp, ¬ KS2 b ∧ ((w.heap.size ≤ b ∧ b < w'.heap.size) ∨ (∃ x ∈ H, b ∈ fp x.t x.g) ∨ b ∈ fp s.t s.g))
  (hsame : ∀ b, b < w.heap.size → (∀ x ∈ H, b ∉ fp x.t x.g) → b ∉ fp s.t s.g → (ptr = true → ∀ B, s.ad = some B → B.block ≠ b) → Same w w' b) (hz : Grew w w')
  (hin : ptr = true → ∀ B, s.ad = some B → InBlk w w' B s.t.sz (cl z.t z.g)) (hcl : ptr = false → cl z.t z.g = cl s.t s.g)
  (hty : (os.map SG.d).all (fun y => y.1.shared || !y.1.isList || isOwnL y.1) = true) :
  After c KS0 F ρ { new := true, rv := oneRV (outs d (os.map SG.d)).1, rs := (outs d (os.map SG.d)).2 ++ ((p.r, some (.data re u.1 u.2 none)) :: (frz.map (fun r => (r, none)) ++ rs)), kill := kl ++ (frz.map .all ++ [ioKill ptr p]) }
   (if h : (os.map SG.v).toArray.size = 1 then (os.map SG.v).toArray[0] else .tuple (os.map SG.v).toArray) w' := by
 have hl : ∀ n y, findN (newsOf d os) n = some y → d ≤ n ∧ n < d + 3 ∧ getB ρ n = none := fun n y hy => by
  obtain ⟨h1, h2, h3, h4⟩ := newsOf_lt (findN_mem hy)
  refine ⟨h1, by omega, ?_⟩
  have : n = d ∨ n = d + 1 ∨ n = d + 2 := by omega
  rcases this with rfl | rfl | rfl
  ·exact hfree.1
  ·exact hfree.2.1
  ·exact hfree.2.2
 have hHn : ∀ x ∈ H, d + 4 ≤ x.n ∧ getB ρ x.n = none := fun x hx => ⟨(T.fr x hx).2, (T.fr x hx).1⟩
 have hrsn : ∀ n, getB ρ n = none → getB (rs ++ ρ) n = none := fun n hn' => by
  rw [getB_append]
  ·exact hn'
  ·intro y hy e; exact (T.noal y hy).2 (by rw [e]; exact hn')
 have hbase : ∀ n ks, getB ρ n = none → getB (rs ++ purgesB ks ρ) n = none := fun n ks hn' => by
  rw [getB_append]
  ·exact none_purgesB hn'
  ·intro y hy e; exact (T.noal y hy).2 (by rw [e]; exact hn')
 have hfz : ∀ n ∈ frz, getB ρ n ≠ none := fun n hn' e => by
  obtain ⟨t, x, pd, h1⟩ := hfrz n hn'
  rw [hrsn n e] at h1; cases h1
 have hpz : getB ρ p.r ≠ none := fun e => by rw [hrsn _ e] at hp; cases hp
 generalize hK2 : frz.map Kill.all ++ [ioKill ptr p] = K2
 obtain ⟨hI, hN⟩ := T.inv.purge K2
 have hB : purgesB K2 (hid H ++ (rs ++ purgesB kl ρ)) = hid H ++ (rs ++ purgesB (kl ++ K2) ρ) := by
  rw [purgesB_hid T, purgesB_app]
 have hsub2 : ∀ n re t x pd, getB (rs ++ ρ) n = some (.data re t x pd) → getB (hid H ++ (rs ++ purgesB (kl ++ K2) ρ)) n = some (.data re t x pd) := fun n re t x pd h1 => by
  rw [← hB]
  exact data_purgesB (T.sub _ _ _ _ _ h1)
 have hblk : ∀ n, (∃ re t x pd, getB (hid H ++ (rs ++ purgesB kl ρ)) n = some (.data re t x pd)) → blk (hid H ++ (rs ++ purgesB (kl ++ K2) ρ)) e n = blk (hid H ++ (rs ++ purgesB kl ρ)) e n := fun n ⟨re, t, x, pd, h1⟩ => by
  have h2 := data_purgesB (ks := K2) h1
  rw [hB] at h2
  simp only [blk, h1, h2]
 have hblkH : ∀ x ∈ H, blk (hid H ++ (rs ++ purgesB (kl ++ K2) ρ)) e x.n = fp x.t x.g := fun x hx => by
  rw [hblk _ ⟨_, _, _, _, getB_hid_in T.nd x hx⟩]
  exact T.hblk x hx
 have hblkF : ∀ n ∈ frz, blk (hid H ++ (rs ++ purgesB (kl ++ K2) ρ)) e n = blk (hid H ++ (rs ++ purgesB kl ρ)) e n := fun n hn' => by
  obtain ⟨t, x, pd, h1⟩ := hfrz n hn'
  exact hblk _ ⟨_, _, _, _, T.sub _ _ _ _ _ h1⟩
 rw [hB] at hI hN
 have hnh1 := (T.nohit h0).purge (allKills K2 (hid H ++ (rs ++ purgesB kl ρ))) K2
 rw [hB] at hnh1
 have hout : ∀ n y, findN (newsOf d os) n = some y → getB (hid H ++ (rs ++ purgesB (kl ++ K2) ρ)) n = none := fun n y hy => by
  obtain ⟨h1, h2, h3⟩ := hl n y hy
  rw [getB_hid_out fun x hx e => by have := (hHn x hx).1; omega]
  exact hbase n _ h3
 have e0 : (outs d (os.map SG.d)).2 ++ ((p.r, some (.data re u.1 u.2 none)) :: (frz.map (fun r => ((r, none) : Nat × Option Root)) ++ rs)) ++ purgesB (kl ++ K2) ρ = newB (newsOf d os) ++ ((p.r, some (.data re u.1 u.2 none)) :: (frz.map (fun r => ((r, none) : Nat × Option Root)) ++ (rs ++ purgesB (kl ++ K2) ρ))) := by
  rw [outs_newB]; simp
 have hpr := hsub2 _ _ _ _ _ hp
 obtain ⟨ad, g, q1, q2, q3, q4, q5, q6⟩ := hI.root hpr
 subst q2
 have hsp : ∀ A, ad = some A → A.spot = none := fun A hA => (q4 A hA).2.1
 have hloc : loc tr g ad p.π = some s := by simpa only [spotD, q1, Option.bind_some] using hs
 obtain ⟨G, dr, eG, PG⟩ := putG (w := w) (KS := KS) p.π tr g ad s z.t z.g u hloc hsp q3 hu
 have hL := locG p.π tr g ad s hloc hsp q3
 have hrow : ∀ B, s.ad = some B → RowAt w B (cl s.t s.g) := fun B hB => by
  cases hn : noI p.π with
  | true =>
   obtain ⟨pre, post, e1, e2⟩ := hL.out hn
   rw [hB] at e2
   cases hA : ad with
   | none => rw [hA] at e2; cases e2
   | some A =>
    rw [hA] at e2
    injection e2 with e2
    have := (q4 A hA).2
    rw [e1] at this
    rw [e2]; exact this.mid
  | false =>
   obtain ⟨rest, _, h2⟩ := hL.perm
   obtain ⟨B', e, _, hr'⟩ := h2 hn
   rw [hB] at e; cases e; exact hr'
 have hHr : p.r ∉ H.map (·.n) := fun hm => by
  obtain ⟨x, hx, e1⟩ := List.mem_map.1 hm
  have := (hHn x hx).2
  rw [e1] at this
  exact hpz this
 have hBr : ∀ B, s.ad = some B → B.block ∈ blk (hid H ++ (rs ++ purgesB (kl ++ K2) ρ)) e p.r := fun B hB => by
  rw [q6]
  rcases hL.where_ hB with ⟨_, A, hA, hAB⟩ | ⟨hn, _⟩
  ·rw [hAB, hA]; simp
  ·simp [hL.in_ hB hn]
 have hBn : ∀ B, s.ad = some B → B.block ∉ fp s.t s.g := fun B hB hm => by
  have nd := hI.nd p.r
  rw [q6] at nd
  simp only [List.nodup_append] at nd
  obtain ⟨⟨nd1, nd2, nd3⟩, _, _⟩ := nd
  rcases hL.where_ hB with ⟨_, A, hA, hAB⟩ | ⟨hn, rest, hpm, hrm⟩
  ·exact nd3 A.block (by simp [hA]) _ (hL.sub _ hm) hAB.symm
  ·exact (List.nodup_append.1 (nodup_perm hpm nd2)).2.2 _ hm _ hrm rfl
 have hinB : ∀ B, s.ad = some B → InBlk w w' B s.t.sz (cl z.t z.g) := fun B hB => by
  cases hptr : ptr with
  | true => exact hin hptr B hB
  | false =>
   rw [hcl hptr, ← okG_len _ _ hL.ok]
   refine Same.inBlk (hsame B.block (hI.blt p.r _ (hBr B hB)) (fun x hx hbx => ?_) (hBn B hB) (fun h => by rw [hptr] at h; cases h)) (hrow B hB)
   rw [← hblkH x hx] at hbx
   exact hI.dj x.n p.r (fun e1 => hHr (List.mem_map.2 ⟨x, hx, e1⟩)) _ hbx (hBr B hB)
 have hdata : ∀ n ∈ H.map (·.n) ++ frz, ∃ t x pd, getB (hid H ++ (rs ++ purgesB (kl ++ K2) ρ)) n = some (.data false t x pd) := fun n hn' => by
  rcases List.mem_append.1 hn' with h1 | h1
  ·obtain ⟨x, hx, rfl⟩ := List.mem_map.1 h1
   exact ⟨_, _, _, getB_hid_in T.nd x hx⟩
  ·obtain ⟨t, x, pd, h1⟩ := hfrz n h1
   exact ⟨t, x, pd, hsub2 _ _ _ _ _ h1⟩
 have hrl : ∀ n y, findN (newsOf d os) n = some y → n ≠ p.r := fun n y hy e1 => hpz (by rw [← e1]; exact (hl n y hy).2.2)
 let ρN : Roots := newB (newsOf d os) ++ ((p.r, some (.data re u.1 u.2 none)) :: (frz.map (fun r => ((r, none) : Nat × Option Root)) ++ (rs ++ purgesB (kl ++ K2) ρ)))
 have g1 : ∀ n y, findN (newsOf d os) n = some y → getB ρN n = some (.data false y.t (er y.t y.g) none) := fun n y hy => by simp only [ρN]; rw [getB_newB, hy]
 have g2 : getB ρN p.r = some (.data re u.1 (er u.1 G) none) := by
  have : findN (newsOf d os) p.r = none := by
   cases hq : findN (newsOf d os) p.r with
   | none => rfl
   | some y => exact absurd rfl (hrl _ y hq)
  simp only [ρN]
  rw [getB_newB, this]
  simp only
  rw [getB_cons_eq, eG]
 have g3 : ∀ n, findN (newsOf d os) n = none → n ≠ p.r → getB ρN n = getB (frz.map (fun r => ((r, none) : Nat × Option Root)) ++ (rs ++ purgesB (kl ++ K2) ρ)) n := fun n hy hne => by
  simp only [ρN]
  rw [getB_newB, hy]
  simp only
  rw [getB_cons_ne hne]
 have g4 : ∀ n ∈ H.map (·.n) ++ frz, getB ρN n = none := fun n hn' => by
  have hnone : findN (newsOf d os) n = none := by
   cases hq : findN (newsOf d os) n with
   | none => rfl
   | some y =>
    obtain ⟨h1, h2, h3⟩ := hl n y hq
    rcases List.mem_append.1 hn' with h4 | h4
    ·obtain ⟨x, hx, rfl⟩ := List.mem_map.1 h4
     have := (hHn x hx).1; omega
    ·exact absurd h3 (hfz n h4)
  have hne : n ≠ p.r := fun e1 => by
   rcases List.mem_append.1 hn' with h4 | h4
   ·exact hHr (e1 ▸ h4)
   ·exact hpf (e1 ▸ h4)
  rw [g3 n hnone hne]
  by_cases hin : n ∈ frz
  ·exact getB_nones frz hin
  ·rw [getB_nones_out frz hin]
   rcases List.mem_append.1 hn' with h4 | h4
   ·obtain ⟨x, hx, rfl⟩ := List.mem_map.1 h4
    exact hbase _ _ (hHn x hx).2
   ·exact absurd h4 hin
 have g5 : ∀ n, n ∉ H.map (·.n) ++ frz → findN (newsOf d os) n = none → n ≠ p.r → getB ρN n = getB (hid H ++ (rs ++ purgesB (kl ++ K2) ρ)) n := fun n hn' hnone hne => by
  simp only [List.mem_append, List.mem_map, not_or] at hn'
  rw [g3 n hnone hne, getB_nones_out frz hn'.2, getB_hid_out fun x hx e => hn'.1 ⟨x, hx, e⟩]
 have hallk : ∀ n ∈ H.map (·.n) ++ frz, Kill.all n ∈ (H.map (·.n)).map Kill.all ++ K2 := fun n hn' => by
  rw [← hK2]
  rcases List.mem_append.1 hn' with h4 | h4
  ·exact List.mem_append.2 (.inl (List.mem_map.2 ⟨n, h4, rfl⟩))
  ·exact List.mem_append.2 (.inr (List.mem_append.2 (.inl (List.mem_map.2 ⟨n, h4, rfl⟩))))
 have hfin := hI.callIO (w' := w') (KS' := KS2) (ρ' := ρN) (e' := (newE e (newsOf d os)).put p.r ⟨ad, u.1, G⟩) (ks := (H.map (·.n)).map .all ++ K2) (hnh1.append hN)
  (hs := H.map (·.n) ++ frz) (l := newsOf d os) hdata
  (fun n y hy => by
   obtain ⟨q1, q2⟩ := hC.none (n := n) (by have := (hl n y hy).1; omega)
   exact ⟨hout n y hy, q1, q2⟩)
  hpr (fun hm => by
   rcases List.mem_append.1 hm with h4 | h4
   ·exact hHr h4
   ·exact hpf h4) q1 hloc PG rfl ?_
  (fun b hb hnb hnb2 hnb3 => hsame b hb (fun x hx hbx => hnb x.n (by simp only [List.mem_append, List.mem_map]; exact .inl ⟨x, hx, rfl⟩) (by rw [hblkH x hx]; exact hbx)) hnb2 (fun _ => hnb3))
  hz hinB hK
  (fun b hb => by
   rcases hKn b hb with h1 | h1 | (⟨x, hx, h1⟩ | ⟨n, hn', h1⟩) | h1
   ·exact .inl h1
   ·exact .inr (.inl h1)
   ·exact .inr (.inr (.inl ⟨x.n, by simp only [List.mem_append, List.mem_map]; exact .inl ⟨x, hx, rfl⟩, by rw [hblkH x hx]; exact h1⟩))
   ·exact .inr (.inr (.inl ⟨n, by simp [hn'], by rw [hblkF n hn']; exact h1⟩))
   ·exact .inr (.inr (.inr h1)))
  (fun x hx => hok x.2 (newsOf_lt hx).2.2.1) hokz
  (by rw [newsOf_fp]; exact hn)
  (fun b hb => by
   rw [newsOf_fp] at hb
   obtain ⟨h1, h2⟩ := hf b hb
   refine ⟨h1, ?_⟩
   rcases h2 with h2 | ⟨x, hx, h3⟩ | h2
   ·exact .inl h2
   ·exact .inr (.inl ⟨x.n, by simp only [List.mem_append, List.mem_map]; exact .inl ⟨x, hx, rfl⟩, by rw [hblkH x hx]; exact h3⟩)
   ·exact .inr (.inr h2))
  ?_ g1 g4 g2 g5
 ·refine ⟨fun b => KS2 b ∨ b ∈ dr, (newE e (newsOf d os)).put p.r ⟨ad, u.1, G⟩, fun b hb => .inl (hK b (hKS b hb)), ?_, ?_⟩
  ·simp only
   rw [e0]
   refine oneRV_ok (outs_rv' os d (fun x hx => ?_) hty fun y hy => okG_KS (fun b hb => .inl hb) _ _ (hok y hy))
   have h1 := newsOf_find (show (x.1, x.2) ∈ newsOf d os from hx)
   have h2 := hrl _ _ h1
   exact ⟨by simp [GEnv.put, newE, h1, h2], g1 _ _ h1⟩
  ·simp only
   rw [e0]
   rw [purgesF_append] at hfin
   refine hfin.more ?_
   intro x hx
   simp only [allKills, List.mem_append, List.flatMap_append] at hx ⊢
   rcases hx with (hx | hx) | hx | hx
   ·exact .inl (.inl hx)
   ·exact .inr (.inl hx)
   ·exact .inl (.inr hx)
   ·right; right
    obtain ⟨k, hk, hx⟩ := List.mem_flatMap.1 hx
    rw [aliasKills_app k _ _ (hid_noal H), aliasKills_app k rs _ (fun y hy => (T.noal y hy).1)] at hx
    exact List.mem_flatMap.2 ⟨k, hk, aliasKills_purgesB k kl ρ x hx⟩
 ·intro hT hkc
  have hS : ∀ n, (n ∈ H.map (·.n) ++ frz ∨ ∃ y, findN (newsOf d os) n = some y) → n ≠ p.r → getB (hid H ++ (rs ++ purgesB (kl ++ K2) ρ)) n = none ∨ Kill.all n ∈ (H.map (·.n)).map Kill.all ++ K2 := fun n hn' _ => by
   rcases hn' with hn' | ⟨y, hy⟩
   ·exact .inr (hallk n hn')
   ·exact .inl (hout n y hy)
  have hb' : ∀ n, ¬ (n ∈ H.map (·.n) ++ frz ∨ ∃ y, findN (newsOf d os) n = some y) → n ≠ p.r → getB ρN n = getB (hid H ++ (rs ++ purgesB (kl ++ K2) ρ)) n := fun n hn' hne => g5 n (fun h => hn' (.inl h)) (by
   cases hq : findN (newsOf d os) n with
   | none => rfl
   | some y => exact absurd (.inr ⟨y, hq⟩) hn') hne
  have he' : ∀ n, ¬ (n ∈ H.map (·.n) ++ frz ∨ ∃ y, findN (newsOf d os) n = some y) → n ≠ p.r → ((newE e (newsOf d os)).put p.r ⟨ad, u.1, G⟩).gr n = e.gr n ∧ ((newE e (newsOf d os)).put p.r ⟨ad, u.1, G⟩).ala n = e.ala n ∧ ((newE e (newsOf d os)).put p.r ⟨ad, u.1, G⟩).pv n = e.pv n := fun n hn' hne => by
   have : findN (newsOf d os) n = none := by
    cases hq : findN (newsOf d os) n with
    | none => rfl
    | some y => exact absurd (.inr ⟨y, hq⟩) hn'
   exact ⟨by simp [GEnv.put, newE, hne, this], rfl, rfl⟩
  have hput : ((newE e (newsOf d os)).put p.r ⟨ad, u.1, G⟩).gr p.r = some ⟨ad, u.1, G⟩ := by simp [GEnv.put]
  have hkm : ioKill ptr p ∈ (H.map (·.n)).map Kill.all ++ K2 := by rw [← hK2]; simp
  cases hptr : ptr with
  | true =>
   rw [hptr] at hkm
   refine Reads.put (S := fun n => n ∈ H.map (·.n) ++ frz ∨ ∃ y, findN (newsOf d os) n = some y) hI (hnh1.append hN) hpr q1 q3 hsp hloc PG (.inl ⟨hkm, .inl fun n hn' => ?_⟩) hT g2 hput hS hb' he' (fun b hb => .inl (hK b hb)) hkc
   rw [hzt] at hn'
   rw [hn'] at hhere
   cases hhere
  | false =>
   rw [hptr] at hkm
   have ho := hlst hptr
   have hc' := hcl hptr
   obtain ⟨st, sg, sad⟩ := s
   obtain ⟨zt, zg⟩ := z
   simp only at hzt hc' ho
   subst hzt
   match zt, ho with
   | .list true te, _ =>
    exact Reads.relist (S := fun n => n ∈ H.map (·.n) ++ frz ∨ ∃ y, findN (newsOf d os) n = some y) hI (hnh1.append hN) hpr q1 q3 hsp hloc PG hc' hkm hT g2 hput hS hb' he' (fun b hb => .inl (hK b hb)) hkc
 ·intro hh hq
  cases hπ : p.π with
  | cons a b => exact .inl (by simp)
  | nil =>
   right
   obtain ⟨te, gl, e1, e2⟩ := hI.hdr p.r hh hq _ _ _ _ hpr
   rw [q1] at e1
   injection e1 with e1
   have hadn : ad = none := congrArg GRoot.ad e1
   have hss : s = ⟨tr, g, ad⟩ := by rw [hπ, loc_nil] at hloc; injection hloc with h1; exact h1.symm
   have hwr : u = z.d := by
    rw [hπ, wr_nil] at hu
    obtain ⟨_, hu⟩ := Cm.run_chk hu
    injection hu with hu; exact hu.symm
   have hptr : ptr = false ∨ ptr = true := by cases ptr <;> simp
   rcases hptr with hptr | hptr
   ·have hc' := hcl hptr
    have hcG : cl u.1 G = cl z.t z.g := by
     obtain ⟨t2, g2, _, k1, k2⟩ := PG.st2
     have := k2 []
     rw [List.append_nil, hπ, loc_nil, loc_nil] at this
     injection this with this
     injection this with j1 j2 j3
     subst j1
     cases j2
     exact k1
    injection e1 with j1 j2 j3
    subst j2
    cases j3
    have hut : u.1 = .list true te := by
     rw [hwr]; show z.t = _; rw [hzt, hss]
    obtain ⟨ut, ux⟩ := u
    simp only at hut
    subst hut
    refine ⟨te, gl, G, by rw [hadn], by rw [hadn], ?_⟩
    have h9 : cl (.list true te) G = cl (.list true te) gl := by rw [hcG, hc', hss]
    simp only [cl, List.cons.injEq, and_true, Value.slice.injEq] at h9
    exact ⟨h9.1, h9.2.1, h9.2.2⟩
   ·exact absurd (by rw [hss]; exact hadn) (hptrA hptr)
theorem conv_self {t : Ty} {x y : t.D} (h : conv t t x = some y) : y = x := by
 obtain ⟨_, h2⟩ := conv_some h
 exact h2
theorem callP_ok {d f : Nat} {s : Sig} {ptr : Bool} {t : Ty} {x : RV} {p : Place} {xs : List RV} {vsA : List Value} {ef : Eff} (hf : FnOK P τ f s (call f s)) (hio : s.io = some (ptr, t)) (hC : CtxOK τ c) (h : Inv c KS e F ρ w) (hd32 : 32768 ≤ d)
  (hnew : ef.new = true → getB ρ d = none ∧ getB ρ (d + 1) = none ∧ getB ρ (d + 2) = none) (hx : RVoks w KS ρ e (x :: xs) vsA) (hpl : ioPlace ptr x = some p)
  (hc : (callP call d f s ptr t ρ x p xs).run = some ef) : Does P (callFunc f vsA.toArray) w (After c KS F ρ ef) := by
 unfold callP at hc
 replace hc := Cm.run_bind_some hc; obtain ⟨⟨ds, rs, kl⟩, hgt, hc⟩ := hc
 replace hc := Cm.run_bind_some hc; obtain ⟨⟨ds2, used⟩, hgs, hc⟩ := hc
 replace hc := Cm.run_chk hc; obtain ⟨hck, hc⟩ := hc
 replace hc := Cm.run_bind_some hc; obtain ⟨zf, hfz, hc⟩ := hc
 replace hc := Cm.run_chk hc; obtain ⟨hck2, hc⟩ := hc
 simp only [Bool.and_eq_true, Bool.not_eq_true'] at hck2
 obtain ⟨hfx, hdo, hnu, hhere, hpo⟩ := hck2
 simp only at hc
 split at hc
 case h_2 => cases hc
 rename_i re tr y pd hgp
 replace hc := Cm.run_bind_some hc; obtain ⟨v, hrv, hc⟩ := hc
 replace hc := Cm.run_chk hc; obtain ⟨hbt, hc⟩ := hc
 replace hc := Cm.run_bind_some hc; obtain ⟨inp, hinp, hc⟩ := hc
 replace hc := Cm.run_get hc; obtain ⟨out, hout, hc⟩ := hc
 split at hc
 case h_2 => cases hc
 rename_i v' hdrop
 replace hc := Cm.run_bind_some hc; obtain ⟨u, hu, hc⟩ := hc
 injection hc with hc; subst hc
 have hfree := hnew rfl
 have hl := rvoks_len hx
 obtain ⟨v0, vs, rfl, hx0, hxs⟩ := hx
 have hx : RVoks w KS ρ e (x :: xs) (v0 :: vs) := ⟨v0, vs, rfl, hx0, hxs⟩
 simp only at hgs hfz hinp hgp hfx hdo hnu
 obtain ⟨KS1, e1, H1, k1, T1, hTK⟩ := gatherT_ok hC (N := d + 4) (by omega) hl s.ins 1 xs vs (by intro j; simp [Nat.add_comm]) (by intro j; simp [Nat.add_comm]) (rvoks_len hxs) hgt (Taken.start (h.ops hx))
 simp only [List.append_nil] at T1
 simp only at T1 hTK
 have hnotp : ∀ l, x ≠ .tp l := fun l e0 => by subst e0; cases hpl
 obtain ⟨v0', hv0', hxr⟩ := T1.opnd (j := 0) (x := x) rfl hl hfx hnotp
 have : v0' = v0 := by simpa using hv0'.symm
 subst this
 have hiT : s.inTs = t :: s.ins.map Prm.t := by simp [Sig.inTs, Sig.ioT, hio]
 have hoT : s.outTs = s.outs ++ [t] := by simp [Sig.outTs, Sig.ioT, hio]
 obtain ⟨hcv, hty⟩ := packD_ok _ _ _ hinp
 -- the place
 have hgp2 := T1.sub _ _ _ _ _ hgp
 obtain ⟨ad, g, q1, q2, q3, q4, q5, q6⟩ := T1.inv.root hgp2
 subst q2
 obtain ⟨sp, hloc, hvs⟩ := rd_loc p.π tr g ad v hrv
 have hsp : spotD e1 p = some sp := by simp only [spotD, q1, Option.bind_some]; exact hloc
 subst hvs
 have hst : sp.t = t := Ty.beq_eq hbt
 have hdat : hasData (hid H1 ++ (rs ++ purgesB kl ρ)) p.r := ⟨_, _, _, _, hgp2⟩
 obtain ⟨hokS, hrowS⟩ := spotD_ok T1.inv hdat hsp
 obtain ⟨hbS, hbA⟩ := blk_spot T1.inv hdat hsp
 have hvx : ∃ A : Addr, (ptr = true → sp.ad = some A) ∧ v0' = (if ptr then .pointer (some A) else val sp.t (cl sp.t sp.g)) := by
  cases x with
  | rf q =>
   cases ptr with
   | false => cases hpl
   | true =>
    injection hpl with hpl; subst hpl
    obtain ⟨s1, A, k2, k3, k4⟩ := hxr
    rw [spotOf_data hdat, hsp] at k2
    injection k2 with k2; subst k2
    exact ⟨A, fun _ => k3, by simpa using k4⟩
  | wl q =>
   cases ptr with
   | true => cases hpl
   | false =>
    injection hpl with hpl; subst hpl
    obtain ⟨_, te, g0, ad0, k2, k3⟩ := hxr
    rw [hsp] at k2
    injection k2 with k2; subst k2
    exact ⟨⟨0, 0, none⟩, fun h => (by cases h), k3⟩
  | _ => cases ptr <;> cases hpl
 obtain ⟨A, hA, hv0⟩ := hvx
 -- the values
 have hnum : ∀ n ∈ used, n ≠ p.r := fun n hn e0 => by
  have := List.any_eq_false.1 hnu n hn
  rw [e0] at this
  simp [Nat.beq_refl] at this
 obtain ⟨cd0, cds, hcds⟩ : ∃ cd0 cds, unD s.inTs inp = cd0 :: cds := by
  cases hq : unD s.inTs inp with
  | nil => rw [hq] at hty; rw [hiT] at hty; cases hty
  | cons a b => exact ⟨a, b, rfl⟩
 rw [hcds] at hcv hty
 rw [hiT] at hty
 simp only [List.map_cons, List.cons.injEq] at hty
 obtain ⟨hc1, hcv⟩ := hcv
 have hcd0 : cd0 = ⟨sp.t, er sp.t sp.g⟩ := by
  obtain ⟨ct, cx⟩ := cd0
  have : ct = sp.t := hty.1.trans hst.symm
  subst this
  have h9 : cx = er sp.t sp.g := conv_self hc1
  rw [h9]
 obtain ⟨dr, fps, p1, p2, p3⟩ := gatherS_ok hl T1 hTK 1 xs (by intro j; simp [Nat.add_comm]) (by intro j; simp [Nat.add_comm]) (fun y hy => (T1.each y hy).1) hgs hcv hty.2
 simp only at p2 p3
 have hval := hTK.all
 have hnd := T1.nodup
 have hnd2 := nodup_perm p1 hnd
 have hnd3 := List.nodup_append.1 hnd2
 have hmem : ∀ b, (b ∈ fps ∨ b ∈ dr) → ∃ x ∈ H1, b ∈ fp x.t x.g := fun b hb => by
  have : b ∈ H1.flatMap fun y => fp y.t y.g := p1.mem_iff.2 (by simpa using hb)
  exact List.mem_flatMap.1 this
 have hHr : ∀ x ∈ H1, x.n ≠ p.r := fun x hx e0 => by
  have h1 := (T1.fr x hx).1
  rw [e0] at h1
  have : getB (rs ++ ρ) p.r = none := by
   rw [getB_append rs ρ p.r fun z hz e2 => (T1.noal z hz).2 (by rw [e2]; exact h1)]; exact h1
  rw [hgp] at this; cases this
 have hHd : ∀ x ∈ H1, ∀ b ∈ fp x.t x.g, b ∉ blk (hid H1 ++ (rs ++ purgesB kl ρ)) e1 p.r := fun x hx b hb => by
  rw [← T1.hblk x hx] at hb
  exact T1.inv.dj _ _ (hHr x hx) b hb
 generalize hKSc : (fun b => KS1 b ∨ b ∈ dr ∨ ∃ n ∈ used, b ∈ blk (hid H1 ++ (rs ++ purgesB kl ρ)) e1 n) = KSc
 have hKSc' : ∀ b, KSc b ↔ KS1 b ∨ b ∈ dr ∨ ∃ n ∈ used, b ∈ blk (hid H1 ++ (rs ++ purgesB kl ρ)) e1 n := fun b => by rw [← hKSc]
 obtain ⟨gs, g1, g2, g3, g4⟩ := p3 KSc (fun b hb => (hKSc' b).2 (.inl hb)) (fun b hb => (hKSc' b).2 (.inr (.inl hb))) (fun n hn b hb => (hKSc' b).2 (.inr (.inr ⟨n, hn, hb⟩)))
 have hlt : ∀ b, KSc b → b < w.heap.size := fun b hb => by
  rcases (hKSc' b).1 hb with h1 | h1 | ⟨n, hn, h1⟩
  ·exact T1.inv.lt b h1
  ·obtain ⟨x, hx, hbx⟩ := hmem b (.inr h1)
   exact ((T1.each x hx).2 b hbx).1
  ·exact T1.inv.blt n b h1
 have hrN : ∀ b, b ∈ blk (hid H1 ++ (rs ++ purgesB kl ρ)) e1 p.r → ¬ KSc b := fun b hb hk => by
  rcases (hKSc' b).1 hk with h1 | h1 | ⟨n, hn, h1⟩
  ·exact T1.inv.ks _ b hb h1
  ·obtain ⟨x, hx, hbx⟩ := hmem b (.inr h1)
   exact hHd x hx b hbx hb
  ·exact T1.inv.dj n p.r (hnum n hn) b h1 hb
 have hnot : ∀ b ∈ fps, b < w.heap.size ∧ ¬ KSc b := fun b hb => by
  obtain ⟨x, hx, hbx⟩ := hmem b (.inl hb)
  refine ⟨((T1.each x hx).2 b hbx).1, fun hk => ?_⟩
  rcases (hKSc' b).1 hk with h1 | h1 | ⟨n, hn, h1⟩
  ·exact ((T1.each x hx).2 b hbx).2 h1
  ·exact hnd3.2.2 b hb b h1 rfl
  ·obtain ⟨re, t, y, pd, hn1⟩ := p2 n hn
   have hne : x.n ≠ n := fun e => by
    rw [← e] at hn1
    rw [getB_append rs ρ x.n fun z hz e2 => (T1.noal z hz).2 (by rw [e2]; exact (T1.fr x hx).1), (T1.fr x hx).1] at hn1
    cases hn1
   rw [← T1.hblk x hx] at hbx
   exact T1.inv.dj _ _ hne b hbx h1
 have ndr := T1.inv.nd p.r
 rw [q6] at ndr
 simp only [List.nodup_append] at ndr
 obtain ⟨⟨nd1, nd2, nd3⟩, _, _⟩ := ndr
 have hsp0 : ∀ A, ad = some A → A.spot = none := fun A hA => (q4 A hA).2.1
 have hL := locG p.π tr g ad sp hloc hsp0 q3
 obtain ⟨rest, hpm, hrst⟩ := hL.perm
 have ndS : (fp sp.t sp.g).Nodup := (List.nodup_append.1 (nodup_perm hpm nd2)).1
 have hBn : ∀ B, sp.ad = some B → B.block ∉ fp sp.t sp.g := fun B hB hm => by
  rcases hL.where_ hB with ⟨_, A, hA, hAB⟩ | ⟨hn, rest, hpm, hrm⟩
  ·exact nd3 A.block (by simp [hA]) _ (hL.sub _ hm) hAB.symm
  ·exact (List.nodup_append.1 (nodup_perm hpm nd2)).2.2 _ hm _ hrm rfl
 have hfpsS : ∀ b ∈ fps, b ∉ blk (hid H1 ++ (rs ++ purgesB kl ρ)) e1 p.r := fun b hb => by
  obtain ⟨x, hx, hbx⟩ := hmem b (.inl hb)
  exact hHd x hx b hbx
 have hfl : (((⟨sp.t, sp.g⟩ : SG) :: gs).flatMap SG.fp) = fp sp.t sp.g ++ fps := by simp [SG.fp, ← g3]
 have hpio : isPtr s.io = ptr := by rw [hio]; cases ptr <;> rfl
 have hrun := hf (w := w) (KS := KSc) (gs := ⟨sp.t, sp.g⟩ :: gs) (A := A) hval (by rw [hcds, hcd0]; simp only [List.map_cons, g1]; rfl) hout
  (fun y hy => by
   rcases List.mem_cons.1 hy with rfl | hy
   ·exact okG_KS (fun b hb => (hKSc' b).2 (.inl hb)) _ _ hokS
   ·exact g4 y hy)
  (by rw [hfl]; exact List.nodup_append.2 ⟨ndS, hnd3.1, fun a ha b hb e0 => hfpsS b hb (e0 ▸ hbS a ha)⟩)
  (by
   rw [hfl]
   intro b hb
   rcases List.mem_append.1 hb with hb | hb
   ·exact ⟨T1.inv.blt _ b (hbS b hb), hrN b (hbS b hb)⟩
   ·exact hnot b hb) hlt
  (fun hp y hy => by
   rw [hpio] at hp
   simp at hy; subst hy
   have hAs := hA hp
   refine ⟨T1.inv.blt _ _ (hbA A hAs), hrN _ (hbA A hAs), ?_, hrowS A hAs⟩
   rw [hfl]
   intro hm
   rcases List.mem_append.1 hm with hm | hm
   ·exact hBn A hAs hm
   ·exact hfpsS _ hm (hbA A hAs))
  (hC.tab w T1.inv.fr) (fun b hb => ⟨tab_lt hC T1.inv hb, fun hm => by
   rw [hfl] at hm
   rcases List.mem_append.1 hm with hm | hm
   ·exact tab_not_blk hC T1.inv hb _ (hbS b hm)
   ·obtain ⟨x, hx, hbx⟩ := hmem b (.inl hm)
    rw [← T1.hblk x hx] at hbx
    exact tab_not_blk hC T1.inv hb _ hbx, fun hp he => by
   rw [hpio] at hp
   exact tab_not_blk hC T1.inv hb _ (he ▸ hbA A (hA hp))⟩)
 have hva : (argVs s.io A (⟨sp.t, sp.g⟩ :: gs)).toArray = (v0' :: vs).toArray := by
  simp only [argVs, hpio, g2, hv0, SG.v]
 rw [hva] at hrun
 refine hrun.mono fun v w' ⟨KS', os, is, r1, r2, ⟨r3, ris⟩, r4, r5, r6, r7, r8, r9, r10, r11⟩ => ?_
 rw [hio] at ris
 rw [hfl] at r6 r7 r9
 obtain ⟨z1, z2, z3⟩ := frozen_ok _ hfz
 simp only [Bool.and_eq_true, Nat.ble_eq] at hck
 match is, ris with
 | [z], _ =>
 have htys : (os ++ [z]).map (fun y => y.d.1) = s.outs ++ [t] := by
  have := (congrArg (List.map (·.1)) r3).trans (unD_ty s.outTs out)
  rw [hoT, List.map_map] at this
  exact this
 have hlen0 : os.length = s.outs.length := by
  have := congrArg List.length htys
  simp at this
  exact this
 have htys2 : os.map (fun y => y.d.1) = s.outs ∧ z.t = t := by
  rw [List.map_append] at htys
  have := List.append_inj htys (by simp [hlen0])
  refine ⟨this.1, ?_⟩
  have h2 := this.2
  simp at h2
  exact h2
 have hlen : os.length ≤ 3 := by rw [hlen0]; exact hck.1
 have hdt : unD s.outTs out = os.map SG.d ++ [z.d] := by rw [← r3]; simp
 have hv' : v' = z.d := by
  rw [hdt, ← hlen0, List.drop_left' (by simp)] at hdrop
  injection hdrop with h1; exact h1.symm
 have htk : (unD s.outTs out).take s.outs.length = os.map SG.d := by
  rw [hdt, ← hlen0, List.take_left' (by simp)]
 rw [hv'] at hu
 have hty2 : (os.map SG.d).all (fun y => y.1.shared || !y.1.isList || isOwnL y.1) = true := by
  have h1 := hck.2
  rw [← htys2.1] at h1
  simpa [List.all_map] using h1
 have hzt : z.t = sp.t := htys2.2.trans hst.symm
 have hfl2 : (os ++ [z]).flatMap SG.fp = os.flatMap SG.fp ++ z.fp := by simp
 rw [hfl2] at r5 r6
 have hsame : ∀ b, b < w.heap.size → (∀ x ∈ H1, b ∉ fp x.t x.g) → b ∉ fp sp.t sp.g → (ptr = true → ∀ B, sp.ad = some B → B.block ≠ b) → Same w w' b := fun b hb hnb hns hnB => r9 b hb (fun hm => by
   rcases List.mem_append.1 hm with hm | hm
   ·exact hns hm
   ·obtain ⟨x, hx, hbx⟩ := hmem b (.inl hm)
    exact hnb x hx hbx) (fun hp => hnB (by rw [← hpio]; exact hp) A (hA (by rw [← hpio]; exact hp)))
 have hin : ptr = true → ∀ B, sp.ad = some B → InBlk w w' B sp.t.sz (cl z.t z.g) := fun hp B hB => by
  have := r10 (by rw [hpio]; exact hp) z (by simp)
  rw [hA hp] at hB
  injection hB with hB; subst hB
  have hsz : z.t.sz = sp.t.sz := by rw [hzt]
  rw [hsz] at this
  exact this
 have hcl : ptr = false → cl z.t z.g = cl sp.t sp.g := fun hp => r11 (by rw [hpio]; exact hp) z (by simp) ⟨sp.t, sp.g⟩ (by simp)
 have orgn : ∀ b, (w.heap.size ≤ b ∧ b < w'.heap.size) ∨ b ∈ fp sp.t sp.g ++ fps → (w.heap.size ≤ b ∧ b < w'.heap.size) ∨ (∃ x ∈ H1, b ∈ fp x.t x.g) ∨ b ∈ fp sp.t sp.g := fun b hb => by
  rcases hb with hb | hb
  ·exact .inl hb
  ·rcases List.mem_append.1 hb with hb | hb
   ·exact .inr (.inr hb)
   ·exact .inr (.inl (hmem b (.inl hb)))
 simp only [htk]
 rw [r2, z1, z2]
 have hT := T1.pop
 have hlst : ptr = false → isOwnL sp.t = true := fun hp => by
  rw [hp] at hpo
  rw [hst]; simpa using hpo
 have hptrA : ptr = true → sp.ad ≠ none := fun hp => by rw [hA hp]; simp
 have hh : sp.t.here = true := by rw [hst]; exact hhere
 cases hO : (s.outs.all Ty.owned && t.owned) with
 | true =>
  rw [hO] at z3
  simp only [cond_true] at z3
  simp only [hO, cond_true] at hfz ⊢
  simp only [Bool.and_eq_true] at hO
  refine calledP_ok hC h k1 hd32 hT hfree (frz := []) (by simp) hgp (by simp) hsp hlst hptrA hh hzt hu (KS2 := KS1) hlen (fun _ h => h) (fun b hb => .inl hb) (fun y hy => okG_owned y.t ?_ y.g (r4 y (by simp [hy]))) (okG_owned z.t (by rw [htys2.2]; exact hO.2) z.g (r4 z (by simp))) r5 (fun b hb => ⟨fun hk => (r6 b hb).1 (r1 b ((hKSc' b).2 (.inl hk))), orgn b (r6 b hb).2⟩) hsame r8 hin hcl hty2
  have : y.t ∈ s.outs := by rw [← htys2.1]; exact List.mem_map.2 ⟨y, hy, rfl⟩
  exact List.all_eq_true.1 hO.1 _ this
 | false =>
  rw [hO] at z3
  simp only [cond_false] at z3
  simp only [cond_false]
  refine calledP_ok hC h k1 hd32 hT hfree (frz := used) z3 hgp (fun hm => hnum _ hm rfl) hsp hlst hptrA hh hzt hu (KS2 := KS') hlen (fun b hb => r1 b ((hKSc' b).2 (.inl hb))) (fun b hb => ?_) (fun y hy => r4 y (by simp [hy])) (r4 z (by simp)) r5 (fun b hb => ⟨(r6 b hb).1, orgn b (r6 b hb).2⟩) hsame r8 hin hcl hty2
  rcases r7 b hb with h1 | h1 | h1
  ·rcases (hKSc' b).1 h1 with h2 | h2 | ⟨n, hn, h2⟩
   ·exact .inl h2
   ·exact .inr (.inr (.inl (.inl (hmem b (.inr h2)))))
   ·exact .inr (.inr (.inl (.inr ⟨n, hn, h2⟩)))
  ·exact .inr (.inl h1)
  ·rcases List.mem_append.1 h1 with h1 | h1
   ·exact .inr (.inr (.inr h1))
   ·exact .inr (.inr (.inl (.inl (hmem b (.inl h1)))))
theorem callOK (hf : ∀ f s, E.sig f = some s → FnOK P τ f s (call f s)) : CallOK P E τ call := by
 intro c KS e F ρ w d f s args caps vs us ef hC h hsig hd32 hnew hargs hcaps hc
 unfold callE at hc
 split at hc
 ·rename_i hio
  exact callV_ok (hf f s hsig) hio hC h hd32 hnew hargs hcaps hc
 ·rename_i ptr t hio
  have hx := rvoks_append hargs hcaps
  split at hc
  ·rename_i x xs hxs
   split at hc
   ·rename_i p hp
    rw [hxs] at hx
    have := callP_ok (hf f s hsig) hio hC h hd32 hnew hx hp hc
    rw [← List.append_toArray] at this
    exact this
   ·cases hc
  ·cases hc
end
end
section
section
variable {P : Program} {τ : Tabs} {E : Env} {call : CallT} {c : Ctx} {KS KS' : Nat → Prop} {e : GEnv} {F : Fs} {ρ ρ' ρE : Roots} {w w' : World}
def hdrOf : SG → Option (Option Addr × Nat × Nat)
 | ⟨.list true _, gl⟩ => some (gl.ad, gl.rows.length, gl.cap)
 | _ => none
def ctxOf (w : World) (KS FB : Nat → Prop) (io : Option (Bool × Ty)) (A : Addr) (gs : List SG) : Ctx :=
 {w0 := w, K0 := KS, FB := FB, FT := fun b o => isPtr io = true ∧ ∃ y, gs.head? = some y ∧ b = A.block ∧ A.off ≤ o ∧ o < A.off + y.t.sz,
  pin := fun n => if isPtr io = true ∧ n = 1 then some A else none,
  hdr := fun n => if isPtr io = false ∧ io.isSome = true ∧ n = 1 then gs.head?.bind hdrOf else none }
theorem ctxOf_ok {FB : Nat → Prop} {io : Option (Bool × Ty)} {A : Addr} {gs : List SG} (hT : τ.T w) (hB : ∀ b, τ.B b → b < w.heap.size ∧ ¬ FB b ∧ (isPtr io = true → A.block ≠ b)) : CtxOK τ (ctxOf w KS FB io A gs) := by
 refine ⟨fun w' hfr => τ.stable w w' (fun b hb => ?_) hT, fun b hb => ⟨(hB b hb).1, (hB b hb).2.1, fun n A' h => ?_⟩, fun n A' h => ?_, fun n h' h => ?_⟩
 ·obtain ⟨t1, t2, t3, t4⟩ := hfr.keep b (hB b hb).1 (hB b hb).2.1
  exact ⟨t1, ⟨t2, fun o => t3 o fun hft => (hB b hb).2.2 hft.1 (by obtain ⟨_, y, _, h3, _⟩ := hft; exact h3.symm)⟩, t4⟩
 ·simp only [ctxOf] at h
  split at h
  ·rename_i h1; injection h with h; subst h; exact (hB b hb).2.2 h1.1
  ·cases h
 ·simp only [ctxOf] at h
  split at h
  ·rename_i h1; omega
  ·cases h
 ·simp only [ctxOf] at h
  split at h
  ·rename_i h1
   refine ⟨by omega, fun A' hA' => ?_⟩
   simp [ctxOf, h1.1] at hA'
  ·cases h
def env0 : GEnv := ⟨fun _ => none, fun _ => default, fun _ => undef, fun _ => []⟩
theorem Inv.start {l : List (Nat × SG)} {FB : Nat → Prop} {A : Addr} {gs : List SG} (hok : ∀ x ∈ l, okG w KS x.2.t x.2.g) (hn : (l.flatMap fun x => x.2.fp).Nodup) (hf : ∀ b ∈ l.flatMap fun x => x.2.fp, FB b ∧ b < w.heap.size ∧ ¬ KS b)
  (hlt : ∀ b, KS b → b < w.heap.size) : Inv (ctxOf w KS FB none A gs) KS (newE env0 l) [] (newB l) w := by
 have hg : ∀ n, getB (newB l) n = match findN l n with | some y => some (.data false y.t (er y.t y.g) none) | none => none := fun n => by
  have := getB_newB (ρ := []) (n := n) l
  rw [List.append_nil] at this
  exact this
 have hb : ∀ n, blk (newB l) (newE env0 l) n = match findN l n with | some y => y.fp | none => [] := fun n => by
  unfold blk
  rw [hg]
  cases hq : findN l n with
  | none => rfl
  | some y => simp [newE, hq, SG.fp]
 have hm : ∀ n b, b ∈ blk (newB l) (newE env0 l) n → b ∈ l.flatMap fun x => x.2.fp := fun n b h => by
  rw [hb] at h
  cases hq : findN l n with
  | none => rw [hq] at h; cases h
  | some y => rw [hq] at h; exact List.mem_flatMap.2 ⟨_, findN_mem hq, h⟩
 refine ⟨(fun p hp => by cases hp), ?_, ?_, ?_, fun n b h => (hf b (hm n b h)).2.2, hlt, fun n b h => (hf b (hm n b h)).2.1, fun n b h => .inr (.inl (hf b (hm n b h)).1), (fun n A h => by simp [ctxOf, isPtr] at h), (fun n A h => by simp [ctxOf] at h), fun b h => .inl h, ?_⟩
 ·intro n
  unfold RootOK
  rw [hg]
  cases hq : findN l n with
  | none => trivial
  | some y => exact ⟨none, y.g, by simp [newE, hq], rfl, hok _ (findN_mem hq), fun h => (by cases h), fun _ => rfl, by simp [newE, hq]⟩
 ·intro n
  rw [hb]
  cases hq : findN l n with
  | none => simp
  | some y => exact nodup_of_mem hn (findN_mem hq)
 ·intro n m hnm b h1 h2
  rw [hb] at h1 h2
  cases hq : findN l n with
  | none => rw [hq] at h1; cases h1
  | some y =>
   cases hq2 : findN l m with
   | none => rw [hq2] at h2; cases h2
   | some z =>
    rw [hq] at h1; rw [hq2] at h2
    exact findN_disj hn hnm hq hq2 b h1 h2
 ·exact ⟨Grew.refl _, fun b _ _ => ⟨rfl, fun _ => rfl, fun _ _ => rfl, .inl rfl⟩⟩
theorem Inv.startIO {l : List (Nat × SG)} {c : Ctx} (hw : c.w0 = w) (hK0 : c.K0 = KS) {y : SG} {ad : Option Addr} {re : Bool} (hre : re = true → ∃ A, ad = some A) (hre' : re = false → ad = none)
  (hrow : ∀ A, ad = some A → RowAt w A (cl y.t y.g) ∧ A.block < w.heap.size ∧ ¬ KS A.block ∧ A.block ∉ y.fp ++ l.flatMap fun x => x.2.fp)
  (hok : ∀ x ∈ l, okG w KS x.2.t x.2.g) (hoky : okG w KS y.t y.g) (hn : (y.fp ++ l.flatMap fun x => x.2.fp).Nodup) (hf : ∀ b ∈ y.fp ++ l.flatMap fun x => x.2.fp, c.FB b ∧ b < w.heap.size ∧ ¬ KS b)
  (hlt : ∀ b, KS b → b < w.heap.size) (hl1 : ∀ x ∈ l, x.1 ≠ 1)
  (hpin : ∀ n A, c.pin n = some A → n = 1 ∧ ad = some A) (hFT : ∀ A, ad = some A → c.pin 1 = some A ∧ ∀ o, A.off ≤ o → o < A.off + y.t.sz → c.FT A.block o)
  (hhdr : ∀ n h, c.hdr n = some h → n = 1 ∧ ad = none ∧ ∃ te, ∃ gl : OwnL te.G, y = ⟨.list true te, gl⟩ ∧ h = (gl.ad, gl.rows.length, gl.cap)) :
  Inv c KS ((newE env0 l).put 1 ⟨ad, y.t, y.g⟩) [] ((1, some (.data re y.t (er y.t y.g) none)) :: newB l) w := by
 have hl0 : findN l 1 = none := by
  cases hq : findN l 1 with
  | none => rfl
  | some z => exact absurd rfl (hl1 _ (findN_mem hq))
 have hg1 : getB ((1, some (.data re y.t (er y.t y.g) none)) :: newB l) 1 = some (.data re y.t (er y.t y.g) none) := getB_cons_eq
 have hg : ∀ n, n ≠ 1 → getB ((1, some (.data re y.t (er y.t y.g) none)) :: newB l) n = match findN l n with | some y => some (.data false y.t (er y.t y.g) none) | none => none := fun n hne => by
  rw [getB_cons_ne hne]
  have := getB_newB (ρ := []) (n := n) l
  rw [List.append_nil] at this
  exact this
 have hb1 : blk ((1, some (.data re y.t (er y.t y.g) none)) :: newB l) ((newE env0 l).put 1 ⟨ad, y.t, y.g⟩) 1 = (ad.map (·.block)).toList ++ y.fp := by
  simp [blk, hg1, GEnv.put, SG.fp]
 have hb : ∀ n, n ≠ 1 → blk ((1, some (.data re y.t (er y.t y.g) none)) :: newB l) ((newE env0 l).put 1 ⟨ad, y.t, y.g⟩) n = match findN l n with | some y => y.fp | none => [] := fun n hne => by
  unfold blk
  rw [hg n hne]
  cases hq : findN l n with
  | none => rfl
  | some y => simp [newE, GEnv.put, hq, SG.fp, hne]
 have hn' := List.nodup_append.1 hn
 have hadm : ∀ b ∈ (ad.map (·.block)).toList, ∃ A, ad = some A ∧ b = A.block := fun b hb => by
  cases hA : ad with
  | none => rw [hA] at hb; simp at hb
  | some A => rw [hA] at hb; simp at hb; exact ⟨A, rfl, hb⟩
 have hm : ∀ n, n ≠ 1 → ∀ b, b ∈ blk ((1, some (.data re y.t (er y.t y.g) none)) :: newB l) ((newE env0 l).put 1 ⟨ad, y.t, y.g⟩) n → b ∈ l.flatMap fun x => x.2.fp := fun n hne b h => by
  rw [hb n hne] at h
  cases hq : findN l n with
  | none => rw [hq] at h; cases h
  | some y => rw [hq] at h; exact List.mem_flatMap.2 ⟨_, findN_mem hq, h⟩
 have all : ∀ n b, b ∈ blk ((1, some (.data re y.t (er y.t y.g) none)) :: newB l) ((newE env0 l).put 1 ⟨ad, y.t, y.g⟩) n → b < w.heap.size ∧ ¬ KS b ∧ (c.FB b ∨ ∃ A, c.pin n = some A ∧ A.block = b) := fun n b h => by
  by_cases hne : n = 1
  ·subst hne
   rw [hb1] at h
   rcases List.mem_append.1 h with h | h
   ·obtain ⟨A, hA, rfl⟩ := hadm b h
    obtain ⟨k1, k2, k3, k4⟩ := hrow A hA
    exact ⟨k2, k3, .inr ⟨A, (hFT A hA).1, rfl⟩⟩
   ·obtain ⟨k1, k2, k3⟩ := hf b (by simp [h])
    exact ⟨k2, k3, .inl k1⟩
  ·obtain ⟨k1, k2, k3⟩ := hf b (List.mem_append.2 (.inr (hm n hne b h)))
   exact ⟨k2, k3, .inl k1⟩
 have cross : ∀ n, n ≠ 1 → ∀ b, b ∈ blk ((1, some (.data re y.t (er y.t y.g) none)) :: newB l) ((newE env0 l).put 1 ⟨ad, y.t, y.g⟩) 1 → b ∈ blk ((1, some (.data re y.t (er y.t y.g) none)) :: newB l) ((newE env0 l).put 1 ⟨ad, y.t, y.g⟩) n → False := fun n hne b h1 h2 => by
  have h3 := hm n hne b h2
  rw [hb1] at h1
  rcases List.mem_append.1 h1 with h | h
  ·obtain ⟨A, hA, rfl⟩ := hadm b h
   exact (hrow A hA).2.2.2 (List.mem_append.2 (.inr h3))
  ·exact hn'.2.2 b h b h3 rfl
 refine ⟨(fun p hp => by cases hp), ?_, ?_, ?_, fun n b h => (all n b h).2.1, hlt, fun n b h => (all n b h).1, fun n b h => ?_, ?_, ?_, fun b h => .inl (by rw [hK0]; exact h), ?_⟩
 ·intro n
  unfold RootOK
  by_cases hne : n = 1
  ·subst hne
   rw [hg1]
   refine ⟨ad, y.g, by simp [GEnv.put], rfl, hoky, fun h => ?_, hre', by simp [GEnv.put]⟩
   obtain ⟨A, hA⟩ := hre h
   exact ⟨A, hA, (hrow A hA).1⟩
  ·rw [hg n hne]
   cases hq : findN l n with
   | none => trivial
   | some z => exact ⟨none, z.g, by simp [newE, GEnv.put, hq, hne], rfl, hok _ (findN_mem hq), fun h => (by cases h), fun _ => rfl, by simp [newE, GEnv.put, hq, hne]⟩
 ·intro n
  by_cases hne : n = 1
  ·subst hne
   rw [hb1]
   refine List.nodup_append.2 ⟨by cases ad <;> simp, hn'.1, fun a ha b hb e0 => ?_⟩
   obtain ⟨A, hA, rfl⟩ := hadm a ha
   exact (hrow A hA).2.2.2 (List.mem_append.2 (.inl (e0 ▸ hb)))
  ·rw [hb n hne]
   cases hq : findN l n with
   | none => simp
   | some z => exact nodup_of_mem hn'.2.1 (findN_mem hq)
 ·intro n m hnm b h1 h2
  by_cases hne : n = 1
  ·subst hne; exact cross m (Ne.symm hnm) b h1 h2
  ·by_cases hme : m = 1
   ·subst hme; exact cross n hne b h2 h1
   ·rw [hb n hne] at h1; rw [hb m hme] at h2
    cases hq : findN l n with
    | none => rw [hq] at h1; cases h1
    | some y =>
     cases hq2 : findN l m with
     | none => rw [hq2] at h2; cases h2
     | some z =>
      rw [hq] at h1; rw [hq2] at h2
      exact findN_disj hn'.2.1 hnm hq hq2 b h1 h2
 ·rcases (all n b h).2.2 with h1 | h1
  ·exact .inr (.inl h1)
  ·exact .inr (.inr h1)
 ·intro n A hp
  obtain ⟨rfl, hA⟩ := hpin n A hp
  refine ⟨fun q hq => (by rw [hg1] at hq; cases hq), fun re' t' x' pd' hd => ?_⟩
  rw [hg1] at hd; cases hd
  exact ⟨⟨y.g, by simp [GEnv.put, hA]⟩, (hFT A hA).2⟩
 ·intro n hh hp re' t' x' pd' hd
  obtain ⟨rfl, hA, te, gl, rfl, e2⟩ := hhdr n hh hp
  exact ⟨te, gl, by simp [GEnv.put, hA], e2⟩
 ·rw [hw]
  exact ⟨Grew.refl _, fun b _ _ => ⟨rfl, fun _ => rfl, fun _ _ => rfl, .inl rfl⟩⟩
theorem Convs.snoc {v : Dyn} : ∀ (a l : List Dyn), Convs (a ++ [v]) l → ∃ l1 v', l = l1 ++ [v'] ∧ Convs a l1 ∧ conv v.1 v'.1 v.2 = some v'.2
 | [], [], h => h.elim
 | [], [v'], h => ⟨[], v', rfl, trivial, h.1⟩
 | [], _ :: _ :: _, h => h.2.elim
 | a :: as, [], h => h.elim
 | a :: as, b :: bs, h => by
  obtain ⟨l1, v', rfl, h2, h3⟩ := Convs.snoc as bs h.2
  exact ⟨b :: l1, v', rfl, ⟨h.1, h2⟩, h3⟩
theorem ret_ok {s : Sig} (hpins : ∀ n A, c.pin n = some A → n = 1 ∧ s.io.isSome = true) (hC : CtxOK τ c) (h : Inv c KS e F ρ w) {KS0 : Nat → Prop} (hK0 : c.K0 = KS0) (hKS : ∀ b, KS0 b → KS b) {xs : List RV} {vs : List Value} (hx : RVoks w KS ρ e xs vs) {z : s.outT.D} (hr : (retS ρ s xs).run = some z) :
  ∃ (KSc : Nat → Prop) (os is : List SG), (∀ b, KS0 b → KSc b) ∧ os.map SG.v = vs ∧ ((os ++ is).map SG.d = unD s.outTs z ∧ is.length = if s.io.isSome then 1 else 0) ∧ (∀ y ∈ os ++ is, okG w KSc y.t y.g) ∧ ((os ++ is).flatMap SG.fp).Nodup ∧
   (∀ b ∈ (os ++ is).flatMap SG.fp, ¬ KSc b ∧ ((c.w0.heap.size ≤ b ∧ b < w.heap.size) ∨ c.FB b)) ∧ (∀ b, KSc b → KS0 b ∨ (c.w0.heap.size ≤ b ∧ b < w.heap.size) ∨ c.FB b) ∧
   ∀ y ∈ is, (∀ A, c.pin 1 = some A → RowAt w A (cl y.t y.g)) ∧
    ∀ hh, c.hdr 1 = some hh → ∃ te, ∃ gl : OwnL te.G, y = ⟨.list true te, gl⟩ ∧ hh = (gl.ad, gl.rows.length, gl.cap) := by
 unfold retS at hr
 replace hr := Cm.run_bind_some hr; obtain ⟨⟨ds, rs, kl⟩, hgt, hr⟩ := hr
 replace hr := Cm.run_bind_some hr; obtain ⟨⟨ds2, used⟩, hgs, hr⟩ := hr
 have hl := rvoks_len hx
 simp only at hgs hr
 obtain ⟨KS1, e1, H1, k1, T1, hTK⟩ := gatherT_ok hC (N := 32768) (by omega) hl (s.outs.map .val) 0 xs vs (by simp) (by simp) hl hgt (Taken.start (h.ops hx))
 simp only [List.append_nil] at T1
 simp only at T1 hTK
 have htt : (s.outs.map Prm.val).map Prm.t = s.outs := by rw [List.map_map]; exact List.map_id' s.outs
 -- the in-out content
 have hio : ∃ (cds : List Dyn) (is : List SG), Convs ds2 cds ∧ cds.map (·.1) = s.outs ∧ unD s.outTs z = cds ++ is.map SG.d ∧ is.length = (if s.io.isSome then 1 else 0) ∧
   ∀ y ∈ is, (∀ n ∈ used, n ≠ 1) ∧ ∃ re pd ad, getB (hid H1 ++ (rs ++ purgesB kl ρ)) 1 = some (.data re y.t (er y.t y.g) pd) ∧ e1.gr 1 = some ⟨ad, y.t, y.g⟩ := by
  cases hq : s.io with
  | none =>
   rw [hq] at hr
   obtain ⟨hcv, hty⟩ := packD_ok _ _ _ hr
   have hoT : s.outTs = s.outs := by simp [Sig.outTs, Sig.ioT, hq]
   exact ⟨unD s.outTs z, [], hcv, hty.trans hoT, by simp, rfl, by simp⟩
  | some pt =>
   obtain ⟨ptr, t⟩ := pt
   rw [hq] at hr
   simp only at hr
   split at hr
   ·rename_i re t' x pd hb
    replace hr := Cm.run_chk hr; obtain ⟨hck, hr⟩ := hr
    simp only [Bool.and_eq_true, Bool.not_eq_true'] at hck
    obtain ⟨hcv, hty⟩ := packD_ok _ _ _ hr
    have hoT : s.outTs = s.outs ++ [t] := by simp [Sig.outTs, Sig.ioT, hq]
    have hty := hty.trans hoT
    have ht' := Ty.beq_eq hck.1
    subst ht'
    have hb2 := T1.sub _ _ _ _ _ hb
    obtain ⟨ad, g, q1, q2, q3, q4, q5, q6⟩ := T1.inv.root hb2
    subst q2
    obtain ⟨l1, v', e0, hc1, hc2⟩ := Convs.snoc _ _ hcv
    rw [e0, List.map_append] at hty
    have h9 := List.append_inj' hty rfl
    have h10 : v'.1 = t' := by have := h9.2; simpa using this
    obtain ⟨vt, vx⟩ := v'
    simp only at h10
    subst h10
    have h11 : vx = er vt g := conv_self hc2
    refine ⟨l1, [⟨vt, g⟩], hc1, h9.1, by rw [e0, h11]; rfl, rfl, fun y hy => ?_⟩
    simp only [List.mem_singleton] at hy
    subst hy
    refine ⟨fun n hn e0 => ?_, re, pd, ad, hb2, q1⟩
    have := List.any_eq_false.1 hck.2 n hn
    rw [e0] at this
    simp at this
   ·cases hr
 obtain ⟨cds, is, hcv, hty, hz, hilen, his⟩ := hio
 obtain ⟨dr, fps, p1, p2, p3⟩ := gatherS_ok hl T1 hTK 0 xs (by simp) (by simp) (fun y hy => (T1.each y hy).1) hgs hcv (by rw [htt]; exact hty)
 simp only at p2 p3
 have hnd3 := List.nodup_append.1 (nodup_perm p1 T1.nodup)
 have hmem : ∀ b, (b ∈ fps ∨ b ∈ dr) → ∃ x ∈ H1, b ∈ fp x.t x.g := fun b hb => by
  have : b ∈ H1.flatMap fun y => fp y.t y.g := p1.mem_iff.2 (by simpa using hb)
  exact List.mem_flatMap.1 this
 generalize hKSc : (fun b => KS1 b ∨ b ∈ dr ∨ ∃ n ∈ used, b ∈ blk (hid H1 ++ (rs ++ purgesB kl ρ)) e1 n) = KSc
 have hKSc' : ∀ b, KSc b ↔ KS1 b ∨ b ∈ dr ∨ ∃ n ∈ used, b ∈ blk (hid H1 ++ (rs ++ purgesB kl ρ)) e1 n := fun b => by rw [← hKSc]
 obtain ⟨gs, g1, g2, g3, g4⟩ := p3 KSc (fun b hb => (hKSc' b).2 (.inl hb)) (fun b hb => (hKSc' b).2 (.inr (.inl hb))) (fun n hn b hb => (hKSc' b).2 (.inr (.inr ⟨n, hn, hb⟩)))
 have hHm : ∀ b, (b ∈ fps ∨ b ∈ dr) → (c.w0.heap.size ≤ b ∧ b < w.heap.size) ∨ c.FB b := fun b hb => by
  obtain ⟨x, hx, hbx⟩ := hmem b hb
  have h32 := (T1.fr x hx).2
  rw [← T1.hblk x hx] at hbx
  rcases T1.inv.may _ b hbx with h1 | h1 | ⟨A, h1, _⟩
  ·exact .inl ⟨h1, T1.inv.blt _ b hbx⟩
  ·exact .inr h1
  ·have := hC.pin _ _ h1; omega
 have hone : ∀ x ∈ H1, x.n ≠ 1 := fun x hx e0 => by have := (T1.fr x hx).2; omega
 have isB : ∀ y ∈ is, okG w KS1 y.t y.g ∧ y.fp.Nodup ∧ (∀ b ∈ y.fp, b ∈ blk (hid H1 ++ (rs ++ purgesB kl ρ)) e1 1 ∧ ¬ KSc b ∧ b ∉ fps ∧ ((c.w0.heap.size ≤ b ∧ b < w.heap.size) ∨ c.FB b)) ∧
   (∀ A, c.pin 1 = some A → RowAt w A (cl y.t y.g)) ∧ ∀ hh, c.hdr 1 = some hh → ∃ te, ∃ gl : OwnL te.G, y = ⟨.list true te, gl⟩ ∧ hh = (gl.ad, gl.rows.length, gl.cap) := fun y hy => by
  obtain ⟨hu1, re, pd, ad, hb, hgr⟩ := his y hy
  obtain ⟨ad', g', q1, q2, q3, q4, q5, q6⟩ := T1.inv.root hb
  rw [hgr] at q1
  injection q1 with q1
  obtain ⟨yt, yg⟩ := y
  simp only at hb hgr q1 q2 q3 q4 q6
  injection q1 with j1 _ j3
  subst j1
  cases j3
  have nd := T1.inv.nd 1
  rw [q6] at nd
  simp only [List.nodup_append] at nd
  obtain ⟨⟨nd1, nd2, nd3⟩, _, _⟩ := nd
  have bin : ∀ b ∈ fp yt yg, b ∈ blk (hid H1 ++ (rs ++ purgesB kl ρ)) e1 1 := fun b hb => by rw [q6]; simp [hb]
  have hpA : ∀ A, c.pin 1 = some A → ad = some A := fun A hA => by
   obtain ⟨_, h2⟩ := T1.inv.pin 1 A hA
   obtain ⟨⟨g2, h3⟩, _⟩ := h2 _ _ _ _ hb
   rw [hgr] at h3
   injection h3 with h3
   exact congrArg GRoot.ad h3
  refine ⟨q3, nd2, fun b hb1 => ⟨bin b hb1, fun hk => ?_, fun hf => ?_, ?_⟩, fun A hA => (q4 A (hpA A hA)).2, fun hh hhd => ?_⟩
  ·rcases (hKSc' b).1 hk with h1 | h1 | ⟨n, hn, h1⟩
   ·exact T1.inv.ks _ b (bin b hb1) h1
   ·obtain ⟨x, hx, hbx⟩ := hmem b (.inr h1)
    rw [← T1.hblk x hx] at hbx
    exact T1.inv.dj _ _ (hone x hx) b hbx (bin b hb1)
   ·exact T1.inv.dj n 1 (hu1 n hn) b h1 (bin b hb1)
  ·obtain ⟨x, hx, hbx⟩ := hmem b (.inl hf)
   rw [← T1.hblk x hx] at hbx
   exact T1.inv.dj _ _ (hone x hx) b hbx (bin b hb1)
  ·rcases T1.inv.may 1 b (bin b hb1) with h1 | h1 | ⟨A, h1, h2⟩
   ·exact .inl ⟨h1, T1.inv.blt _ b (bin b hb1)⟩
   ·exact .inr h1
   ·exact absurd h2 fun e0 => nd3 A.block (by simp [hpA A h1]) b hb1 e0
  ·obtain ⟨te, gl, e2, e3⟩ := T1.inv.hdr 1 hh hhd _ _ _ _ hb
   rw [hgr] at e2
   injection e2 with e2
   injection e2 with j1 j2 j3
   subst j2
   cases j3
   exact ⟨te, _, rfl, e3⟩
 have hdj1 : (gs.flatMap SG.fp ++ is.flatMap SG.fp).Nodup := by
  refine List.nodup_append.2 ⟨by rw [g3]; exact hnd3.1, ?_, fun a ha b hb e0 => ?_⟩
  ·have hle : is.length ≤ 1 := by rw [hilen]; split <;> omega
   match is, hle, isB with
   | [], _, _ => simp
   | [y], _, isB => simpa using (isB y (by simp)).2.1
   | _ :: _ :: _, hh, _ => simp at hh
  ·rw [g3] at ha
   obtain ⟨y, hy, hby⟩ := List.mem_flatMap.1 hb
   exact ((isB y hy).2.2.1 b hby).2.2.1 (e0 ▸ ha)
 refine ⟨KSc, gs, is, fun b hb => (hKSc' b).2 (.inl (k1 b (hKS b hb))), g2, ⟨by rw [List.map_append, g1, hz], hilen⟩, fun y hy => ?_, by rw [List.flatMap_append]; exact hdj1, fun b hb => ?_, fun b hb => ?_, fun y hy => (isB y hy).2.2.2⟩
 ·rcases List.mem_append.1 hy with hy | hy
  ·exact g4 y hy
  ·exact okG_KS (fun b hb => (hKSc' b).2 (.inl hb)) _ _ (isB y hy).1
 ·rw [List.flatMap_append, g3] at hb
  rcases List.mem_append.1 hb with hb | hb
  ·refine ⟨fun hk => ?_, hHm b (.inl hb)⟩
   obtain ⟨x, hx, hbx⟩ := hmem b (.inl hb)
   rcases (hKSc' b).1 hk with h1 | h1 | ⟨n, hn, h1⟩
   ·exact ((T1.each x hx).2 b hbx).2 h1
   ·exact hnd3.2.2 b hb b h1 rfl
   ·obtain ⟨re, t, y, pd, hn1⟩ := p2 n hn
    have hne : x.n ≠ n := fun e => by
     rw [← e] at hn1
     rw [getB_append rs ρ x.n fun z hz e2 => (T1.noal z hz).2 (by rw [e2]; exact (T1.fr x hx).1), (T1.fr x hx).1] at hn1
     cases hn1
    rw [← T1.hblk x hx] at hbx
    exact T1.inv.dj _ _ hne b hbx h1
  ·obtain ⟨y, hy, hby⟩ := List.mem_flatMap.1 hb
   have := (isB y hy).2.2.1 b hby
   exact ⟨this.2.1, this.2.2.2⟩
 ·rcases (hKSc' b).1 hb with h1 | h1 | ⟨n, hn, h1⟩
  ·rcases T1.inv.kso b h1 with h2 | h2 | h2
   ·exact .inl (by rw [← hK0]; exact h2)
   ·exact .inr (.inl ⟨h2, T1.inv.lt b h1⟩)
   ·exact .inr (.inr h2)
  ·rcases hHm b (.inr h1) with h2 | h2
   ·exact .inr (.inl h2)
   ·exact .inr (.inr h2)
  ·rcases T1.inv.may n b h1 with h2 | h2 | ⟨A, h2, h3⟩
   ·exact .inr (.inl ⟨h2, T1.inv.blt n b h1⟩)
   ·exact .inr (.inr h2)
   ·obtain ⟨hn1, hsome⟩ := hpins n A h2
    rw [hsome] at hilen
    match is, hilen, his with
    | [y], _, his => exact absurd hn1 ((his y (by simp)).1 n hn)
def ExtOK (P : Program) (E : Env) (τ : Tabs) : Prop := ∀ f s, E.body f = none → FnOK P τ f s (E.ext f s)
section
variable {call : CallT}
theorem body_ok (hE : EnvOK P E) (hN : FnsOK P E) (hcall : CallOK P E τ call) {H : Nat → Hints} {k m : Nat} {f : Nat} {fn : Func} {code : Code} (hfn : E.body f = some fn) (hcode : fn.body = some code)
  {s : Sig} {io : Option (Bool × Ty)} (hioe : s.io = io) {FB : Nat → Prop} {A : Addr} {gs0 : List SG} (h0 : Inv (ctxOf w KS FB io A gs0) KS e [] ρ w) {xs : List RV} {vs : List Value} (hrv : RVoks w KS ρ e xs vs)
  {z : s.outT.D} (hrun : den E call (inlN E call k H m) k (H f) code (setParams xs 0) [] ρ (fun e g _ ρ => match e with
   | .ret => ((resC E g ρ fn.results.toList).bind fun xs => retS ρ s xs).runK some
   | .normal => ((resC E g ρ fn.results.toList).bind fun xs => retS ρ s xs).runK some
   | _ => none) = some z) (hFB : ∀ b, FB b ↔ b ∈ gs0.flatMap SG.fp) (hT : τ.T w) (hB : ∀ b, τ.B b → b < w.heap.size ∧ ¬ FB b ∧ (isPtr io = true → A.block ≠ b))
  (hAF : isPtr io = true → ¬ FB A.block ∧ A.block < w.heap.size ∧ ∃ y, gs0.head? = some y ∧ io.isSome = true ∧ io.map (·.2) = some y.t)
  (hios : isPtr io = false → io.isSome = true → ∃ te, ∃ gl : OwnL te.G, gs0.head? = some ⟨.list true te, gl⟩) :
  Does P (callFunc f vs.toArray) w (FnPost s.io A w KS gs0 (unD s.outTs z)) := by
 refine does_call hE hN hfn hcode ?_
 have hI := h0.params hrv (fn.ntmps - vs.toArray.size)
 have hsz : fn.ntmps ≤ (vs.toArray ++ Array.replicate (fn.ntmps - vs.toArray.size) undef).size := by simp; omega
 refine den_ok (sk := []) (as := []) (reg_ok hE hcall (inl_ok hE hN hcall k H m)) (ctxOf_ok hT hB) k (H f) code hrun hI rfl (codeOK_mono hsz code (hN.code f fn code hfn hcode)) ?_
 intro ex g' sk' ρ' a' w' KS' e' h1 h2 h3 h4 h5 h6
 have fin : (((resC E g' ρ' fn.results.toList).bind fun xs => retS ρ' s xs).runK some) = some z →
   a'.defers = [] ∧ ∃ v, (Go.results fn a'.tmps).run P w' = .ok v w' ∧ ∃ v', Ending.returned v = .returned v' ∧ FnPost s.io A w KS gs0 (unD s.outTs z) v' w' := by
  intro hf
  rw [Cm.runK_eq] at hf
  cases hq : ((resC E g' ρ' fn.results.toList).bind fun xs => retS ρ' s xs).run with
  | none => rw [hq] at hf; cases hf
  | some z' =>
   rw [hq] at hf
   have hzz : z' = z := by injection hf
   subst hzz
   replace hq := Cm.run_bind_some hq; obtain ⟨xs, hxs, hq⟩ := hq
   obtain ⟨vs, r1, r2⟩ := results_ok hE h4 hxs
   have hpn : ∀ n A', (ctxOf w KS FB io A gs0).pin n = some A' → n = 1 ∧ A' = A ∧ isPtr io = true := fun n A' h => by
    simp only [ctxOf] at h
    split at h
    ·rename_i h1; injection h with h; exact ⟨h1.2, h.symm, h1.1⟩
    ·cases h
   obtain ⟨KSc, os, is, q1, q2, ⟨q3, q3'⟩, q4, q5, q6, q7, q8⟩ := ret_ok (s := s) (fun n A' h => ⟨(hpn n A' h).1, by
    have := (hpn n A' h).2.2
    rw [hioe]
    cases hio2 : io with
    | none => rw [hio2] at this; cases this
    | some _ => rfl⟩) (ctxOf_ok hT hB) h4 rfl h1 r2 hq
   subst q2
   refine ⟨h6, _, r1, _, rfl, KSc, os, is, q1, rfl, ⟨q3, q3'⟩, q4, q5, fun b hb => ⟨(q6 b hb).1, (q6 b hb).2.imp id (hFB b).1⟩, fun b hb => (q7 b hb).imp id fun h => h.imp id (hFB b).1, h4.fr.size, fun b hb hnb hA => ?_, fun hp y hy => ?_, fun hp y hy x hx => ?_⟩
   ·obtain ⟨t1, t2, t3, t4⟩ := h4.fr.keep b hb (fun h => hnb ((hFB b).1 h))
    refine ⟨t1, ⟨t2, fun o => t3 o fun hft => ?_⟩, t4⟩
    obtain ⟨j1, y, j2, j3, _⟩ := hft
    exact hA (by rw [hioe]; exact j1) j3.symm
   ·rw [hioe] at hp
    obtain ⟨j1, j2, y0, j3, j4, j5⟩ := hAF hp
    have hyt : y.t = y0.t := by
     have hio1 : ∃ b t, io = some (b, t) := by
      cases hio2 : io with
      | none => rw [hio2] at j4; cases j4
      | some x => exact ⟨x.1, x.2, rfl⟩
     obtain ⟨pb, t, hio2⟩ := hio1
     rw [hio2] at j5
     simp at j5
     rw [hioe, hio2] at q3'
     simp at q3'
     match is, q3', hy with
     | [y'], _, hy =>
      simp at hy; subst hy
      have := congrArg (List.map (·.1)) q3
      have h9 := this.trans (unD_ty s.outTs z')
      have hoT : s.outTs = s.outs ++ [t] := by simp [Sig.outTs, Sig.ioT, hioe, hio2]
      rw [hoT, List.map_append, List.map_append] at h9
      have h10 := (List.append_inj' h9 rfl).2
      simp at h10
      exact h10.trans j5
    have hrow := (q8 y hy).1 A (by simp [ctxOf, hp])
    obtain ⟨t1, t2, t3, t4⟩ := h4.fr.keep A.block j2 j1
    have hsz : y.t.sz = y0.t.sz := by rw [hyt]
    exact ⟨t1, ⟨t2, fun o ho => t3 o fun hft => by
     obtain ⟨_, y1, k2, _, k4, k5⟩ := hft
     rw [j3] at k2; injection k2 with k2; subst k2
     rw [hsz] at ho
     exact ho ⟨k4, k5⟩, hrow.2.1⟩, t4⟩
   ·rw [hioe] at hp
    cases hio2 : io with
    | none =>
     rw [hioe, hio2] at q3'
     have : is = [] := List.eq_nil_of_length_eq_zero q3'
     rw [this] at hy; cases hy
    | some pt =>
     obtain ⟨te, gl, j1⟩ := hios hp (by rw [hio2]; rfl)
     rw [j1] at hx
     have hx' : (⟨.list true te, gl⟩ : SG) = x := by simpa using hx
     subst hx'
     obtain ⟨te2, gl2, k1, k2⟩ := (q8 y hy).2 (gl.ad, gl.rows.length, gl.cap) (by rw [hio2] at hp; simp [ctxOf, hp, hio2, j1, hdrOf])
     subst k1
     injection k2 with k2 k3
     injection k3 with k3 k4
     simp only [cl, k2, k3, k4]
 cases ex with
 | ret => exact fin h3
 | normal => exact fin h3
 | exit j => cases h3
end
theorem all_ty {gs : List SG} {ts : List Ty} (h1 : (gs.map SG.d).map (·.1) = ts) (h2 : ts.all (fun t => t.shared || !t.isList || isOwnL t) = true) : (gs.map SG.d).all (fun y => y.1.shared || !y.1.isList || isOwnL y.1) = true := by
 rw [← h1] at h2
 rw [List.all_map] at h2
 exact h2
theorem runF_ok (hE : EnvOK P E) (hN : FnsOK P E) (hX : ExtOK P E τ) (H : Nat → Hints) : ∀ k f s, FnOK P τ f s (runF E H k f s)
 | 0, f, s => fun _ _ hz => by cases hz
 | k + 1, f, s => by
  rename_i w KS gs A x z
  intro hval hgs hrun hok hnd hfp hlt hAp hT hTB
  have ih : ∀ f s, FnOK P τ f s (runF E H k f s) := fun f s => @runF_ok hE hN hX H k f s
  simp only [runF] at hrun
  split at hrun
  ·rename_i fn hfn
   split at hrun
   ·rename_i code hcode
    split at hrun
    ·rename_i hty
     simp only [Sig.okIns, Bool.and_eq_true] at hty
     rw [hgs] at hrun
     have hcall : CallOK P E τ (runF E H k) := callOK fun f s _ => ih f s
     have htys : (gs.map SG.d).map (·.1) = s.inTs := by rw [← hgs]; exact unD_ty _ _
     have newRv : ∀ (l : List SG) (c : GEnv), (∀ y ∈ l, okG w KS y.t y.g) → True := fun _ _ _ => trivial
     cases hio : s.io with
     | none =>
      have hi0 : s.inTs = s.ins.map Prm.t := by simp [Sig.inTs, Sig.ioT, hio]
      have hse : startE s (gs.map SG.d) = outs 32768 (gs.map SG.d) := by simp only [startE, hio]
      rw [hse] at hrun
      have hI0 : Inv (ctxOf w KS (fun b => b ∈ gs.flatMap SG.fp) none A gs) KS (newE env0 (newsOf 32768 gs)) [] (newB (newsOf 32768 gs)) w := Inv.start (fun x hx => hok x.2 (newsOf_lt hx).2.2.1) (by rw [newsOf_fp]; exact hnd) (fun b hb => by rw [newsOf_fp] at hb; exact ⟨hb, hfp b hb⟩) hlt
      have hty2 := all_ty htys (by rw [hi0, List.all_map]; exact hty.1)
      have hrv : RVoks w KS (newB (newsOf 32768 gs)) (newE env0 (newsOf 32768 gs)) (outs 32768 (gs.map SG.d)).1 (gs.map SG.v) := outs_rv gs 32768 (fun x hx => by
       have h1 := newsOf_find (show (x.1, x.2) ∈ newsOf 32768 gs from hx)
       refine ⟨h1, ?_⟩
       have h2 := getB_newB (ρ := []) (n := x.1) (newsOf 32768 gs)
       rw [List.append_nil, h1] at h2
       exact h2) hty2 hok
      rw [outs_newB] at hrun
      have := body_ok hE hN hcall hfn hcode (s := s) hio hI0 hrv hrun (fun b => Iff.rfl) hT (fun b hb => ⟨(hTB b hb).1, (hTB b hb).2.1, fun h => by cases h⟩) (fun h => by cases h) (fun _ h => by cases h)
      rw [argVs_none (by rfl)]
      rw [hio] at this
      exact this
     | some pt =>
      obtain ⟨ptr, t⟩ := pt
      have hi0 : s.inTs = t :: s.ins.map Prm.t := by simp [Sig.inTs, Sig.ioT, hio]
      rw [hi0] at htys
      match gs, htys, hgs, hrun, hok, hnd, hfp, hAp, hTB with
      | y :: ys, htys, hgs, hrun, hok, hnd, hfp, hAp, hTB =>
      simp only [List.map_cons, List.cons.injEq] at htys
      have hyt : y.t = t := htys.1
      have hse : startE s ((y :: ys).map SG.d) = ((if ptr then .rf ⟨1, []⟩ else .wl ⟨1, []⟩) :: (outs 32768 (ys.map SG.d)).1, (1, some (.data ptr y.t (er y.t y.g) none)) :: (outs 32768 (ys.map SG.d)).2) := by simp only [startE, hio, List.map_cons]; rfl
      rw [hse, outs_newB] at hrun
      have hty2 := all_ty htys.2 (by rw [List.all_map]; exact hty.1)
      have hpt : isPtr (some (ptr, t)) = ptr := by cases ptr <;> rfl
      rw [hio, hpt] at hAp
      have hpo : ptr = false → ∃ te, ∃ gl : OwnL te.G, y = ⟨.list true te, gl⟩ := fun hp => by
       have := hty.2
       rw [hio] at this
       simp only [hp, Bool.false_or] at this
       obtain ⟨yt, yg⟩ := y
       simp only at hyt
       subst hyt
       match yt, this with
       | .list true te, _ => exact ⟨te, yg, rfl⟩
      have h1n : ∀ x ∈ newsOf 32768 ys, x.1 ≠ 1 := fun x hx e0 => by have := (newsOf_lt (show (x.1, x.2) ∈ newsOf 32768 ys from hx)).1; omega
      have hfl : (y :: ys).flatMap SG.fp = y.fp ++ ys.flatMap SG.fp := by simp
      have hI0 : Inv (ctxOf w KS (fun b => b ∈ (y :: ys).flatMap SG.fp) (some (ptr, t)) A (y :: ys)) KS ((newE env0 (newsOf 32768 ys)).put 1 ⟨if ptr then some A else none, y.t, y.g⟩) [] ((1, some (.data ptr y.t (er y.t y.g) none)) :: newB (newsOf 32768 ys)) w := by
       refine Inv.startIO rfl rfl (fun h => ⟨A, by rw [h]; rfl⟩) (fun h => by rw [h]; rfl) (fun A' hA' => ?_) (fun x hx => hok x.2 (List.mem_cons_of_mem _ (newsOf_lt hx).2.2.1)) (hok y (by simp)) (by rw [newsOf_fp, ← hfl]; exact hnd) (fun b hb => by rw [newsOf_fp, ← hfl] at hb; exact ⟨hb, hfp b hb⟩) hlt h1n (fun n A' h => ?_) (fun A' hA' => ?_) (fun n hh h => ?_)
       ·cases hp : ptr with
        | false => rw [hp] at hA'; cases hA'
        | true =>
         rw [hp] at hA'
         simp at hA'; subst hA'
         obtain ⟨k1, k2, k3, k4⟩ := hAp hp y (by simp)
         rw [newsOf_fp, ← hfl]
         exact ⟨k4, k1, k2, k3⟩
       ·simp only [ctxOf, hpt] at h
        split at h
        ·rename_i h1; injection h with h; subst h; exact ⟨h1.2, by rw [h1.1]; rfl⟩
        ·cases h
       ·cases hp : ptr with
        | false => rw [hp] at hA'; cases hA'
        | true =>
         rw [hp] at hA'
         simp at hA'; subst hA'
         exact ⟨by simp [ctxOf, isPtr], fun o h1 h2 => ⟨rfl, y, rfl, rfl, h1, h2⟩⟩
       ·simp only [ctxOf, hpt] at h
        split at h
        ·rename_i h1
         obtain ⟨te, gl, rfl⟩ := hpo h1.1
         simp [hdrOf] at h
         exact ⟨h1.2.2, by rw [h1.1]; rfl, te, gl, rfl, h.symm⟩
        ·cases h
      have hrv : RVoks w KS ((1, some (.data ptr y.t (er y.t y.g) none)) :: newB (newsOf 32768 ys)) ((newE env0 (newsOf 32768 ys)).put 1 ⟨if ptr then some A else none, y.t, y.g⟩) ((if ptr then .rf ⟨1, []⟩ else .wl ⟨1, []⟩) :: (outs 32768 (ys.map SG.d)).1) (argVs (some (ptr, t)) A (y :: ys)) := by
       refine ⟨_, _, rfl, ?_, outs_rv' ys 32768 (fun x hx => ?_) hty2 fun z hz => hok z (by simp [hz])⟩
       ·rw [hpt]
        cases hp : ptr with
        | true =>
         refine ⟨⟨y.t, y.g, some A⟩, A, ?_, rfl, rfl⟩
         simp only [if_true, spotOf, getB_cons_eq, spotD, GEnv.put, Option.bind_some, loc_nil]
        | false =>
         obtain ⟨te, gl, rfl⟩ := hpo hp
         refine ⟨⟨_, _, _, _, getB_cons_eq⟩, te, gl, none, ?_, rfl⟩
         simp [spotD, GEnv.put, loc_nil]
       ·have h1 := newsOf_find (show (x.1, x.2) ∈ newsOf 32768 ys from hx)
        have hne := h1n x hx
        refine ⟨by simp [GEnv.put, newE, h1, hne], ?_⟩
        rw [getB_cons_ne hne]
        have h2 := getB_newB (ρ := []) (n := x.1) (newsOf 32768 ys)
        rw [List.append_nil, h1] at h2
        exact h2
      have := body_ok hE hN hcall hfn hcode (s := s) hio hI0 hrv hrun (fun b => Iff.rfl) hT (fun b hb => ⟨(hTB b hb).1, (hTB b hb).2.1, fun h => (hTB b hb).2.2 (by rw [hio]; exact h)⟩) (fun hp => by
       rw [hpt] at hp
       obtain ⟨k1, k2, k3, k4⟩ := hAp hp y (by simp)
       exact ⟨k3, k1, y, rfl, rfl, by simp [hyt]⟩) (fun hp _ => by
       rw [hpt] at hp
       obtain ⟨te, gl, h9⟩ := hpo hp
       exact ⟨te, gl, by rw [h9]; rfl⟩)
      rw [hio] at this
      exact this
    ·cases hrun
   ·cases hrun
  ·rename_i hb
   exact hX f s hb hval hgs hrun hok hnd hfp hlt hAp hT hTB
end
end
section
def cellIs : Value → Value → Bool
 | .int k n, .int k' m => kindB k k' && decide (n = m)
 | .bool a, .bool b => a == b
 | .string s, .string t => decide (s.data.toList.length = 0) && decide (t.data.toList.length = 0)
 | .slice none 0 0, .slice none 0 0 => true
 | .pointer none, .pointer none => true
 | _, _ => false
theorem bytes_nil {s : ByteArray} (h : s.data.toList.length = 0) : s = ByteArray.empty := by
 obtain ⟨⟨l⟩⟩ := s
 simp only at h
 have : l = [] := List.eq_nil_of_length_eq_zero h
 subst this
 rfl
theorem cellIs_ok : ∀ {v u : Value}, cellIs v u = true → v = u := by
 intro v u h
 unfold cellIs at h
 split at h
 ·simp only [Bool.and_eq_true, decide_eq_true_eq] at h
  rw [kindB_eq h.1, h.2]
 ·rw [eq_of_beq h]
 ·simp only [Bool.and_eq_true, decide_eq_true_eq] at h
  rw [bytes_nil h.1, bytes_nil h.2]
 ·rfl
 ·rfl
 ·cases h
def cellsIs : List Value → List Value → Bool
 | [], [] => true
 | v :: l, u :: m => cellIs v u && cellsIs l m
 | _, _ => false
theorem cellsIs_ok : ∀ {l m : List Value}, cellsIs l m = true → l = m
 | [], [], _ => rfl
 | v :: l, u :: m, h => by
  simp only [cellsIs, Bool.and_eq_true] at h
  rw [cellIs_ok h.1, cellsIs_ok h.2]
 | [], _ :: _, h => by cases h
 | _ :: _, [], h => by cases h
def zeroChk (t : Ty) (z : Value) : Bool :=
 bif t.agg then (match z with | .agg a => cellsIs a.toList (zeros t) | _ => false)
 else cellsIs [z] (zeros t)
theorem zeroChk_ok {t : Ty} {z : Value} (h : zeroChk t z = true) : z = val t (zeros t) := by
 unfold zeroChk at h
 cases ha : t.agg with
 | true =>
  rw [ha] at h
  simp only [cond_true] at h
  split at h
  ·rename_i a
   rw [val_agg ha, ← cellsIs_ok h]
  ·cases h
 | false =>
  rw [ha] at h
  simp only [cond_false] at h
  rw [← cellsIs_ok h]
  cases t <;> first | (cases ha; done) | rfl
def factChk (P : Program) (tid : TypeId) (t : Ty) : Bool :=
 Nat.blt 0 t.sz && (match P.info? tid with
  | some i => Nat.beq i.size t.sz && (match i.zero with | some z => zeroChk t z | none => false)
  | none => false)
theorem factChk_ok {P : Program} {tid : TypeId} {t : Ty} {d : TypeDesc} (hu : P.underlying tid = some d) (h : factChk P tid t = true) : TyF P tid d t := by
 unfold factChk at h
 simp only [Bool.and_eq_true] at h
 obtain ⟨h1, h2⟩ := h
 split at h2
 ·rename_i i hi
  simp only [Bool.and_eq_true] at h2
  obtain ⟨h2, h3⟩ := h2
  split at h3
  ·rename_i z hz
   exact ⟨hu, Nat.le_of_ble_eq_true h1, i, z, hi, Nat.eq_of_beq_eq_true h2, hz, zeroChk_ok h3⟩
  ·cases h3
 ·cases h2
def fldChk (f : TypeId → Ty → Bool) : List Field → Nat → Ty → Bool
 | [], _, _ => false
 | [fd], off, t => Nat.beq fd.offset off && f fd.type t
 | fd :: f2 :: fs, off, t => match t with
  | .pair a b => Nat.beq fd.offset off && (f fd.type a && fldChk f (f2 :: fs) (off + a.sz) b)
  | _ => false
def tyChk (P : Program) : Nat → TypeId → Ty → Bool
 | 0, _, _ => false
 | n + 1, tid, t => factChk P tid t && match P.underlying tid, t with
  | some (.int k), .int k' => kindB k k'
  | some .bool, .bool => true
  | some .string, .str => true
  | some (.slice e), .list _ u => tyChk P n e u
  | some (.pointer e), .ptr u => tyChk P n e u
  | some (.array m e), .arr m' u => Nat.beq m m' && tyChk P n e u
  | some (.struct fs), .pair a b => fldChk (tyChk P n) fs.toList 0 (.pair a b)
  | _, _ => false
theorem fldChk_ok {P : Program} {f : TypeId → Ty → Bool} (hf : ∀ tid t, f tid t = true → TyR P tid t) : ∀ (fs : List Field) (off : Nat) (t : Ty), fldChk f fs off t = true → FldR P fs off t
 | [], off, t, h => by cases h
 | [fd], off, t, h => by
  simp only [fldChk, Bool.and_eq_true] at h
  exact .one (Nat.eq_of_beq_eq_true h.1) (hf _ _ h.2)
 | fd :: f2 :: fs, off, t, h => by
  simp only [fldChk] at h
  split at h
  ·simp only [Bool.and_eq_true] at h
   exact .cons (Nat.eq_of_beq_eq_true h.1) (hf _ _ h.2.1) (fldChk_ok hf (f2 :: fs) _ _ h.2.2)
  ·cases h
theorem tyChk_ok {P : Program} : ∀ (n : Nat) (tid : TypeId) (t : Ty), tyChk P n tid t = true → TyR P tid t
 | 0, tid, t, h => by cases h
 | n + 1, tid, t, h => by
  simp only [tyChk, Bool.and_eq_true] at h
  obtain ⟨h1, h2⟩ := h
  split at h2
  ·rename_i hu
   have hk := kindB_eq h2
   subst hk
   exact .int (factChk_ok hu h1)
  ·rename_i hu; exact .bool (factChk_ok hu h1)
  ·rename_i hu; exact .str (factChk_ok hu h1)
  ·rename_i hu; exact .list (factChk_ok hu h1) (tyChk_ok n _ _ h2)
  ·rename_i hu; exact .ptr (factChk_ok hu h1) (tyChk_ok n _ _ h2)
  ·rename_i hu
   simp only [Bool.and_eq_true] at h2
   have hm := Nat.eq_of_beq_eq_true h2.1
   subst hm
   exact .arr (factChk_ok hu h1) (tyChk_ok n _ _ h2.2)
  ·rename_i hu; exact .struct (factChk_ok hu h1) (fldChk_ok (fun tid t h => tyChk_ok n tid t h) _ _ _ h2)
  ·cases h2
def look {α : Type} : List (Nat × α) → Nat → Option α
 | [], _ => none
 | (k, x) :: l, n => bif Nat.beq k n then some x else look l n
theorem look_mem {α : Type} : ∀ {l : List (Nat × α)} {n : Nat} {x : α}, look l n = some x → (n, x) ∈ l
 | (k, y) :: l, n, x, h => by
  simp only [look] at h
  cases hb : Nat.beq k n with
  | true =>
   rw [hb] at h
   injection h with h
   subst h
   rw [Nat.eq_of_beq_eq_true hb]; simp
  | false => rw [hb] at h; exact List.mem_cons_of_mem _ (look_mem h)
structure Tab where
 ty : List (Nat × Ty)
 nf : List (Nat × Nat)
 el : List (Nat × Nat × Nat)
 fnT : List Nat
 eqs : List Nat
 sig : List (Nat × Sig)
 body : List (Nat × Func)
def Tab.env (T : Tab) (ext : CallT) : Env :=
 {ty := look T.ty, nf := fun t => (look T.nf t).getD 0, el := look T.el, fnT := fun t => T.fnT.any (Nat.beq t), eqs := fun t => T.eqs.any (Nat.beq t), sig := look T.sig, body := look T.body, ext := ext }
def tabChk (P : Program) (T : Tab) : Bool :=
 (T.ty.all fun x => tyChk P 40 x.1 x.2 && x.2.solid) &&
 ((T.nf.all fun x => match P.underlying x.1 with | some (.struct fs) => Nat.beq x.2 fs.size | _ => false) &&
 ((T.el.all fun x => match P.underlying x.1 with
  | some (.slice e) => Nat.beq e x.2.1 && (match P.info? e with | some i => Nat.beq i.bytes x.2.2 | none => false)
  | _ => false) &&
 ((T.fnT.all fun t => match P.underlying t with | some (.func _ _ _) => true | _ => false) &&
 ((T.eqs.all fun t => eqPlain P 20 t && !(P.eqGuardType P.depth t)) &&
 (T.body.all fun x => !(x.2.name == "runtime.NumGoroutine") && (match x.2.body with | some c => codeOK x.2.ntmps c | none => true))))))
theorem any_mem {l : List Nat} {t : Nat} (h : l.any (Nat.beq t) = true) : t ∈ l := by
 obtain ⟨x, hx, hb⟩ := List.any_eq_true.1 h
 rw [Nat.eq_of_beq_eq_true hb]; exact hx
theorem tab_ok {P : Program} {T : Tab} (h : tabChk P T = true) (hm : P.follows .mixedOrders = true) (hb : ∀ x ∈ T.body, P.funcs[x.1]? = some x.2) (ext : CallT) : EnvOK P (T.env ext) ∧ FnsOK P (T.env ext) := by
 simp only [tabChk, Bool.and_eq_true] at h
 obtain ⟨h1, h2, h3, h4, h5, h6⟩ := h
 refine ⟨⟨fun tid t ht => ?_, fun tid t ht => ?_, fun tid ht => ?_, fun tid e b ht => ?_, fun tid ht => ?_, fun tid ht => ?_, fun f fn hf => hb _ (look_mem hf), hm⟩, ⟨fun f fn c hf hc => ?_, fun f fn hf => ?_⟩⟩
 ·have := List.all_eq_true.1 h1 _ (look_mem ht)
  simp only [Bool.and_eq_true] at this
  exact tyChk_ok _ _ _ this.1
 ·have := List.all_eq_true.1 h1 _ (look_mem ht)
  simp only [Bool.and_eq_true] at this
  exact this.2
 ·cases hl : look T.nf tid with
  | none => simp [Tab.env, hl] at ht
  | some n =>
   have := List.all_eq_true.1 h2 _ (look_mem hl)
   simp only at this
   split at this
   ·rename_i fs hu
    exact ⟨fs, hu, by simp [Tab.env, hl, Nat.eq_of_beq_eq_true this]⟩
   ·cases this
 ·have := List.all_eq_true.1 h3 _ (look_mem (show look T.el tid = some (e, b) from ht))
  simp only at this
  split at this
  ·rename_i e' hu
   simp only [Bool.and_eq_true] at this
   obtain ⟨q1, q2⟩ := this
   have he := Nat.eq_of_beq_eq_true q1
   subst he
   split at q2
   ·rename_i i hi
    exact ⟨hu, i, hi, Nat.eq_of_beq_eq_true q2⟩
   ·cases q2
  ·cases this
 ·have := List.all_eq_true.1 h4 _ (any_mem ht)
  split at this
  ·rename_i ps rs v hu
   exact ⟨ps, rs, v, hu⟩
  ·cases this
 ·have := List.all_eq_true.1 h5 _ (any_mem ht)
  simp only [Bool.and_eq_true, Bool.not_eq_true'] at this
  exact this
 ·have := List.all_eq_true.1 h6 _ (look_mem hf)
  simp only [Bool.and_eq_true] at this
  have h7 := this.2
  rw [hc] at h7
  exact h7
 ·have := List.all_eq_true.1 h6 _ (look_mem hf)
  simp only [Bool.and_eq_true, Bool.not_eq_true'] at this
  exact this.1
end
section
def tysBeq : List Ty → List Ty → Bool
 | [], [] => true
 | a :: l, b :: m => a.beq b && tysBeq l m
 | _, _ => false
theorem tysBeq_eq : ∀ {l m : List Ty}, tysBeq l m = true → l = m
 | [], [], _ => rfl
 | a :: l, b :: m, h => by
  simp only [tysBeq, Bool.and_eq_true] at h
  rw [Ty.beq_eq h.1, tysBeq_eq h.2]
 | [], _ :: _, h => by cases h
 | _ :: _, [], h => by cases h
def prmsBeq : List Prm → List Prm → Bool
 | [], [] => true
 | .val a :: l, .val b :: m => a.beq b && prmsBeq l m
 | _, _ => false
theorem prmsBeq_eq : ∀ {l m : List Prm}, prmsBeq l m = true → l = m
 | [], [], _ => rfl
 | .val a :: l, .val b :: m, h => by
  simp only [prmsBeq, Bool.and_eq_true] at h
  rw [Ty.beq_eq h.1, prmsBeq_eq h.2]
 | [], _ :: _, h => by cases h
 | _ :: _, [], h => by simp [prmsBeq] at h
 | .io _ :: _, _ :: _, h => by simp [prmsBeq] at h
 | .val _ :: _, .io _ :: _, h => by simp [prmsBeq] at h
def ioBeq : Option (Bool × Ty) → Option (Bool × Ty) → Bool
 | none, none => true
 | some (a, t), some (b, u) => (a == b) && t.beq u
 | _, _ => false
theorem ioBeq_eq : ∀ {a b : Option (Bool × Ty)}, ioBeq a b = true → a = b
 | none, none, _ => rfl
 | some (a, t), some (b, u), h => by
  simp only [ioBeq, Bool.and_eq_true, beq_iff_eq] at h
  rw [h.1, Ty.beq_eq h.2]
 | none, some _, h => by cases h
 | some _, none, h => by cases h
def Sig.beq (a b : Sig) : Bool := prmsBeq a.ins b.ins && (tysBeq a.outs b.outs && ioBeq a.io b.io)
theorem Sig.beq_eq {a b : Sig} (h : a.beq b = true) : a = b := by
 simp only [Sig.beq, Bool.and_eq_true] at h
 obtain ⟨ai, ao, aio⟩ := a
 obtain ⟨bi, bo, bio⟩ := b
 simp only at h
 rw [prmsBeq_eq h.1, tysBeq_eq h.2.1, ioBeq_eq h.2.2]
structure ExtE where
 f : Nat
 s : Sig
 G : s.inT.D → Option s.outT.D
def extOf : List ExtE → CallT
 | [], _, _, _ => none
 | e :: l, f, s, x => bif Nat.beq f e.f then (if h : s.beq e.s = true then cast (by rw [Sig.beq_eq h]) (e.G (cast (by rw [Sig.beq_eq h]) x)) else none) else extOf l f s x
theorem extOf_ok {P : Program} {τ : Tabs} : ∀ (l : List ExtE), (∀ e ∈ l, FnOK P τ e.f e.s e.G) → ∀ f s, FnOK P τ f s (extOf l f s)
 | [], _, f, s => fun _ _ hz => by cases hz
 | e :: l, h, f, s => by
  have key : ∀ G G' : s.inT.D → Option s.outT.D, G' = G → FnOK P τ f s G → FnOK P τ f s G' := fun G G' hg hG => by subst hg; exact hG
  have ih : FnOK P τ f s (extOf l f s) := @extOf_ok P τ l (fun x hx => @h x (by simp [hx])) f s
  have h0 : FnOK P τ e.f e.s e.G := @h e (by simp)
  by_cases hb : Nat.beq f e.f = true
  ·have hf := Nat.eq_of_beq_eq_true hb
   by_cases hs : s.beq e.s = true
   ·have hse := Sig.beq_eq hs
    obtain ⟨ef, es, eG⟩ := e
    simp only at hb hs hse hf h0
    subst hf
    subst hse
    refine key eG _ ?_ h0
    funext x
    simp only [extOf, hb, cond_true, hs, dif_pos, cast_eq]
   ·refine key (fun _ => none) _ ?_ fun _ _ hz => by cases hz
    funext x
    simp only [extOf, hb, cond_true]
    rw [dif_neg hs]
  ·refine key _ _ ?_ ih
   funext x
   simp only [Bool.not_eq_true] at hb
   simp only [extOf, hb, cond_false]
end
section
theorem kept_of {w w' : World} (hg : Grew w w') (hs : ∀ b, b < w.heap.size → Same w w' b) (may : MemPlace → Prop) : w.keptBut w' may := by
 refine ⟨hg.os, hg.output, fun i hi => ?_⟩
 have hS := hs i hi
 rcases hS.kin with h | ⟨c, c', t, fr, h1, h2, h3⟩
 ·rw [h]
  split <;> simp_all
 ·rw [h1, h2]
  refine ⟨rfl, rfl, h3, fun j _ => ?_⟩
  have := hS.rest.2 j
  simpa [World.cell?, h1, h2] using this
end
section
def EvQ {β : Type} (f : Nat → β) (b : β) : Prop := ∃ N, ∀ k, N ≤ k → f k = b
abbrev Ev {α : Type} (f : Nat → Option α) (r : α) : Prop := EvQ f (some r)
section
variable {α β D R : Type}
theorem EvQ.const (b : β) : EvQ (fun _ => b) b := ⟨0, fun _ _ => rfl⟩
theorem EvQ.bind {f : Nat → Option α} {g : Nat → α → Option β} {a : α} {r : Option β} (h : Ev f a) (hg : EvQ (fun k => g k a) r) : EvQ (fun k => (f k).bind (g k)) r := by
 obtain ⟨N, h⟩ := h
 obtain ⟨M, hg⟩ := hg
 refine ⟨N + M, fun k hk => ?_⟩
 have := hg k (by omega)
 simp only [h k (by omega), Option.bind_some]
 exact this
theorem EvQ.run {c F : Nat → β} {r : β} (h : ∀ k, c (k + 1) = F k) (hF : EvQ F r) : EvQ c r := by
 obtain ⟨N, hF⟩ := hF
 refine ⟨N + 1, fun k hk => ?_⟩
 obtain ⟨m, rfl⟩ : ∃ m, k = m + 1 := ⟨k - 1, by omega⟩
 rw [h m, hF m (by omega)]
theorem EvQ.congr {f g : Nat → β} {r : β} (h : ∀ k, f k = g k) (hg : EvQ g r) : EvQ f r := by
 obtain ⟨N, hg⟩ := hg
 exact ⟨N, fun k hk => by rw [h k, hg k hk]⟩
abbrev EvS (L : Nat → (D → Option R) → D → Option R) (d d' : D) : Prop := EvQ (fun k (self : D → Option R) => L k self d) (fun self => self d')
theorem EvQ.bindS {f : Nat → Option α} {g : Nat → (D → Option R) → α → Option β} {a : α} {r : (D → Option R) → Option β} (h : Ev f a) (hg : EvQ (fun k self => g k self a) r) : EvQ (fun k self => (f k).bind (g k self)) r := by
 obtain ⟨N, h⟩ := h
 obtain ⟨M, hg⟩ := hg
 refine ⟨N + M, fun k hk => ?_⟩
 have := hg k (by omega)
 simp only [h k (by omega), Option.bind_some]
 exact this
def EvL (L : Nat → (D → Option R) → D → Option R) (d : D) (r : R) : Prop := ∃ N, ∀ n k, N ≤ n → N ≤ k → iter n (L k) d = some r
theorem EvL.ev {L : Nat → (D → Option R) → D → Option R} {d : D} {r : R} (h : EvL L d r) : Ev (fun k => iter k (L k) d) r := by
 obtain ⟨N, h⟩ := h
 exact ⟨N, fun k hk => h k k hk hk⟩
theorem EvL.step {L : Nat → (D → Option R) → D → Option R} {d d' : D} {r : R} (hs : EvS L d d') (h : EvL L d' r) : EvL L d r := by
 obtain ⟨N, hs⟩ := hs
 obtain ⟨M, h⟩ := h
 refine ⟨N + M + 1, fun n k hn hk => ?_⟩
 obtain ⟨m, rfl⟩ : ∃ m, n = m + 1 := ⟨n - 1, by omega⟩
 have h1 : L k (iter m (L k)) d = iter m (L k) d' := congrFun (hs k (by omega)) (iter m (L k))
 simp only [iter]
 rw [h1, h m k (by omega) (by omega)]
theorem EvL.stop {L : Nat → (D → Option R) → D → Option R} {d : D} {r : R} (h : EvQ (fun k (self : D → Option R) => L k self d) (fun _ => some r)) : EvL L d r := by
 obtain ⟨N, h⟩ := h
 refine ⟨N + 1, fun n k hn hk => ?_⟩
 obtain ⟨m, rfl⟩ : ∃ m, n = m + 1 := ⟨n - 1, by omega⟩
 have := congrFun (h k (by omega)) (iter m (L k))
 simp only [iter]
 exact this
theorem EvL.count {L : Nat → (D → Option R) → D → Option R} (st : Nat → D) (n : Nat) {r : R} (hs : ∀ i, i < n → EvS L (st i) (st (i + 1))) (he : EvL L (st n) r) : EvL L (st 0) r := by
  have key : ∀ m i, i + m = n → EvL L (st i) r := by
    intro m
    induction m with
    | zero => intro i hi; have : i = n := by omega
              subst this; exact he
    | succ m ih => intro i hi; exact EvL.step (hs i (by omega)) (ih (i + 1) (by omega))
  exact key n 0 (by omega)
end
theorem wrap_i64 {n : Int} (h1 : -9223372036854775808 ≤ n) (h2 : n < 9223372036854775808) : IntKind.i64.wrap n = n := by
 have e : IntKind.i64.wrap n = if n % 18446744073709551616 ≥ 9223372036854775808 then n % 18446744073709551616 - 18446744073709551616 else n % 18446744073709551616 := by
  show (if (true && decide (n % (2 ^ 64 : Int) ≥ (2 ^ 63 : Int))) = true then n % (2 ^ 64 : Int) - (2 ^ 64 : Int) else n % (2 ^ 64 : Int)) = _
  simp
 rw [e]
 split <;> omega
theorem wrap_u8_mod (n : Int) : IntKind.u8.wrap n = n % 256 := by
 show (if (false && decide (n % (2 ^ 8 : Int) ≥ (2 ^ 7 : Int))) = true then n % (2 ^ 8 : Int) - (2 ^ 8 : Int) else n % (2 ^ 8 : Int)) = _
 simp
end
section
def Ty.plainT : Ty → Bool
 | .int _ | .bool | .str => true
 | .list _ t => t.plainT
 | .pair a b => a.plainT && b.plainT
 | _ => false
def okD : (t : Ty) → t.D → Prop
 | .int k, n => (Lit.int k n).wf = true
 | .str, (s : ByteArray) => s.size ≤ maxLen
 | .list _ t, (l : List t.D) => l.length ≤ maxLen ∧ ∀ x ∈ l, okD t x
 | .pair a b, x => okD a x.1 ∧ okD b x.2
 | _, _ => True
abbrev wrapK (k : IntKind) (n : Int) : Int := k.wrap n
section
variable {α : Type}
def copyL (c : Nat → α → Option α) (k : Nat) (self : (List α × (List α × Int)) → Option (List α)) (d : (List α × (List α × Int))) : Option (List α) :=
 (bif (decide (d.2.2 < (d.1.length : Int))) then (if 0 ≤ d.2.2 then (d.1[d.2.2.toNat]?).bind fun v0 =>
  (c k v0).bind fun v1 =>
  (if 0 ≤ d.2.2 then (if d.2.2 < (d.2.1.length : Int) then (d.2.1[d.2.2.toNat]?).bind fun v2 =>
  self (d.1, (d.2.1.set d.2.2.toNat v1), (wrapK .i64 (d.2.2 + (1 : Int)))) else none) else none) else none) else some d.2.1)
def copyL0 (k : Nat) (self : (List α × (List α × Int)) → Option (List α)) (d : (List α × (List α × Int))) : Option (List α) :=
 (bif (decide (d.2.2 < (d.1.length : Int))) then (if 0 ≤ d.2.2 then (d.1[d.2.2.toNat]?).bind fun v0 =>
  (if 0 ≤ d.2.2 then (if d.2.2 < (d.2.1.length : Int) then (d.2.1[d.2.2.toNat]?).bind fun v1 =>
  self (d.1, (d.2.1.set d.2.2.toNat v0), (wrapK .i64 (d.2.2 + (1 : Int)))) else none) else none) else none) else some d.2.1)
theorem wrap_succ {i n : Nat} (h : i < n) (hn : n < 4611686018427387904) : wrapK .i64 ((i : Int) + 1) = ((i + 1 : Nat) : Int) := by
 rw [wrapK, wrap_i64 (by omega) (by omega)]; omega
theorem take_set_drop {l m : List α} {i : Nat} {x : α} (hx : l[i]? = some x) (hm : m.length = l.length) : (l.take i ++ m.drop i).set i x = l.take (i + 1) ++ m.drop (i + 1) := by
 have hi : i < l.length := (List.getElem?_eq_some_iff.1 hx).1
 have ht : (l.take i).length = i := by simp; omega
 rw [List.set_append_right _ _ (by omega), ht, Nat.sub_self, List.drop_eq_getElem_cons (by omega : i < m.length), List.set_cons_zero, List.take_add_one, hx]
 simp
theorem copyL_ev {c : Nat → α → Option α} {l : List α} (h : ∀ x ∈ l, Ev (fun k => c k x) x) (hl : l.length < 4611686018427387904) (m : List α) (hm : m.length = l.length) :
  Ev (fun k => iter k (copyL c k) (l, m, (0 : Int))) l := by
 refine EvL.ev ?_
 have := EvL.count (L := copyL c) (r := l) (fun i => (l, l.take i ++ m.drop i, (i : Int))) l.length (fun i hi => ?_) (EvL.stop ?_)
 ·simpa using this
 ·have hx : l[i]? = some l[i] := List.getElem?_eq_getElem hi
  have hlen : i < (l.take i ++ m.drop i).length := by simp; omega
  have e1 : EvQ (fun k => c k l[i]) (some l[i]) := h _ (List.getElem_mem hi)
  simp only [EvS, copyL, Int.toNat_natCast, hx, Option.bind_some, Int.natCast_nonneg, if_true, Int.ofNat_lt, hi, decide_true, cond_true, hlen, List.getElem?_eq_getElem hlen]
  refine EvQ.bindS e1 ?_
  simp only [take_set_drop hx hm, wrap_succ hi hl]
  exact EvQ.const _
 ·simp only [copyL, Int.ofNat_lt, Nat.lt_irrefl, decide_false, cond_false]
  have : l.take l.length ++ m.drop l.length = l := by rw [← hm]; simp [hm]
  rw [this]
  exact EvQ.const _
theorem copyL0_eq : (copyL0 : Nat → _ → _ → Option (List α)) = copyL fun _ x => some x := by
 funext k self d
 simp [copyL0, copyL]
def eqL (c : Nat → α × α → Option Bool) (k : Nat) (self : (List α × (List α × Int)) → Option Bool) (d : (List α × (List α × Int))) : Option Bool :=
 (bif (decide (d.2.2 < (d.1.length : Int))) then (if 0 ≤ d.2.2 then (d.1[d.2.2.toNat]?).bind fun v0 =>
  (if 0 ≤ d.2.2 then (d.2.1[d.2.2.toNat]?).bind fun v1 =>
  (c k (v0, v1)).bind fun v2 =>
  (bif (!v2) then some false else self (d.1, d.2.1, (wrapK .i64 (d.2.2 + (1 : Int))))) else none) else none) else some true)
theorem eqL_ev {c : Nat → α × α → Option Bool} {l : List α} (h : ∀ x ∈ l, Ev (fun k => c k (x, x)) true) (hl : l.length < 4611686018427387904) : Ev (fun k => iter k (eqL c k) (l, l, (0 : Int))) true := by
 refine EvL.ev ?_
 have := EvL.count (L := eqL c) (r := true) (fun i => (l, l, (i : Int))) l.length (fun i hi => ?_) (EvL.stop ?_)
 ·simpa using this
 ·have hx : l[i]? = some l[i] := List.getElem?_eq_getElem hi
  have e1 : EvQ (fun k => c k (l[i], l[i])) (some true) := h _ (List.getElem_mem hi)
  simp only [EvS, eqL, Int.toNat_natCast, hx, Option.bind_some, Int.natCast_nonneg, if_true, Int.ofNat_lt, hi, decide_true, cond_true]
  refine EvQ.bindS e1 ?_
  simp only [wrap_succ hi hl, Bool.not_true, cond_false]
  exact EvQ.const _
 ·simp only [eqL, Int.ofNat_lt, Nat.lt_irrefl, decide_false, cond_false]
  exact EvQ.const _
def szR (m : Nat) (left : Int) : Int := if (m : Int) ≤ left then left - m else -1
theorem szR_nonneg {m : Nat} {left : Int} (h : ¬ szR m left < 0) : (m : Int) ≤ left ∧ szR m left = left - m := by
 unfold szR at *
 split
 ·rename_i h1; exact ⟨h1, rfl⟩
 ·rename_i h1; rw [if_neg h1] at h; omega
def szL (c : Nat → α × Int → Option Int) (k : Nat) (self : (List α × (Int × Int)) → Option Int) (d : (List α × (Int × Int))) : Option Int :=
 (bif (decide (d.2.2 < (d.1.length : Int))) then (if 0 ≤ d.2.2 then (d.1[d.2.2.toNat]?).bind fun v0 =>
  (c k (v0, d.2.1)).bind fun v1 =>
  (bif (decide (v1 < (0 : Int))) then some (-1 : Int) else self (d.1, v1, (wrapK .i64 (d.2.2 + (1 : Int))))) else none) else some d.2.1)
theorem szL_ev {c : Nat → α × Int → Option Int} {sz : α → Nat} {l : List α} (h : ∀ x ∈ l, ∀ left : Int, 0 ≤ left → left ≤ 1048576 → Ev (fun k => c k (x, left)) (szR (sz x) left)) (hl : l.length < 4611686018427387904) {left : Int} (h0 : 0 ≤ left) (h1 : left ≤ 1048576) :
  Ev (fun k => iter k (szL c k) (l, left, (0 : Int))) (szR (l.map sz).sum left) := by
 refine EvL.ev ?_
 have key : ∀ (m : List α) (i : Nat) (left : Int), l.drop i = m → i ≤ l.length → 0 ≤ left → left ≤ 1048576 → EvL (szL c) (l, left, (i : Int)) (szR (m.map sz).sum left) := by
  intro m
  induction m with
  | nil =>
   intro i left hd hi h0 h1
   have : l.length ≤ i := List.drop_eq_nil_iff.1 hd
   have : i = l.length := by omega
   subst this
   refine EvL.stop ?_
   simp only [szL, Int.ofNat_lt, Nat.lt_irrefl, decide_false, cond_false]
   have : szR (List.map sz []).sum left = left := by simp [szR, h0]
   rw [this]
   exact EvQ.const _
  | cons x m ih =>
   intro i left hd hi h0 h1
   have hlt : i < l.length := by
    rcases Nat.lt_or_ge i l.length with h | h
    ·exact h
    ·rw [List.drop_eq_nil_iff.2 h] at hd; cases hd
   have hx : l[i]? = some x := by
    have := List.getElem?_drop (xs := l) (i := i) (j := 0)
    rw [hd] at this
    simpa using this.symm
   have e1 : EvQ (fun k => c k (x, left)) (some (szR (sz x) left)) := h x (List.mem_of_getElem? hx) left h0 h1
   have htl : l.drop (i + 1) = m := by rw [← List.tail_drop, hd]; rfl
   by_cases hneg : szR (sz x) left < 0
   ·refine EvL.stop ?_
    simp only [szL, Int.toNat_natCast, hx, Option.bind_some, Int.natCast_nonneg, if_true, Int.ofNat_lt, hlt, decide_true, cond_true]
    refine EvQ.bindS e1 ?_
    simp only [hneg, decide_true, cond_true]
    have : szR (List.map sz (x :: m)).sum left = -1 := by
     simp only [szR, List.map_cons, List.sum_cons] at hneg ⊢
     split at hneg
     ·omega
     ·rw [if_neg (by omega)]
    rw [this]
    exact EvQ.const _
   ·obtain ⟨k1, k2⟩ := szR_nonneg hneg
    refine EvL.step (d' := (l, szR (sz x) left, ((i + 1 : Nat) : Int))) ?_ ?_
    ·simp only [EvS, szL, Int.toNat_natCast, hx, Option.bind_some, Int.natCast_nonneg, if_true, Int.ofNat_lt, hlt, decide_true, cond_true]
     refine EvQ.bindS e1 ?_
     simp only [hneg, decide_false, cond_false, wrap_succ hlt hl]
     exact EvQ.const _
    ·have := ih (i + 1) (szR (sz x) left) htl (by omega) (by omega) (by omega)
     have e2 : szR (List.map sz m).sum (szR (sz x) left) = szR (List.map sz (x :: m)).sum left := by
      rw [k2]
      simp only [szR, List.map_cons, List.sum_cons]
      split <;> split <;> omega
     rw [e2] at this
     exact this
 exact key l 0 left rfl (Nat.zero_le _) h0 h1
def markF (e : α → Int → α) (n : Int) : List α → Int → List α
 | [], _ => []
 | x :: l, m => e x m :: markF e n l (m + n)
theorem markF_length (e : α → Int → α) (n : Int) : ∀ (l : List α) (m : Int), (markF e n l m).length = l.length
 | [], m => rfl
 | x :: l, m => by simp [markF, markF_length e n l]
theorem markF_get (e : α → Int → α) (n : Int) : ∀ (l : List α) (m : Int) (i : Nat) (x : α), l[i]? = some x → (markF e n l m)[i]? = some (e x (m + n * i))
 | y :: l, m, 0, x, h => by simp at h; subst h; simp [markF]
 | y :: l, m, i + 1, x, h => by
  simp only [List.getElem?_cons_succ] at h
  simp only [markF, List.getElem?_cons_succ]
  rw [markF_get e n l (m + n) i x h]
  congr 2
  have : ((i + 1 : Nat) : Int) = (i : Int) + 1 := by omega
  rw [this, Int.mul_add, Int.mul_one]
  omega
 | [], m, i, x, h => by simp at h
theorem markL_ev {β : Type} {L : Nat → ((Unit × (Int × (Int × List α))) → Option β) → (Unit × (Int × (Int × List α))) → Option β} (e : α → Int → α) (n : Int) (l0 : List α) (m0 : Int) (fin : Int → List α → β)
  (hs : ∀ (i : Nat) (l : List α) (x : α), l.length = l0.length → l[i]? = some x → i < l0.length → EvS L ((), m0 + n * i, (i : Int), l) ((), m0 + n * (i + 1 : Nat), ((i + 1 : Nat) : Int), l.set i (e x (m0 + n * i))))
  (he : ∀ (l : List α), l.length = l0.length → EvL L ((), m0 + n * l0.length, (l0.length : Int), l) (fin (m0 + n * l0.length) l)) :
  EvL L ((), m0, (0 : Int), l0) (fin (m0 + n * l0.length) (markF e n l0 m0)) := by
 have := EvL.count (L := L) (r := fin (m0 + n * l0.length) (markF e n l0 m0)) (fun i => ((), m0 + n * i, (i : Int), (markF e n l0 m0).take i ++ l0.drop i)) l0.length (fun i hi => ?_) ?_
 ·simpa using this
 ·have hx : l0[i]? = some l0[i] := List.getElem?_eq_getElem hi
  have hlen : ((markF e n l0 m0).take i ++ l0.drop i).length = l0.length := by simp [markF_length]; omega
  have ht : ((markF e n l0 m0).take i).length = i := by simp [markF_length]; omega
  have hg : ((markF e n l0 m0).take i ++ l0.drop i)[i]? = some l0[i] := by
   rw [List.getElem?_append_right (by omega), ht, Nat.sub_self, List.getElem?_drop]
   simp
  have h1 := hs i _ _ hlen hg hi
  rw [take_set_drop (markF_get e n l0 m0 i _ hx) (markF_length e n l0 m0).symm] at h1
  exact h1
 ·have h2 : (markF e n l0 m0).take l0.length ++ l0.drop l0.length = markF e n l0 m0 := by
   rw [List.take_of_length_le (by rw [markF_length]; exact Nat.le_refl _)]; simp
  simp only [h2]
  exact he _ (markF_length e n l0 m0)
theorem heldL_ev {D β : Type} {L : Nat → (D → Option β) → D → Option β} (st : Int → Int → D) (e : α → Int → α) (n : Int) (l0 : List α) (m0 : Int) {r : β}
  (hs : ∀ (i : Nat) (x : α), (markF e n l0 m0)[i]? = some (e x (m0 + n * i)) → i < l0.length → EvS L (st (m0 + n * i) (i : Int)) (st (m0 + n * (i + 1 : Nat)) ((i + 1 : Nat) : Int)))
  (he : EvL L (st (m0 + n * l0.length) (l0.length : Int)) r) : EvL L (st m0 0) r := by
 have := EvL.count (L := L) (r := r) (fun i => st (m0 + n * i) (i : Int)) l0.length (fun i hi => hs i l0[i] (markF_get e n l0 m0 i _ (List.getElem?_eq_getElem hi)) hi) he
 simpa using this
end
theorem eqS_iff (a b : ByteArray) : eqS a b = true ↔ a = b := by
 have h0 : eqS a b = (a.data == b.data) := rfl
 rw [h0, beq_iff_eq]
 constructor
 ·intro h; cases a; cases b; exact congrArg ByteArray.mk h
 ·intro h; rw [h]
theorem eqS_refl (a : ByteArray) : eqS a a = true := (eqS_iff a a).2 rfl
theorem le_sum_map {α : Type} (f : α → Nat) : ∀ {l : List α} {x : α}, x ∈ l → f x ≤ (l.map f).sum
 | y :: l, x, h => by
  simp only [List.map_cons, List.sum_cons]
  rcases List.mem_cons.1 h with rfl | h
  ·omega
  ·have := le_sum_map f h; omega
theorem szR_neg {m : Nat} {left : Int} (h : szR m left < 0) (h0 : 0 ≤ left := by omega) : left < m := by
 unfold szR at h
 split at h
 ·omega
 ·omega
theorem szR_add {n m : Nat} {left : Int} (h : (n : Int) ≤ left) : szR m (left - n) = szR (n + m) left := by
 simp only [szR]
 split <;> split <;> omega
def szStrC (_ : Nat) (p : ByteArray × Int) : Option Int := bif decide (wrapK .i64 (p.2 - (p.1.size : Int)) < 0) then some (-1) else some (wrapK .i64 (p.2 - (p.1.size : Int)))
theorem szStr_ev (s : ByteArray) (hs : okD .str s) {left : Int} (h0 : 0 ≤ left) (h1 : left ≤ 1048576) : Ev (fun k => szStrC k (s, left)) (szR s.size left) := by
 have hn : s.size ≤ 9223372036854775807 := hs
 have e0 : wrapK .i64 (left - (s.size : Int)) = left - s.size := wrap_i64 (by omega) (by omega)
 simp only [szStrC, e0]
 by_cases c0 : left - (s.size : Int) < 0
 ·simp only [c0, decide_true, cond_true]; exact ⟨0, fun k _ => by rw [szR, if_neg (by omega)]⟩
 ·simp only [c0, decide_false, cond_false]; exact ⟨0, fun k _ => by rw [szR, if_pos (by omega)]⟩
theorem szStr_eq (k : Nat) (self : (List ByteArray × (Int × Int)) → Option Int) (d : List ByteArray × (Int × Int)) :
  (bif (decide (d.2.2 < (d.1.length : Int))) then (if 0 ≤ d.2.2 then (d.1[d.2.2.toNat]?).bind fun v0 =>
   (bif (decide ((wrapK .i64 (d.2.1 - (v0.size : Int))) < (0 : Int))) then some (-1 : Int) else self (d.1, (wrapK .i64 (d.2.1 - (v0.size : Int))), (wrapK .i64 (d.2.2 + (1 : Int))))) else none) else some d.2.1) = szL szStrC k self d := by
 simp only [szL]
 congr 1
 split
 ·congr 1
  funext v0
  cases hd : decide (wrapK .i64 (d.2.1 - (v0.size : Int)) < 0) with
  | true => simp [szStrC, hd]
  | false => simp [szStrC, hd]
 ·rfl
end
section
section
variable {H : Type} {enc : TypeId × Value → H} {P : Program} {W : World} {sp : Nat → Bool}
theorem cells?_stand {a : Addr} {n : Nat} {cs : List Value} (h : W.cells? 0 a n = some cs) (hn : 0 < n) : a.spot = none ∧ cs.length = n ∧ a.block < W.heap.size ∧ ∀ i v, cs[i]? = some v → W.cell? ⟨a.block, a.off + i, none⟩ = some v := by
 unfold World.cells? at h
 rw [if_pos (Nat.zero_le _)] at h
 have hl := mapM_some_length h
 have hg := fun i v hi => mapM_some_get h i v hi
 have h0 : a.spot = none ∧ a.block < W.heap.size := by
  have := hg 0 0 (by simp [hn])
  have hl0 : 0 < cs.length := by rw [hl]; simpa using hn
  rw [List.getElem?_eq_getElem hl0] at this
  have e0 : a.add 0 = a := by simp [Addr.add]
  rw [e0] at this
  unfold World.cell? at this
  split at this
  ·rename_i c t fr hb
   refine ⟨?_, ?_⟩
   ·cases hs : a.spot with
    | none => rfl
    | some x => rw [hs] at this; simp at this
   ·exact (Array.getElem?_eq_some_iff.1 hb).1
  ·cases this
 refine ⟨h0.1, by rw [hl]; simp, h0.2, fun i v hi => ?_⟩
 have hi' : i < n := by have := (List.getElem?_eq_some_iff.1 hi).1; rw [hl] at this; simpa using this
 have := hg i i (by simp [hi'])
 rw [hi] at this
 rw [← this]
 congr 1
 unfold Addr.add
 split
 ·rename_i hz; subst hz; obtain ⟨b, o, s⟩ := a; simp at h0; simp [h0.1]
 ·rfl
theorem rows_of_elems {α : Type} {R : α → List Value → Prop} {a : Addr} {sz : Nat} (hsz : 0 < sz) : ∀ (n : Nat) (f : Nat → Option (List Value)), (∀ i, i < n → ∃ cs x, f i = some cs ∧ W.cells? 0 (a.add (i * sz)) sz = some cs ∧ R x cs) →
  ∃ (l : List α) (rows : List Value), l.length = n ∧ Rows' R l rows ∧ rows.length = n * sz ∧ (∀ j v, rows[j]? = some v → W.cell? ⟨a.block, a.off + j, none⟩ = some v) ∧ ∀ x ∈ l, ∃ i cs, i < n ∧ f i = some cs ∧ R x cs
 | 0, f, h => ⟨[], [], rfl, rfl, by simp, by simp, by simp⟩
 | n + 1, f, h => by
  obtain ⟨l, rows, h1, h2, h3, h4, h5⟩ := rows_of_elems hsz n f fun i hi => h i (by omega)
  obtain ⟨cs, x, k1, k2, k3⟩ := h n (by omega)
  obtain ⟨j1, j2, j3, j4⟩ := cells?_stand k2 hsz
  have happ : ∀ (l : List α) (rows : List Value), Rows' R l rows → Rows' R (l ++ [x]) (rows ++ cs) := by
   intro l
   induction l with
   | nil => intro rows hr; simp only [Rows'] at hr; subst hr; exact ⟨cs, [], by simp, k3, rfl⟩
   | cons y ys ih =>
    intro rows hr
    obtain ⟨c1, c2, rfl, r1, r2⟩ := hr
    exact ⟨c1, c2 ++ cs, by simp, r1, ih c2 r2⟩
  refine ⟨l ++ [x], rows ++ cs, by simp [h1], happ l rows h2, by simp [h3, j2, Nat.add_mul], fun j v hj => ?_, fun y hy => ?_⟩
  ·by_cases hlt : j < rows.length
   ·rw [List.getElem?_append_left hlt] at hj
    exact h4 j v hj
   ·rw [List.getElem?_append_right (by omega)] at hj
    have := j4 _ _ hj
    have e1 : (a.add (n * sz)).block = a.block := by unfold Addr.add; split <;> rfl
    have e2 : (a.add (n * sz)).off = a.off + n * sz := by
     unfold Addr.add
     split
     ·rename_i hz; rw [hz]; rfl
     ·rfl
    rw [e1, e2] at this
    rw [← this]
    congr 2
    omega
  ·rcases List.mem_append.1 hy with hy | hy
   ·obtain ⟨i, c, q1, q2, q3⟩ := h5 y hy
    exact ⟨i, c, by omega, q2, q3⟩
   ·simp at hy; subst hy
    exact ⟨n, cs, by omega, k1, k3⟩
theorem cellsOf_tyR {tid : TypeId} {t : Ty} (h : TyR P tid t) : P.cellsOf tid = t.sz ∧ 0 < t.sz := by
 have key : ∀ {d : TypeDesc}, TyF P tid d t → P.cellsOf tid = t.sz ∧ 0 < t.sz := fun hf => by
  obtain ⟨i, z, h1, h2, _, _⟩ := hf.info
  exact ⟨by simp [Program.cellsOf, h1, h2], hf.pos⟩
 cases h <;> rename_i h1 <;> first | exact key h1 | (rename_i h2 _; exact key h2) | (rename_i h2; exact key h2)
mutual
theorem open_rep : ∀ {t : Ty} {tid : TypeId}, TyR P tid t → t.shared = true → t.plainT = true → ∀ {fuel : Nat} {cs : List Value} {x : DataW H × List MemPlace},
  DataW.trod enc P W 0 sp true fuel tid cs = some x → ∃ y : t.D, RepK W (fun b => b < W.heap.size) t y cs ∧ okD t y
 | _, _, .int (k := k) h, _, _, fuel, cs, x, hx => by
  obtain ⟨n, rfl, _, hw⟩ := DataW.trod_int h.und hx
  exact ⟨n, rfl, hw⟩
 | _, _, .bool h, _, _, fuel, cs, x, hx => by
  obtain ⟨b, rfl, _⟩ := DataW.trod_bool h.und hx
  exact ⟨b, rfl, trivial⟩
 | _, _, .str h, _, _, fuel, cs, x, hx => by
  obtain ⟨s, rfl, _, hs⟩ := DataW.trod_string h.und hx
  exact ⟨s, rfl, hs⟩
 | _, tid, .list (e := e) (o := o) (t := t) h he, hsh, hpl, fuel, cs, x, hx => by
  simp only [Ty.shared, Bool.and_eq_true] at hsh
  simp only [Ty.plainT] at hpl
  obtain ⟨hce, hpos⟩ := cellsOf_tyR he
  rcases DataW.trod_slice h.und hx with ⟨rfl, _⟩ | ⟨a, len, cap, elems, rest, n, _, rfl, _, _, hlc, hcm, hel, hget, _⟩
  ·exact ⟨([] : List t.D), ⟨none, 0, rfl, Nat.le_refl _, .inl rfl⟩, by simp, by simp⟩
  ·have hrow : ∀ i, i < len → ∃ cs y, W.cells? 0 (a.add (i * P.cellsOf e)) (P.cellsOf e) = some cs ∧ W.cells? 0 (a.add (i * P.cellsOf e)) (P.cellsOf e) = some cs ∧ (RepK W (fun b => b < W.heap.size) t y cs ∧ okD t y) := fun i hi => by
    have h1 := hget i hi
    rw [List.getElem?_eq_getElem (by omega)] at h1
    obtain ⟨cs, h2, h3⟩ := Option.bind_eq_some_iff.1 h1
    obtain ⟨y, h4⟩ := open_rep he hsh.2 hpl h3
    exact ⟨cs, y, h2, h2, h4⟩
   rw [hce] at hrow
   obtain ⟨l, rows, r1, r2, r3, r4, r5⟩ := rows_of_elems (a := a) (R := fun y cs => RepK W (fun b => b < W.heap.size) t y cs ∧ okD t y) hpos len (fun i => W.cells? 0 (a.add (i * t.sz)) t.sz) hrow
   refine ⟨l, ⟨some a, cap, by rw [r1], by rw [r1]; exact hlc, ?_⟩, by rw [r1]; omega, fun y hy => ?_⟩
   ·by_cases hl0 : len = 0
    ·left; rw [hl0] at r1; exact List.eq_nil_of_length_eq_zero r1
    ·right
     obtain ⟨cs0, y0, _, h2, _⟩ := hrow 0 (by omega)
     have e0 : a.add (0 * t.sz) = a := by simp [Addr.add]
     rw [e0] at h2
     obtain ⟨j1, _, j3, _⟩ := cells?_stand h2 hpos
     exact ⟨a, rows, rfl, j1, j3, r4, rows_mono (fun _ _ hr => hr.1) _ _ r2⟩
   ·obtain ⟨i, cs, _, _, hr⟩ := r5 y hy
    exact hr.2
 | _, _, .ptr _ _, _, hpl, _, _, _, _ => by cases hpl
 | _, _, .arr _ _, _, hpl, _, _, _, _ => by cases hpl
 | _, tid, .struct (fs := fs) (a := a) (b := b) h hf, hsh, hpl, fuel, cs, x, hx => by
  obtain ⟨xs, n, _, _, hlen, hxl, hget⟩ := DataW.trod_struct h.und hx
  obtain ⟨i, z, h1, h2, _, _⟩ := h.info
  have hsz : cs.length = (Ty.pair a b).sz := by rw [hlen]; simp [Program.cellsOf, h1, h2]
  have := open_reps hf hsh hpl (fuel := n) (cs := cs) (by simpa using hsz) fun f hfm => by
   obtain ⟨j, hj⟩ := List.mem_iff_getElem?.1 hfm
   have hj' : fs[j]? = some f := by simpa using hj
   have hlt : j < xs.length := by rw [hxl]; exact (Array.getElem?_eq_some_iff.1 hj').1
   rw [hget j f hj', List.getElem?_eq_getElem hlt]
   exact ⟨_, rfl⟩
  simpa using this
theorem open_reps : ∀ {t : Ty} {fs : List Field} {off : Nat}, FldR P fs off t → t.shared = true → t.plainT = true → ∀ {fuel : Nat} {cs : List Value}, cs.length = off + t.sz →
  (∀ f ∈ fs, ∃ x, DataW.trod enc P W 0 sp true fuel f.type ((cs.drop f.offset).take (P.cellsOf f.type)) = some x) → ∃ y : t.D, RepK W (fun b => b < W.heap.size) t y (cs.drop off) ∧ okD t y
 | t, [f], off, .one ho ht, hsh, hpl, fuel, cs, hl, hx => by
  obtain ⟨x, hx⟩ := hx f (by simp)
  obtain ⟨hc, hp⟩ := cellsOf_tyR ht
  rw [ho, hc, List.take_of_length_le (by rw [List.length_drop, hl]; omega)] at hx
  exact open_rep ht hsh hpl hx
 | _, f :: f2 :: fs, off, .cons (a := a) (b := b) ho ha hb, hsh, hpl, fuel, cs, hl, hx => by
  simp only [Ty.shared, Ty.plainT, Bool.and_eq_true] at hsh hpl
  obtain ⟨x, hx1⟩ := hx f (by simp)
  obtain ⟨hc, hp⟩ := cellsOf_tyR ha
  rw [ho, hc] at hx1
  obtain ⟨y, k1, k2⟩ := open_rep ha hsh.1 hpl.1 hx1
  obtain ⟨z, k3, k4⟩ := open_reps hb hsh.2 hpl.2 (cs := cs) (by rw [hl, Ty.sz]; omega) fun f' hf' => hx f' (by simp [hf'])
  refine ⟨(y, z), ⟨_, _, ?_, k1, k3⟩, k2, k4⟩
  rw [← List.drop_drop, List.take_append_drop]
end
end
end
section
section
variable {H : Type} {enc : TypeId × Value → H} {P : Program} {W : World} {sp : Nat → Bool}
theorem val_wide {t : Ty} {tid : TypeId} {r : Reach} {b : Nat} {v : Value} (ht : TyR P tid t) (hp : t.plainT = true) (hv : Value.okWide P W r b tid v) : v = val t v.cells.toList := by
 cases ht with
 | int h => obtain ⟨n, rfl⟩ := WideShapes.okWide_int h.und hv; rfl
 | bool h => obtain ⟨n, rfl⟩ := WideShapes.okWide_bool h.und hv; rfl
 | str h => obtain ⟨n, rfl⟩ := WideShapes.okWide_string h.und hv; rfl
 | list h _ => obtain ⟨a, l, c, rfl⟩ := WideShapes.okWide_slice h.und hv; rfl
 | ptr _ _ => cases hp
 | arr _ _ => cases hp
 | struct h _ =>
  obtain ⟨cs, rfl, _⟩ := WideShapes.okWide_struct h.und hv
  simp [val, Value.cells]
def tysR (P : Program) : List TypeId → List Ty → Prop
 | [], [] => True
 | a :: l, t :: m => TyR P a t ∧ t.shared = true ∧ t.plainT = true ∧ P.readableRec a = true ∧ a < P.types.size ∧ tysR P l m
 | _, _ => False
def tysRB (P : Program) : List TypeId → List Ty → Bool
 | [], [] => true
 | a :: l, t :: m => tyChk P 40 a t && (t.shared && (t.plainT && (P.readableRec a && (Nat.blt a P.types.size && tysRB P l m))))
 | _, _ => false
theorem tysR_of : ∀ {l : List TypeId} {m : List Ty}, tysRB P l m = true → tysR P l m
 | [], [], _ => trivial
 | a :: l, t :: m, h => by
  simp only [tysRB, Bool.and_eq_true] at h
  exact ⟨tyChk_ok 40 _ _ h.1, h.2.1, h.2.2.1, h.2.2.2.1, Nat.le_of_ble_eq_true h.2.2.2.2.1, tysR_of h.2.2.2.2.2⟩
 | [], _ :: _, h => by cases h
 | _ :: _, [], h => by cases h
theorem open_args : ∀ {tids : List TypeId} {ts : List Ty} {vs : List Value} {ds : List (DataW H)} {ps : List MemPlace}, DataW.TrodAll enc P W 0 sp true tids vs ds ps → tysR P tids ts →
  (∀ (j : Nat) t v, tids[j]? = some t → vs[j]? = some v → ∃ r b, Value.okWide P W r b t v) →
  ∃ gs : List SG, gs.map SG.v = vs ∧ gs.map SG.t = ts ∧ ∀ y ∈ gs, okG W (fun b => b < W.heap.size) y.t y.g ∧ y.fp = [] ∧ okD y.t (er y.t y.g)
 | [], [], [], [], ps, _, _, _ => ⟨[], rfl, rfl, by simp⟩
 | a :: tids, t :: ts, v :: vs, d :: ds, ps, hA, hT, hv => by
  obtain ⟨p, q, h1, h2, _⟩ := hA
  obtain ⟨k1, k2, k3, k4, k5, k6⟩ := hT
  obtain ⟨gs, g1, g2, g3⟩ := open_args h2 k6 fun j t' v' hj hj' => hv (j + 1) t' v' (by simpa using hj) (by simpa using hj')
  obtain ⟨fuel, hf⟩ := h1
  obtain ⟨y, r1, r2⟩ := open_rep k1 k2 k3 hf
  obtain ⟨g, e1, e2, e3, e4⟩ := repK_okG t k2 y _ r1
  obtain ⟨r, b, hw⟩ := hv 0 a v rfl rfl
  have hval := val_wide k1 k3 hw
  refine ⟨⟨t, g⟩ :: gs, ?_, by simp [g2], fun z hz => ?_⟩
  ·rw [List.map_cons, g1, SG.v, e3, ← hval]
  ·rcases List.mem_cons.1 hz with rfl | hz
   ·exact ⟨e1, e4, by rw [e2]; exact r2⟩
   ·exact g3 z hz
 | [], _ :: _, _, _, _, _, h, _ => h.elim
 | _ :: _, [], _, _, _, _, h, _ => h.elim
 | [], [], _ :: _, _, _, h, _, _ => by cases ‹List (DataW H)› <;> exact h.elim
 | [], [], [], _ :: _, _, h, _, _ => h.elim
 | _ :: _, _ :: _, [], _, _, h, _, _ => h.elim
 | _ :: _, _ :: _, _ :: _, [], _, h, _, _ => h.elim
theorem packG : ∀ (ts : List Ty) (gs : List SG), gs.map SG.t = ts → ∃ x : (mkT ts).D, unD ts x = gs.map SG.d
 | [], [], _ => ⟨(), rfl⟩
 | [t], [y], h => by
  simp only [List.map_cons, List.map_nil, List.cons.injEq, and_true] at h
  subst h
  exact ⟨er y.t y.g, rfl⟩
 | t :: u :: ts, y :: z :: gs, h => by
  simp only [List.map_cons, List.cons.injEq] at h
  obtain ⟨rfl, h2⟩ := h
  obtain ⟨x, hx⟩ := packG (u :: ts) (z :: gs) (by simpa using h2)
  exact ⟨(er y.t y.g, x), by simp only [unD, hx]; rfl⟩
 | [], _ :: _, h => by cases h
 | [_], [], h => by cases h
 | [_], _ :: _ :: _, h => by simp at h
 | _ :: _ :: _, [], h => by cases h
 | _ :: _ :: _, [_], h => by simp at h
theorem Same.heap {w w' : World} {b : Nat} (h : Same w w' b) : w'.heap[b]? = w.heap[b]? := by
 rcases h.kin with h1 | ⟨c, c', t, fr, h1, h2, h3⟩
 ·exact h1
 ·rw [h1, h2]
  have : c' = c := by
   apply Array.ext h3
   intro i hi hi'
   have := h.rest.2 i
   simp only [World.cell?, h1, h2] at this
   simpa [hi, hi'] using this
  rw [this]
end
theorem law_calls {H : Type} {enc : TypeId × Value → H} {P : Program} {E : Env} {τ : Tabs} (hE : EnvOK P E) (hN : FnsOK P E) (hX : ExtOK P E τ) (Hs : Nat → Hints) {f : Nat} {s : Sig} {fn : Func} {c : Code} (hio : s.io = none) (hval : s.ins.all Prm.isVal = true)
  (hfn : E.body f = some fn) (hc : fn.body = some c) (hl : laidOutB P = true) (hT : tysR P fn.params.toList s.inTs)
  (pure : ∀ x : s.inT.D, (∀ d ∈ unD s.inTs x, okD d.1 d.2) → ∃ k z, runF E Hs k f s x = some z ∧ unD s.outTs z = [⟨.bool, true⟩])
  {W : World} (hTab : τ.T W) (hTB : ∀ b, τ.B b → b < W.heap.size) {args : Array Value} {ds : List (DataW H)} {p : List MemPlace} (hwide : ∀ (j : Nat) t v, fn.params.toList[j]? = some t → args.toList[j]? = some v → ∃ r b, Value.okWide P W r b t v)
  (hA : DataW.TrodAll enc P W 0 (fun _ => true) true fn.params.toList args.toList ds p) :
  Calls P f args W fun e W' => e = .returned (.bool true) ∧ DataW.TrodAll enc P W' 0 (fun b => decide (b < W.heap.size)) true fn.params.toList args.toList ds p ∧ ∀ may : MemPlace → Prop, W.keptBut W' may := by
 obtain ⟨gs, g1, g2, g3⟩ := open_args hA hT hwide
 obtain ⟨x, hx⟩ := packG s.inTs gs g2
 obtain ⟨k, z, hk, hz⟩ := pure x (by
  rw [hx]
  intro d hd
  obtain ⟨y, hy, rfl⟩ := List.mem_map.1 hd
  exact (g3 y hy).2.2)
 have hfp : gs.flatMap SG.fp = [] := by
  rw [List.flatMap_eq_nil_iff]
  exact fun y hy => (g3 y hy).2.1
 have hrun := runF_ok hE hN hX Hs k f s (w := W) (KS := fun b => b < W.heap.size) (A := ⟨0, 0, none⟩) hval hx hk (fun y hy => (g3 y hy).1) (by rw [hfp]; exact List.nodup_nil) (by rw [hfp]; simp) (fun b hb => hb) (by rw [hio]; intro h; cases h) hTab (fun b hb => ⟨hTB b hb, by rw [hfp]; simp, by rw [hio]; intro h; cases h⟩)
 rw [argVs_none (by rw [hio]; rfl), g1, Array.toArray_toList] at hrun
 unfold Does at hrun
 rw [callFunc_run hE hN hfn hc] at hrun
 refine Calls.mono hrun fun e W' hp => ?_
 obtain ⟨v, rfl, KS', os, is, q1, q2, ⟨q3, q4⟩, q5, q6, q7, q8, q9, q10, _, _⟩ := hp
 have his : is = [] := by rw [hio] at q4; exact List.eq_nil_of_length_eq_zero q4
 subst his
 rw [List.append_nil] at q3
 have hall : ∀ b, b < W.heap.size → Same W W' b := fun b hb => q10 b hb (by rw [hfp]; simp) (by rw [hio]; intro h; cases h)
 have hd : os.map SG.d = [⟨.bool, true⟩] := q3.trans hz
 have hv : v = .bool true := by
  rw [q2]
  obtain ⟨y, hy⟩ : ∃ y, os = [y] := by
   match os, hd with
   | [y], _ => exact ⟨y, rfl⟩
   | [], h => cases h
   | _ :: _ :: _, h => simp at h
  subst hy
  simp only [List.map_cons, List.map_nil, List.cons.injEq, and_true] at hd
  obtain ⟨yt, yg⟩ := y
  simp only [SG.d] at hd
  injection hd with h1 h2
  subst h1
  have h2 : yg = true := eq_of_heq h2
  subst h2
  rfl
 refine ⟨by rw [hv], ?_, kept_of q9 hall⟩
 have hlt := DataW.TrodAll.lt hA
 -- below the old heap nothing has changed
 have hB : RowKit.Below W.heap.size W { W' with tape := W.tape, os := W.os, output := W.output } := ⟨rfl, rfl, rfl, q9.size, fun k hk => (hall k hk).heap⟩
 have key : ∀ {tids : List TypeId} {ts : List Ty} {vs : List Value} {ds : List (DataW H)} {ps : List MemPlace}, DataW.TrodAll enc P W 0 (fun _ => true) true tids vs ds ps → tysR P tids ts → (∀ x ∈ ps, x.block < W.heap.size) →
   DataW.TrodAll enc P W' 0 (fun b => decide (b < W.heap.size)) true tids vs ds ps := by
  intro tids
  induction tids with
  | nil => intro ts vs ds ps h _ _; cases vs <;> cases ds <;> first | exact h | exact h.elim
  | cons a tids ih =>
   intro ts vs ds ps h hT hlt
   match ts, vs, ds, hT, h with
   | t :: ts, v :: vs, d :: ds, hT, h =>
    obtain ⟨p1, q1, h1, h2, rfl⟩ := h
    obtain ⟨k1, k2, k3, k4, k5, k6⟩ := hT
    have h3 := RowKit.Below.trod hl k4 k5 h1 hB fun x hx => hlt x (by simp [hx])
    exact ⟨p1, q1, DataW.Trod.of_heap (show ({ W' with tape := W.tape, os := W.os, output := W.output } : World).heap = W'.heap from rfl) h3, ih h2 k6 fun x hx => hlt x (by simp [hx]), rfl⟩
 exact key hA hT hlt
theorem trod_len {H : Type} {enc : TypeId × Value → H} {P : Program} {w : World} {base : Nat} {sp : Nat → Bool} {held : Bool} : ∀ {ts : List TypeId} {vs : List Value} {ds : List (DataW H)} {ps : List MemPlace}, DataW.TrodAll enc P w base sp held ts vs ds ps → ds.length = ts.length
 | [], [], [], _, _ => rfl
 | _ :: _, _ :: _, _ :: _, _, ⟨_, _, _, h, _⟩ => by simp only [List.length_cons]; rw [trod_len h]
 | [], _ :: _, _, _, h => h.elim
 | [], [], _ :: _, _, h => h.elim
 | _ :: _, [], _, _, h => h.elim
 | _ :: _, _ :: _, [], _, h => h.elim
end
section
def KeptM (w w' : World) : Prop := Grew w w' ∧ ∀ b, b < w.heap.size → w'.heap[b]? = w.heap[b]?
theorem KeptM.below {w w' : World} (h : RowKit.Below w.heap.size w w') : KeptM w w' := ⟨⟨h.size, h.os, h.output⟩, h.block⟩
def tabs0 : Tabs := ⟨fun _ => True, fun _ => False, fun _ _ _ _ => trivial⟩
theorem fnOK_ext {P : Program} {τ : Tabs} {f : Nat} {fn : Func} {c : Code} {s : Sig} {G : s.inT.D → Option s.outT.D} (hf : P.funcs[f]? = some fn) (hn : (fn.name == "runtime.NumGoroutine") = false) (hc : fn.body = some c) (hio : s.io = none)
  (h : ∀ {w : World} {KS : Nat → Prop} {gs : List SG} {x : s.inT.D} {z : s.outT.D}, unD s.inTs x = gs.map SG.d → G x = some z → (∀ y ∈ gs, okG w KS y.t y.g) → (∀ b, KS b → b < w.heap.size) → τ.T w →
   ∃ y : SG, unD s.outTs z = [y.d] ∧ y.fp = [] ∧ (∀ w KS, okG w KS y.t y.g) ∧ Calls P f (gs.map SG.v).toArray w fun e w' => e = .returned y.v ∧ KeptM w w') : FnOK P τ f s G := by
 intro w KS gs A x z _ hx hz hok hnd hfp hKS _ hT _
 obtain ⟨y, h1, h2, h3, h4⟩ := h hx hz hok hKS hT
 rw [argVs_none (by rw [hio]; rfl)]
 have hrun : (callFunc f (gs.map SG.v).toArray).run P w = .ok (.enter f (gs.map SG.v).toArray) w := by
  unfold callFunc
  rw [Sem.run_bind]
  have h1 : (program : Sem Program).run P w = .ok P w := rfl
  rw [h1]
  simp only [Result.andThen_ok, hf, hn, hc, Option.isNone_some, Bool.false_eq_true, if_false, Sem.run_pure]
 unfold Does
 rw [hrun]
 refine Calls.mono h4 fun e w' hp => ?_
 obtain ⟨rfl, hb⟩ := hp
 refine ⟨y.v, rfl, KS, [y], [], fun b hb => hb, rfl, ⟨by rw [h1]; rfl, by rw [hio]; rfl⟩, ?_, ?_, ?_, fun b hb => .inl hb, hb.1, ?_, ?_, ?_⟩
 ·intro u hu
  simp only [List.append_nil, List.mem_singleton] at hu
  subst hu; exact h3 w' KS
 ·simp [h2]
 ·simp [h2]
 ·intro b hlt _ _
  exact .of (hb.2 b hlt)
 ·intro hh; rw [hio] at hh; cases hh
 ·intro _ u hu; cases hu
theorem sg_of {y : SG} {t : Ty} {x : t.D} (h : (⟨t, x⟩ : Dyn) = y.d) : ∃ g : t.G, y = ⟨t, g⟩ ∧ er t g = x := by
 obtain ⟨t', g⟩ := y
 simp only [SG.d] at h
 injection h with h1 h2
 subst h1
 exact ⟨g, rfl, (eq_of_heq h2).symm⟩
theorem two_of {gs : List SG} {a b : Dyn} (h : [a, b] = gs.map SG.d) : ∃ y z : SG, gs = [y, z] ∧ a = y.d ∧ b = z.d := by
 match gs, h with
 | [y, z], h => simp only [List.map_cons, List.map_nil, List.cons.injEq, and_true] at h; exact ⟨y, z, rfl, h.1, h.2⟩
 | [], h => cases h
 | [_], h => simp at h
 | _ :: _ :: _ :: _, h => simp at h
def ext_strings_ContainsAny (x : ByteArray × ByteArray) : Option Bool :=
 if x.1.size < 4294967281 ∧ x.2.size < 4294967281 ∧ x.2.data.toList.all (fun b => decide (b.toNat < 128)) = true then some (Lib.containsAny x.1.data.toList x.2.data.toList) else none
def ext_strings_Repeat (x : ByteArray × Int) : Option ByteArray :=
 if 0 ≤ x.2 ∧ x.2 ≤ 9223372036854775807 ∧ x.1.size * x.2.toNat ≤ 140737488355328 then some ⟨(Lib.repeatL x.1.data.toList x.2.toNat).toArray⟩ else none
theorem fnOK_Repeat {P : Program} {τ : Tabs} {f : Nat} {fn : Func} {c : Code} (hf : P.funcs[f]? = some fn) (hn : (fn.name == "runtime.NumGoroutine") = false) (hc : fn.body = some c)
  (h : ∀ (s : ByteArray) (c : Nat) (w : World), c ≤ 9223372036854775807 → s.size * c ≤ 140737488355328 → Calls P f #[.string s, .int .i64 c] w fun e w' => e = .returned (.string ⟨(Lib.repeatL s.data.toList c).toArray⟩) ∧ RowKit.Below w.heap.size w w') :
  FnOK P τ f ⟨[.val .str, .val (.int .i64)], [.str], none⟩ ext_strings_Repeat := by
 refine fnOK_ext hf hn hc rfl fun {w KS gs x z} hx hz _ _ _ => ?_
 obtain ⟨y1, y2, rfl, h1, h2⟩ := two_of hx
 obtain ⟨g1, rfl, e1⟩ := sg_of h1
 obtain ⟨g2, rfl, e2⟩ := sg_of h2
 have hz' : ext_strings_Repeat x = some z := hz
 unfold ext_strings_Repeat at hz'
 split at hz'
 ·rename_i hq
  injection hz' with hz'
  subst hz'
  refine ⟨⟨.str, _⟩, rfl, rfl, fun _ _ => trivial, ?_⟩
  have e2' : (g2 : Int) = x.2 := e2
  have e1' : (g1 : ByteArray) = x.1 := e1
  have hn : (g2 : Int) = ((x.2.toNat : Nat) : Int) := e2'.trans (Int.toNat_of_nonneg hq.1).symm
  show Calls P f #[.string g1, .int .i64 g2] w _
  have hq1 := hq.2.1
  have hq0 := hq.1
  rw [hn, e1']
  refine Calls.mono (h x.1 x.2.toNat w (by have := hq.2.1; omega) hq.2.2) fun e w' hp => ⟨?_, KeptM.below hp.2⟩
  rw [hp.1]; rfl
 ·cases hz'
end
section
section
variable {D R : Type}
end
theorem bget (s : ByteArray) (i : Nat) : s[i]? = s.data.toList[i]? := by
 by_cases h : i < s.size
 ·rw [getElem?_pos s i h, ByteArray.getElem_eq_getElem_data]
  rw [Array.getElem?_toList]
  exact (Array.getElem?_eq_getElem _).symm
 ·rw [getElem?_neg s i h, Array.getElem?_toList]
  exact (Array.getElem?_eq_none (by rw [ByteArray.size_data]; omega)).symm
theorem blen (s : ByteArray) : s.data.toList.length = s.size := by rw [Array.length_toList, ByteArray.size_data]
theorem bext {a b : ByteArray} (h : a.data.toList = b.data.toList) : a = b := ByteArray.ext (Array.toList_inj.1 h)
theorem ofBytes_list (l : List Int) : (ofBytes l).data.toList = l.map fun n => UInt8.ofNat n.toNat := rfl
theorem ofBytes_size (l : List Int) : (ofBytes l).size = l.length := by rw [← blen, ofBytes_list, List.length_map]
theorem i64_nonneg (k : Nat) (h : k < 9223372036854775808) : IntKind.i64.wrap (k : Int) = k := wrap_i64 (by omega) (by omega)
theorem ofInt_nat (n : Nat) (h : n < 18446744073709551616) : (BitVec.ofInt 64 (n : Int)).toNat = n := by
 rw [BitVec.toNat_ofInt]
 have : (n : Int) % ((2 ^ 64 : Nat) : Int) = n := Int.emod_eq_of_lt (by omega) (by omega)
 rw [this, Int.toNat_natCast]
theorem or_256 (v b : Nat) (hv : v < 1099511627776) (hb : b < 256) : intBits .or .i64 ((v * 256 : Nat) : Int) (b : Int) = ((v * 256 + b : Nat) : Int) := by
 have h1 : intBits .or .i64 ((v * 256 : Nat) : Int) (b : Int) = IntKind.i64.wrap ((BitVec.ofInt 64 ((v * 256 : Nat) : Int) ||| BitVec.ofInt 64 (b : Int)).toNat : Nat) := rfl
 rw [h1, BitVec.toNat_or, ofInt_nat _ (by omega), ofInt_nat _ (by omega)]
 have h2 := Nat.two_pow_add_eq_or_of_lt (i := 8) (b := b) (by omega) v
 rw [show v * 256 = 2 ^ 8 * v by omega, ← h2, i64_nonneg _ (by omega)]
section
variable {α β D : Type}
def markG (e : α → Int → α × Int) : List α → Int → List α × Int
 | [], m => ([], m)
 | x :: l, m => ((e x m).1 :: (markG e l (e x m).2).1, (markG e l (e x m).2).2)
theorem markG_bound {e : α → Int → α × Int} {c : α → Nat} {B : Int} : ∀ {l : List α} {m : Int}, 0 ≤ m → m + ((l.map c).sum : Nat) < B → (∀ x ∈ l, ∀ m, 0 ≤ m → m + (c x : Int) < B → m ≤ (e x m).2 ∧ (e x m).2 ≤ m + c x) →
  m ≤ (markG e l m).2 ∧ (markG e l m).2 ≤ m + ((l.map c).sum : Nat)
 | [], m, _, _, _ => ⟨Int.le_refl _, by simp [markG]⟩
 | x :: l, m, h0, hb, he => by
  simp only [List.map_cons, List.sum_cons] at hb ⊢
  obtain ⟨h1, h2⟩ := he x (by simp) m h0 (by omega)
  obtain ⟨h3, h4⟩ := @markG_bound e c B l (e x m).2 (by omega) (by omega) fun y hy => he y (by simp [hy])
  simp only [markG]
  omega
theorem markG_ev {L : Nat → ((Unit × (Int × (Int × List α))) → Option β) → (Unit × (Int × (Int × List α))) → Option β} (e : α → Int → α × Int) (c : α → Nat) (B : Int) (l0 : List α) (m0 : Int) (fin : Int → List α → β)
  (h0 : 0 ≤ m0) (hb : m0 + ((l0.map c).sum : Nat) < B) (he : ∀ x ∈ l0, ∀ m, 0 ≤ m → m + (c x : Int) < B → m ≤ (e x m).2 ∧ (e x m).2 ≤ m + c x)
  (hs : ∀ (pre : List α) x (post : List α) (m : Int), x ∈ l0 → 0 ≤ m → m + (c x : Int) < B → pre.length + (post.length + 1) = l0.length → EvS L ((), m, (pre.length : Int), pre ++ x :: post) ((), (e x m).2, ((pre.length + 1 : Nat) : Int), pre ++ (e x m).1 :: post))
  (hf : ∀ (m : Int) (l : List α), l.length = l0.length → EvL L ((), m, (l0.length : Int), l) (fin m l)) : EvL L ((), m0, (0 : Int), l0) (fin (markG e l0 m0).2 (markG e l0 m0).1) := by
 have key : ∀ (post pre : List α) (m : Int), pre.length + post.length = l0.length → (∀ x ∈ post, x ∈ l0) → 0 ≤ m → m + ((post.map c).sum : Nat) < B →
   EvL L ((), m, (pre.length : Int), pre ++ post) (fin (markG e post m).2 (pre ++ (markG e post m).1)) := by
  intro post
  induction post with
  | nil =>
   intro pre m hl _ _ _
   simp only [List.length_nil, Nat.add_zero] at hl
   rw [hl]
   exact hf m (pre ++ []) (by simpa using hl)
  | cons x post ih =>
   intro pre m hl hx hm hB
   simp only [List.length_cons] at hl
   simp only [List.map_cons, List.sum_cons] at hB
   obtain ⟨h1, h2⟩ := he x (hx x (by simp)) m hm (by omega)
   refine EvL.step (hs pre x post m (hx x (by simp)) hm (by omega) hl) ?_
   have := ih (pre ++ [(e x m).1]) (e x m).2 (by simp; omega) (fun y hy => hx y (by simp [hy])) (by omega) (by omega)
   simp only [List.length_append, List.length_singleton, List.append_assoc, List.singleton_append] at this
   exact this
 have := key l0 [] m0 (by simp) (fun x hx => hx) h0 hb
 simpa using this
end
end
section
section
variable {S D R α σ β T : Type}
def EvX (F : Nat → S → Option R) (G : (S → Option R) → Prop) : Prop := ∃ o, EvQ F o ∧ G o
theorem EvX.const (o : S → Option R) {G : (S → Option R) → Prop} (h : G o) : EvX (fun _ => o) G := ⟨o, EvQ.const o, h⟩
theorem EvX.congr {F F' : Nat → S → Option R} {G : (S → Option R) → Prop} (h : ∀ k s, F k s = F' k s) (hF : EvX F' G) : EvX F G := by
 obtain ⟨o, h1, h2⟩ := hF
 exact ⟨o, EvQ.congr (fun k => funext (h k)) h1, h2⟩
theorem EvX.bif {c : Bool} {F H : Nat → S → Option R} {G : (S → Option R) → Prop} (h1 : c = true → EvX F G) (h2 : c = false → EvX H G) : EvX (fun k s => bif c then F k s else H k s) G := by
 cases c
 ·exact h2 rfl
 ·exact h1 rfl
theorem EvX.ifp {p : Prop} [Decidable p] {F : Nat → S → Option R} {G : (S → Option R) → Prop} (hp : p) (h : EvX F G) : EvX (fun k s => if p then F k s else none) G := by
 simp only [if_pos hp]; exact h
theorem EvX.bind {f : Nat → Option α} {a : α} {g : Nat → S → α → Option R} {G : (S → Option R) → Prop} (h : Ev f a) (hg : EvX (fun k s => g k s a) G) : EvX (fun k s => (f k).bind (g k s)) G := by
 obtain ⟨o, ⟨M, hg⟩, hG⟩ := hg
 obtain ⟨N, h⟩ := h
 refine ⟨o, ⟨N + M, fun k hk => ?_⟩, hG⟩
 have := hg k (by omega)
 simp only [h k (by omega), Option.bind_some]
 exact this
def Say (f : Nat → Option Bool) (P : Prop) : Prop := ∃ b, Ev f b ∧ (b = true ↔ P)
theorem Say.run {c F : Nat → Option Bool} {P : Prop} (h : ∀ k, c (k + 1) = F k) (hF : Say F P) : Say c P := by
 obtain ⟨b, h1, h2⟩ := hF
 exact ⟨b, EvQ.run h h1, h2⟩
theorem Say.same {f g : Nat → Option Bool} {P : Prop} (h : Say f P) (h' : Say g P) : ∃ b, Ev f b ∧ Ev g b ∧ (b = true ↔ P) := by
 obtain ⟨b, h1, h2⟩ := h
 obtain ⟨b', h1', h2'⟩ := h'
 have : b' = b := by
  cases b <;> cases b' <;> simp_all
 subst this
 exact ⟨_, h1, h1', h2⟩
theorem EvX.say {f : Nat → Option Bool} {Q : Prop} {g : Nat → S → Bool → Option R} {G : (S → Option R) → Prop} (h : Say f Q) (hg : ∀ b, (b = true ↔ Q) → EvX (fun k s => g k s b) G) : EvX (fun k s => (f k).bind (g k s)) G := by
 obtain ⟨b, h1, h2⟩ := h
 exact EvX.bind h1 (hg b h2)
def GP (P : Prop) (o : S → Option Bool) : Prop := ∃ b : Bool, (∀ s, o s = some b) ∧ (b = true ↔ P)
theorem GP.ret {P : Prop} {b : Bool} (h : b = true ↔ P) : GP P (fun _ : S => some b) := ⟨b, fun _ => rfl, h⟩
theorem GP.no {P : Prop} (h : ¬ P) : GP P (fun _ : S => some false) := GP.ret (by simp [h])
theorem GP.yes {P : Prop} (h : P) : GP P (fun _ : S => some true) := GP.ret ⟨fun _ => h, fun _ => rfl⟩
theorem Say.of {f : Nat → Option Bool} {P : Prop} (h : EvX (fun k (_ : Unit) => f k) (GP P)) : Say f P := by
 obtain ⟨o, ⟨N, h1⟩, b, h2, h3⟩ := h
 exact ⟨b, ⟨N, fun k hk => by have := congrFun (h1 k hk) (); rw [h2] at this; exact this⟩, h3⟩
def GR (Q : R → Prop) (o : S → Option R) : Prop := ∃ r, (∀ s, o s = some r) ∧ Q r
theorem GR.ret {Q : R → Prop} {r : R} (h : Q r) : GR Q (fun _ : S => some r) := ⟨r, fun _ => rfl, h⟩
theorem Ev.of {f : Nat → Option R} {Q : R → Prop} (h : EvX (fun k (_ : Unit) => f k) (GR Q)) : ∃ r, Ev f r ∧ Q r := by
 obtain ⟨o, ⟨N, h1⟩, r, h2, h3⟩ := h
 exact ⟨r, ⟨N, fun k hk => by have := congrFun (h1 k hk) (); rw [h2] at this; exact this⟩, h3⟩
theorem Ev.eq {f : Nat → Option R} {r : R} (h : EvX (fun k (_ : Unit) => f k) (GR fun x => x = r)) : Ev f r := by
 obtain ⟨x, h1, rfl⟩ := Ev.of h
 exact h1
theorem EvX.ofEv {f : Nat → Option R} {r : R} {G : (S → Option R) → Prop} (h : Ev f r) (hG : G fun _ => some r) : EvX (fun k (_ : S) => f k) G := by
 obtain ⟨N, h⟩ := h
 exact ⟨fun _ => some r, ⟨N, fun k hk => funext fun _ => h k hk⟩, hG⟩
theorem EvX.join {X : Nat → S → Option (T ⊕ R)} {g : Nat → S → T → Option R} {G : (S → Option R) → Prop}
  (h : EvX X fun o => (∃ t, (∀ s, o s = some (.inl t)) ∧ EvX (fun k s => g k s t) G) ∨ ∃ b, (∀ s, o s = some (.inr b)) ∧ G fun _ => some b) : EvX (fun k s => joinK (X k s) (g k s)) G := by
 obtain ⟨o, ⟨N, h1⟩, h2⟩ := h
 rcases h2 with ⟨t, h2, o', ⟨M, h3⟩, h4⟩ | ⟨b, h2, h3⟩
 ·refine ⟨o', ⟨N + M, fun k hk => funext fun s => ?_⟩, h4⟩
  have e1 := congrFun (h1 k (by omega)) s
  have e2 := congrFun (h3 k (by omega)) s
  simp only [joinK, e1, h2]; exact e2
 ·refine ⟨fun _ => some b, ⟨N, fun k hk => funext fun s => ?_⟩, h3⟩
  have e1 := congrFun (h1 k (by omega)) s
  simp only [joinK, e1, h2]
def GT (t : T) (Q : Prop) (G : (S → Option R) → Prop) (o : S → Option (T ⊕ R)) : Prop := ((∀ s, o s = some (.inl t)) ∧ Q) ∨ ∃ b, (∀ s, o s = some (.inr b)) ∧ G fun _ => some b
theorem EvX.joinT {X : Nat → S → Option (T ⊕ R)} {g : Nat → S → T → Option R} {G : (S → Option R) → Prop} (t : T) (Q : Prop)
  (h : EvX X (GT t Q G)) (hg : Q → EvX (fun k s => g k s t) G) : EvX (fun k s => joinK (X k s) (g k s)) G := by
 refine EvX.join ?_
 obtain ⟨o, h1, h2⟩ := h
 refine ⟨o, h1, h2.imp (fun h => ⟨t, h.1, hg h.2⟩) id⟩
theorem GT.inl {G : (S → Option R) → Prop} {t : T} {Q : Prop} (h : Q) : GT t Q G (fun _ => some (.inl t)) := Or.inl ⟨fun _ => rfl, h⟩
theorem GT.inr {G : (S → Option R) → Prop} {t : T} {Q : Prop} {b : R} (h : G fun _ => some b) : GT t Q G (fun _ => some (.inr b)) := Or.inr ⟨b, fun _ => rfl, h⟩
def GL (mk : σ → Nat → D) (inv : σ → Nat → Prop) (i : Nat) (G : (S → Option R) → Prop) (o : (S × (D → Option R)) → Option R) : Prop :=
 (∃ st, (∀ p, o p = p.2 (mk st (i + 1))) ∧ inv st (i + 1)) ∨ ∃ o', (∀ p, o p = o' p.1) ∧ G o'
theorem GL.self {mk : σ → Nat → D} {inv : σ → Nat → Prop} {i : Nat} {G : (S → Option R) → Prop} {d : D} (st : σ) (hd : d = mk st (i + 1)) (h : inv st (i + 1)) : GL mk inv i G (fun p => p.2 d) := by
 subst hd; exact .inl ⟨st, fun _ => rfl, h⟩
theorem GL.ret {mk : σ → Nat → D} {inv : σ → Nat → Prop} {i : Nat} {G : (S → Option R) → Prop} {b : R} (h : G fun _ => some b) : GL mk inv i G (fun _ => some b) := .inr ⟨fun _ => some b, fun _ => rfl, h⟩
def GE (G : (S → Option R) → Prop) (o : (S × (D → Option R)) → Option R) : Prop := ∃ o', (∀ p, o p = o' p.1) ∧ G o'
theorem GE.up {G : (S → Option R) → Prop} (o' : S → Option R) (h : G o') : GE (D := D) G (fun p => o' p.1) := ⟨o', fun _ => rfl, h⟩
theorem GE.ret {G : (S → Option R) → Prop} {b : R} (h : G fun _ => some b) : GE (D := D) G (fun _ => some b) := ⟨fun _ => some b, fun _ => rfl, h⟩
theorem EvX.out {F : Nat → S → Option R} {G : (S → Option R) → Prop} (h : EvX F G) : EvX (fun k (p : S × (D → Option R)) => F k p.1) (GE G) := by
 obtain ⟨o, ⟨N, h1⟩, h2⟩ := h
 exact ⟨fun p => o p.1, ⟨N, fun k hk => funext fun p => congrFun (h1 k hk) p.1⟩, o, fun _ => rfl, h2⟩
theorem EvX.upto {L : Nat → S → (D → Option R) → D → Option R} (n : Nat) (mk : σ → Nat → D) (inv : σ → Nat → Prop) {G : (S → Option R) → Prop}
  (hs : ∀ st i, i < n → inv st i → EvX (fun k (p : S × (D → Option R)) => L k p.1 p.2 (mk st i)) (GL mk inv i G))
  (he : ∀ st, inv st n → EvX (fun k (p : S × (D → Option R)) => L k p.1 p.2 (mk st n)) (GE G)) (s0 : σ) (i0 : Nat) (hi : i0 ≤ n) (h0 : inv s0 i0) :
  EvX (fun k s => iter k (L k s) (mk s0 i0)) G := by
 have key : ∀ m i st, i + m = n → inv st i → ∃ o, (∃ N, ∀ r k, N ≤ r → N ≤ k → ∀ s, iter r (L k s) (mk st i) = o s) ∧ G o := by
  intro m
  induction m with
  | zero =>
   intro i st hi hv
   have : i = n := by omega
   subst this
   obtain ⟨o, ⟨N, h1⟩, o', h2, h3⟩ := he st hv
   refine ⟨o', ⟨N + 1, fun r k hr hk s => ?_⟩, h3⟩
   obtain ⟨m, rfl⟩ : ∃ m, r = m + 1 := ⟨r - 1, by omega⟩
   have : L k s (iter m (L k s)) (mk st i) = o (s, iter m (L k s)) := congrFun (h1 k (by omega)) (s, iter m (L k s))
   simp only [iter]
   rw [this, h2]
  | succ m ih =>
   intro i st hi hv
   obtain ⟨o, ⟨N, h1⟩, h2⟩ := hs st i (by omega) hv
   rcases h2 with ⟨st', h2, h3⟩ | ⟨o', h2, h3⟩
   ·obtain ⟨o', ⟨M, h4⟩, h5⟩ := ih (i + 1) st' (by omega) h3
    refine ⟨o', ⟨N + M + 1, fun r k hr hk s => ?_⟩, h5⟩
    obtain ⟨m, rfl⟩ : ∃ m, r = m + 1 := ⟨r - 1, by omega⟩
    have : L k s (iter m (L k s)) (mk st i) = o (s, iter m (L k s)) := congrFun (h1 k (by omega)) (s, iter m (L k s))
    simp only [iter]
    rw [this, h2]
    exact h4 m k (by omega) (by omega) s
   ·refine ⟨o', ⟨N + 1, fun r k hr hk s => ?_⟩, h3⟩
    obtain ⟨m, rfl⟩ : ∃ m, r = m + 1 := ⟨r - 1, by omega⟩
    have : L k s (iter m (L k s)) (mk st i) = o (s, iter m (L k s)) := congrFun (h1 k (by omega)) (s, iter m (L k s))
    simp only [iter]
    rw [this, h2]
 obtain ⟨o, ⟨N, h1⟩, h2⟩ := key (n - i0) i0 s0 (by omega) h0
 exact ⟨o, ⟨N, fun k hk => funext fun s => h1 k k hk hk s⟩, h2⟩
theorem EvX.list {L : Nat → S → (D → Option R) → D → Option R} (l : List α) (mk : σ → Nat → D) (inv : σ → Nat → Prop) {G : (S → Option R) → Prop}
  (hs : ∀ st i x, l[i]? = some x → i < l.length → inv st i → EvX (fun k (p : S × (D → Option R)) => L k p.1 p.2 (mk st i)) (GL mk inv i G))
  (he : ∀ st, inv st l.length → EvX (fun k (p : S × (D → Option R)) => L k p.1 p.2 (mk st l.length)) (GE G)) (s0 : σ) (h0 : inv s0 0) :
  EvX (fun k s => iter k (L k s) (mk s0 0)) G :=
 EvX.upto l.length mk inv (fun st i hi hv => hs st i l[i] (List.getElem?_eq_getElem hi) hi hv) he s0 0 (Nat.zero_le _) h0
end
end
end Go.Eng
